import PyProof.Rows.All
import Wide.All
import OpenK.KCell
import OpenK.KTop
import Open.Line
import Open.Boot
import PyProof.ExcAttrAll.Exception
import KE.KBytesWalk
import KE.KRevSl
import KE.KBytesCut
import KE.KxBytes
import KE.BytesMake
import KE.BitLaws
import KE.KSortedM
import KE.KDictSum
import KE.KEqDict
import KE.KSortTup
import PyProof.InstStoreFacts
import PyProof.ExcBaseAll.Exception
import Lean
import PySem.Challenge.RW_nt0034_01
set_option maxRecDepth 100000
set_option maxHeartbeats 2000000
set_option Elab.async false
set_option pp.deepTerms false
set_option pp.deepTerms.threshold 4
set_option genSizeOf false
set_option genInjectivity false
set_option tactic.hygienic false
set_option bootstrap.genMatcherCode false
set_option linter.all false
set_option autoImplicit true
open Nat renaming le_trans -> cV2, lt_of_le_of_lt -> cV9, succ_le_succ -> cW3, le_refl -> cX5, lt_of_lt_of_le -> cX7, le_of_lt -> cY0, mul_le_mul_right -> cY3, ne_of_lt -> cY4, add_le_add_right -> cY7, zero_le -> cZ2, mul_le_mul_left -> cZ3, add_le_add -> cZ5, le_succ_of_le -> cZ6, lt_trans -> cZ9, add_le_add_left -> da0, le_of_lt_succ -> da5, zero_add -> db2, lt_succ_self -> db4, le_succ -> db7, lt_of_succ_lt -> db9, le_add_right -> dc4, add_comm -> dd0, le_add_left -> dd6, le_of_ble_eq_true -> dd9, le_of_not_lt -> de3, min_le_right -> de4, lt_irrefl -> de6, add_assoc -> de7, le_of_eq -> de8, lt_succ_of_lt -> df3, not_lt -> dg4, le_antisymm -> dg6, lt_of_le_of_ne -> dh7, succ_mul -> di8, div_eq_of_lt -> di9, not_lt_zero -> dk2, min_le_left -> dk4, add_right_comm -> dk9, succ_pos -> dl3, succ_lt_succ -> dm4, sub_le -> dn7
open List renaming length_map -> cV3, length_append -> cV4, map_append -> cV5, mem_map -> cV6, mem_singleton -> cV8, map_map -> cW0, mem_cons -> cW1, append_assoc -> cW2, mem_map_of_mem -> cW4, mem_append_right -> cW5, append_nil -> cW6, mem_of_getElem? -> cW7, getElem?_eq_getElem -> cW8, mem_append -> cW9, all_eq_true -> cX0, forall_mem_cons -> cX1, mem_append_left -> cX2, map_cons -> cX3, getElem?_eq_some_iff -> cX4, getElem?_map -> cX9, take_length -> cY5, not_mem_nil -> cY8, nodup_cons -> cY9, length_reverse -> cZ0, map_congr_left -> cZ1, filterMap_append -> cZ4, filterMap_cons -> cZ7, eq_nil_of_length_eq_zero -> cZ8, nil_append -> da1, nodup_append -> da2, pairwise_map -> da3, cons_append -> da6, length_take_le' -> da9, length_cons -> db1, map_eq_nil_iff -> db3, mem_of_mem_take -> db5, mem_of_mem_drop -> db6, contains_iff_mem -> dc0, all_cons -> dc1, size_toArray -> dc3, contains_cons -> dc6, length -> dc7, mem_flatMap -> dc8, map_nil -> dc9, length_range -> dd2, length_filterMap_le -> dd3, drop_length -> dd7, take_of_length_le -> dd8, reverse_cons -> de0, map_id -> de1, getElem?_append_right -> de2, flatMap_append -> de5, dropWhile_suffix -> de9, length_singleton -> df0, mem_filter -> df1, getElem?_eq_none -> df2, lookup_cons -> df4, pairwise_append -> df6, flatten_cons -> df7, filter_cons_of_pos -> df8, filter_cons_of_neg -> df9, getLast?_eq_some_getLast -> dg0, toList_toArray -> dg1, length_take -> dg8, filterMap_nil -> dh0, dropWhile_cons_of_neg -> dh1, foldl_cons -> dh3, range -> dh4, length_nil -> dh5, filterMap_cons_some -> dh6, length_drop -> dh9, mem_reverse -> di0, forall_mem_append -> di4, map_eq_append_iff -> di5, find?_cons -> di6, length_filter_le -> dj0, flatMap_cons -> dj1, singleton_append -> dj2, take_append_drop -> dj3, filterMap_eq_map -> dj4, takeWhile_append_of_pos -> dj5, reverse_reverse -> dj7, any_eq_true -> dj9, isEmpty_iff -> dk0, zipIdx_cons -> dk1, getElem_mem -> dk3, cons_ne_nil -> dk5, isPrefixOf_iff_prefix -> dk6, reverse_append -> dk7, getD_eq_getElem?_getD -> dk8, drop_eq_getElem_cons -> dl0, any_cons -> dl1, Pairwise -> dl4, zipIdx_eq_zip_range' -> dl5, filterMap_eq_nil_iff -> dl6, head?_cons -> dl7, mem_filterMap -> dl8, findIdx?_cons -> dl9, filter_append -> dm0, pairwise_cons -> dm2, filterMap_cons_none -> dm3, take_add_one -> dm6, any_eq_false -> dm7, take_zero -> dm8, range'_succ -> dn0, sum_cons -> dn1, map_take -> dn4, map_drop -> dn5, of_mem_zip -> do0, all_nil -> do1, drop_zero -> do2, range' -> do3, map -> do4
open Bool renaming false_ne_true -> cV7, and_eq_true_iff -> cX6, and_eq_true -> cY6, not_eq_true' -> da4, noConfusion -> dc2, false_eq_true -> dg9, or_eq_true -> dh2, or_eq_false_iff -> dj8, eq_iff_iff -> dl2, not_eq_false' -> dm1
open Int renaming natCast_nonneg -> cX8, ofNat_lt -> cY1, ofNat_le -> da7, eq_ofNat_of_zero_le -> da8, toNat_natCast -> db8, fmod_nonneg_of_pos -> dd4, le_trans -> dd5, fmod_lt_of_pos -> dg2, lt_of_le_of_lt -> dg3, not_lt -> dg5, fdiv_eq_ediv_of_nonneg -> dg7, lt_of_lt_of_le -> dh8, sub_zero -> dn2, lt_trans -> dn3
open Option renaming map_eq_some_iff -> cY2, bind_some -> dc5, bind_eq_some_iff -> dd1, isNone_iff_eq_none -> di1, isSome_iff_exists -> di3, map_eq_none_iff -> dn6
open Array renaming length_toList -> db0, getElem?_eq_getElem -> df5, toList_append -> di2, foldl_toList -> di7, getElem?_toList -> dj6, toList -> dm5, toList_push -> dm9, toList_inj -> dn8, any_toList -> dn9
namespace Mine
open PySem PySem.W PyProof.Rows PySem.Calls PySem.Builtin
noncomputable section
set_option hygiene false in
local macro_rules
 | `(tactic| obtain $p:rcasesPatMed:=$e:term)=>`(tactic| (apply Classical.byContradiction;intro k_;rcases $e:term with $p:rcasesPatMed;all_goals (apply k_;clear k_)))
section
structure GC where
 prog:Program
 w:World
 base:Heap
 os:OsState
 mg:Str->Option Value
 mb:Str->Option Value
 ch:Addr->Prop
inductive V where
 | none | bool (b:Bool) | int (i:Int) | str (s:Str) | bytes (b:List UInt8)
 | tup (xs:List V) | lst (xs:List V) | dct (es:List (Str×V))
 | ref (a:Addr) | val (v:Value)
noncomputable def ce5:Stmt->Arguments×List Stmt×Scope
 | .FunctionDef _ a b _ _ _ sc _ _ _=>(a,b,sc)
 | .ClassDef _ _ _ b _ _ _ _ _ _ _=>(default,b,default)
 | _=>default
noncomputable def ai7 (s:Stmt):Arguments:=(ce5 s).1
noncomputable def T0 (s:Stmt):List Stmt:=(ce5 s).2.1
noncomputable def A8 (s:Stmt):Scope:=(ce5 s).2.2
noncomputable def G8 (s:Stmt):List Str:=(ai7 s).args.map (·.arg)
noncomputable def nth:List Stmt->Nat->Stmt
 | [],_=>.Pass ⟨0,0,0,0⟩
 | x::_,0=>x
 | _::r,n+1=>nth r n
noncomputable def st (i:Nat):Stmt:=nth PySem.Challenge.pw_nt0034_01.main.body i
noncomputable def mt (i j:Nat):Stmt:=nth (T0 (st i)) j
noncomputable def bs9:Int:=Classical.choose (p:=λn:Int=>n=1114111) ⟨1114111,rfl⟩
theorem aB8:bs9=1114111:=Classical.choose_spec (p:=λn:Int=>n=1114111) ⟨1114111,rfl⟩
noncomputable def cp4 (m:Int) (fa:Nat->Addr):List (Str×V):=[
 (("MAX_CODE":Str),V.int m),
 (("HEX_DIGITS":Str),V.bytes [48,49,50,51,52,53,54,55,56,57,65,66,67,68,69,70]),
 (("LEAST_HEX":Str),V.int 4),
 (("MOST_HEX":Str),V.int 6),
 (("BadCode":Str),V.val (.ref (fa 7))),
 (("BadRow":Str),V.val (.ref (fa 8))),
 (("codes_of":Str),V.val (.ref (fa 9))),
 (("octets_of_ascii":Str),V.val (.ref (fa 10))),
 (("ascii_of":Str),V.val (.ref (fa 11))),
 (("hex_code":Str),V.val (.ref (fa 12))),
 (("hex_value":Str),V.val (.ref (fa 13))),
 (("code_of_hex":Str),V.val (.ref (fa 14))),
 (("place_by_half":Str),V.val (.ref (fa 15))),
 (("UCD_BLANKS":Str),V.bytes [32,9,13]),
 (("UCD_MARK":Str),V.bytes [239,187,191]),
 (("ucd_lines":Str),V.val (.ref (fa 19))),
 (("rows_of":Str),V.val (.ref (fa 20))),
 (("code_of_field":Str),V.val (.ref (fa 21))),
 (("codes_of_field":Str),V.val (.ref (fa 22))),
 (("word_of_field":Str),V.val (.ref (fa 23))),
 (("FOLDING_STATUSES":Str),V.tup [.str "C",.str "F",.str "S",.str "T"]),
 (("CASE_CONTEXTS":Str),V.tup [.str "Final_Sigma",.str "After_Soft_Dotted",.str "More_Above",.str "Before_Dot",.str "Not_Before_Dot",.str "After_I"]),
 (("ucdmore_fields":Str),V.val (.ref (fa 27))),
 (("ucdmore_put":Str),V.val (.ref (fa 28))),
 (("read_case_folding":Str),V.val (.ref (fa 29))),
 (("ucdmore_conditions":Str),V.val (.ref (fa 30))),
 (("ucdmore_is_small":Str),V.val (.ref (fa 31))),
 (("read_special_casing":Str),V.val (.ref (fa 32))),
 (("ucdmore_codes_octets":Str),V.val (.ref (fa 33))),
 (("ucdmore_told":Str),V.val (.ref (fa 34))),
 (("folding_octets":Str),V.val (.ref (fa 35))),
 (("special_casing_octets":Str),V.val (.ref (fa 36))),
 (("range_are_like":Str),V.val (.ref (fa 38))),
 (("RangeMap":Str),V.val (.ref (fa 39))),
 (("range_rows":Str),V.val (.ref (fa 40))),
 (("data_defaults":Str),V.val (.ref (fa 42))),
 (("Data":Str),V.val (.ref (fa 43)))]
noncomputable def cp5 (fa:Nat->Addr):List (Str×V):=[
 (("_law_spots":Str),V.tup [.int 65,.int 73,.int 223,.int 304,.int 7838,.int 64259,.int 66560,.int 125217]),
 (("_law_parts":Str),V.tup [.int 97,.int 105,.int 115,.int 775,.int 223,.int 66600]),
 (("_law_lots":Str),V.tup [.tup [.str "C"],.tup [.str "F"],.tup [.str "S"],.tup [.str "F",.str "S"],.tup [.str "C",.str "T"],.tup [.str "F",.str "T"],.tup [.str "T"]]),
 (("_law_cased":Str),V.tup [.int 223,.int 73,.int 931,.int 304]),
 (("_law_whens":Str),V.tup [.tup [],.tup [.str "Final_Sigma"],.tup [.str "tr"],.tup [.str "az"],.tup [.str "tr",.str "Not_Before_Dot"],.tup [.str "lt",.str "More_Above"],.tup [.str "az",.str "After_I"],.tup [.str "lt",.str "After_Soft_Dotted"]]),
 (("_law_deck":Str),V.val (.ref (fa 50))),
 (("_law_draw":Str),V.val (.ref (fa 51))),
 (("_law_pick":Str),V.val (.ref (fa 52))),
 (("_law_hex":Str),V.val (.ref (fa 53))),
 (("_law_field":Str),V.val (.ref (fa 54))),
 (("_law_spelt":Str),V.val (.ref (fa 55))),
 (("_law_some":Str),V.val (.ref (fa 56))),
 (("_law_line":Str),V.val (.ref (fa 57))),
 (("_law_file":Str),V.val (.ref (fa 58))),
 (("_law_folds":Str),V.val (.ref (fa 59))),
 (("_law_fold_lines":Str),V.val (.ref (fa 60))),
 (("_law_are_folds":Str),V.val (.ref (fa 61))),
 (("_law_cases":Str),V.val (.ref (fa 62))),
 (("_law_case_lines":Str),V.val (.ref (fa 63))),
 (("_law_are_cases":Str),V.val (.ref (fa 64))),
 (("_law_words":Str),V.val (.ref (fa 65))),
 (("_law_number":Str),V.val (.ref (fa 66))),
 (("_law_numbers":Str),V.val (.ref (fa 67))),
 (("_law_texts":Str),V.val (.ref (fa 68))),
 (("_law_read_off":Str),V.val (.ref (fa 69))),
 (("_law_is_same":Str),V.val (.ref (fa 70))),
 (("_law_heard":Str),V.val (.ref (fa 71))),
 (("_law_odd":Str),V.val (.ref (fa 72))),
 (("_law_broken_right":Str),V.val (.ref (fa 73))),
 (("law":Str),V.val (.ref (fa 74))),
 (("len":Str),V.val (.builtin "len")),
 (("ord":Str),V.val (.builtin "ord")),
 (("chr":Str),V.val (.builtin "chr")),
 (("isinstance":Str),V.val (.builtin "isinstance")),
 (("sorted":Str),V.val (.builtin "sorted")),
 (("bytes":Str),V.val (.type "bytes")),
 (("tuple":Str),V.val (.type "tuple")),
 (("list":Str),V.val (.type "list")),
 (("int":Str),V.val (.type "int")),
 (("dict":Str),V.val (.type "dict")),
 (("bool":Str),V.val (.type "bool")),
 (("enumerate":Str),V.val (.type "enumerate")),
 (("range":Str),V.val (.type "range"))]
noncomputable def bd1 (m:Int) (fa:Nat->Addr):List (Str×V):=cp4 m fa++cp5 fa
noncomputable def au9 (fa:Nat->Addr):List (Str×V):=bd1 bs9 fa
noncomputable def af4:List (Nat×Nat×Str):=[(39,0,"__init__"),(39,1,"get"),(39,2,"put"),(39,3,"ranges"),(43,0,"__init__"),(43,1,"put"),(43,2,"get"),(43,3,"map_of")]
noncomputable def aT9:List (Nat×Str):=[(39,"default"),(39,"starts"),(39,"values"),(43,"defaults"),(43,"maps"),(43,"properties"),(43,"words")]
noncomputable def fns:List Nat:=[9,10,11,12,13,14,15,19,20,21,22,23,27,28,29,30,31,32,33,34,35,36,38,40,42,50,51,52,53,54,55,56,57,58,59,60,61,62,63,64,65,66,67,68,69,70,71,72,73,74]
noncomputable def rdA:Value->V
 | .int i _=>.int i
 | .str x _=>.str x
 | .bytes b _=>.bytes b.toList
 | v=>.val v
noncomputable def bt0:Data->Option (Array Value×Nat)
 | .seq vs n=>some (vs,n)
 | _=>none
noncomputable def cp6:Data->Option FuncData
 | .func fd=>some fd
 | _=>none
noncomputable def Rl (R:V->Value->Prop):List V->List Value->Prop
 | [],vs=>vs=[]
 | x::xs,vs=>∃v us,vs=v::us/\R x v/\Rl R xs us
inductive Rt (h:Heap) (R:V->Value->Prop):V->Value->Prop
 | leaf (x:V) (v:Value) (r:R x v):Rt h R x v
 | tup (xs:List V) (a:Addr) (vs:Array Value) (n:Nat) (e:h.get? a=some {cls:=.type "tuple",data:=.seq vs n}) (r:Rl R xs vs.toList):Rt h R (.tup xs) (.ref a)
noncomputable def R2 (h:Heap):V->Value->Prop:=Rt h (Rt h λx v=>rdA v=x)
noncomputable def fa0 (i:Nat):Nat:=([0,0,0,0,0,0,0,52,64,71,78,83,90,97,104,111,0,0,0,118,123,130,138,145,0,0,0,154,161,166,173,178,183,188,195,202,207,0,214,257,268,0,275,313,0,0,0,0,0,0,342,349,356,363,368,373,378,385,390,397,402,407,412,417,422,427,434,439,444,449,454,461,468,473,480]:List Nat)[i]?.getD 0
noncomputable def fm0 (i j:Nat):Nat:=(if i=39 then[228,235,242,247] else[289,296,303,310]:List Nat)[j]?.getD 0
@[irreducible] def fa:Nat->Addr:=fa0
@[irreducible] def fm:Nat->Nat->Addr:=fm0
structure aw9 (K:Frag) (C:Addr):Prop where
 ga:findIn K (.ref C) "__getattribute__"=some (some (.builtin "object.__getattribute__"))
 gh:findIn K (.ref C) "__getattr__"=some none
 sa:findIn K (.ref C) "__setattr__"=some (some (.builtin "object.__setattr__"))
 dict:∃cd,clsIn K C=some cd/\cd.hasDict=true
 over:plainOver K C=true
inductive cC7 (K:Frag) (C:Addr) (B newId:String):Prop
 | mk (nm q:Str) (N:Addr) (bs bm:List Value) (hdct:Bool) (sn:List Str) (sub:List Value) (ab:Bool) (col:Option Bool) (dd:Option Addr) (k0 k1 k2 k3 k5:Option Value)
  (hCK:K.lookup C=some (excClassObj nm q C N bs bm hdct sn sub ab col dd k0 k1 k2 k3 k5 newId)) (hB:bm.contains (.type B)=true) (hAt:bm.contains (.type "AttributeError")=false) (hNm:bm.contains (.type "NameError")=false) (hBE:bm.contains (.type "BaseException")=true)
structure T4 (K:Frag) (C:Addr) (fI:Addr) (B newId initId:String) (bmB:List Value):Prop where
 facts:ExcBaseFacts B newId initId bmB
 obj:cC7 K C B newId
 init:findIn K (.ref C) "__init__"=some (some (.ref fI))
 fn:typeIn K (.ref fI)=some (.type "function")
structure Z0 (K:Frag) (C:Addr):Prop where
 sa:findIn K (.ref C) "__setattr__"=some (some (.builtin "object.__setattr__"))
 cls:∃cd,clsIn K C=some cd/\cd.hasDict=true/\cd.mro.contains (.type "object")=true/\cd.mro.isEmpty=false/\∀self,refuseLoop self "__setattr__" cd.mro=pure ()
 told:findIn K (.ref C) "told"=some none
 ga:findIn K (.ref C) "__getattribute__"=some (some (.builtin "BaseException.__getattribute__"))
 gh:findIn K (.ref C) "__getattr__"=some none
 sub:subIn K (.ref C) (.type "BaseException")=some true
structure FnR (h:Heap) (f:Addr) (s:Stmt) (fd:FuncData):Prop where
 at_:∃o,h.get? f=some o/\o.data=.func fd
 bd:fd.body=.stmts (T0 s)
 sc:fd.scope=A8 s
 par:fd.params=ai7 s
 glob:fd.globals=mainGlobals
 clo:fd.closure=[]
 blt:fd.builtins=builtinsNs
 code:h.CodeRec fd.code fd.qualname
 dfl:fd.defaults=.none\/∃T o items n,fd.defaults=.ref T/\h.get? T=some o/\o.data=.seq items n
structure KF (K:Frag):Prop where
 bad:∀i,i=7\/i=8->∃B newId initId bmB,T4 K (fa i) 36 B newId initId bmB
 bset:∀i,i=7\/i=8->Z0 K (fa i)/\keepIn K (.ref (fa i))=true
 cls:∀i,i=39\/i=43->aw9 K (fa i)/\makesIn K (fa i)=true/\keepIn K (.ref (fa i))=true
 meth:∀p∈af4,findIn K (.ref (fa p.1)) p.2.2=some (some (.ref (fm p.1 p.2.1)))/\typeIn K (.ref (fm p.1 p.2.1))=some (.type "function")
 flds:∀p∈aT9,findIn K (.ref (fa p.1)) p.2=some none
structure Wd (G:GC) (K:Frag):Prop where
 g:G.base.Ns mainGlobals G.mg
 b:G.base.Ns builtinsNs G.mb
 nolimit:G.base.NoLimit
 sysm:∃o,G.base.get? sysModules=some o
 X:K.In G.base
 k:KF K
 gv:∀(k:Nat) (p:Str×V),(au9 fa)[k]?=some p->∃v,(G.mg p.1=some v\/(G.mg p.1=none/\G.mb p.1=some v))/\R2 G.base p.2 v
 fn:∀i,fns.contains i=true->∃fd,FnR G.base (fa i) (st i) fd
 fe:∃fd,FnR G.base 36 (mt 6 0) fd
 fe2:∀p∈af4,∃fd,FnR G.base (fm p.1 p.2.1) (mt p.1 p.2.1) fd
 ch:∀C,G.ch C<->C=fa 8
 bcode:G.mg "BadCode"=some (.ref (fa 7))
 brow:G.mg "BadRow"=some (.ref (fa 8))
noncomputable def al9:List Int->List Value->Prop
 | [],vs=>vs=[]
 | i::r,vs=>∃t us,vs=.int i t::us/\al9 r us
noncomputable def ao2 (G:GC):Prop:=∀(A:Around) (s:Shared) (a:Addr) (vs:Array Value) (is:List Int),A.frames=some []->A.handled=none->A.depth+12<=600->A.units+120<=6000->s.gens=#[]->s.os=G.os->s.heap=G.base->
 s.heap.PlainList a vs->al9 is vs.toList->is.length<=1000->codeAny (model G.prog G.w) A (.call (.ref (fa 74)) ⟨[.ref a],[]⟩) (λr s'=>r=.ok (.ret (.bool true))/\s'.gens=#[]/\s'.os=s.os/\∀b o,s.heap.get? b=some o->s'.heap.get? b=some o) s
theorem cp7:Nonempty (GC×Frag):=⟨⟨PySem.Challenge.pw_nt0034_01,⟨λU U=>0,{strHash:=λU=>0,shareClass:=λU=>0,mergeTok:=id,idOf:=λU=>0,idOfShared:=λU U=>0,followText:=λU=>false,idOfImm:=λU=>0}⟩,default,default,λU=>none,λU=>none,λU=>False⟩,[]⟩
noncomputable def GK:GC×Frag:=@Classical.epsilon _ cp7 λp=>Wd p.1 p.2/\¬ao2 p.1
@[irreducible] def G:GC:=GK.1
@[irreducible] def K0:Frag:=GK.2
theorem bi6 (h:Wd G K0->ao2 G) (p:GC×Frag) (w:Wd p.1 p.2):ao2 p.1:=Classical.byContradiction λn=>by
 have e:Wd GK.1 GK.2/\¬ao2 GK.1:=@Classical.epsilon_spec _ (λp:GC×Frag=>Wd p.1 p.2/\¬ao2 p.1) ⟨p,w,n⟩
 unfold G K0 at h
 exact e.2 (h e.1)
end
section
abbrev Pr:Program:=PySem.Challenge.rw_nt0034_01.row.toRowW.1
noncomputable def q0:Program:=view Pr [74]
noncomputable def lo:List Str:=((Pr.main.scope.names.map (·.1)).filter λx=>x != ("law":Str))
noncomputable def cp8 (h:Heap) (v:Value):Bool:=match v with
 | .none=>true
 | .ref t=>((h.get? t).bind λo=>bt0 o.data).isSome
 | _=>false
noncomputable def fnV (h:Heap) (a:Addr):Option (FuncBody×Scope×Arguments×Addr×List (Str×Addr)×Addr×Bool×Bool):=((h.get? a).bind λo=>cp6 o.data).map λfd=>
 (fd.body,fd.scope,fd.params,fd.globals,fd.closure,fd.builtins,h.codeRecOk fd.code fd.qualname,cp8 h fd.defaults)
noncomputable def fnE (s:Stmt):Option (FuncBody×Scope×Arguments×Addr×List (Str×Addr)×Addr×Bool×Bool):=some (.stmts (T0 s),A8 s,ai7 s,mainGlobals,[],builtinsNs,true,true)
noncomputable def bt1 (o:Obj):Option (List Value):=if o.cls=.type "tuple"/\o.dict=none/\o.slots=#[] then(bt0 o.data).map (·.1.toList) else none
noncomputable def rdT (f:Value->V) (h:Heap) (v:Value):V:=match v with
 | .ref a=>(match (h.get? a).bind bt1 with
  | some l=>.tup (l.map f)
  | none=>f (.ref a))
 | v=>f v
noncomputable def cp9 (h:Heap) (p:Str×V):Option V:=((h.nsMap mainGlobals p.1).orElse λU=>h.nsMap builtinsNs p.1).map (rdT (rdT rdA h) h)
noncomputable def af5 (h:Heap):Frag:=([36,38,39,51,52,63,64,228,235,242,247,256,257,289,296,303,310,312,313]:List Nat).filterMap λa=>(h.get? a).map (a,·)
abbrev oga:Option (Option Value):=some (some (.builtin "object.__getattribute__"))
abbrev osa:Option (Option Value):=some (some (.builtin "object.__setattr__"))
noncomputable def bZ2:Data->Option ClassData
 | .cls cd=>some cd
 | _=>none
noncomputable def sl4:List (Option Value)->Option (Option Value)
 | [_,_,_,_,k,_]=>some k
 | _=>none
noncomputable def cC9 (o:Option Obj):Option (Value×List Value×Bool×Bool×Option (Option Value)):=o.bind λo=>(bZ2 o.data).map λcd=>(o.cls,cd.mro,cd.hasDel,cd.hasDict,sl4 o.slots.toList)
noncomputable def cq0 (K:Frag) (C:Addr):=(findIn K (.ref C) "__getattribute__",findIn K (.ref C) "__getattr__",findIn K (.ref C) "__setattr__",(clsIn K C).map (·.hasDict),plainOver K C,makesIn K C,keepIn K (.ref C))
noncomputable def cq1:=(oga,some (none:Option Value),osa,some true,true,true,true)
noncomputable def ce6 (K:Frag) (C:Addr):=(cC9 (K.lookup C),findIn K (.ref C) "__init__",findIn K (.ref C) "__setattr__",findIn K (.ref C) "told",findIn K (.ref C) "__getattribute__",findIn K (.ref C) "__getattr__",subIn K (.ref C) (.type "BaseException"),keepIn K (.ref C))
noncomputable def ce7 (C:Addr):Option (Value×List Value×Bool×Bool×Option (Option Value))×Option (Option Value)×Option (Option Value)×Option (Option Value)×Option (Option Value)×Option (Option Value)×Option Bool×Bool:=
 (some (.type "type",[.ref C,.ref 39,.type "Exception",.type "BaseException",.type "object"],false,true,some (some (.builtin "Exception.__new__"))),some (some (.ref 36)),osa,some none,some (some (.builtin "BaseException.__getattribute__")),some none,some true,true)
noncomputable def cq2 (K:Frag) (p:Nat×Nat×Str):=(findIn K (.ref (fa0 p.1)) p.2.2,typeIn K (.ref (fm0 p.1 p.2.1)))
noncomputable def cq3 (p:Nat×Nat×Str):=(some (some (Value.ref (fm0 p.1 p.2.1))),some (Value.type "function"))
noncomputable def bt2 (h:Heap):=(h.isNs mainGlobals&&h.isNs builtinsNs&&(h.get? sysModules).isSome,(bd1 1114111 fa0).map (cp9 h),[39,43].map (λi=>cq0 (af5 h) (fa0 i)),[7,8].map (λi=>ce6 (af5 h) (fa0 i)),typeIn (af5 h) (.ref 36),af4.map (cq2 (af5 h)),aT9.map (λp=>findIn (af5 h) (.ref (fa0 p.1)) p.2),h.nsMap mainGlobals "BadCode",h.nsMap mainGlobals "BadRow")
noncomputable def aI1:=(true,(bd1 1114111 fa0).map (λp=>some p.2),[39,43].map (λ_:Nat=>cq1),[7,8].map (λi=>ce7 (fa0 i)),some (Value.type "function"),af4.map cq3,aT9.map (λU=>some (none:Option Value)),some (Value.ref (fa0 7)),some (Value.ref (fa0 8)))
noncomputable def bM9 (h:Heap):=(fnV h 36,fns.map (λi=>fnV h (fa0 i)),af4.map (λp=>fnV h (fm0 p.1 p.2.1)))
noncomputable def bd3:=(fnE (mt 6 0),fns.map (λi=>fnE (st i)),af4.map (λp=>fnE (mt p.1 p.2.1)))
abbrev rn (w:World) (os:OsState):Option Shared:=topRun treeTable Pr w (boot_heap w.params).objs.size ((boot_heap w.params).nsMap mainGlobals "__annotations__") 3200 ⟨boot_heap w.params,Array.mk [],boot_drawn,boot_toks,os⟩ (topStub Pr)
abbrev cD0 (w:World) (s:Shared):Bool:=staticsOk (importedModules Pr.main.body) (boot_heap w.params) s.heap&&namesBound Pr s.heap&&gensDone s&&laidKept (boot_heap w.params) s.heap
theorem cq4:OpenLaw.wellSaid PySem.Challenge.rw_nt0034_01=true:=by decide +kernel
theorem opn:opening Pr=plainProg Pr.main.scope.names:=by kernel_rfl
theorem fnc (s:Shared):fenceModules? Pr s=some s:=by kernel_rfl
end
section
theorem cq5 (w:World) (os:OsState):(rn w os).map (λs=>(cD0 w s,openSeen q0 lo (importedModules Pr.main.body) (λU=>true) true s))=some (true,openGood q0 lo):=by kernel_rfl
end
section
theorem cq6 (w:World) (os:OsState):(rn w os).map (λs=>bt2 s.heap)=some aI1:=by kernel_rfl
end
section
theorem cq7 (w:World) (os:OsState):(rn w os).map (λs=>bM9 s.heap)=some bd3:=by kernel_rfl
end
section
inductive O where
 | list (xs:List V) | dictS (es:List (Str×V)) | dictI (es:List (Int×V))
 | inst (C:Addr) (fs:List (Str×V))
 | exn (C:Addr) (told:Option V)
 | held (C:Addr) (told:V)
 | enum (it l:Addr) (xs:List V)
 | frame (env:Env) (loc:List (Str×Option V))
 | deck | it (wr fp:List Addr) (St:Heap->Prop)
abbrev b9:=Addr->Option O
abbrev Mu:=Addr->Option Addr
abbrev f8:=List (Str×Option V)
noncomputable def aB9 (h:Heap) (a:Addr) (vs:Array Value):Prop:=∃n,h.get? a=some {cls:=.type "tuple",data:=.seq vs n}
theorem aB9.isTuple {h:Heap} {a:Addr} {vs:Array Value} (x:aB9 h a vs):h.IsTuple a vs:=x.elim λn e=>⟨_,e,rfl,n,rfl⟩
mutual
noncomputable def VR (h:Heap) (μ:Mu):V->Value->Prop
 | .none,v=>v=.none
 | .bool b,v=>v=.bool b
 | .int i,v=>∃t,v=.int i t
 | .str x,v=>∃t,v=.str x t
 | .bytes b,v=>∃t,v=.bytes b.toArray t
 | .tup xs,v=>∃a vs,v=.ref a/\aB9 h a vs/\μ a=Option.none/\q9 h μ xs vs.toList
 | .lst xs,v=>∃a vs,v=.ref a/\h.PlainList a vs/\μ a=Option.none/\q9 h μ xs vs.toList
 | .dct es,v=>∃a vs,v=.ref a/\h.DictOf (strKind G.prog G.w) a vs/\μ a=Option.none/\(a == sysModules)=false/\PRd h μ es vs
 | .ref a,v=>v=.ref a
 | .val w,v=>v=w
noncomputable def q9 (h:Heap) (μ:Mu):List V->List Value->Prop
 | [],vs=>vs=[]
 | x::xs,vs=>∃v us,vs=v::us/\VR h μ x v/\q9 h μ xs us
noncomputable def PRd (h:Heap) (μ:Mu):List (Str×V)->List (Str×Value)->Prop
 | [],vs=>vs=[]
 | (k,x)::es,vs=>∃v us,vs=(k,v)::us/\VR h μ x v/\PRd h μ es us
end
section
variable {h:Heap} {μ:Mu}
theorem VR.none:VR h μ .none .none:=rfl
theorem VR.bool (b:Bool):VR h μ (.bool b) (.bool b):=rfl
theorem VR.int (i:Int) (t:Tok):VR h μ (.int i) (.int i t):=⟨t,rfl⟩
theorem VR.str (x:Str) (t:Tok):VR h μ (.str x) (.str x t):=⟨t,rfl⟩
theorem VR.bytes (b:List UInt8) (t:Tok):VR h μ (.bytes b) (.bytes b.toArray t):=⟨t,rfl⟩
theorem VR.tup {xs:List V} {a:Addr} {vs:Array Value} (t:aB9 h a vs) (m:μ a=Option.none) (r:q9 h μ xs vs.toList):VR h μ (.tup xs) (.ref a):=⟨a,vs,rfl,t,m,r⟩
theorem VR.lst {xs:List V} {a:Addr} {vs:Array Value} (t:h.PlainList a vs) (m:μ a=Option.none) (r:q9 h μ xs vs.toList):VR h μ (.lst xs) (.ref a):=⟨a,vs,rfl,t,m,r⟩
theorem VR.ref (a:Addr):VR h μ (.ref a) (.ref a):=rfl
theorem VR.val (v:Value):VR h μ (.val v) v:=rfl
theorem q9.nil:q9 h μ [] []:=rfl
theorem q9.cons {x:V} {v:Value} {xs:List V} {vs:List Value} (a:VR h μ x v) (b:q9 h μ xs vs):q9 h μ (x::xs) (v::vs):=⟨v,vs,rfl,a,b⟩
noncomputable def K6 {K:Type} (h:Heap) (μ:Mu):List (K×V)->List (K×Value)->Prop
 | [],vs=>vs=[]
 | (k,x)::es,vs=>∃v us,vs=(k,v)::us/\VR h μ x v/\K6 h μ es us
theorem PRd.eq:∀es:List (Str×V),PRd h μ es=K6 h μ es:=by
 intro es
 induction es with
 | nil=>rfl
 | cons x es ih=>funext vs;show(∃v us,vs=(x.1,v)::us/\VR h μ x.2 v/\PRd h μ es us)=_;rw[ih];rfl
theorem PRd.to {es:List (Str×V)} {vs:List (Str×Value)} (r:PRd h μ es vs):K6 h μ es vs:=PRd.eq es▸r
theorem K6.to {es:List (Str×V)} {vs:List (Str×Value)} (r:K6 h μ es vs):PRd h μ es vs:=PRd.eq es▸r
theorem K6.nil {K:Type}:K6 (K:=K) h μ [] []:=rfl
theorem K6.cons {K:Type} {k:K} {x:V} {v:Value} {es vs} (a:VR h μ x v) (b:K6 h μ es vs):K6 h μ ((k,x)::es) ((k,v)::vs):=⟨v,vs,rfl,a,b⟩
theorem VR.dct {es:List (Str×V)} {a:Addr} {vs:List (Str×Value)} (t:h.DictOf (strKind G.prog G.w) a vs) (m:μ a=Option.none) (z:(a == sysModules)=false) (r:K6 h μ es vs):VR h μ (.dct es) (.ref a):=⟨a,vs,rfl,t,m,z,r.to⟩
end
structure f6 (μ:Mu) (h:Heap) (μ':Mu) (h':Heap):Prop where
 keep:∀b o,h.get? b=some o->μ b=none->(∀vs,o.data≠.fields vs)->h'.get? b=some o
 mu:∀b o,h.get? b=some o->μ b=none->(∀vs,o.data≠.fields vs)->μ' b=none
theorem f6.refl (μ:Mu) (h:Heap):f6 μ h μ h:=⟨λU U e U U=>e,λU U U e U=>e⟩
theorem f6.trans {μ₁ μ₂ μ₃:Mu} {h₁ h₂ h₃:Heap} (x:f6 μ₁ h₁ μ₂ h₂) (y:f6 μ₂ h₂ μ₃ h₃):f6 μ₁ h₁ μ₃ h₃:=
 ⟨λb o e m d=>y.keep b o (x.keep b o e m d) (x.mu b o e m d) d,
  λb o e m d=>y.mu b o (x.keep b o e m d) (x.mu b o e m d) d⟩
theorem aC0 {h h':Heap} {a:Addr} {vs:Array Value} (t:aB9 h a vs) (k:∀o,h.get? a=some o->(∀vs,o.data≠.fields vs)->h'.get? a=some o):aB9 h' a vs:=by
 rcases t with⟨n,e⟩
 exact⟨n,k _ e λU=>nofun⟩
theorem L6 {h h':Heap} {a:Addr} {vs:Array Value} (t:h.PlainList a vs) (k:∀o,h.get? a=some o->(∀vs,o.data≠.fields vs)->h'.get? a=some o):h'.PlainList a vs:=by
 rcases t with⟨n,e⟩
 exact⟨n,k _ e λU=>nofun⟩
theorem ai8 {prog:Program} {w:World} {K:Type} [DecidableEq K] {knd:KeyKind prog w K} {h h':Heap} {a:Addr} {kvs:List (K×Value)} (t:h.DictOf knd a kvs) (k:∀o,h.get? a=some o->(∀vs,o.data≠.fields vs)->h'.get? a=some o):h'.DictOf knd a kvs:=by
 obtain⟨o,es,ep,e,c,d,r⟩:=t
 exact⟨o,es,ep,k o e (λvs q=>by rw[d] at q;cases q),c,d,r⟩
theorem M9 {h:Heap} {a:Addr} {vs:Array Value} (t:h.PlainList a vs):∃o,h.get? a=some o/\∀vs,o.data≠.fields vs:=t.elim λU e=>⟨_,e,λU=>nofun⟩
theorem ao3 {h:Heap} {a:Addr} {vs:Array Value} (t:aB9 h a vs):∃o,h.get? a=some o/\∀vs,o.data≠.fields vs:=t.elim λU e=>⟨_,e,λU=>nofun⟩
theorem af6 {prog:Program} {w:World} {K:Type} [DecidableEq K] {knd:KeyKind prog w K} {h:Heap} {a:Addr} {kvs:List (K×Value)} (t:h.DictOf knd a kvs):∃o,h.get? a=some o/\∀vs,o.data≠.fields vs:=by
 obtain⟨o,_,_,e,_,d,_⟩:=t
 exact⟨o,e,λU q=>by rw[d] at q;cases q⟩
theorem f6.mu' {μ μ':Mu} {h h':Heap} (P:f6 μ h μ' h') {a:Addr} (x:∃o,h.get? a=some o/\∀vs,o.data≠.fields vs) (m:μ a=none):μ' a=none:=x.elim λo x=>P.mu a o x.1 m x.2
theorem aI2 {h h':Heap} {μ μ':Mu} (P:f6 μ h μ' h'):(∀V v,VR h μ V v->VR h' μ' V v)/\∀xs vs,q9 h μ xs vs->q9 h' μ' xs vs:=by
 have c:∀x xs,(∀v,VR h μ x v->VR h' μ' x v)->(∀vs,q9 h μ xs vs->q9 h' μ' xs vs)->∀vs,q9 h μ (x::xs) vs->q9 h' μ' (x::xs) vs:=by
  rintro x xs a b _ ⟨v,us,e,p,q⟩;exact⟨v,us,e,a v p,b us q⟩
 have one:∀V v,VR h μ V v->VR h' μ' V v:=by
  refine V.rec (motive_2:=λxs=>∀vs,q9 h μ xs vs->q9 h' μ' xs vs) (motive_3:=λxs=>∀vs,PRd h μ xs vs->PRd h' μ' xs vs) (motive_4:=λx=>∀v,VR h μ x.2 v->VR h' μ' x.2 v)
   (λU r=>r) (λU U r=>r) (λU U r=>r) (λU U r=>r) (λU U r=>r) ?_ ?_ ?_ (λU U r=>r) (λU U r=>r) (λU r=>r) c (λU r=>r) ?_ λU U r=>r
  ·rintro _ ih _ ⟨a,vs,e,t,m,r⟩;exact⟨a,vs,e,aC0 t λo e d=>P.keep _ o e m d,P.mu' (ao3 t) m,ih _ r⟩
  ·rintro _ ih _ ⟨a,vs,e,t,m,r⟩;exact⟨a,vs,e,L6 t λo e d=>P.keep _ o e m d,P.mu' (M9 t) m,ih _ r⟩
  ·rintro _ ih _ ⟨a,vs,e,t,m,z,r⟩;exact⟨a,vs,e,ai8 t λo e d=>P.keep _ o e m d,P.mu' (af6 t) m,z,ih _ r⟩
  ·rintro x xs a b _ ⟨v,us,e,p,q⟩;exact⟨v,us,e,a v p,b us q⟩
 refine⟨one,λxs=>?_⟩
 induction xs with
 | nil=>exactλU r=>r
 | cons x xs ih=>exact c x xs (one x) ih
theorem VR.pres {h h':Heap} {μ μ':Mu} (P:f6 μ h μ' h') {V:V} {v:Value} (r:VR h μ V v):VR h' μ' V v:=(aI2 P).1 V v r
theorem q9.pres {h h':Heap} {μ μ':Mu} (P:f6 μ h μ' h') {xs:List V} {vs:List Value} (r:q9 h μ xs vs):q9 h' μ' xs vs:=(aI2 P).2 xs vs r
theorem K6.ind {K:Type} {h:Heap} {μ:Mu} {C:List (K×V)->List (K×Value)->Prop} (n:C [] []) (c:∀{k x v xs vs},VR h μ x v->K6 h μ xs vs->C xs vs->C ((k,x)::xs) ((k,v)::vs)) {xs}:∀{vs},K6 h μ xs vs->C xs vs:=by
 induction xs with
 | nil=>rintro _ rfl;exact n
 | cons x xs ih=>rintro _ ⟨v,us,rfl,a,b⟩;exact c a b (ih b)
theorem q9.ind {h:Heap} {μ:Mu} {C:List V->List Value->Prop} (n:C [] []) (c:∀{x v xs vs},VR h μ x v->q9 h μ xs vs->C xs vs->C (x::xs) (v::vs)) {xs}:∀{vs},q9 h μ xs vs->C xs vs:=by
 induction xs with
 | nil=>rintro _ rfl;exact n
 | cons x xs ih=>rintro _ ⟨v,us,rfl,a,b⟩;exact c a b (ih b)
theorem K6.pres {K:Type} {h h':Heap} {μ μ':Mu} (P:f6 μ h μ' h') {xs:List (K×V)} {vs:List (K×Value)} (r:K6 h μ xs vs):K6 h' μ' xs vs:=
 r.ind (C:=K6 h' μ') .nil λa U=>.cons (a.pres P)
theorem K6.length {K:Type} {h:Heap} {μ:Mu} {xs:List (K×V)} {vs:List (K×Value)} (r:K6 h μ xs vs):vs.length=xs.length:=
 r.ind (C:=λxs vs=>vs.length=xs.length) rfl λU U=>congrArg (·+1)
theorem q9.length {h:Heap} {μ:Mu} {xs:List V} {vs:List Value} (r:q9 h μ xs vs):vs.length=xs.length:=
 r.ind (C:=λxs vs=>vs.length=xs.length) rfl λU U=>congrArg (·+1)
theorem q9.get {h:Heap} {μ:Mu} {xs:List V} {vs:List Value} (r:q9 h μ xs vs):∀{i:Nat} {x:V},xs[i]?=some x->∃v,vs[i]?=some v/\VR h μ x v:=by
 refine r.ind (C:=λxs vs=>∀{i:Nat} {x:V},xs[i]?=some x->∃v,vs[i]?=some v/\VR h μ x v) (λe=>nomatch e) λa U ih i U e=>?_
 cases i with
 | zero=>exact⟨_,rfl,Option.some.inj e▸a⟩
 | succ i=>exact ih e
theorem q9.append {h:Heap} {μ:Mu} {xs:List V} {vs:List Value} (r:q9 h μ xs vs) {ys:List V} {us:List Value} (c:q9 h μ ys us):q9 h μ (xs++ys) (vs++us):=
 r.ind (C:=λxs vs=>q9 h μ (xs++ys) (vs++us)) c λa U=>.cons a
theorem q9.single {h:Heap} {μ:Mu} {x:V} {v:Value} (a:VR h μ x v):q9 h μ [x] [v]:=.cons a .nil
theorem q9.take {h:Heap} {μ:Mu} {xs:List V} {vs:List Value} (r:q9 h μ xs vs) (n:Nat):q9 h μ (xs.take n) (vs.take n):=by
 revert n
 refine r.ind (C:=λxs vs=>∀n,q9 h μ (xs.take n) (vs.take n)) (λn=>?_) λa U ih n=>?_
 ·rw[List.take_nil,List.take_nil];exact .nil
 ·cases n with
  | zero=>exact .nil
  | succ n=>exact .cons a (ih n)
theorem q9.drop {h:Heap} {μ:Mu} {xs:List V} {vs:List Value} (r:q9 h μ xs vs) (n:Nat):q9 h μ (xs.drop n) (vs.drop n):=by
 revert n
 refine r.ind (C:=λxs vs=>∀n,q9 h μ (xs.drop n) (vs.drop n)) (λn=>?_) λa b ih n=>?_
 ·rw[List.drop_nil,List.drop_nil];exact .nil
 ·cases n with
  | zero=>exact .cons a b
  | succ n=>exact ih n
theorem q9.reverse {h:Heap} {μ:Mu} {xs:List V} {vs:List Value} (r:q9 h μ xs vs):q9 h μ xs.reverse vs.reverse:=
 r.ind (C:=λxs vs=>q9 h μ xs.reverse vs.reverse) .nil λa U ih=>by rw[de0,de0];exact ih.append (.single a)
theorem q9.one {h:Heap} {μ:Mu} {x:V} {vs:List Value} (r:q9 h μ [x] vs):∃v,vs=[v]/\VR h μ x v:=by
 obtain⟨v,_,e,a,rfl⟩:=r;exact⟨v,e,a⟩
theorem q9.two {h:Heap} {μ:Mu} {x y:V} {vs:List Value} (r:q9 h μ [x,y] vs):∃v u,vs=[v,u]/\VR h μ x v/\VR h μ y u:=by
 obtain⟨v,_,e,a,b⟩:=r
 rcases b.one with⟨u,rfl,c⟩
 exact⟨v,u,e,a,c⟩
noncomputable def P0 (h:Heap) (μ:Mu):Option V->Option Value->Prop
 | none,v=>v=none
 | some V,v=>∃u,v=some u/\VR h μ V u
theorem P0.none {h:Heap} {μ:Mu}:P0 h μ none none:=rfl
theorem P0.some {h:Heap} {μ:Mu} {V:V} {v:Value} (r:VR h μ V v):P0 h μ (some V) (some v):=⟨v,rfl,r⟩
theorem P0.pres {h h':Heap} {μ μ':Mu} (P:f6 μ h μ' h') {a b} (r:P0 h μ a b):P0 h' μ' a b:=by
 cases a with
 | none=>exact r
 | some _=>exact r.elim λu r=>⟨u,r.1,r.2.pres P⟩
noncomputable def aC1 (h:Heap) (μ:Mu):Option V->Option Value->Prop
 | none,_=>True
 | some V,v=>∃u,v=some u/\VR h μ V u
theorem aC1.some {h:Heap} {μ:Mu} {V:V} {v:Value} (r:VR h μ V v):aC1 h μ (some V) (some v):=⟨v,rfl,r⟩
theorem aC1.pres {h h':Heap} {μ μ':Mu} (P:f6 μ h μ' h') {a b} (r:aC1 h μ a b):aC1 h' μ' a b:=by
 cases a with
 | none=>exact r
 | some _=>exact r.elim λu r=>⟨u,r.1,r.2.pres P⟩
theorem aC2 {h h':Heap} {a:Addr} {m:Str->Option Value} (hn:h.Ns a m) (k:∀o,h.get? a=some o->h'.get? a=some o):h'.Ns a m:=by
 obtain⟨o,es,ep,e,r⟩:=hn;exact⟨o,es,ep,k _ e,r⟩
theorem bt3 {h h':Heap} {a:Addr} {m:Str->Option Value} (hn:h.Ns1 a m) (k:∀o,h.get? a=some o->h'.get? a=some o):h'.Ns1 a m:=by
 obtain⟨o,es,ep,e,r⟩:=hn;exact⟨o,es,ep,k _ e,r⟩
inductive aI3 (h:Heap) (μ:Mu) (told:V) (dx:Addr):Prop
 | mk (m:Str->Option Value) (hn:h.Ns dx m) (r:P0 h μ (some told) (m (Str.ofString "told"))) (hm:μ dx=none)
theorem bZ3 {h:Heap} {a:Addr} {m:Str->Option Value} (hn:h.Ns a m):∃o,h.get? a=some o/\∀vs,o.data≠.fields vs:=by
 obtain⟨o,_,_,e,hd,_⟩:=hn;exact⟨o,e,λU q=>by rw[hd] at q;cases q⟩
theorem aI3.pres {h h':Heap} {μ μ':Mu} (P:f6 μ h μ' h') {told:V} {dx:Addr} (t:aI3 h μ told dx):aI3 h' μ' told dx:=by
 obtain⟨m,hn,r,hm⟩:=t
 obtain⟨o',e',d⟩:=bZ3 hn
 exact⟨m,aC2 hn λo e=>P.keep _ _ e hm (Option.some.inj (e.symm.trans e')▸d),r.pres P,P.mu _ o' e' hm d⟩
inductive aI4 (h:Heap) (μ:Mu) (a:Addr) (env:Env) (x:Str×Option V):Prop
 | mk (k:env.kindOf x.1=some .cell) (c:Addr) (cv:Option Value) (e1:env.cells.lookup x.1=some c) (e2:μ c=some a) (e3:c≠a) (e4:h.IsCell c cv) (e5:aC1 h μ x.2 cv)
inductive bd4 (h:Heap) (μ:Mu) (env:Env) (m:Str->Option Value) (x:Str×Option V):Prop
 | mk (k:env.kindOf x.1=some .local) (r:aC1 h μ x.2 (m x.1))
abbrev bi7 (h:Heap) (μ:Mu) (a:Addr) (env:Env) (m:Str->Option Value) (x:Str×Option V):Prop:=bd4 h μ env m x\/aI4 h μ a env x
inductive cq8 (h:Heap) (μ:Mu) (a:Addr) (o:Obj) (V:V):Prop
 | mk (d:Addr) (m:Str->Option Value) (q2:o.dict=some d) (q3:d≠a) (q4:μ d=some a) (q5:h.Ns d m) (q6:P0 h μ (some V) (m (Str.ofString "told")))
noncomputable def aC3 (h:Heap) (μ:Mu) (a:Addr) (o:Obj):Option V->Prop
 | none=>o.dict=none
 | some V=>cq8 h μ a o V
inductive ai9 (h:Heap) (μ:Mu) (a C:Addr) (fs:List (Str×V)):Prop
 | mk (o:Obj) (d:Addr) (m:Str->Option Value) (e:h.get? a=some o) (c:o.cls=.ref C) (e2:o.dict=some d) (e3:o.data=.plain) (ne:d≠a) (md:μ d=some a) (t:h.Ns1 d m) (nd:(fs.map (·.1)).Nodup)
  (r:∀x∈fs,P0 h μ (some x.2) (m x.1)) (z:∀n,n∉fs.map (·.1)->m n=none)
inductive bt4 (h:Heap) (μ:Mu) (a C:Addr) (told:Option V):Prop
 | mk (o:Obj) (vs:Array Value) (e:h.get? a=some o) (c:o.cls=.ref C) (e2:o.data=.fields vs) (e3:6<=vs.size/\vs[2]?=some .none) (e4:vs[1]?=some .none) (b:G.base.get? a=none) (r:aC3 h μ a o told)
inductive aI5 (h:Heap) (μ:Mu) (a C:Addr) (told:V):Prop
 | mk (o:Obj) (vs:Array Value) (dx:Addr) (e:h.get? a=some o) (c:o.cls=.ref C) (e2:o.data=.fields vs) (e3:6<=vs.size/\(vs[2]?=some .none\/G.ch C)) (b:G.base.get? a=none) (d:o.dict=some dx) (r:aI3 h μ told dx)
inductive aI6 (h:Heap) (μ:Mu) (a it l:Addr) (xs:List V):Prop
 | mk (us:Array Value) (e1:IsEnum h a it 0 .none) (e2:h.IsListIter it l 0) (t:h.PlainList l us) (m:μ l=none) (r:q9 h μ xs us.toList) (mi:μ it=some a) (ne:it≠a)
inductive ak8 (h:Heap) (μ:Mu) (a:Addr) (env:Env) (loc:List (Str×Option V)):Prop
 | mk (m:Str->Option Value) (hn:h.Ns a m) (nd:(loc.map (·.1)).Nodup) (pw:env.cells.Pairwise λx y=>x.2≠y.2) (hl:∀x∈loc,bi7 h μ a env m x)
inductive aI7 (h:Heap) (μ:Mu) (a:Addr):Prop
 | mk (c:Addr) (vs:List (Str×Value)) (cs:Array Value) (mx:Int) (tm:Tok) (t:h.DictOf (strKind G.prog G.w) a vs) (ev:vs=[(Str.ofString "cells",.ref c),(Str.ofString "mixed",.int mx tm)]) (h1:0<=mx) (h2:mx<2147483647) (mc:μ c=some a) (ne:c≠a)
  (hl:h.PlainList c cs) (hi:cs.size<=64/\∀v∈cs.toList,∃i t,v=.int i t/\0<=i/\i<1000000007)
structure ItR (h:Heap) (μ:Mu) (a:Addr) (wr fp:List Addr) (St:Heap->Prop):Prop where
 hw:a∈wr
 st:St h
 sub:∀b∈wr,b∈fp
 fr:∀h h',St h->(∀b∈fp,∀o,h.get? b=some o->h'.get? b=some o)->St h'
 ex:∀b∈fp,∃o,h.get? b=some o
 ho:∀b∈wr,μ b=some a
 hf:∀b∈fp,b∉wr->μ b=none/\∃o,h.get? b=some o/\∀vs,o.data≠.fields vs
noncomputable def K7 (h:Heap) (μ:Mu) (a:Addr):O->Prop
 | .list xs=>∃vs,h.PlainList a vs/\q9 h μ xs vs.toList
 | .dictS es=>∃vs,h.DictOf (strKind G.prog G.w) a vs/\K6 h μ es vs
 | .dictI es=>∃vs,h.DictOf (intKind G.prog G.w) a vs/\K6 h μ es vs
 | .inst C fs=>ai9 h μ a C fs
 | .exn C told=>bt4 h μ a C told
 | .held C told=>aI5 h μ a C told
 | .enum it l xs=>aI6 h μ a it l xs
 | .frame env loc=>ak8 h μ a env loc
 | .deck=>aI7 h μ a
 | .it wr fp St=>ItR h μ a wr fp St
structure SR (own:b9) (μ:Mu) (s:Shared):Prop where
 gens:s.gens=#[]
 os:s.os=G.os
 base:∀b o,G.base.get? b=some o->s.heap.get? b=some o
 baseMu:∀b o,G.base.get? b=some o->μ b=none
 chunk:∀a o,own a=some o->μ a=some a/\(∃ob,s.heap.get? a=some ob)/\K7 s.heap μ a o
 dom:∀b a,μ b=some a->(∃o,own a=some o)/\∃ob,s.heap.get? b=some ob
noncomputable def c7 {β:Type} (f:Addr->Option β) (a:Addr) (o:Option β):Addr->Option β:=λx=>if x=a then o else f x
theorem b5 {β:Type} (f:Addr->Option β) (a:Addr) (o:Option β):c7 f a o a=o:=if_pos rfl
theorem b7 {β:Type} {f:Addr->Option β} {a b:Addr} {o:Option β} (h:b≠a):c7 f a o b=f b:=if_neg h
theorem c5 {β:Type} (f:Addr->Option β) (a:Addr) (o o':Option β):c7 (c7 f a o) a o'=c7 f a o':=by
 funext x;unfold c7;split<;>rfl
theorem n9 {β:Type} (f:Addr->Option β) {a b:Addr} (o o':Option β) (h:a≠b):c7 (c7 f a o) b o'=c7 (c7 f b o') a o:=by
 funext x;unfold c7;split<;>split<;>simp_all
theorem d9 {β:Type} {f:Addr->Option β} {a:Addr} {o:Option β} (h:f a=o):c7 f a o=f:=by
 funext x;unfold c7;split<;>simp_all
theorem aI8 {h:Heap} {a:Addr} {vs:Array Value} (t:h.PlainList a vs):∃ob,h.get? a=some ob:=t.elim λU e=>⟨_,e⟩
theorem bt6 {prog:Program} {w:World} {K:Type} [DecidableEq K] {knd:KeyKind prog w K} {h:Heap} {a:Addr} {kvs:List (K×Value)} (t:h.DictOf knd a kvs):∃ob,h.get? a=some ob:=(af6 t).elim λo e=>⟨o,e.1⟩
theorem bd5 {h:Heap} {a:Addr} {m:Str->Option Value} (t:h.Ns a m):∃ob,h.get? a=some ob:=(bZ3 t).elim λo e=>⟨o,e.1⟩
structure T5 (h:Heap) (μ:Mu) (h':Heap) (μ':Mu) (a:Addr):Prop where
 P:f6 μ h μ' h'
 hk:∀b ob,μ b=some a->h.get? b=some ob->h'.get? b=some ob
 hm:∀b,μ b=some a->μ' b=some a
 ha:μ a=some a
section
variable {h h':Heap} {μ μ':Mu} {a:Addr}
theorem T5.lst {vs:Array Value} {c:Addr} (K:T5 h μ h' μ' a) (mc:μ c=some a) (t:h.PlainList c vs):h'.PlainList c vs:=L6 t λo e U=>K.hk c o mc e
theorem T5.dct {prog:Program} {w:World} {Ky:Type} [DecidableEq Ky] {knd:KeyKind prog w Ky} {vs:List (Ky×Value)} (K:T5 h μ h' μ' a) (t:h.DictOf knd a vs):h'.DictOf knd a vs:=ai8 t λo e U=>K.hk a o K.ha e
theorem ai9.keep {C:Addr} {fs:List (Str×V)} (K:T5 h μ h' μ' a) (r:ai9 h μ a C fs):ai9 h' μ' a C fs:=by
 obtain⟨o,d,m,e,c,e2,e3,ne,md,t,nd,r,z⟩:=r
 exact⟨o,d,m,K.hk a o K.ha e,c,e2,e3,ne,K.hm d md,bt3 t λo e=>K.hk d o md e,nd,λx hx=>(r x hx).pres K.P,z⟩
theorem aC3.keep {o:Obj} (K:T5 h μ h' μ' a) {told:Option V} (r:aC3 h μ a o told):aC3 h' μ' a o told:=by
 cases told with
 | none=>exact r
 | some _=>
  obtain⟨d,m,q2,q3,q4,q5,q6⟩:=r
  exact⟨d,m,q2,q3,K.hm d q4,aC2 q5 λo e=>K.hk d o q4 e,q6.pres K.P⟩
theorem bt4.keep {C:Addr} {told:Option V} (K:T5 h μ h' μ' a) (r:bt4 h μ a C told):bt4 h' μ' a C told:=by
 obtain⟨o,vs,e,c,e2,e3,e4,b,r⟩:=r
 exact⟨o,vs,K.hk a o K.ha e,c,e2,e3,e4,b,r.keep K⟩
theorem aI5.keep {C:Addr} {told:V} (K:T5 h μ h' μ' a) (r:aI5 h μ a C told):aI5 h' μ' a C told:=by
 obtain⟨o,vs,dx,e,c,e2,e3,b,d,r⟩:=r
 exact⟨o,vs,dx,K.hk a o K.ha e,c,e2,e3,b,d,r.pres K.P⟩
theorem aI6.keep {it l:Addr} {xs:List V} (K:T5 h μ h' μ' a) (r:aI6 h μ a it l xs):aI6 h' μ' a it l xs:=by
 obtain⟨us,e1,⟨o,e2,e3⟩,t,m,r,mi,ne⟩:=r
 exact⟨us,K.hk a _ K.ha e1,⟨o,K.hk it o mi e2,e3⟩,L6 t λo e d=>K.P.keep _ o e m d,K.P.mu' (M9 t) m,r.pres K.P,K.hm it mi,ne⟩
theorem bd4.keep {env:Env} {m:Str->Option Value} {x:Str×Option V} (K:T5 h μ h' μ' a) (r:bd4 h μ env m x):bd4 h' μ' env m x:=by
 obtain⟨k,v⟩:=r;exact⟨k,v.pres K.P⟩
theorem aI4.keep {env:Env} {x:Str×Option V} (K:T5 h μ h' μ' a) (r:aI4 h μ a env x):aI4 h' μ' a env x:=by
 obtain⟨k,c,cv,e1,e2,e3,e4,e5⟩:=r
 exact⟨k,c,cv,e1,K.hm c e2,e3,e4.elim λoc e=>⟨oc,K.hk c oc e2 e.1,e.2⟩,e5.pres K.P⟩
theorem bi7.keep {env:Env} {m:Str->Option Value} {x:Str×Option V} (K:T5 h μ h' μ' a) (r:bi7 h μ a env m x):bi7 h' μ' a env m x:=r.imp (.keep K) (.keep K)
theorem ak8.keep {env:Env} {loc:List (Str×Option V)} (K:T5 h μ h' μ' a) (r:ak8 h μ a env loc):ak8 h' μ' a env loc:=by
 obtain⟨m,hn,nd,pw,hl⟩:=r
 exact⟨m,aC2 hn λo e=>K.hk a o K.ha e,nd,pw,λx hx=>(hl x hx).keep K⟩
theorem aI7.keep (K:T5 h μ h' μ' a) (r:aI7 h μ a):aI7 h' μ' a:=by
 obtain⟨c,vs,cs,mx,tm,t,ev,h1,h2,mc,ne,hl,hi⟩:=r
 exact⟨c,vs,cs,mx,tm,K.dct t,ev,h1,h2,K.hm c mc,ne,K.lst mc hl,hi⟩
theorem ItR.at_ {wr fp:List Addr} {St:Heap->Prop} (K:T5 h μ h' μ' a) (I:ItR h μ a wr fp St) (b:Addr) (hb:b∈fp) (o:Obj) (e:h.get? b=some o):h'.get? b=some o:=by
 by_cases q:b∈wr
 ·exact K.hk b o (I.ho b q) e
 ·obtain⟨m,o',e',d⟩:=I.hf b hb q
  rw[e] at e';cases e'
  exact K.P.keep b o e m d
theorem ItR.keep {wr fp:List Addr} {St:Heap->Prop} (K:T5 h μ h' μ' a) (I:ItR h μ a wr fp St):ItR h' μ' a wr fp St:=
 ⟨I.hw,I.fr h h' I.st (I.at_ K),I.sub,I.fr,λb hb=>(I.ex b hb).elim λo e=>⟨o,I.at_ K b hb o e⟩,λb hb=>K.hm b (I.ho b hb),λb hb q=>
  ⟨K.P.mu' (I.hf b hb q).2 (I.hf b hb q).1,(I.hf b hb q).2.elim λo e=>⟨o,K.P.keep b o e.1 (I.hf b hb q).1 e.2,e.2⟩⟩⟩
theorem K7.keep (P:f6 μ h μ' h') (hk:∀b ob,μ b=some a->h.get? b=some ob->h'.get? b=some ob) (hm:∀b,μ b=some a->μ' b=some a) (ha:μ a=some a) {o:O} (r:K7 h μ a o):K7 h' μ' a o:=by
 have K:T5 h μ h' μ' a:=⟨P,hk,hm,ha⟩
 cases o with
 | list _=>exact r.elim λvs r=>⟨vs,K.lst ha r.1,r.2.pres P⟩
 | dictS _=>exact r.elim λvs r=>⟨vs,K.dct r.1,r.2.pres P⟩
 | dictI _=>exact r.elim λvs r=>⟨vs,K.dct r.1,r.2.pres P⟩
 | inst _ _=>exact ai9.keep K r
 | exn _ _=>exact bt4.keep K r
 | held _ _=>exact aI5.keep K r
 | enum _ _ _=>exact aI6.keep K r
 | frame _ _=>exact ak8.keep K r
 | deck=>exact aI7.keep K r
 | it _ _ _=>exact ItR.keep K r
end
theorem SR.step {own own':b9} {μ μ':Mu} {s s':Shared} (S:SR own μ s) (T:Addr->Prop) (hg:s'.gens=s.gens) (hos:s'.os=s.os)
  (hkeep:∀b ob,s.heap.get? b=some ob->(∀a,μ b=some a->¬T a)->s'.heap.get? b=some ob)
  (hmu:∀b ob,s.heap.get? b=some ob->(∀a,μ b=some a->¬T a)->μ' b=μ b)
  (hown:∀a,¬T a->own' a=own a)
  (hnew:∀a o,T a->own' a=some o->μ' a=some a/\∃ob,s'.heap.get? a=some ob)
  (hrel:f6 μ s.heap μ' s'.heap->∀a o,T a->own' a=some o->K7 s'.heap μ' a o)
  (hdom:∀b a,μ' b=some a->T a->(∃o,own' a=some o)/\∃ob,s'.heap.get? b=some ob)
  (hfr:∀b a,μ' b=some a->¬T a->μ b=some a):SR own' μ' s'/\f6 μ s.heap μ' s'.heap:=by
 have P:f6 μ s.heap μ' s'.heap:=⟨λb o e m U=>hkeep b o e (λa q=>by rw[m] at q;cases q),λb o e m U=>(hmu b o e (λa q=>by rw[m] at q;cases q)).trans m⟩
 refine⟨⟨hg.trans S.gens,hos.trans S.os,λb o e=>hkeep b o (S.base b o e) λa q=>?_,λb o e=>?_,λa o e=>?_,λb a e=>?_⟩,P⟩
 ·rw[S.baseMu b o e] at q;cases q
 ·exact(hmu b o (S.base b o e) (λa q=>by rw[S.baseMu b o e] at q;cases q)).trans (S.baseMu b o e)
 ·by_cases ht:T a
  ·exact⟨(hnew a o ht e).1,(hnew a o ht e).2,hrel P a o ht e⟩
  ·rw[hown a ht] at e
   obtain⟨h1,⟨ob,h2⟩,h3⟩:=S.chunk a o e
   have mk:∀b,μ b=some a->μ' b=some a:=λb q=>by
    rcases(S.dom b a q).2 with⟨ob',g⟩
    rw[hmu b ob' g λa' q'=>by rw[q] at q';cases q';exact ht];exact q
   have hk:∀b ob,μ b=some a->s.heap.get? b=some ob->s'.heap.get? b=some ob:=λb ob q g=>hkeep b ob g λa' q'=>by rw[q] at q';cases q';exact ht
   exact⟨mk a h1,⟨ob,hk a ob h1 h2⟩,K7.keep P hk mk h1 h3⟩
 ·by_cases ht:T a
  ·exact hdom b a e ht
  ·obtain⟨⟨o,h1⟩,ob,h2⟩:=S.dom b a (hfr b a e ht)
   exact⟨⟨o,by rw[hown a ht];exact h1⟩,ob,hkeep b ob h2 λa' q'=>by rw[hfr b a e ht] at q';cases q';exact ht⟩
theorem SR.same {own:b9} {μ:Mu} {s s':Shared} (S:SR own μ s) (hh:s'.heap=s.heap) (hg:s'.gens=s.gens) (hos:s'.os=s.os):SR own μ s':=
 ⟨hg.trans S.gens,hos.trans S.os,hh▸S.base,S.baseMu,hh▸S.chunk,hh▸S.dom⟩
theorem SR.grow (S:SR own μ s) (hg:s'.gens=s.gens) (hos:s'.os=s.os)
  (hkeep:∀b ob,s.heap.get? b=some ob->s'.heap.get? b=some ob):SR own μ s'/\f6 μ s.heap μ s'.heap:=
 S.step (λU=>False) hg hos (λb ob e U=>hkeep b ob e) (λU U U U=>rfl) (λU U=>rfl) (λU U h=>h.elim) (λU U U h=>h.elim) (λU U U h=>h.elim) (λU U e U=>e)
theorem SR.far (S:SR own μ s) (h:s.heap.objs.size<=x):own x=none/\μ x=none/\G.base.get? x=none:=by
 have no:∀{ob},s.heap.get? x=some ob->False:=λe=>dg4.mpr h (Heap.lt_size e)
 refine⟨?_,?_,?_⟩
 ·cases q:own x with
  | none=>rfl
  | some o=>exact((S.chunk _ _ q).2.1.elim λU=>no).elim
 ·cases q:μ x with
  | none=>rfl
  | some a=>exact((S.dom _ _ q).2.elim λU=>no).elim
 ·cases q:G.base.get? x with
  | none=>rfl
  | some o=>exact(no (S.base _ _ q)).elim
theorem SR.fresh (S:SR own μ s):own s.heap.objs.size=none/\μ s.heap.objs.size=none:=⟨(S.far (cX5 _)).1,(S.far (cX5 _)).2.1⟩
theorem SR.pushOwn {own:b9} {μ:Mu} {s:Shared} {ob:Obj} {o:O} {tk:Nat} (S:SR own μ s) (hfree:ob.isFreed=false)
  (hrel:f6 μ s.heap (c7 μ s.heap.objs.size (some s.heap.objs.size)) (s.heap.push ob)->K7 (s.heap.push ob) (c7 μ s.heap.objs.size (some s.heap.objs.size)) s.heap.objs.size o):
  SR (c7 own s.heap.objs.size (some o)) (c7 μ s.heap.objs.size (some s.heap.objs.size)) {s with heap:=s.heap.push ob,toks:=tk}/\
  f6 μ s.heap (c7 μ s.heap.objs.size (some s.heap.objs.size)) (s.heap.push ob):=by
 have F:=S.fresh
 refine S.step (s':={s with heap:=s.heap.push ob,toks:=tk}) (λa=>a=s.heap.objs.size) rfl rfl (λb ob' e U=>Heap.get?_push_of_some _ e) (λb ob' e U=>b7 (cY4 (Heap.lt_size e)))
  (λa h=>b7 h) (λa o' h e=>?_) (λP a o' h e=>?_) (λb a e h=>?_) (λb a e h=>?_)
 ·subst h
  exact⟨b5 _ _ _,ob,Heap.get?_push_size _ hfree⟩
 ·subst h;rw[b5] at e;cases e
  exact hrel P
 ·subst h
  by_cases hb:b=s.heap.objs.size
  ·subst hb;exact⟨⟨o,b5 _ _ _⟩,ob,Heap.get?_push_size _ hfree⟩
  ·rw[b7 hb] at e
   exact absurd (S.dom _ _ e).1 (by rw[F.1];rintro⟨_,q⟩;cases q)
 ·by_cases hb:b=s.heap.objs.size
  ·subst hb;rw[b5] at e;cases e;exact absurd rfl h
  ·rw[b7 hb] at e;exact e
theorem SR.turn {own:b9} {μ:Mu} {s:Shared} {h':Heap} {a b:Addr} {o':O} {tk:Nat} (S:SR own μ s) (hb:μ b=some a) (hs:Heap.SameBut b s.heap h') (hex:∃ob,h'.get? b=some ob)
  (hrel:f6 μ s.heap μ h'->K7 h' μ a o'):SR (c7 own a (some o')) μ {s with heap:=h',toks:=tk}/\f6 μ s.heap μ h':=by
 obtain⟨⟨oa,ho⟩,ob₀,hlt⟩:=S.dom b a hb
 obtain⟨h1,⟨ob,h2⟩,_⟩:=S.chunk a oa ho
 have there:∀c ob,s.heap.get? c=some ob->∃ob,h'.get? c=some ob:=λc ob e=>by
  by_cases q:c=b
  ·subst q;exact hex
  ·exact⟨ob,(hs.2 c q).trans e⟩
 refine S.step (s':={s with heap:=h',toks:=tk}) (λx=>x=a) rfl rfl (λc ob e q=>?_) (λU U U U=>rfl) (λx h=>b7 h) (λx o h e=>?_) (λP x o h e=>?_) (λc x e h=>?_) (λU U e U=>e)
 ·have:c≠b:=λq'=>q a (q'▸hb) rfl
  exact(hs.2 c this).trans e
 ·subst h;exact⟨h1,there _ _ h2⟩
 ·subst h;rw[b5] at e;cases e;exact hrel P
 ·subst h;obtain⟨ob,g⟩:=(S.dom c x e).2;exact⟨⟨o',b5 _ _ _⟩,there _ _ g⟩
noncomputable def t0 (μ:Mu) (a:Addr):Mu:=λb=>if μ b=some a then none else μ b
theorem SR.drop {own:b9} {μ:Mu} {s:Shared} (S:SR own μ s) (a:Addr):SR (c7 own a none) (t0 μ a) s/\f6 μ s.heap (t0 μ a) s.heap:=by
 refine S.step (λx=>x=a) rfl rfl (λU U e U=>e) (λb U U q=>if_neg λe=>q a e rfl) (λx h=>b7 h) (λx o h e=>?_) (λP x o h e=>?_) (λc x e h=>?_) (λc x e h=>?_)
 ·subst h;rw[b5] at e;cases e
 ·subst h;rw[b5] at e;cases e
 ·subst h;unfold t0 at e;split at e
  ·cases e
  ·rename_i q;exact absurd e q
 ·unfold t0 at e;split at e
  ·cases e
  ·exact e
theorem SR.ofBase (S:SR own μ s):f6 (λU=>none) G.base μ s.heap:=⟨λb o e U U=>S.base b o e,λb o e U U=>S.baseMu b o e⟩
end
section
structure Cx where
 env:Env
 L:Addr
 comp:Bool
 fenv:Env
 fL:Addr
 floc:f8
 outer:List Env
 k:Nat
 hd:Option Value
structure Cx.Ok (c:Cx):Prop where
 loc:c.env.locals=c.L
 frm:c.env.frame=some c.fL
 ffrm:c.fenv.frame=some c.fL
 kind:c.env.scope.kind=.function
 fkind:c.fenv.scope.kind=.function
 glob:c.env.globals=mainGlobals
 blt:c.env.builtins=builtinsNs
 apart:c.comp=true->c.L≠c.fL
 same:c.comp=false->c.fenv=c.env/\c.fL=c.L
 nobp:c.hd≠some byPass
noncomputable def r5 (c:Cx) (loc:f8) (own:b9):b9:=c7 (if c.comp then c7 own c.fL (some (.frame c.fenv c.floc)) else own) c.L (some (.frame c.env loc))
structure AR (c:Cx) (A:Around):Prop where
 frames:A.frames=some (c.fenv::c.outer)
 handled:A.handled=c.hd
 depth:A.depth+c.k<=600
 units:A.units+10*c.k<=6000
noncomputable def y1 (outer:List Env) (own:b9):Prop:=∀e∈outer,e.scope.kind≠.module/\∃L e' l,e.frame=some L/\own L=some (.frame e' l)
noncomputable def FK (own own':b9):Prop:=∀L e l,own L=some (.frame e l)->own' L=some (.frame e l)
theorem FK.refl (own:b9):FK own own:=λU U U e=>e
theorem FK.trans {a b c:b9} (x:FK a b) (y:FK b c):FK a c:=λL e l h=>y L e l (x L e l h)
theorem y1.fk {o:List Env} {a b:b9} (x:y1 o a) (y:FK a b):y1 o b:=λe he=>by
 obtain⟨k,L,e',l,f,h⟩:=x e he;exact⟨k,L,e',l,f,y _ _ _ h⟩
inductive ce8 (h:Heap) (μ:Mu) (ea:Addr) (vs:Array Value):Prop
 | mk (T:Addr) (oT:Obj) (ts:Array Value) (t1:vs[1]?=some (.ref T)) (t2:T≠ea) (t3:h.get? T=some oT) (t4:oT.data=.fields ts) (t5:3<ts.size) (t6:μ T=none) (t7:G.base.get? T=none)
noncomputable def Trc (h:Heap) (μ:Mu) (ea:Addr) (vs:Array Value) (tr:Bool):Prop:=(tr=false/\vs[1]?=some .none)\/ce8 h μ ea vs
inductive XR (h:Heap) (μ:Mu) (tr:Bool) (e:Value) (C:Addr) (told:V):Prop
 | mk (ea:Addr) (oe:Obj) (vs:Array Value) (dx:Addr) (h1:e=.ref ea) (h2:h.get? ea=some oe) (h3:oe.cls=.ref C) (h4:oe.data=.fields vs) (h5:6<=vs.size/\(vs[2]?=some .none\/G.ch C)) (h6:μ ea=none) (h7:G.base.get? ea=none) (h8:oe.dict=some dx)
  (h9:aI3 h μ told dx) (h10:Trc h μ ea vs tr)
abbrev XP:=Addr->V->f8->b9->Prop
noncomputable def f9 (o F:b9):b9:=λa=>match o a with | some x=>some x | none=>F a
noncomputable def F1 (o F:b9):Prop:=∀a,o a=none\/F a=none
theorem o9 {o F:b9} {a:Addr} {x:O} (h:o a=some x):f9 o F a=some x:=by unfold f9;rw[h]
theorem j6 {o F:b9} {a:Addr}:f9 o F a=none<->o a=none/\F a=none:=by
 unfold f9;cases h:o a<;>simp
theorem l7 {o F:b9} {a:Addr} (h:o a=none):f9 o F a=F a:=by unfold f9;rw[h]
theorem p0 {o F:b9} {a:Addr} {x:Option O} (h:F a=none):c7 (f9 o F) a x=f9 (c7 o a x) F:=by
 funext b
 unfold c7 f9
 by_cases q:b=a
 ·subst q;cases x<;>simp [h]
 ·simp [q]
theorem F1.put {o F:b9} {a:Addr} {x:Option O} (D:F1 o F) (h:F a=none):F1 (c7 o a x) F:=λb=>by
 by_cases q:b=a
 ·subst q;exact .inr h
 ·rw[b7 q];exact D b
theorem F1.right {o F:b9} {a:Addr} {x:O} (D:F1 o F) (h:o a=some x):F a=none:=(D a).resolve_left (by rw[h];exactλq=>nomatch q)
noncomputable def Dj (c:Cx) (o F:b9):Prop:=F1 o F/\f9 o F c.L=none/\(c.comp=true->f9 o F c.fL=none)
structure St (c:Cx) (loc:f8) (own F:b9) (A:Around) (μ:Mu) (s:Shared):Prop where
 ok:c.Ok
 ar:AR c A
 sr:SR (r5 c loc (f9 own F)) μ s
 out:y1 c.outer (f9 own F)
 dis:Dj c own F
structure bd6 {α β:Type} (Rel:Heap->Mu->β->α->Prop) (c:Cx) (own F:b9) (μ:Mu) (h:Heap) (a:α) (s':Shared) (b:β) (loc':f8) (own':b9) (μ':Mu):Prop where
 d:Dj c own' F
 r:Rel s'.heap μ' b a
 sr:SR (r5 c loc' (f9 own' F)) μ' s'
 P:f6 μ h μ' s'.heap
 K:FK (f9 own F) (f9 own' F)
inductive i7 {α β:Type} (Rel:Heap->Mu->β->α->Prop) (c:Cx) (own F:b9) (μ:Mu) (h:Heap) (Q:β->f8->b9->Prop) (a:α) (s':Shared):Prop
 | mk (b:β) (loc':f8) (own':b9) (μ':Mu) (q:Q b loc' own') (R:bd6 Rel c own F μ h a s' b loc' own' μ')
abbrev cD1 (C:Addr) (told:V) (tr:Bool):Heap->Mu->Unit->Value->Prop:=λh μ U e=>XR h μ tr e C told
inductive t8 (c:Cx) (own F:b9) (μ:Mu) (h:Heap) (E:XP) (e:Value) (s':Shared):Prop
 | mk (C:Addr) (told:V) (loc':f8) (own':b9) (μ':Mu) (tr:Bool) (q:E C told loc' own') (R:bd6 (cD1 C told tr) c own F μ h e s' () loc' own' μ')
noncomputable def T3 {α β:Type} (Pre:Heap->Mu->Prop) (Rel:Heap->Mu->β->α->Prop) (c:Cx) (loc:f8) (own:b9) (t:Sem α) (Q:β->f8->b9->Prop) (E:XP):Prop:=
 ∀F A μ s,St c loc own F A μ s->Pre s.heap μ->wpAny (model G.prog G.w) A t (i7 Rel c own F μ s.heap Q) (t8 c own F μ s.heap E) s
class Stable (P:Heap->Mu->Prop):Prop where
 go:∀{μ h μ' h'},f6 μ h μ' h'->P h μ->P h' μ'
theorem B3:Stable λU U=>True:=⟨λU h=>h⟩
theorem E0 {V:V} {v:Value}:Stable λh μ=>VR h μ V v:=⟨λP h=>h.pres P⟩
theorem aI9 {V:List V} {v:List Value}:Stable λh μ=>q9 h μ V v:=⟨λP h=>h.pres P⟩
theorem L7 {P Q:Heap->Mu->Prop} (a:Stable P) (b:Stable Q):Stable λh μ=>P h μ/\Q h μ:=⟨λx h=>⟨a.go x h.1,b.go x h.2⟩⟩
section
variable {α β γ δ:Type} {Pre Pre':Heap->Mu->Prop} {Rel:Heap->Mu->β->α->Prop} {Rel':Heap->Mu->δ->γ->Prop} {c:Cx} {loc:f8} {own:b9} {E E':XP}
theorem t8.lift {own own' F:b9} {μ μ':Mu} {h h':Heap} {e:Value} {s:Shared} (P:f6 μ h μ' h') (K:FK (f9 own F) (f9 own' F)) (x:t8 c own' F μ' h' E e s):t8 c own F μ h E e s:=by
 obtain⟨C,told,loc',o',m',tr,q,d,r,sr,p,f⟩:=x
 exact⟨C,told,loc',o',m',tr,q,d,r,sr,P.trans p,K.trans f⟩
theorem i7.lift {own own' F:b9} {μ μ':Mu} {h h':Heap} {a:α} {s:Shared} {Q:β->f8->b9->Prop} (P:f6 μ h μ' h') (K:FK (f9 own F) (f9 own' F)) (x:i7 Rel c own' F μ' h' Q a s):i7 Rel c own F μ h Q a s:=by
 obtain⟨b,loc',o',m',q,d,r,sr,p,f⟩:=x
 exact⟨b,loc',o',m',q,d,r,sr,P.trans p,K.trans f⟩
theorem T3.mono {t:Sem α} {Q Q':β->f8->b9->Prop} (h:T3 Pre Rel c loc own t Q E) (hP:∀h μ,Pre' h μ->Pre h μ) (hQ:∀b l o,Q b l o->Q' b l o) (hE:∀C v l o,E C v l o->E' C v l o):
  T3 Pre' Rel c loc own t Q' E':=λF A μ s S p=>wpAny_mono (h F A μ s S (hP _ _ p))
 (λU U x=>x.rec λb l o m q r=>⟨b,l,o,m,hQ _ _ _ q,r⟩) λU U x=>x.rec λC v l o m tr q r=>⟨C,v,l,o,m,tr,hE _ _ _ _ q,r⟩
theorem T3.pre {t:Sem α} {Q:β->f8->b9->Prop} (h:T3 Pre Rel c loc own t Q E) (hP:∀h μ,Pre' h μ->Pre h μ):T3 Pre' Rel c loc own t Q E:=h.mono hP (λU U U x=>x) λU U U U x=>x
theorem T3.bind {t:Sem α} {f:α->Sem γ} {Q:δ->f8->b9->Prop} (hP:Stable Pre)
  (h:T3 Pre Rel c loc own t (λb loc' own'=>∀a,T3 (λh μ=>Pre h μ/\Rel h μ b a) Rel' c loc' own' (f a) Q E) E):T3 Pre Rel' c loc own (t >>= f) Q E:=by
 intro F A μ s S p
 refine wpAny_bind (wpAny_mono (h F A μ s S p) (λa s' x=>?_) λU U x=>x)
 obtain⟨b,loc',own',μ',q,d,r,sr,P,K⟩:=x
 exact wpAny_mono (q a F A μ' s' ⟨S.ok,S.ar,sr,S.out.fk K,d⟩ ⟨hP.go P p,r⟩) (λU U x=>x.lift P K) λU U x=>x.lift P K
theorem T3.pure {a:α} {b:β} {Q:β->f8->b9->Prop} (hr:∀h μ,Pre h μ->Rel h μ b a) (hQ:Q b loc own):T3 Pre Rel c loc own (Pure.pure a) Q E:=
 λU U μ U S p=>wpAny_pure ⟨b,loc,own,μ,hQ,S.dis,hr _ _ p,S.sr,f6.refl _ _,FK.refl _⟩
theorem T3.standAt {pos:Pos} {f:Unit->Sem γ} {Q:δ->f8->b9->Prop} (h:T3 Pre Rel' c loc own (f ()) Q E):T3 Pre Rel' c loc own (standAt pos >>= f) Q E:=
 λF A μ s S p=>wpAny_bind (wpAny_standAt (h F A μ s S p))
theorem T3.rule {tag:String} {f:Unit->Sem γ} {Q:δ->f8->b9->Prop} (h:T3 Pre Rel' c loc own (f ()) Q E):T3 Pre Rel' c loc own (PySem.rule tag >>= f) Q E:=
 λF A μ s S p=>wpAny_bind (wpAny_rule (h F A μ s S p))
theorem T3.holding {vs:List Value} {t:Sem α} {Q:β->f8->b9->Prop} (h:T3 Pre Rel c loc own t Q E):T3 Pre Rel c loc own (PySem.holding vs t) Q E:=
 λF A μ s S p=>wpAny_holding (h F A μ s S p)
end
abbrev z9:Heap->Mu->V->Value->Prop:=λh μ V v=>VR h μ V v
abbrev cq9:Heap->Mu->List V->List Value->Prop:=λh μ V v=>q9 h μ V v
abbrev D6 {α:Type}:Heap->Mu->α->α->Prop:=λU U a b=>a=b
inductive Fl where
 | next | brk | cont | ret (V:V)
noncomputable def FlR (h:Heap) (μ:Mu):Fl->Flow->Prop
 | .next,f=>f=.next
 | .brk,f=>f=.brk
 | .cont,f=>f=.cont
 | .ret V,f=>∃v,f=.ret v/\VR h μ V v
theorem FlR.next {h:Heap} {μ:Mu}:FlR h μ .next .next:=rfl
theorem FlR.brk {h:Heap} {μ:Mu}:FlR h μ .brk .brk:=rfl
theorem FlR.cont {h:Heap} {μ:Mu}:FlR h μ .cont .cont:=rfl
theorem FlR.ret {h:Heap} {μ:Mu} {V:V} {v:Value} (r:VR h μ V v):FlR h μ (.ret V) (.ret v):=⟨v,rfl,r⟩
theorem FlR.pres {h h':Heap} {μ μ':Mu} (P:f6 μ h μ' h') {f:Flow} {Fl:Fl} (r:FlR h μ Fl f):FlR h' μ' Fl f:=by
 cases Fl with
 | ret _=>exact r.elim λv r=>⟨v,r.1,r.2.pres P⟩
 | _=>exact r
abbrev TT:Heap->Mu->Prop:=λU U=>True
section
variable {α β γ δ:Type} {c:Cx} {loc:f8} {own:b9} {E:XP} {Rel':Heap->Mu->δ->γ->Prop} {Rel:Heap->Mu->β->α->Prop} {Pre:Heap->Mu->Prop} {F:b9} {A:Around} {μ:Mu} {s s':Shared} {Q:β->f8->b9->Prop} {Q':β->b9->Prop} {QU:f8->b9->Prop} {a:α} {P:Prop} {t:Sem α} {RQ:α->Shared->Prop} {RE:Value->Shared->Prop}
theorem i7.go (S:St c loc own F A μ s) (x:i7 Rel c own F μ s.heap Q a s') (k:∀b l o m,Q b l o->Rel s'.heap m b a->St c l o F A m s'->f6 μ s.heap m s'.heap->FK (f9 own F) (f9 o F)->P):P:=by
 obtain⟨b,l,o,m,q,d,r,sr,P,K⟩:=x
 exact k b l o m q r ⟨S.ok,S.ar,sr,S.out.fk K,d⟩ P K
theorem t8.go {e:Value} (S:St c loc own F A μ s) (x:t8 c own F μ s.heap E e s') (k:∀C told tr l o m,E C told l o->XR s'.heap m tr e C told->St c l o F A m s'->f6 μ s.heap m s'.heap->FK (f9 own F) (f9 o F)->P):P:=by
 obtain⟨C,told,l,o,m,tr,q,d,r,sr,P,K⟩:=x
 exact k C told tr l o m q r ⟨S.ok,S.ar,sr,S.out.fk K,d⟩ P K
theorem T3.run (h:T3 Pre Rel c loc own t Q E) (S:St c loc own F A μ s) (p:Pre s.heap μ) (e:∀e s',t8 c own F μ s.heap E e s'->RE e s') (k:∀a s' b l o m,Q b l o->Rel s'.heap m b a->St c l o F A m s'->f6 μ s.heap m s'.heap->FK (f9 own F) (f9 o F)->RQ a s'):
  wpAny (model G.prog G.w) A t RQ RE s:=wpAny_mono (h F A μ s S p) (λU U y=>y.go S (k _ _)) e
theorem T3.runV (h:T3 Pre Rel c loc own t (λb l o=>l=loc/\Q' b o) E) (S:St c loc own F A μ s) (p:Pre s.heap μ) (e:∀e s',t8 c own F μ s.heap E e s'->RE e s') (k:∀a s' b o m,Q' b o->Rel s'.heap m b a->St c loc o F A m s'->f6 μ s.heap m s'.heap->FK (f9 own F) (f9 o F)->RQ a s'):
  wpAny (model G.prog G.w) A t RQ RE s:=h.run S p e λU U U U U U q r S' P' K'=>by obtain⟨rfl,q⟩:=q;exact k _ _ _ _ _ q r S' P' K'
theorem T3.runU {t:Sem Unit} {RQ:Unit->Shared->Prop} (h:T3 Pre D6 c loc own t (λ(_:Unit) l o=>QU l o) E) (S:St c loc own F A μ s) (p:Pre s.heap μ) (e:∀e s',t8 c own F μ s.heap E e s'->RE e s') (k:∀s' l o m,QU l o->St c l o F A m s'->f6 μ s.heap m s'.heap->FK (f9 own F) (f9 o F)->RQ () s'):
  wpAny (model G.prog G.w) A t RQ RE s:=h.run S p e λU U U U U U q U S P K=>k _ _ _ _ q S P K
theorem T3.ahead {o:b9} {l:f8} {m:Mu} {t:Sem γ} {QQ:δ->f8->b9->Prop} (P:f6 μ s.heap m s'.heap) (K:FK (f9 own F) (f9 o F)) (S:St c l o F A m s') (h:T3 Pre Rel' c l o t QQ E) (p:Pre s'.heap m):
  wpAny (model G.prog G.w) A t (i7 Rel' c own F μ s.heap QQ) (t8 c own F μ s.heap E) s':=
 wpAny_mono (h F A m s' S p) (λU U x=>x.lift P K) λU U x=>x.lift P K
end
abbrev Ev (c:Cx) (loc:f8) (own:b9) (e:Expr) (Q:V->b9->Prop) (E:XP):Prop:=
 T3 TT (z9) c loc own (eval e c.env) (λV l o=>l=loc/\Q V o) E
abbrev Ex (c:Cx) (loc:f8) (own:b9) (e:Stmt) (Q:Fl->f8->b9->Prop) (E:XP):Prop:=
 T3 TT (FlR) c loc own (exec e c.env) Q E
abbrev Exs (c:Cx) (loc:f8) (own:b9) (e:List Stmt) (Q:Fl->f8->b9->Prop) (E:XP):Prop:=
 T3 TT (FlR) c loc own (execs e c.env) Q E
abbrev Op1 (c:Cx) (loc:f8) (own:b9) (V₁:V) (t:Value->Sem Value) (Q:V->b9->Prop) (E:XP):Prop:=
 ∀v₁,T3 (λh μ=>VR h μ V₁ v₁) (z9) c loc own (t v₁) (λV l o=>l=loc/\Q V o) E
abbrev Op2 (c:Cx) (loc:f8) (own:b9) (V₁ V₂:V) (t:Value->Value->Sem Value) (Q:V->b9->Prop) (E:XP):Prop:=
 ∀v₁ v₂,T3 (λh μ=>VR h μ V₁ v₁/\VR h μ V₂ v₂) (z9) c loc own (t v₁ v₂) (λV l o=>l=loc/\Q V o) E
abbrev af8 (c:Cx) (loc:f8) (own:b9) (op:Operator) (V₁ V₂:V) (Q:V->b9->Prop) (E:XP):Prop:=Op2 c loc own V₁ V₂ (λa b=>binaryOp op a b) Q E
section
variable {c:Cx} {loc:f8} {own:b9} {E:XP}
theorem T3.release {Pre:Heap->Mu->Prop} {β:Type} {Rel:Heap->Mu->β->Unit->Prop} {b:β} {Q:β->f8->b9->Prop} {vs ks:List Value} (hr:∀h μ,Pre h μ->Rel h μ b ()) (hQ:Q b loc own):
  T3 Pre Rel c loc own (PySem.release vs ks) Q E:=
 λU U μ U S p=>wpAny_release ⟨b,loc,own,μ,hQ,S.dis,hr _ _ p,S.sr,f6.refl _ _,FK.refl _⟩
theorem T3.operate {Pre:Heap->Mu->Prop} (hP:Stable Pre) {vs:List Value} {t:Sem Value} {Q:V->f8->b9->Prop} (h:T3 Pre (z9) c loc own t Q E):T3 Pre (z9) c loc own (PySem.operate vs t) Q E:=by
 unfold PySem.operate
 refine T3.bind hP (T3.holding (h.mono (λU U x=>x) (λV l o q a=>?_) λU U U U x=>x))
 refine T3.bind (Rel:=λU U U U=>True) (β:=Unit) (L7 hP E0) (T3.release (b:=()) (λU U U=>trivial) λU=>?_)
 exact T3.pure (b:=V) (λU U x=>x.1.2) q
theorem bt7 (h:Ev c loc own l (λV₁ own₁=>Ev c loc own₁ r (λV₂ own₂=>af8 c loc own₂ op V₁ V₂ Q E) E) E):
  Ev c loc own (.BinOp l op r pos) Q E:=by
 show T3 TT (z9) c loc own (do let a <-eval l c.env;let b <-holding [a] (eval r c.env);standAt pos;operate [a,b] (binaryOp op a b)) _ E
 refine T3.bind B3 (h.mono (λU U x=>x) (λV₁ l₁ o₁ q a=>?_) λU U U U x=>x)
 rcases q with⟨rfl,q⟩
 refine T3.bind (L7 B3 E0) (T3.holding (T3.mono q (λU U U=>trivial) (λV₂ l₂ o₂ q₂ b=>?_) λU U U U x=>x))
 rcases q₂ with⟨rfl,q₂⟩
 exact T3.standAt (T3.operate (L7 (L7 B3 E0) E0) ((q₂ a b).pre λU U x=>⟨x.1.2,x.2⟩))
end
end
section
variable {c:Cx} {loc:f8} {own:b9} {E:XP}
theorem P3 (c:Cx) (loc:f8) (own:b9):r5 c loc own c.L=some (.frame c.env loc):=b5 _ _ _
theorem ax0 (c:Cx) (loc loc':f8) (own:b9):c7 (r5 c loc own) c.L (some (.frame c.env loc'))=r5 c loc' own:=c5 _ _ _ _
theorem W0 {c:Cx} (ok:c.Ok) (hc:c.comp=true) (loc:f8) (own:b9):r5 c loc own c.fL=some (.frame c.fenv c.floc):=by
 unfold r5
 rw[b7 (Ne.symm (ok.apart hc)),if_pos hc,b5]
theorem z0 {c:Cx} {loc:f8} {own:b9} {a:Addr} {o:Option O} (h:a≠c.L) (h2:c.comp=true->a≠c.fL):c7 (r5 c loc own) a o=r5 c loc (c7 own a o):=by
 unfold r5
 rw[n9 _ _ _ (Ne.symm h)]
 cases hc:c.comp with
 | false=>rfl
 | true=>simp only[if_true];rw[n9 _ _ _ (Ne.symm (h2 hc))]
theorem k9 {c:Cx} {loc:f8} {own:b9} {a:Addr} (h:a≠c.L) (h2:c.comp=true->a≠c.fL):r5 c loc own a=own a:=by
 unfold r5
 rw[b7 h]
 cases hc:c.comp with
 | false=>rfl
 | true=>simp only[if_true];exact b7 (h2 hc)
theorem D0 {c:Cx} (ok:c.Ok) {loc:f8} {own:b9} {a:Addr} (h:r5 c loc own a=none):a≠c.L/\(c.comp=true->a≠c.fL)/\own a=none:=by
 have h1:a≠c.L:=λq=>by rw[q,P3] at h;cases h
 have h2:c.comp=true->a≠c.fL:=λhc q=>by rw[q,W0 ok hc] at h;cases h
 exact⟨h1,h2,(k9 h1 h2).symm.trans h⟩
inductive N0 (x:Str) (ov:Option V):f8->f8->Prop
 | head {o:Option V} {r:f8}:N0 x ov ((x,o)::r) ((x,ov)::r)
 | tail {p:Str×Option V} {r r':f8}:N0 x ov r r'->N0 x ov (p::r) (p::r')
theorem N0.keys {x:Str} {ov:Option V} {l l':f8} (h:N0 x ov l l'):l'.map (·.1)=l.map (·.1):=by
 induction h with
 | head=>rfl
 | tail _ ih=>simp [ih]
theorem N0.mem {x:Str} {ov:Option V} {l l':f8} (h:N0 x ov l l'):∃o,(x,o)∈l:=by
 induction h with
 | head=>exact⟨_,.head _⟩
 | tail _ ih=>let ⟨o,h⟩:=ih;exact⟨o,.tail _ h⟩
theorem N0.each {x:Str} {ov:Option V} {l l':f8} (h:N0 x ov l l'):(l.map (·.1)).Nodup->∀y∈l',y=(x,ov)\/(y∈l/\y.1≠x):=by
 induction h with
 | @head o r=>
  intro nd y hy
  rcases cW1.mp hy with e | e
  ·exact .inl e
  ·refine .inr ⟨.tail _ e,λq=>?_⟩
   rw[cX3,cY9] at nd
   exact nd.1 (by rw[<-q];exact cW4 (f:=(·.1)) e)
 | @tail p r r' h ih=>
  intro nd y hy
  rw[cX3,cY9] at nd
  rcases cW1.mp hy with e | e
  ·subst e
   refine .inr ⟨.head _,λq=>nd.1 ?_⟩
   rcases h.mem with⟨o,ho⟩
   rw[q];exact cW4 (f:=(·.1)) ho
  ·rcases ih nd.2 y e with e | ⟨e,q⟩
   ·exact .inl e
   ·exact .inr ⟨.tail _ e,q⟩
theorem ce9 {A:Around} {F:b9} {μ:Mu} {s:Shared} {V:V} {v:Value} {Q:Mine.V->b9->Prop} (S:St c loc own F A μ s) (hQ:Q V own) (r:VR s.heap μ V v):i7 (z9) c own F μ s.heap (λV l o=>l=loc/\Q V o) v s:=
 ⟨V,loc,own,μ,⟨rfl,hQ⟩,S.dis,r,S.sr,f6.refl _ _,FK.refl _⟩
theorem bd7 {env:Env} {a:Addr} {loc:f8} {h:Heap} {μ:Mu} {x:Str} {v:V} (hf:ak8 h μ a env loc) (hm:(x,some v)∈loc):(∃m u,h.Ns a m/\env.kindOf x=some .local/\m x=some u/\VR h μ v u)\/(∃ad u,env.kindOf x=some .cell/\env.cells.lookup x=some ad/\h.IsCell ad (some u)/\VR h μ v u):=by
 obtain⟨m,hn,nd,pw,hl⟩:=hf
 rcases hl _ hm with⟨k,u,e,r⟩ | ⟨k,ad,cv,h1,h2,h3,h4,u,e,r⟩
 ·exact .inl ⟨m,u,hn,k,e,r⟩
 ·subst e;exact .inr ⟨ad,u,k,h1,h4,r⟩
theorem ab1 {x:Str} {pos:Pos} {v:V} {Q:V->b9->Prop} (hm:(x,some v)∈loc) (hQ:Q v own) (hd:(x == ("__debug__":Str))=false:=by decide +kernel):Ev c loc own (.Name x pos) Q E:=by
 intro F A μ s S _
 rcases bd7 (S.sr.chunk c.L _ (P3 c loc (f9 own F))).2.2 hm with⟨m,u,hn,k,e,r⟩ | ⟨ad,u,k,h1,h4,r⟩
 ·exact wpAny_Name (wpAny_loadName_local S.ok.kind k (S.ok.loc▸hn) e (ce9 S hQ r)) hd
 ·exact wpAny_Name (wpAny_loadName_cell S.ok.kind k h1 h4 (ce9 S hQ r)) hd
theorem bt8 {x:Str} {pos:Pos} {v:V} {a:Addr} {Q:V->b9->Prop} (hc:c.comp=true) (hm:(x,some v)∈c.floc) (hk:c.env.kindOf x=some .cell) (hfk:c.fenv.kindOf x=some .cell)
  (h1:c.fenv.cells.lookup x=some a) (h2:c.env.cells.lookup x=some a)
  (hQ:Q v own) (hd:(x == ("__debug__":Str))=false:=by decide +kernel):Ev c loc own (.Name x pos) Q E:=by
 intro F A μ s S _
 rcases bd7 (S.sr.chunk c.fL _ (W0 S.ok hc loc (f9 own F))).2.2 hm with⟨m,u,hn,k,e,r⟩ | ⟨ad,u,k,e1,h4,r⟩
 ·exact nomatch hfk.symm.trans k
 ·rw[Option.some.inj (h1.symm.trans e1)] at h2
  exact wpAny_Name (wpAny_loadName_cell S.ok.kind hk h2 h4 (ce9 S hQ r)) hd
structure T6:Prop where
 g:G.base.Ns mainGlobals G.mg
 b:G.base.Ns builtinsNs G.mb
 nolimit:G.base.NoLimit
 sysm:∃o,G.base.get? sysModules=some o
noncomputable def GV (x:Str) (V:V):Prop:=∃v,(G.mg x=some v\/(G.mg x=none/\G.mb x=some v))/\VR G.base (λU=>none) V v
theorem I3 {x:Str} {pos:Pos} {v:V} {Q:V->b9->Prop} (K:T6) (hv:GV x v) (hk:c.env.kindOf x=some .globalImplicit) (hQ:Q v own) (hd:(x == ("__debug__":Str))=false:=by decide +kernel):
  Ev c loc own (.Name x pos) Q E:=by
 intro F A μ s S _
 obtain⟨u,hu,r⟩:=hv
 have post:i7 (z9) c own F μ s.heap (λV l o=>l=loc/\Q V o) u s:=⟨v,loc,own,μ,⟨rfl,hQ⟩,S.dis,r.pres S.sr.ofBase,S.sr,f6.refl _ _,FK.refl _⟩
 have ng:s.heap.Ns c.env.globals G.mg:=S.ok.glob▸K.g.keeps S.sr.base
 have nb:s.heap.Ns c.env.builtins G.mb:=S.ok.blt▸K.b.keeps S.sr.base
 rcases hu with h | ⟨h1,h2⟩
 ·exact Name_function_global S.ok.kind hk (loadGlobal_global ng h post) hd
 ·exact Name_function_global S.ok.kind hk (loadGlobal_builtin ng h1 nb h2 post) hd
theorem aJ0 {env:Env} {a:Addr} {h h':Heap} {μ:Mu} {x:Str} {v:Value} {V:V} {loc':f8} {m:Str->Option Value} (P:f6 μ h μ h') (r:VR h μ V v) (pw:env.cells.Pairwise λx y=>x.2≠y.2) (k:env.kindOf x=some .local) (nd':(loc'.map (·.1)).Nodup)
  (each:∀y∈loc',y=(x,some V)\/(y∈loc/\y.1≠x)) (hl:∀y∈loc,bi7 h μ a env m y) (hn':h'.Ns a (λy=>if y=x then some v else m y)) (hs:∀b,b≠a->h'.get? b=h.get? b):ak8 h' μ a env loc':=by
 refine⟨_,hn',nd',pw,λy hy=>?_⟩
 rcases each y hy with e | ⟨e,ne⟩
 ·subst e;exact .inl ⟨k,v,if_pos rfl,r.pres P⟩
 ·rcases hl y e with⟨k',r'⟩ | ⟨k',a',cv',e1,e2,e3,⟨oc,g,d⟩,e5⟩
  ·exact .inl ⟨k',by rw[if_neg ne];exact r'.pres P⟩
  ·exact .inr ⟨k',a',cv',e1,e2,e3,⟨oc,(hs a' e3).trans g,d⟩,e5.pres P⟩
theorem aU0 {env:Env} {a ad:Addr} {h h':Heap} {μ:Mu} {x:Str} {v:Value} {V:V} {loc':f8} {m:Str->Option Value} (P:f6 μ h μ h') (r:VR h μ V v) (pw:env.cells.Pairwise λx y=>x.2≠y.2) (k:env.kindOf x=some .cell) (nd':(loc'.map (·.1)).Nodup)
  (h1:env.cells.lookup x=some ad) (h2:μ ad=some a) (h3:ad≠a)
  (each:∀y∈loc',y=(x,some V)\/(y∈loc/\y.1≠x)) (hl:∀y∈loc,bi7 h μ a env m y) (hn':h'.Ns a m) (hc:h'.IsCell ad (some v)) (hs:∀b,b≠ad->h'.get? b=h.get? b):ak8 h' μ a env loc':=by
 refine⟨_,hn',nd',pw,λy hy=>?_⟩
 rcases each y hy with e | ⟨e,ne⟩
 ·subst e;exact .inr ⟨k,ad,_,h1,h2,h3,hc,v,rfl,r.pres P⟩
 ·exact(hl y e).imp (λ⟨k',r'⟩=>⟨k',r'.pres P⟩) λ⟨k',a',cv',e1,e2,e3,e4,e5⟩=>
   ⟨k',a',cv',e1,e2,e3,let ⟨oc,g,d⟩:=e4;⟨oc,(hs a' λq=>ne (PySem.name_of_addr pw (mem_of_lookup e1) (q▸mem_of_lookup h1))).trans g,d⟩,e5.pres P⟩
theorem T3.store {V:V} (hu:N0 x (some V) loc loc') (hP:∀h μ,Pre h μ->VR h μ V v) (hQ:Q () loc' own):
  T3 Pre D6 c loc own (storeName c.env x v) Q E:=by
 intro F A μ s S p
 obtain⟨hL,-,m,hn,nd,pw,hl⟩:=S.sr.chunk c.L _ (P3 c loc (f9 own F))
 rcases hu.mem with⟨o,ho⟩
 have fin:∀{h':Heap} {ad:Addr} {tk:Nat},μ ad=some c.L->Heap.SameBut ad s.heap h'->(∃ob,h'.get? ad=some ob)->(f6 μ s.heap μ h'->ak8 h' μ c.L c.env loc')->i7 D6 c own F μ s.heap Q () {s with heap:=h',toks:=tk}:=λh2 hs' e f=>
  have st:=S.sr.turn (o':=.frame c.env loc') h2 hs' e f
  ⟨(),loc',own,μ,hQ,S.dis,rfl,ax0 c loc loc' (f9 own F)▸st.1,st.2,FK.refl _⟩
 rcases hl _ ho with⟨k,-⟩ | ⟨k,a,cv,h1,h2,h3,h4,-⟩
 ·refine wpAny_storeName_local k (S.ok.loc▸hn) (λh' hn' hs'=>?_) (by rw[S.ok.kind];rfl)
  rw[S.ok.loc] at hn' hs'
  exact fin hL hs' (bd5 hn') λP=>aJ0 P (hP _ _ p) pw k (hu.keys▸nd) (hu.each nd) hl hn' hs'.2
 ·exact wpAny_storeName_cell S.ok.kind k h1 h4 λh' hc' hs'=>fin h2 hs' (hc'.elim λo e=>⟨o,e.1⟩) λP=>aU0 P (hP _ _ p) pw k (hu.keys▸nd) h1 h2 h3 (hu.each nd) hl (hn.sameBut hs' (Ne.symm h3)) hc' hs'.2
theorem T3.bindName {V:V} (hu:N0 x (some V) loc loc') (hP:∀h μ,Pre h μ->VR h μ V v) (hQ:Q () loc' own):
  T3 Pre D6 c loc own (bindName c.env x v) Q E:=λF A μ s S p=>wpAny_bindName (T3.store hu hP hQ F A μ s S p)
section
variable {k:Nat} {pos:Pos} {Q:V->b9->Prop}
theorem leaf {V:V} (S:St c loc own F A μ s) (hQ:Q V own) (hh:s'.heap=s.heap) (hg:s'.gens=s.gens) (ho:s'.os=s.os) (hr:VR s.heap μ V v):
  i7 (z9) c own F μ s.heap (λV l o=>l=loc/\Q V o) v s':=⟨V,loc,own,μ,⟨rfl,hQ⟩,S.dis,hh▸hr,S.sr.same hh hg ho,hh▸f6.refl _ _,FK.refl _⟩
theorem bN0 (hQ:Q .none own):Ev c loc own (.Constant .none k pos) Q E:=λU U U U S U=>wpAny_pure (leaf S hQ rfl rfl rfl .none)
theorem bN1 (hQ:Q (.bool b) own):Ev c loc own (.Constant (.bool b) k pos) Q E:=λU U U U S U=>wpAny_pure (leaf S hQ rfl rfl rfl (.bool b))
theorem cf0 (hQ:Q (.int i) own):Ev c loc own (.Constant (.int i) k pos) Q E:=λU U U U S U=>wpAny_Constant_int (leaf S hQ rfl rfl rfl (.int i _))
theorem bt9 (hQ:Q (.str x) own):Ev c loc own (.Constant (.str x) k pos) Q E:=λU U U U S U=>wpAny_Constant_str (leaf S hQ rfl rfl rfl (.str x _))
theorem bu0 (hQ:Q (.bytes b) own):Ev c loc own (.Constant (.bytes b) k pos) Q E:=
 λU U U s S U=>(λU U U=>leaf (s':={s with toks:=s.toks+1}) S hQ rfl rfl rfl (.bytes b s.toks))
end
section
variable {a b:Int} {Q:V->b9->Prop}
noncomputable def ak9 (s:Shared) (R:V) (P:Value->Shared->Prop):Prop:=∀v s',(∀μ,VR s.heap μ R v)->s'.heap=s.heap->s'.gens=s.gens->s'.os=s.os->P v s'
theorem ak9.of (S:St c loc own F A μ s) (hQ:Q R own):ak9 s R (i7 (z9) c own F μ s.heap (λV l o=>l=loc/\Q V o)):=λU U r hh hg ho=>leaf S hQ hh hg ho (r μ)
theorem ak9.in {P:Value->Shared->Prop} (k:ak9 s (.int i) P):P (.int i u) {s with toks:=tk}:=k _ _ (λU=>.int _ _) rfl rfl rfl
theorem ak9.bo {P:Value->Shared->Prop} (k:ak9 s (.bool i) P):P (.bool i) {s with toks:=tk}:=k _ _ (λU=>.bool _) rfl rfl rfl
theorem ii (hQ:Q R own) (h:∀A s u w P X,ak9 s R P->wpAny (model G.prog G.w) A (t (.int a u) (.int b w)) P X s):Op2 c loc own (.int a) (.int b) t Q E:=by
 rintro _ _ F A μ s S ⟨⟨_,rfl⟩,⟨_,rfl⟩⟩
 exact h _ _ _ _ _ _ (.of S hQ)
theorem i1 (hQ:Q R own) (h:∀A s u P X,ak9 s R P->wpAny (model G.prog G.w) A (t (.int a u)) P X s):Op1 c loc own (.int a) t Q E:=by
 rintro _ F A μ s S ⟨_,rfl⟩
 exact h _ _ _ _ _ (.of S hQ)
theorem cr1 (hQ:Q (.int (a+b)) own):af8 c loc own .Add (.int a) (.int b) Q E:=ii hQ λU U U U U U k=>add_int k.in
theorem cr2 (hQ:Q (.int (a-b)) own):af8 c loc own .Sub (.int a) (.int b) Q E:=ii hQ λU U U U U U k=>sub_int k.in
theorem cr3 (hm:IntMulOk a b) (hQ:Q (.int (a*b)) own):af8 c loc own .Mult (.int a) (.int b) Q E:=ii hQ λU U U U U U k=>mul_int k.in hm
theorem cr4 (hb:b≠0) (hQ:Q (.int (a.fmod b)) own):af8 c loc own .Mod (.int a) (.int b) Q E:=ii hQ λU U U U U U k=>mod_int' hb k.in
theorem cr5 (hb:b≠0) (hp:Builtin.divisionGoesByPylong a b=false) (hQ:Q (.int (a.fdiv b)) own):af8 c loc own .FloorDiv (.int a) (.int b) Q E:=ii hQ λU U U U U U k=>floordiv_int hb k.in (.inl hp)
theorem cr6 (hQ:Q (.int (Builtin.bitAnd a b)) own):af8 c loc own .BitAnd (.int a) (.int b) Q E:=ii hQ λU U U U U U k=>and_int k.in
theorem cr7 (hb:0<=b) (hQ:Q (.int (a.fdiv (2 ^ b.toNat))) own):af8 c loc own .RShift (.int a) (.int b) Q E:=ii hQ λU U U U U U k=>rshift_int hb k.in
end
abbrev y7 (c:Cx) (loc:f8) (own:b9) (op:CmpOp) (V₁ V₂:V) (Q:V->b9->Prop) (E:XP):Prop:=Op2 c loc own V₁ V₂ (λa b=>compareOp op a b) Q E
section
variable {a b:Int} {Q:V->b9->Prop}
theorem cD3 (hQ:Q (.bool (a == b)) own):y7 c loc own .Eq (.int a) (.int b) Q E:=ii hQ λU U U U U U k=>eq_int k.bo
theorem cD4 (hQ:Q (.bool (a != b)) own):y7 c loc own .NotEq (.int a) (.int b) Q E:=ii hQ λU U U U U U k=>ne_int k.bo
theorem cD5 (hQ:Q (.bool (decide (a<b))) own):y7 c loc own .Lt (.int a) (.int b) Q E:=ii hQ λU U U U U U k=>lt_int k.bo
theorem cD6 (hQ:Q (.bool (decide (a<=b))) own):y7 c loc own .LtE (.int a) (.int b) Q E:=ii hQ λU U U U U U k=>le_int k.bo
theorem cD7 (hQ:Q (.bool (decide (b<a))) own):y7 c loc own .Gt (.int a) (.int b) Q E:=ii hQ λU U U U U U k=>gt_int k.bo
theorem cD8 (hQ:Q (.bool (decide (b<=a))) own):y7 c loc own .GtE (.int a) (.int b) Q E:=ii hQ λU U U U U U k=>ge_int k.bo
theorem cr8 (hQ:Q (.int (-a)) own):Op1 c loc own (.int a) (λv=>unaryOp .USub v) Q E:=i1 hQ λU U U U U k=>neg_int k.in
theorem bu1 (h:Ev c loc own x (λV o=>Op1 c loc o V (λv=>unaryOp op v) Q E) E):Ev c loc own (.UnaryOp op x pos) Q E:=by
 show T3 TT (z9) c loc own (do let v <-eval x c.env;standAt pos;holding [v] (unaryOp op v)) _ E
 refine T3.bind B3 (h.mono (λU U x=>x) (λV₁ l₁ o₁ q a=>?_) λU U U U x=>x)
 rcases q with⟨rfl,q⟩
 exact T3.standAt (T3.holding ((q a).pre λU U x=>x.2))
end
end
section
variable {c:Cx} {loc:f8} {own:b9} {E:XP}
abbrev cr9 (c:Cx) (loc:f8) (own:b9) (t:Sem Bool) (Q:Bool->b9->Prop) (E:XP):Prop:=T3 TT D6 c loc own t (λb l o=>l=loc/\Q b o) E
section
variable {α β γ δ:Type} {Pre:Heap->Mu->Prop} {Rel':Heap->Mu->δ->γ->Prop} {e:Expr}
theorem Ev.bind {f:Value->Sem γ} {Q:δ->f8->b9->Prop} (h:Ev c loc own e (λV o=>∀a,T3 (λh μ=>VR h μ V a) Rel' c loc o (f a) Q E) E):T3 TT Rel' c loc own (eval e c.env >>= f) Q E:=
 T3.bind B3 (T3.mono h (λU U x=>x) (λU U U q a=>q.1▸(q.2 a).pre λU U x=>x.2) λU U U U x=>x)
theorem Ev.bindP {vs:List Value} {f:Value->Sem γ} {Q:δ->f8->b9->Prop} (hP:Stable Pre) (h:Ev c loc own e (λV o=>∀a,T3 (λh μ=>Pre h μ/\VR h μ V a) Rel' c loc o (f a) Q E) E):T3 Pre Rel' c loc own (holding vs (eval e c.env) >>= f) Q E:=
 T3.bind hP (T3.holding (T3.mono h (λU U U=>trivial) (λU U U q a=>q.1▸q.2 a) λU U U U x=>x))
theorem Tst.bind {t:Sem Bool} {f:Bool->Sem γ} {Q:δ->f8->b9->Prop} (h:cr9 c loc own t (λb o=>T3 TT Rel' c loc o (f b) Q E) E):T3 TT Rel' c loc own (t >>= f) Q E:=
 T3.bind B3 (T3.mono h (λU U x=>x) (λU U U q a=>q.1▸λF A μ s S p=>p.2▸q.2 F A μ s S trivial) λU U U U x=>x)
theorem T3.boolOut {t:Sem Value} {Q:Bool->b9->Prop} (hP:Stable Pre) {vs:List Value} (h:T3 Pre (z9) c loc own t (λV l o=>l=loc/\∃b,V=.bool b/\Q b o) E) (f:Value->Sem Bool) (hf:∀b l o,Q b o->l=loc->T3 (λU U=>True) D6 c l o (f (.bool b)) (λb l o=>l=loc/\Q b o) E):
  T3 Pre D6 c loc own (PySem.operate vs t >>= f) (λb l o=>l=loc/\Q b o) E:=
 T3.bind hP (T3.mono (T3.operate hP h) (λU U x=>x) (λV l o q a=>by
  rcases q with⟨rfl,b,rfl,q⟩
  exactλF A μ s S p=>p.2▸hf b l o q rfl F A μ s S trivial) λU U U U x=>x)
end
theorem i7.change {α β γ δ:Type} {Rel:Heap->Mu->β->α->Prop} {Rel':Heap->Mu->δ->γ->Prop} {F:b9} {μ:Mu} {h:Heap} {Q:β->f8->b9->Prop} {Q':δ->f8->b9->Prop} {a:α} {a':γ} {s':Shared} (x:i7 Rel c own F μ h Q a s')
  (f:∀b l o,Q b l o->∀h' μ',Rel h' μ' b a->∃b',Q' b' l o/\Rel' h' μ' b' a'):i7 Rel' c own F μ h Q' a' s':=
 x.rec λb l o m q R=>(f b l o q _ _ R.r).elim λb' q'=>⟨b',l,o,m,q'.1,R.d,q'.2,R.sr,R.P,R.K⟩
theorem St.after {α β:Type} {Rel:Heap->Mu->β->α->Prop} {F:b9} {A:Around} {μ:Mu} {s s':Shared} {a:α} {b:β} {l:f8} {o:b9} {m:Mu} (S:St c loc own F A μ s) (R:bd6 Rel c own F μ s.heap a s' b l o m):St c l o F A m s':=
 ⟨S.ok,S.ar,R.sr,S.out.fk R.K,R.d⟩
theorem T3.on {α β γ δ:Type} {Pre:Heap->Mu->Prop} {Rel:Heap->Mu->β->α->Prop} {Rel':Heap->Mu->δ->γ->Prop} {F:b9} {A:Around} {μ:Mu} {s s':Shared} {a:α} {b:β} {l:f8} {o:b9} {m:Mu} {t:Sem γ} {Q:δ->f8->b9->Prop}
  (S:St c loc own F A μ s) (R:bd6 Rel c own F μ s.heap a s' b l o m) (h:T3 Pre Rel' c l o t Q E) (p:Pre s'.heap m):wpAny (model G.prog G.w) A t (i7 Rel' c own F μ s.heap Q) (t8 c own F μ s.heap E) s':=
 wpAny_mono (h F A m s' (S.after R) p) (λU U x=>x.lift R.P R.K) λU U x=>x.lift R.P R.K
theorem am0 {Q:Fl->f8->b9->Prop} (h:Q .next loc own):Exs c loc own [] Q E:=T3.pure (b:=Fl.next) (λU U U=>.next) h
theorem ab2 {st:Stmt} {rest:List Stmt} {Q:Fl->f8->b9->Prop} (h:Ex c loc own st (λF l o=>match F with | .next=>Exs c l o rest Q E | F=>Q F l o) E):Exs c loc own (st::rest) Q E:=by
 intro F A μ s S p
 refine wpAny_execs_cons (h.run S p (λU U x=>x) λf s' Fl l o m q r S' P K=>?_)
 cases Fl with
 | next=>cases r;exact T3.ahead P K S' q trivial
 | brk=>cases r;exact⟨_,l,o,m,q,S'.dis,.brk,S'.sr,P,K⟩
 | cont=>cases r;exact⟨_,l,o,m,q,S'.dis,.cont,S'.sr,P,K⟩
 | ret v=>rcases r with⟨v,rfl,r⟩;exact⟨_,l,o,m,q,S'.dis,.ret r,S'.sr,P,K⟩
theorem bi8 {e:Expr} {pos:Pos} {Q:Fl->f8->b9->Prop} (h:Ev c loc own e (λV o=>Q (.ret V) loc o) E):Ex c loc own (.Return (some e) pos) Q E:=λF A μ s S p=>
 wpAny_Return_some (wpAny_mono (h F A μ s S p) (λU U x=>x.change λV U U q U U r=>⟨.ret V,q.1▸q.2,.ret r⟩) λU U x=>x)
theorem av0 {pos:Pos} {Q:Fl->f8->b9->Prop} (h:Q (.ret .none) loc own):Ex c loc own (.Return none pos) Q E:=
 T3.standAt (T3.pure (b:=Fl.ret V.none) (λU U U=>.ret .none) h)
theorem bN2 {e:Expr} {pos:Pos} {Q:Fl->f8->b9->Prop} (h:Ev c loc own e (λU o=>Q .next loc o) E) (hs:swapsWith e none pos.line c.env=pure false:=by rfl):Ex c loc own (.Expr e pos) Q E:=λF A μ s S p=>
 wpAny_Expr_any (wpAny_mono (h F A μ s S p) (λU U x=>x.change λU U U q U U U=>⟨.next,q.1▸q.2,.next⟩) λU U x=>x) (by unfold interactive;rw[S.ok.kind];rfl) hs
theorem X6 {x:Str} {pos' pos:Pos} {e:Expr} {Q:Fl->f8->b9->Prop} (h:Ev c loc own e (λV o=>∃loc',N0 x (some V) loc loc'/\Q .next loc' o) E)
  (hs:swapsWith e (some (.Name x pos')) pos.line c.env=pure false:=by rfl):Ex c loc own (.Assign [.Name x pos'] e pos) Q E:=by
 intro F A μ s S p
 refine wpAny_Assign_Name (wpAny_mono (h F A μ s S p) (λv s' x=>?_) λU U x=>x) hs
 obtain⟨V,l,o,m,⟨rfl,loc',u,q⟩,R⟩:=x
 exact wpAny_mono (T3.on S R (T3.store (E:=E) (Pre:=λh μ=>VR h μ V v) (Q:=λU l o=>Q .next l o) u (λU U x=>x) q) R.r) (λU U y=>y.change λU U U q U U U=>⟨.next,q,.next⟩) λU U x=>x
abbrev Tst (c:Cx) (loc:f8) (own:b9) (e:Expr) (Q:Bool->b9->Prop) (E:XP):Prop:=
 T3 TT D6 c loc own (isTrue e c.env (eval e c.env)) (λb l o=>l=loc/\Q b o) E
abbrev Z1 (c:Cx) (loc:f8) (own:b9) (op:BoolOp) (es:List Expr) (Q:Bool->b9->Prop) (E:XP):Prop:=
 T3 TT D6 c loc own (allTrue op es c.env) (λb l o=>l=loc/\Q b o) E
theorem T3.truthyB {Pre:Heap->Mu->Prop} {b:Bool} {v:Value} {Q:Bool->f8->b9->Prop} (hP:∀h μ,Pre h μ->VR h μ (.bool b) v) (hQ:Q b loc own):T3 Pre D6 c loc own (truthy v) Q E:=λU U μ U S p=>
 (show v=.bool b from hP _ _ p)▸wpAny_truthy_bool ⟨b,loc,own,μ,hQ,S.dis,rfl,S.sr,f6.refl _ _,FK.refl _⟩
theorem T3.truthyAt {b:Bool} {vs:List Value} {Q:Bool->b9->Prop} (hQ:Q b own):cr9 c loc own (PySem.holding vs (truthy (.bool b))) Q E:=T3.holding (T3.truthyB (λU U U=>rfl) ⟨rfl,hQ⟩)
theorem T3.ofBool {α β:Type} {Rel:Heap->Mu->β->α->Prop} {Q:β->f8->b9->Prop} {b:Bool} {f:Value->Sem α} (h:T3 TT Rel c loc own (f (.bool b)) Q E) (a:Value):T3 (λh μ=>VR h μ (.bool b) a) Rel c loc own (f a) Q E:=
 λF A μ s S p=>(show a=.bool b from p)▸h F A μ s S trivial
theorem bi9 {e':Expr} {Q:Bool->b9->Prop} (h:Ev c loc own e' (λV o=>∃b,V=.bool b/\Q b o) E)
  (he:∀whole,isTrue e' c.env whole=(do let v <-whole;standAt e'.pos;holding [v] (truthy v)):=by intro _;rfl):Tst c loc own e' Q E:=by
 unfold Tst
 rw[he]
 exact Ev.bind (h.mono (λU U x=>x) (λV U U q=>⟨q.1,λa=>let ⟨b,e,q⟩:=q.2;e▸T3.ofBool (f:=λv=>do standAt e'.pos;holding [v] (truthy v)) (T3.standAt (T3.truthyAt q)) a⟩) λU U U U x=>x)
theorem bN3 {x:Expr} {pos:Pos} {Q:Bool->b9->Prop} (h:Tst c loc own x (λb o=>Q (!b) o) E):Tst c loc own (.UnaryOp .Not x pos) Q E:=
 Tst.bind (f:=λb=>Pure.pure (!b)) (h.mono (λU U x=>x) (λb U U q=>⟨q.1,T3.pure (b:=!b) (λU U U=>rfl) ⟨rfl,q.2⟩⟩) λU U U U x=>x)
theorem bu2 {op:BoolOp} {es:List Expr} {pos:Pos} {Q:Bool->b9->Prop} (h:Z1 c loc own op es Q E):Tst c loc own (.BoolOp op es pos) Q E:=h
theorem ao5 {op:BoolOp} {Q:Bool->b9->Prop} (h:Q (op == .And) own):Z1 c loc own op [] Q E:=T3.pure (b:=(op == .And)) (λU U U=>rfl) ⟨rfl,h⟩
theorem ao6 {x:Expr} {es:List Expr} {Q:Bool->b9->Prop} (h:Tst c loc own x (λb o=>if b then Z1 c loc o .And es Q E else Q false o) E):Z1 c loc own .And (x::es) Q E:=
 Tst.bind (f:=λt=>match BoolOp.And,t with | .And,false=>Pure.pure false | .Or,true=>Pure.pure true | _,_=>allTrue .And es c.env) (h.mono (λU U x=>x) (λb U U q=>⟨q.1,b.rec (λq=>T3.pure (b:=false) (λU U U=>rfl) ⟨rfl,q⟩) (λq=>q) q.2⟩) λU U U U x=>x)
theorem ax1 {x:Expr} {es:List Expr} {Q:Bool->b9->Prop} (h:Tst c loc own x (λb o=>if b then Q true o else Z1 c loc o .Or es Q E) E):Z1 c loc own .Or (x::es) Q E:=
 Tst.bind (f:=λt=>match BoolOp.Or,t with | .And,false=>Pure.pure false | .Or,true=>Pure.pure true | _,_=>allTrue .Or es c.env) (h.mono (λU U x=>x) (λb U U q=>⟨q.1,b.rec (λq=>q) (λq=>T3.pure (b:=true) (λU U U=>rfl) ⟨rfl,q⟩) q.2⟩) λU U U U x=>x)
abbrev aC4 (c:Cx) (loc:f8) (own:b9) (pos:Pos) (op:BoolOp) (es:List Expr) (Q:V->b9->Prop) (E:XP):Prop:=
 T3 TT (z9) c loc own (boolOp pos op (evalEach es c.env)) (λV l o=>l=loc/\Q V o) E
theorem bN4 {op:BoolOp} {es:List Expr} {pos:Pos} {Q:V->b9->Prop} (h:aC4 c loc own pos op es Q E):Ev c loc own (.BoolOp op es pos) Q E:=h
theorem aU1 {op:BoolOp} {e:Expr} {pos:Pos} {Q:V->b9->Prop} (h:Ev c loc own e Q E):aC4 c loc own pos op [e] Q E:=h
theorem aJ1 {op:BoolOp} {e:Expr} {pos:Pos} {r:Value->Bool->Sem Value} {Q:V->b9->Prop} (h:Ev c loc own e (λV o=>∃b,V=.bool b/\T3 TT (z9) c loc o (r (.bool b) b) (λV l o=>l=loc/\Q V o) E) E):
  T3 TT (z9) c loc own (do let v <-eval e c.env;standAt pos;let t <-holding [v] (truthy v);r v t) (λV l o=>l=loc/\Q V o) E:=
 Ev.bind (h.mono (λU U x=>x) (λV U U q=>⟨q.1,λa=>q.2.elim λb q=>q.1▸T3.ofBool (f:=λa=>do standAt pos;let t <-holding [a] (truthy a);r a t) (T3.standAt (Tst.bind (T3.truthyAt q.2))) a⟩) λU U U U x=>x)
theorem aU2 {e e':Expr} {es:List Expr} {pos:Pos} {Q:V->b9->Prop} (h:Ev c loc own e (λV o=>∃b,V=.bool b/\if b then aC4 c loc o pos .And (e'::es) Q E else Q (.bool false) o) E):
  aC4 c loc own pos .And (e::e'::es) Q E:=
 aJ1 (op:=.And) (r:=λv t=>match BoolOp.And,t with | .And,false | .Or,true=>Pure.pure v | _,_=>boolOp pos .And (evalEach (e'::es) c.env)) (h.mono (λU U x=>x) (λV U U q=>⟨q.1,q.2.elim λb q=>⟨b,q.1,b.rec (λq=>T3.pure (b:=Mine.V.bool false) (λU U U=>rfl) ⟨rfl,q⟩) (λq=>q) q.2⟩⟩) λU U U U x=>x)
theorem cf1 {l r:Expr} {op:CmpOp} {pos:Pos} {Q:V->b9->Prop} (h:Ev c loc own l (λV₁ o₁=>Ev c loc o₁ r (λV₂ o₂=>y7 c loc o₂ op V₁ V₂ Q E) E) E) (hm:behindInMarks op r=false:=by rfl):
  Ev c loc own (.Compare l [op] [r] pos) Q E:=by
 show T3 TT (z9) c loc own (do compareChain pos (<-eval l c.env) [op] [markedBehindIn op r (eval r c.env)]) _ E
 unfold markedBehindIn
 rw[hm]
 exact Ev.bind (h.mono (λU U x=>x) (λV₁ U U q=>⟨q.1,λa=>Ev.bindP E0 (q.2.mono (λU U x=>x) (λV₂ U U q=>⟨q.1,λb=>T3.standAt (T3.operate (L7 E0 E0) (q.2 a b))⟩) λU U U U x=>x)⟩) λU U U U x=>x)
abbrev cD9 (c:Cx) (loc:f8) (own:b9) (op:CmpOp) (V₁ V₂:V) (Q:Bool->b9->Prop) (E:XP):Prop:=y7 c loc own op V₁ V₂ (λV o=>∃b,V=.bool b/\Q b o) E
theorem bu3 {op:CmpOp} {r:Expr} {pos:Pos} {Q:Bool->b9->Prop} {V₁:V} {a:Value} (h:Ev c loc own r (λV₂ o₂=>cD9 c loc o₂ op V₁ V₂ Q E) E):
  T3 (λh μ=>VR h μ V₁ a) D6 c loc own (testChain pos a [op] [eval r c.env]) (λb l o=>l=loc/\Q b o) E:=
 Ev.bindP E0 (h.mono (λU U x=>x) (λV₂ U U q=>⟨q.1,λb=>T3.standAt (T3.boolOut (L7 E0 E0) (q.2 a b) _ λU U U q e=>e▸T3.truthyAt q)⟩) λU U U U x=>x)
theorem bN5 (h:Ev c loc own l (λV₁ o₁=>Ev c loc o₁ r (λV₂ o₂=>y7 c loc o₂ op V₁ V₂ (λV o=>∃b,V=.bool b/\Q b o) E) E) E)
  (hm:behindInMarks op r=false:=by rfl):Tst c loc own (.Compare l [op] [r] pos) Q E:=by
 show T3 TT D6 c loc own (do testChain pos (<-eval l c.env) [op] [markedBehindIn op r (eval r c.env)]) _ E
 unfold markedBehindIn
 rw[hm]
 exact Ev.bind (h.mono (λU U x=>x) (λV₁ U U q=>⟨q.1,λa=>bu3 q.2⟩) λU U U U x=>x)
theorem bu4 (h:Ev c loc own l (λV₁ o₁=>Ev c loc o₁ r (λV₂ o₂=>y7 c loc o₂ op V₁ V₂ (λV o=>∃b,V=.bool b/\if b then
   Ev c loc o r' (λV₃ o₃=>y7 c loc o₃ op' V₂ V₃ (λV o=>∃b,V=.bool b/\Q b o) E) E else Q false o) E) E) E)
  (hm':behindInMarks op' r'=false:=by rfl):Tst c loc own (.Compare l [op,op'] [r,r'] pos) Q E:=by
 show T3 TT D6 c loc own (do testChain pos (<-eval l c.env) [op,op'] [eval r c.env,markedBehindIn op' r' (eval r' c.env)]) _ E
 unfold markedBehindIn
 rw[hm']
 refine Ev.bind (h.mono (λU U x=>x) (λV₁ U U q=>⟨q.1,λa=>Ev.bindP E0 (q.2.mono (λU U x=>x) (λV₂ l o q=>⟨q.1,λb=>T3.standAt ?_⟩) λU U U U x=>x)⟩) λU U U U x=>x)
 refine T3.bind (L7 E0 E0) (T3.holding (T3.mono (q.2 a b) (λU U x=>x) (λV l o q v=>?_) λU U U U x=>x))
 rcases q with⟨rfl,bb,rfl,q⟩
 refine T3.bind (β:=Unit) (L7 (L7 E0 E0) E0) (Rel:=λU U U U=>True) (T3.release (b:=()) (λU U U=>trivial) λU=>?_)
 intro F A μ s S p
 obtain rfl:v=.bool bb:=p.1.2
 refine T3.bind (β:=Bool) (Pre:=λh μ=>VR h μ V₂ b) E0 (Rel:=D6) (T3.holding (T3.truthyB (b:=bb) (λU U U=>rfl) λt=>?_)) F A μ s S p.1.1.2
 intro F A μ s S p
 obtain rfl:bb=t:=p.2
 cases bb with
 | false=>exact T3.pure (Pre:=TT) (b:=false) (λU U p=>rfl) ⟨rfl,q⟩ F A μ s S trivial
 | true=>exact bu3 q F A μ s S p.1
theorem cs0 {e:Expr} {a b:List Stmt} {pos:Pos} {Q:Fl->f8->b9->Prop} (h:Tst c loc own e (λt o=>if t then Exs c loc o a Q E else Exs c loc o b Q E) E):Ex c loc own (.If e a b pos) Q E:=by
 intro F A μ s S p
 refine wpAny_If (h.runV S p (λU U x=>x) λv s' t o m q r S' P K=>?_)
 obtain rfl:t=v:=r
 cases t with
 | true=>exact T3.ahead P K S' q trivial
 | false=>exact T3.ahead P K S' q trivial
theorem bu5 {e a b:Expr} {pos:Pos} {Q:V->b9->Prop} (h:Tst c loc own e (λt o=>if t then Ev c loc o a Q E else Ev c loc o b Q E) E):Ev c loc own (.IfExp e a b pos) Q E:=by
 intro F A μ s S p
 refine wpAny_IfExp (h.runV S p (λU U x=>x) λv s' t o m q r S' P K=>?_)
 obtain rfl:t=v:=r
 cases t with
 | true=>exact T3.ahead P K S' q trivial
 | false=>exact T3.ahead P K S' q trivial
theorem bj0 (h:Tst c loc own e (λt o=>if t then Tst c loc o a Q E else Tst c loc o b Q E) E):Tst c loc own (.IfExp e a b pos) Q E:=
 Tst.bind (f:=λt=>if t then isTrue a c.env (eval a c.env) else isTrue b c.env (eval b c.env)) (h.mono (λU U x=>x) (λt U U q=>⟨q.1,t.rec (λq=>q) (λq=>q) q.2⟩) λU U U U x=>x)
end
section
variable {own:b9} {μ:Mu}
theorem bu6 {h h':Heap} {a:Addr} {m:Str->Option Value} (hn:h.Ns a m) (k:∀o,h.get? a=some o->∃sl,h'.get? a=some {o with slots:=sl}):h'.Ns a m:=by
 obtain⟨o,es,ep,ho,hd,r⟩:=hn
 rcases k o ho with⟨sl,e⟩
 exact⟨_,es,ep,e,hd,r⟩
theorem SR.loose {s s':Shared} (S:SR own μ s) (hg:s'.gens=s.gens) (hos:s'.os=s.os) (P:f6 μ s.heap μ s'.heap)
  (hb:∀b o,G.base.get? b=some o->s'.heap.get? b=some o)
  (hk:∀b ob a,μ b=some a->s.heap.get? b=some ob->s'.heap.get? b=some ob\/(b=a/\(∃e l,own a=some (.frame e l))/\∃sl,s'.heap.get? b=some {ob with slots:=sl})):SR own μ s':=by
 have there:∀b a ob,μ b=some a->s.heap.get? b=some ob->∃ob,s'.heap.get? b=some ob:=λb a ob e g=>by
  rcases hk b ob a e g with q | ⟨_,_,sl,q⟩
  ·exact⟨_,q⟩
  ·exact⟨_,q⟩
 refine⟨hg.trans S.gens,hos.trans S.os,hb,S.baseMu,λa o e=>?_,λb a e=>⟨(S.dom b a e).1,let ⟨ob,g⟩:=(S.dom b a e).2;there b a ob e g⟩⟩
 obtain⟨h1,⟨ob,h2⟩,h3⟩:=S.chunk a o e
 refine⟨h1,there a a ob h1 h2,?_⟩
 by_cases hf:∃env loc,o=.frame env loc
 ·rcases hf with⟨env,loc,rfl⟩
  obtain⟨m,hn,nd,pw,hl⟩:=h3
  refine⟨m,bu6 hn λob g=>?_,nd,pw,λx hx=>?_⟩
  ·rcases hk a ob a h1 g with q | ⟨_,_,q⟩
   ·exact⟨ob.slots,q⟩
   ·exact q
  ·rcases hl x hx with⟨k,v⟩ | ⟨k,c,cv,e1,e2,e3,e4,e5⟩
   ·exact .inl ⟨k,v.pres P⟩
   ·obtain⟨oc,g,d⟩:=e4
    refine .inr ⟨k,c,cv,e1,e2,e3,?_,e5.pres P⟩
    rcases hk c oc a e2 g with q | ⟨q,_⟩
    ·exact⟨oc,q,d⟩
    ·exact absurd q e3
 ·refine K7.keep P (λb ob q g=>?_) (λU q=>q) h1 h3
  rcases hk b ob a q g with q | ⟨_,⟨env,l,q⟩,_⟩
  ·exact q
  ·rw[e] at q;cases q;exact absurd ⟨_,_,rfl⟩ hf
theorem SR.fields {s:Shared} {a:Addr} {o:Obj} {vs:Array Value} {f:Obj->Obj} (S:SR own μ s) (ho:s.heap.get? a=some o) (hd:o.data=.fields vs) (hm:μ a=none) (hb:G.base.get? a=none):
  SR own μ {s with heap:=s.heap.update a f}/\f6 μ s.heap μ (s.heap.update a f):=by
 have hs:Heap.SameBut a s.heap (s.heap.update a f):=Heap.SameBut.update ..
 have P:f6 μ s.heap μ (s.heap.update a f):=⟨λb o' e U d=>(hs.2 b λq=>by subst q;rw[ho] at e;cases e;exact d _ hd).trans e,λU U U e U=>e⟩
 refine⟨S.loose rfl rfl P (λb o' e=>(hs.2 b λq=>by subst q;rw[hb] at e;cases e).trans (S.base b o' e)) λb ob c e g=>.inl ((hs.2 b λq=>by subst q;rw[hm] at e;cases e).trans g),P⟩
theorem XR.pres {h h':Heap} {tr:Bool} {e:Value} {C:Addr} {told:V} {μ':Mu} (X:XR h μ tr e C told) (P:f6 μ h μ' h') (k:∀b o vs,h.get? b=some o->o.data=.fields vs->μ b=none->h'.get? b=some o/\μ' b=none):XR h' μ' tr e C told:=by
 obtain⟨ea,oe,vs,dx,rfl,h1,h2,h3,h4,h5,h6,h7,h8,h9⟩:=X
 rcases k _ _ _ h1 h3 h5 with⟨k1,k2⟩
 refine⟨ea,oe,vs,dx,rfl,k1,h2,h3,h4,k2,h6,h7,h8.pres P,h9.imp id ?_⟩
 intro q1_
 obtain⟨T,oT,ts,a,b,c,d,e,f,g⟩:=q1_
 rcases k _ _ _ c d f with⟨k3,k4⟩
 exact⟨T,oT,ts,a,b,k3,d,e,k4,g⟩
theorem get?_update {h:Heap} {a b:Addr} {f:Obj->Obj} (hab:a≠b):(h.update a f).get? b=h.get? b:=Heap.get?_update_other h f hab
theorem P4 {M:Model} {A:Around} {E:Value->Shared->Prop} {s:Shared} {e:Value} {C:Addr} {told:V} {tr:Bool} {fr:Option Addr} {Q:Unit->Shared->Prop} (S:SR own μ s) (X:XR s.heap μ tr e C told)
  (hQ:∀h',SR own μ {s with heap:=h'}->f6 μ s.heap μ h'->XR h' μ tr e C told->Q () {s with heap:=h'}):wpAny M A (setFlight e fr) Q E s:=by
 obtain⟨ea,oe,vs,dx,rfl,h1,h2,h3,h4,h5,h6,h7,h8,h9⟩:=X
 unfold setFlight
 rcases h9 with⟨rfl,t⟩ | ⟨T,oT,ts,t,hne,g,d,sz,m,b⟩
 ·refine wpAny_bind (wpAny_field h1 h3 t ?_)
  rw[if_neg (by simp)]
  exact wpAny_pure (hQ s.heap S (f6.refl _ _) ⟨ea,oe,vs,dx,rfl,h1,h2,h3,h4,h5,h6,h7,h8,.inl ⟨rfl,t⟩⟩)
 ·refine wpAny_bind (wpAny_field h1 h3 t ?_)
  rw[if_pos (by simp)]
  refine wpAny_setField g d sz ?_
  have r:=S.fields (f:=Obj.mapFields (·.setIfInBounds 3 (fr.elim .none λf=>rawInt f))) g d m b
  have hd':=Obj.data_mapFields d (·.setIfInBounds 3 (fr.elim .none λf=>rawInt f))
  exact hQ _ r.1 r.2 ⟨ea,oe,vs,dx,rfl,(get?_update hne).trans h1,h2,h3,h4,h5,h6,h7,h8.pres r.2,.inr ⟨T,_,_,t,hne,Heap.get?_update_self _ g (Obj.isFreed_of_fields hd'),hd',by simpa using sz,m,b⟩⟩
theorem bj1 {h:Heap} {envs:List Env} {s:Shared} (S:SR own μ s) (e:s.heap=h) (ho:y1 envs own):h.FunFrames G.base envs:=by
 subst e
 induction envs with
 | nil=>trivial
 | cons x r ih=>
  obtain⟨k,L,e',l,hf,hL⟩:=ho x (.head _)
  obtain⟨h1,h2,m,⟨o,es,ep,h3,h4,_⟩,_⟩:=S.chunk L _ hL
  refine⟨k,⟨L,o,hf,?_,h3,λvs q=>by rw[h4] at q;cases q⟩,ih λy hy=>ho y (.tail _ hy)⟩
  cases q:G.base.get? L with
  | none=>rfl
  | some ob=>have:=S.baseMu L _ q;rw[h1] at this;cases this
theorem SR.slots {s:Shared} {h':Heap} {envs:List Env} (S:SR own μ s) (ho:y1 envs own) (hs:Heap.SlotsOnly (envs.filterMap (·.frame)) s.heap h'):
  SR own μ {s with heap:=h'}/\f6 μ s.heap μ h'/\∀b o vs,s.heap.get? b=some o->o.data=.fields vs->h'.get? b=some o:=by
 have own_:∀b,b∈envs.filterMap (·.frame)->∃e l,own b=some (.frame e l):=by
  intro b hb
  obtain⟨x,hx,hf⟩:=dl8.mp hb
  obtain⟨_,L,e',l,hf',hL⟩:=ho x hx
  rw[hf] at hf';cases hf'
  exact⟨e',l,hL⟩
 have P:f6 μ s.heap μ h':=⟨λb o e m U=>(hs.2.1 b λhb=>by obtain⟨e',l,q⟩:=own_ b hb;rw[(S.chunk b _ q).1] at m;cases m).trans e,λU U U e U=>e⟩
 refine⟨S.loose rfl rfl P (λb o e=>(hs.2.1 b λhb=>?_).trans (S.base b o e)) λb ob a e g=>?_,P,λb o vs e d=>?_⟩
 ·obtain⟨e',l,q⟩:=own_ b hb
  have:=S.baseMu b _ e;rw[(S.chunk b _ q).1] at this;cases this
 ·by_cases hb:b∈envs.filterMap (·.frame)
  ·obtain⟨e',l,q⟩:=own_ b hb
   have h1:=(S.chunk b _ q).1
   rw[e] at h1;cases h1
   exact .inr ⟨rfl,⟨e',l,q⟩,hs.2.2 b ob g⟩
  ·exact .inl ((hs.2.1 b hb).trans g)
 ·refine(hs.2.1 b λhb=>?_).trans e
  obtain⟨e',l,q⟩:=own_ b hb
  obtain⟨_,_,m,⟨o',es,ep,h3,h4,_⟩,_⟩:=S.chunk b _ q
  rw[e] at h3;cases h3;rw[d] at h4;cases h4
theorem bu7 {M:Model} {A:Around} {E:Value->Shared->Prop} {s:Shared} {env fenv:Env} {outer:List Env} {L:Addr} {Q:Value->Shared->Prop} (hfr:A.frames=some (fenv::outer)) (hl:s.heap.FunFrames G.base (fenv::outer))
  (hf:env.frame=some L) (hf':fenv.frame=some L) (h:∀h',Heap.SlotsOnly ((fenv::outer).filterMap (·.frame)) s.heap h'->Q (.ref L) {s with heap:=h'}):wpAny M A (PySem.frameOf env) Q E s:=by
 unfold PySem.frameOf
 refine wpAny_bind (wpAny_frameEnvs hfr ?_)
 have hdw:((fenv::outer).dropWhile λx=>x.frame != env.frame)=fenv::outer:=by rw[List.dropWhile,hf,hf'];simp
 rw[hdw]
 unfold frameObject
 refine wpAny_bind (wpAny_bind (wpAny_readyFrames_fun hl λh₁ hs₁=>wpAny_pure ?_))
 rw[hf']
 exact wpAny_pure (h h₁ hs₁)
theorem ax2 {M:Model} {A:Around} {E:Value->Shared->Prop} {s:Shared} {env fenv:Env} {outer:List Env} {L ea:Addr} {oe:Obj} {vs:Array Value} {dx C:Addr} {told:V} {head:Value} {hadNext:Bool} {Q:Unit->Shared->Prop}
  (S:SR own μ s) (hfr:A.frames=some (fenv::outer)) (ho:y1 (fenv::outer) own) (hf:env.frame=some L) (hf':fenv.frame=some L)
  (h1:s.heap.get? ea=some oe) (h2:oe.cls=.ref C) (h3:oe.data=.fields vs) (h4:6<=vs.size/\(vs[2]?=some .none\/G.ch C)) (h5:μ ea=none) (h6:G.base.get? ea=none) (h7:oe.dict=some dx) (h8:aI3 s.heap μ told dx)
  (hQ:∀h',SR own μ {s with heap:=h'}->f6 μ s.heap μ h'->XR h' μ true (.ref ea) C told->Q () {s with heap:=h'}):
  wpAny M A (do let a <-PySem.frameOf env;let pl <-entryPlaceOf L hadNext;let b <-EntryCells.newEntry head a .none (rawInt L) .none pl;setField (.ref ea) 1 b) Q E s:=by
 refine wpAny_bind (bu7 hfr (bj1 S rfl ho) hf hf' λh₁ hs₁=>?_)
 obtain⟨S₁,P₁,k₁⟩:=S.slots ho hs₁
 refine wpAny_bind (wpAny_entryPlaceOf λpl hpl=>?_)
 unfold EntryCells.newEntry newFields
 refine wpAny_bind (wpAny_newObj_type ?_ (hpl.sizeOk5 _ _ _ _ _))
 have g₁:h₁.get? ea=some oe:=k₁ _ _ _ h1 h3
 generalize hob:({cls:=.type "traceback",dict:=none,data:=.fields ([head,.ref L,.none,rawInt L,.none]++(if pl.isEmpty then List.replicate 6 Value.none else pl)).toArray}:Obj)=ob
 rcases(S₁.grow (s':={s with heap:=h₁.push ob}) rfl rfl λb o e=>Heap.get?_push_of_some _ e) with⟨S₂,P₂⟩
 have g₂:(h₁.push ob).get? ea=some oe:=Heap.get?_push_of_some _ g₁
 refine wpAny_setField g₂ h3 (by lia) ?_
 rcases S₂.fields (f:=Obj.mapFields (·.setIfInBounds 1 (Value.ref h₁.objs.size))) g₂ h3 h5 h6 with⟨S₃,P₃⟩
 have P:=P₁.trans (P₂.trans P₃)
 have hd':=Obj.data_mapFields h3 (·.setIfInBounds 1 (Value.ref h₁.objs.size))
 have hne:ea≠h₁.objs.size:=cY4 (Heap.lt_size g₁)
 have gT:((h₁.push ob).update ea (Obj.mapFields (·.setIfInBounds 1 (Value.ref h₁.objs.size)))).get? h₁.objs.size=some ob:=
  (get?_update hne).trans (Heap.get?_push_size _ (by subst hob;rfl))
 refine hQ _ S₃ P ⟨ea,_,_,dx,rfl,Heap.get?_update_self _ g₂ (Obj.isFreed_of_fields hd'),(Obj.cls_mapFields _ _).trans h2,hd',by simpa using h4,h5,h6,?_,h8.pres P,.inr ⟨h₁.objs.size,ob,_,?_,Ne.symm hne,gT,by subst hob;rfl,?_,S₁.fresh.2,?_⟩⟩
 ·obtain⟨cl,d,dt,sl⟩:=oe
  cases dt<;>first | exact h7 | cases h3
 ·have:1<vs.size:=by lia
  show(vs.setIfInBounds 1 _)[1]?=_
  simp [this]
 ·simp
 ·cases q:G.base.get? h₁.objs.size with
  | none=>rfl
  | some o'=>exact absurd (Heap.lt_size (S₁.base _ _ q)) (de6 _)
theorem bZ4 {M:Model} {A:Around} {E:Value->Shared->Prop} {s:Shared} {env fenv:Env} {outer:List Env} {L:Addr} {e:Value} {C:Addr} {told:V} {tr:Bool} {Q:Unit->Shared->Prop}
  (S:SR own μ s) (hfr:A.frames=some (fenv::outer)) (ho:y1 (fenv::outer) own) (hf:env.frame=some L) (hf':fenv.frame=some L) (X:XR s.heap μ tr e C told)
  (hQ:∀h',SR own μ {s with heap:=h'}->f6 μ s.heap μ h'->XR h' μ true e C told->Q () {s with heap:=h'}):wpAny M A (noteFrame e env) Q E s:=by
 have X':=X
 obtain⟨ea,oe,vs,dx,rfl,h1,h2,h3,h4,h5,h6,h7,h8,h9⟩:=X
 unfold noteFrame
 simp only[hf]
 rcases h9 with⟨rfl,t⟩ | ⟨T,oT,ts,t,hne,g,d,sz,m,b⟩
 ·refine wpAny_bind (wpAny_field h1 h3 t ?_)
  rw[if_neg (by decide)]
  exact ax2 S hfr ho hf hf' h1 h2 h3 h4 h5 h6 h7 h8 hQ
 ·refine wpAny_bind (wpAny_field h1 h3 t ?_)
  rw[if_pos (show(Value.ref T != Value.none)=true from by simp)]
  obtain⟨x,hx⟩:∃x,ts[3]?=some x:=⟨ts[3],by simp [sz]⟩
  refine wpAny_bind (wpAny_field g d hx ?_)
  by_cases q:(x == rawInt L)=true
  ·rw[if_pos q]
   exact wpAny_pure (hQ s.heap S (f6.refl _ _) ⟨ea,oe,vs,dx,rfl,h1,h2,h3,h4,h5,h6,h7,h8,.inr ⟨T,oT,ts,t,hne,g,d,sz,m,b⟩⟩)
  ·rw[if_neg q]
   refine wpAny_bind (wpAny_setField g d sz ?_)
   rcases S.fields (f:=Obj.mapFields (·.setIfInBounds 3 Value.none)) g d m b with⟨S₁,P₁⟩
   exact ax2 S₁ hfr ho hf hf' ((get?_update hne).trans h1) h2 h3 h4 h5 h6 h7 (h8.pres P₁) λh' a P' c=>hQ h' a (P₁.trans P') c
section
variable {c:Cx} {loc:f8} {E:XP}
theorem y1.cons (ok:c.Ok):y1 (c.fenv::c.outer) (r5 c loc own)<->y1 c.outer (r5 c loc own):=by
 refine⟨λh e he=>h e (.tail _ he),λh e he=>?_⟩
 rcases cW1.mp he with rfl | he
 ·refine⟨by rw[ok.fkind];decide,c.fL,?_⟩
  cases hc:c.comp with
  | true=>exact⟨_,_,ok.ffrm,W0 ok hc loc own⟩
  | false=>
   rcases ok.same hc with⟨h1,h2⟩
   exact⟨c.env,loc,ok.ffrm,by rw[h2];exact P3 ..⟩
 ·exact h e he
theorem aU3 (ok:c.Ok) (h:own L=some (.frame e l)):∃e' l',r5 c loc own L=some (.frame e' l'):=by
 by_cases h1:L=c.L
 ·exact⟨_,_,by rw[h1];exact P3 ..⟩
 ·by_cases h2:c.comp=true/\L=c.fL
  ·exact⟨_,_,by rw[h2.2];exact W0 ok h2.1 ..⟩
  ·exact⟨e,l,(k9 h1 λhc q=>h2 ⟨hc,q⟩).trans h⟩
theorem y1.full (ok:c.Ok) (ho:y1 c.outer own) (loc:f8):y1 c.outer (r5 c loc own):=λe he=>by
 obtain⟨k,L,e',l,f,h⟩:=ho e he
 obtain⟨e2,l2,h2⟩:=aU3 (loc:=loc) ok h
 exact⟨k,L,e2,l2,f,h2⟩
theorem St.outs (S:St c loc own F A μ s):y1 (c.fenv::c.outer) (Mine.r5 c loc (f9 own F)):=(y1.cons S.ok).mpr (S.out.full S.ok loc)
theorem I4 (ok:c.Ok) (ar:AR c A) (out:y1 c.outer (f9 own₀ F))
  (x:t8 c own₀ F μ₀ h₀ E e s) (hQ:∀s' C told loc' own' μ',E C told loc' own'->Dj c own' F->XR s'.heap μ' true e C told->SR (r5 c loc' (f9 own' F)) μ' s'->f6 μ₀ h₀ μ' s'.heap->FK (f9 own₀ F) (f9 own' F)->Q () s'):
  wpAny (model G.prog G.w) A (noteFrame e c.env) Q Ew s:=by
 obtain⟨C,told,loc',o,m,tr,q,d,X,sr,P,K⟩:=x
 exact bZ4 sr ar.frames ((y1.cons ok).mpr ((out.fk K).full ok loc')) ok.frm ok.ffrm X λh' S' P' X'=>hQ _ C told loc' o m q d X' S' (P.trans P') K
theorem P5 (q:E C told loc' o) (d:Dj c o F) (X:XR s.heap m true e C told) (sr:SR (r5 c loc' (f9 o F)) m s)
  (P:f6 μ₀ h₀ m s.heap) (K:FK (f9 own₀ F) (f9 o F)):cameBackBy (model G.prog G.w) A c.env (t8 c own₀ F μ₀ h₀ E) e s:=by
 unfold cameBackBy
 have X':=X
 obtain⟨ea,oe,vs,dx,rfl,h1,h2,h3,h4,h5,h6,h7,h8,h9⟩:=X
 rcases h9 with⟨t,_⟩ | ⟨T,oT,ts,t,r⟩
 ·cases t
 ·refine wpAny_bind (wpAny_field h1 h3 t ?_)
  rw[if_neg (by simp)]
  exact P4 sr X' λh' S' P' X''=>⟨C,told,loc',o,m,true,q,d,X'',S',P.trans P',K⟩
end
end
section
variable {c:Cx} {loc:f8} {own:b9} {E:XP}
abbrev Asg (c:Cx) (loc:f8) (own:b9) (t:Expr) (V:V) (Q:f8->b9->Prop) (E:XP):Prop:=
 ∀v,T3 (λh μ=>VR h μ V v) D6 c loc own (assign t c.env v) (λ(_:Unit) l o=>Q l o) E
theorem aJ3 {V:V} (hu:N0 x (some V) loc loc') (hQ:Q loc' own):Asg c loc own (.Name x pos) V Q E:=
 λU=>T3.standAt (T3.bindName hu (λU U x=>x) hQ)
structure ItB where
 I:Addr
 xs:List V
 wr:List Addr
 fp:List Addr
 St:Nat->Heap->Prop
 PreS:Heap->Mu->Prop
abbrev ItB.ch (b:ItB) (i:Nat):O:=.it b.wr b.fp (b.St i)
structure Src (tgt:Expr) (b:ItB):Prop where
 sub:∀a∈b.wr,a∈b.fp
 self:b.I∈b.wr
 frame:∀i h h',b.St i h->(∀a∈b.fp,∀o,h.get? a=some o->h'.get? a=some o)->b.St i h'
 there:∀i h,b.St i h->∀a∈b.fp,∃o,h.get? a=some o
 again:∀(A:Around) (i:Nat) (s:Shared) (Q:Value->Shared->Prop) (E:Value->Shared->Prop),A.handled=none->b.St i s.heap->Q (.ref b.I) s->wpAny (model G.prog G.w) A (pyIter (.ref b.I)) Q E s
 item:∀(A:Around) (i:Nat) (s:Shared) (R:Value->Shared->Prop) (E E':Value->Shared->Prop),A.handled=none->i<b.xs.length->b.St i s.heap->(∃μ,b.PreS s.heap μ)->
  (∀v h' tk,(∀μ,b.PreS h' μ->(∀a,s.heap.get? a=none->μ a=none)->∃x,b.xs[i]?=some x/\VR h' μ x v)->b.St (i+1) h'->(∀a o,a∉b.wr->s.heap.get? a=some o->h'.get? a=some o)->
   R v {s with heap:=h',toks:=tk})->
  wpAny (model G.prog G.w) A (pyNext (.ref b.I)) (λr s₁=>∃v,r=some v/\wpAny (model G.prog G.w) A (letOwnedTupleGo tgt (.ref b.I) v) (λU s₂=>R v s₂) E' s₁) E s
 done:∀(A:Around) (s:Shared) (Q:Option Value->Shared->Prop) (E:Value->Shared->Prop),A.handled=none->b.St b.xs.length s.heap->(∃μ,b.PreS s.heap μ)->
  (∀h' tk,(∀a o,a∉b.wr->s.heap.get? a=some o->h'.get? a=some o)->Q none {s with heap:=h',toks:=tk})->wpAny (model G.prog G.w) A (pyNext (.ref b.I)) Q E s
abbrev bN6:Heap->Mu->ItB->Value->Prop:=λh μ b it=>it=.ref b.I/\b.PreS h μ
noncomputable def aU4 (b:ItB) (S5:b9->Prop):Prop:=∀{c:Cx} {l:f8} {o F:b9} {A:Around} {μ μ₀:Mu} {h₀:Heap} {s:Shared},S5 o->St c l o F A μ s->b.PreS h₀ μ₀->f6 μ₀ h₀ μ s.heap->b.PreS s.heap μ
abbrev ax3 (c:Cx) (loc:f8) (own:b9) (tgt:Expr) (V:V) (xs:List Mine.V) (ownr:b9) (S5:b9->Prop) (E:XP):Prop:=
 ∀v,T3 (λh μ=>VR h μ V v) bN6 c loc own (pyIter v) (λb l o=>l=loc/\b.xs=xs/\o b.I=some (b.ch 0)/\c7 o b.I none=ownr/\Src tgt b/\aU4 b S5) E
abbrev av1 (c:Cx) (loc:f8) (own:b9) (tgt:Expr) (V:V) (xs:List Mine.V) (ownr:b9) (E:XP):Prop:=
 ∀v,T3 (λh μ=>VR h μ V v) bN6 c loc own (pyIter v) (λb l o=>l=loc/\b.xs=xs/\o b.I=some (b.ch 0)/\c7 o b.I none=ownr/\Src tgt b/\Stable b.PreS) E
theorem ax3.of {V:V} (h:av1 c loc own tgt V xs ownr E):ax3 c loc own tgt V xs ownr (λU=>True) E:=λv=>(h v).mono (λU U x=>x) (λU U U q=>by
 obtain⟨a,b,d,e,f,g⟩:=q
 exact⟨a,b,d,e,f,λU U p P=>g.go P p⟩) λU U U U x=>x
theorem ab3 (h:o a=some x) (hF:F a=none):f9 o F=f9 (c7 o a none) (c7 F a (some x)):=by
 funext b
 unfold f9 c7
 by_cases q:b=a
 ·subst q;simp [h]
 ·simp [q]
theorem F1.move (D:F1 o F):F1 (c7 o a none) (c7 F a (some x)):=λb=>by
 by_cases q:b=a
 ·subst q;exact .inl (b5 _ _ _)
 ·rw[b7 q,b7 q];exact D b
theorem F1.left (D:F1 o F) (h:F a=some x):o a=none:=(D a).resolve_right (by rw[h];exactλq=>nomatch q)
theorem F1.swap (D:F1 o (c7 F a (some x))):F1 o (c7 F a (some y)):=λb=>by
 by_cases q:b=a
 ·subst q;exact .inl (D.left (b5 _ _ _))
 ·have:=D b;rw[b7 q] at this ⊢;exact this
theorem I5 (h:o a=none):f9 o (c7 F a y)=c7 (f9 o F) a y:=by
 funext b
 unfold f9 c7
 by_cases q:b=a
 ·subst q;simp [h]
 ·simp [q]
theorem SR.itStep (S:SR own μ s) (h:own a=some (.it wr fp S₁)) (hk:∀b o,b∉wr->s.heap.get? b=some o->h'.get? b=some o)
  (st:S₂ h') (fr:∀h h',S₂ h->(∀b∈fp,∀o,h.get? b=some o->h'.get? b=some o)->S₂ h') (ex:∀b∈fp,∃o,h'.get? b=some o):
  SR (c7 own a (some (.it wr fp S₂))) μ {s with heap:=h',toks:=tk}/\f6 μ s.heap μ h':=by
 obtain⟨h1,h2,hw,_,sub,_,ex₀,ho,hf⟩:=S.chunk a _ h
 have out:∀b,(∀x,μ b=some x->¬x=a)->b∉wr:=λb q hb=>q a (ho b hb) rfl
 refine S.step (s':={s with heap:=h',toks:=tk}) (λx=>x=a) rfl rfl (λb ob e q=>hk b ob (out b q) e) (λU U U U=>rfl) (λx q=>b7 q) (λx o q e=>?_) (λP x o q e=>?_) (λb x e q=>?_) (λU U e U=>e)
 ·subst q;exact⟨h1,ex x (sub x hw)⟩
 ·subst q;rw[b5] at e;cases e
  refine⟨hw,st,sub,fr,ex,ho,λb hb q=>?_⟩
  obtain⟨m,o,e,d⟩:=hf b hb q
  exact⟨m,o,P.keep b o e m d,d⟩
 ·subst q
  refine⟨⟨_,b5 _ _ _⟩,?_⟩
  obtain⟨ob,g⟩:=(S.dom b x e).2
  by_cases q:b∈wr
  ·exact ex b (sub b q)
  ·exact⟨ob,hk b ob q g⟩
theorem Dj.ne (D:Dj c o F) (h:f9 o F a=some x):a≠c.L/\(c.comp=true->a≠c.fL):=
 ⟨λq=>(by rw[q,D.2.1] at h;cases h),λhc q=>(by rw[q,D.2.2 hc] at h;cases h)⟩
theorem Dj.move (D:Dj c o F) (h:o a=some x):Dj c (c7 o a none) (c7 F a (some x)):=
 ⟨D.1.move,by rw[<-ab3 h (D.1.right h)];exact D.2.1,λhc=>by rw[<-ab3 h (D.1.right h)];exact D.2.2 hc⟩
theorem Dj.swap (D:Dj c o (c7 F a (some x))):Dj c o (c7 F a (some y)):=by
 have ha:o a=none:=D.1.left (b5 _ _ _)
 have hx:f9 o (c7 F a (some x)) a=some x:=by rw[l7 ha];exact b5 _ _ _
 obtain⟨n1,n2⟩:=D.ne hx
 refine⟨D.1.swap,?_,λhc=>?_⟩
 ·have:=D.2.1;rw[I5 ha,b7 (Ne.symm n1)] at this ⊢;exact this
 ·have:=D.2.2 hc;rw[I5 ha,b7 (Ne.symm (n2 hc))] at this ⊢;exact this
theorem Dj.back (D:Dj c o (c7 F a (some x))) (hF:F a=none):Dj c o F:=by
 have ha:o a=none:=D.1.left (b5 _ _ _)
 have hx:f9 o (c7 F a (some x)) a=some x:=by rw[l7 ha];exact b5 _ _ _
 obtain⟨n1,n2⟩:=D.ne hx
 refine⟨λb=>?_,?_,λhc=>?_⟩
 ·by_cases q:b=a
  ·subst q;exact .inl ha
  ·have:=D.1 b;rw[b7 q] at this;exact this
 ·have:=D.2.1;rw[I5 ha,b7 (Ne.symm n1)] at this;exact this
 ·have:=D.2.2 hc;rw[I5 ha,b7 (Ne.symm (n2 hc))] at this;exact this
theorem x8 (ho:o a=none) (n:a≠c.L/\(c.comp=true->a≠c.fL)):c7 (r5 c loc (f9 o F)) a y=r5 c loc (f9 o (c7 F a y)):=by
 rw[z0 n.1 n.2,I5 ho]
noncomputable def bZ5 (prog:Program) (w:World) (A:Around) (target:Expr) (body:List Stmt) (env:Env) (RQ:Flow->Shared->Prop) (RE:Value->Shared->Prop) (on:Shared->Prop) (v:Value) (s:Shared):Prop:=
 wpAny (model prog w) A (assign target env v) (λU s₂=>wpAny (model prog w) A (execs body env) (λf s₃=>match f with
  | .next | .cont=>on s₃
  | .brk=>RQ .next s₃
  | .ret v=>RQ (.ret v) s₃) (notedBy (model prog w) A env RE) s₂) (notedBy (model prog w) A env RE) s
theorem bu9 (J:Nat->Shared->Prop)
  (turn:∀n s,J n s->(wpAny (model prog w) A (pyNext it) (λr s₁=>r=none/\wpAny (model prog w) A (execs orelse env) RQ (notedBy (model prog w) A env RE) s₁) (λU U=>False) s)\/
   wpAny (model prog w) A (pyNext it) (λr s₁=>∃v,r=some v/\wpAny (model prog w) A (letOwnedTupleGo target it v) (λU s₂=>bZ5 prog w A target body env RQ RE (λs₃=>∃m,m<n/\J m s₃) v s₂) (λU U=>False) s₁) (λU U=>False) s)
  (n:Nat) (h:J n s):codeAny (model prog w) A (.forLoop target it body orelse env) (λr s'=>match r with | .ok f=>RQ f s' | .error e=>RE e s') s:=by
 refine codeAny_loop' rfl J (λn s hJ=>?_) n h
 show wpAny _ _ ((forTurn target it body orelse env).onRaise (λx=>do noteFrame x env;theTreesLotGoes x)) _ _ s
 refine wpAny_noted ?_
 simp only[forTurn]
 rcases turn n s hJ with t | t
 ·refine wpAny_bind (wpAny_standAt (wpAny_bind (wpAny_onRaise (wpAny_mono t (λr s₁ h₁=>?_) λU U h'=>h'.elim))))
  obtain⟨rfl,h₁⟩:=h₁
  exact wpAny_pure (.inr ⟨rfl,codeAny_block h₁⟩)
 ·refine wpAny_bind (wpAny_standAt (wpAny_bind (wpAny_onRaise (wpAny_mono t (λr s₁ h₁=>?_) λU U h'=>h'.elim))))
  obtain⟨v,rfl,h₁⟩:=h₁
  refine wpAny_bind (wpAny_mono h₁ (λU s₁' h₁'=>wpAny_bind (wpAny_mono h₁' (λU s₂ h₂=>wpAny_bind (wpAny_mono h₂ (λf s₃ h₃=>?_) λU U x=>x)) λU U x=>x)) λU U x=>x.elim)
  cases f with
  | next=>exact wpAny_pure (.inl ⟨rfl,h₃⟩)
  | cont=>exact wpAny_pure (.inl ⟨rfl,h₃⟩)
  | brk=>exact wpAny_pure h₃
  | ret v=>exact wpAny_pure h₃
theorem SR.gone (S:SR own μ s) (a:Addr) (hk:∀b ob,s.heap.get? b=some ob->(∀x,μ b=some x->¬x=a)->h'.get? b=some ob):
  SR (c7 own a none) (t0 μ a) {s with heap:=h',toks:=tk}/\f6 μ s.heap (t0 μ a) h':=by
 refine S.step (s':={s with heap:=h',toks:=tk}) (λx=>x=a) rfl rfl hk (λb U U q=>if_neg λe=>q a e rfl) (λx h=>b7 h) (λx o h e=>?_) (λP x o h e=>?_) (λc x e h=>?_) (λc x e h=>?_)
 ·subst h;rw[b5] at e;cases e
 ·subst h;rw[b5] at e;cases e
 ·subst h;unfold t0 at e;split at e
  ·cases e
  ·rename_i q;exact absurd e q
 ·unfold t0 at e;split at e
  ·cases e
  ·exact e
abbrev ItB.on (b:ItB) (F:b9) (i:Nat):b9:=c7 F b.I (some (b.ch i))
section
variable {F:b9} {A:Around} {b:ItB} {i:Nat} {o:b9} {l:f8} {μ μ₀:Mu} {s:Shared} {h₀ h':Heap} {tk n:Nat} {target:Expr} {body orelse:List Stmt} {Q:Fl->f8->b9->Prop} {J:Nat->f8->b9->Prop}
theorem bd9 (hF:F b.I=none) (ho:o b.I=none):FK (f9 o F) (f9 o (b.on F i)):=λL e l q=>by
 rw[I5 ho]
 exact(b7 λq'=>by rw[q',l7 ho,hF] at q;cases q).trans q
theorem ax4 (ho:o b.I=none):FK (f9 o (b.on F i)) (f9 o F):=λL e l q=>by
 rw[I5 ho] at q
 by_cases q':L=b.I
 ·rw[q',b5] at q;cases q
 ·rwa [b7 q'] at q
theorem St.itNo (S:St c l o (b.on F i) A μ s):o b.I=none:=S.dis.1.left (b5 _ _ _)
theorem St.itNe (S:St c l o (b.on F i) A μ s):b.I≠c.L/\(c.comp=true->b.I≠c.fL):=S.dis.ne (x:=b.ch i) (by rw[l7 S.itNo];exact b5 _ _ _)
theorem St.itAt (S:St c l o (b.on F i) A μ s):r5 c l (f9 o (b.on F i)) b.I=some (b.ch i):=by rw[k9 S.itNe.1 S.itNe.2,l7 S.itNo];exact b5 _ _ _
theorem St.itGone (S:St c l o (b.on F i) A μ s) (hF:F b.I=none) (hk:∀a ob,a∉b.wr->s.heap.get? a=some ob->h'.get? a=some ob):
  St c l o F A (t0 μ b.I) {s with heap:=h',toks:=tk}/\f6 μ s.heap (t0 μ b.I) h':=by
 obtain⟨sr,P⟩:=S.sr.gone (tk:=tk) b.I λa ob e q=>hk a ob (λhw=>q b.I (ItR.ho (S.sr.chunk _ _ S.itAt).2.2 a hw) rfl) e
 rw[x8 S.itNo S.itNe,c5,d9 hF] at sr
 exact⟨⟨S.ok,S.ar,sr,S.out.fk (ax4 S.itNo),S.dis.back hF⟩,P⟩
abbrev bv0 (c:Cx) (own F:b9) (μ:Mu) (h:Heap) (E:XP) (A:Around):Value->Shared->Prop:=cameBackBy (model G.prog G.w) A c.env (t8 c own F μ h E)
theorem aJ4 (hF:F b.I=none) (P:f6 μ₀ h₀ μ s.heap) (K:FK (f9 own F) (f9 o F)) (S:St c l o (b.on F i) A μ s) (x:t8 c o (b.on F i) μ s.heap E e s'):notedBy (model G.prog G.w) A c.env (bv0 c own F μ₀ h₀ E A) e s':=
 I4 S.ok S.ar S.out x λs'' C told l' o' μ' q d X sr P' K'=>by
 have S':St c l' o' (b.on F i) A μ' s'':=⟨S.ok,S.ar,sr,S.out.fk K',d⟩
 obtain⟨S'',P''⟩:=S'.itGone (tk:=s''.toks) hF λU U U h=>h
 exact P5 q S''.dis (X.pres P'' λa ob vs g U m=>⟨g,by unfold t0;rw[m];rfl⟩) S''.sr (P.trans (P'.trans P'')) (K.trans ((bd9 hF S.itNo).trans (K'.trans (ax4 S'.itNo))))
inductive FJ (c:Cx) (own F:b9) (A:Around) (μ₀:Mu) (h₀:Heap) (b:ItB) (J:Nat->f8->b9->Prop) (n:Nat) (s:Shared):Prop
 | mk (i:Nat) (l:f8) (o:b9) (μ:Mu) (hi:i+n=b.xs.length) (j:J i l o) (S:St c l o (b.on F i) A μ s) (pre:b.PreS s.heap μ) (P:f6 μ₀ h₀ μ s.heap) (K:FK (f9 own F) (f9 o F))
abbrev cs1 (Q:Fl->f8->b9->Prop) (J:Nat->f8->b9->Prop) (i:Nat):Fl->f8->b9->Prop:=λF l2 o2=>match F with
 | .next | .cont=>J (i+1) l2 o2
 | .brk=>Q .next l2 o2
 | .ret V=>Q (.ret V) l2 o2
theorem bv1 {n i l:Nat} (hi:i+n=l) (hl:i<l):n-1<n/\i+1+(n-1)=l:=by lia
theorem bv2 {n i l:Nat} (hi:i+n=l) (hl:¬i<l):i=l:=by lia
theorem bv3 {x:V} {v:Value} (hF:F b.I=none) (kp:Stable b.PreS) (hi:i+n=b.xs.length) (hlt:i<b.xs.length) (h:Asg c l o target x (λl' o'=>Exs c l' o' body (cs1 Q J i) E) E) (S:St c l o (b.on F (i+1)) A μ s) (pre:b.PreS s.heap μ) (P:f6 μ₀ h₀ μ s.heap) (K:FK (f9 own F) (f9 o F)) (r:VR s.heap μ x v):
  bZ5 G.prog G.w A target body c.env (i7 (FlR) c own F μ₀ h₀ Q) (bv0 c own F μ₀ h₀ E A) (λs₃=>∃m,m<n/\FJ c own F A μ₀ h₀ b J m s₃) v s:=by
 refine(h v).runU S r (λU U y=>aJ4 hF P K S y) λs₂ l₂ o₂ μ₂ q₂ S₂ P₂ K₂=>?_
 have KK:=K.trans ((bd9 hF S.itNo).trans (K₂.trans (ax4 S₂.itNo)))
 refine T3.run q₂ S₂ trivial (λU U y=>aJ4 hF (P.trans P₂) KK S₂ y) λf s₃ Fl l₃ o₃ μ₃ q₃ r₃ S₃ P₃ K₃=>?_
 have P₀₃:=(P.trans P₂).trans P₃
 have K₀₃:=KK.trans ((bd9 hF S₂.itNo).trans (K₃.trans (ax4 S₃.itNo)))
 have n1:=bv1 hi hlt
 have on:J (i+1) l₃ o₃->∃m,m<n/\FJ c own F A μ₀ h₀ b J m s₃:=λq=>⟨n-1,n1.1,i+1,l₃,o₃,μ₃,n1.2,q,S₃,kp.go (P₂.trans P₃) pre,P₀₃,K₀₃⟩
 cases Fl with
 | next=>cases r₃;exact on q₃
 | cont=>cases r₃;exact on q₃
 | brk=>
  cases r₃
  obtain⟨S',P'⟩:=S₃.itGone (tk:=s₃.toks) hF λU U U h=>h
  exact⟨_,l₃,o₃,_,q₃,S'.dis,.next,S'.sr,P₀₃.trans P',K₀₃⟩
 | ret V=>
  obtain⟨v,rfl,r⟩:=r₃
  obtain⟨S',P'⟩:=S₃.itGone (tk:=s₃.toks) hF λU U U h=>h
  exact⟨_,l₃,o₃,_,q₃,S'.dis,.ret (r.pres P'),S'.sr,P₀₃.trans P',K₀₃⟩
end
inductive cE0 (c:Cx) (loc:f8) (target:Expr) (body orelse:List Stmt) (Q:Fl->f8->b9->Prop) (E:XP) (V:V) (o:b9):Prop
 | mk (xs:List Mine.V) (ownr:b9) (it:av1 c loc o target V xs ownr E) (J:Nat->f8->b9->Prop) (j0:J 0 loc ownr)
  (turn:∀i l o x,J i l o->xs[i]?=some x->Asg c l o target x (λl' o'=>Exs c l' o' body (cs1 Q J i) E) E) (fin:∀l o,J xs.length l o->Exs c l o orelse Q E)
theorem cf2 {target iter:Expr} {body orelse:List Stmt} {pos:Pos} {Q:Fl->f8->b9->Prop} (hh:c.hd=none) (h:Ev c loc own iter (cE0 c loc target body orelse Q E) E)
  (hs:∀x,foldedSetIterable iter c.env x=pure x):Ex c loc own (.For target iter body orelse pos) Q E:=by
 intro F A μ₀ s₀ S₀ p₀
 refine wpAny_For (h.runV S₀ p₀ (λU U x=>x) λx s₁ V o₁ μ₁ q r₁ S₁ P₁ K₁=>?_) hs
 obtain⟨xs,ownr,hit,J,j0,hturn,hend⟩:=q
 refine(hit x).runV S₁ r₁ (λU U x=>x.lift P₁ K₁) λit s₂ b o₂ μ₂ q r₂ S₂ P₂ K₂=>?_
 obtain⟨rfl,hI,rfl,src,stb⟩:=q
 obtain⟨rfl,hpre⟩:=r₂
 have hhA:A.handled=none:=S₀.ar.handled.trans hh
 have hFI:F b.I=none:=S₂.dis.1.right hI
 have um:=ab3 hI hFI
 have S₃:St c loc (c7 o₂ b.I none) (b.on F 0) A μ₂ s₂:=⟨S₂.ok,S₂.ar,um▸S₂.sr,um▸S₂.out,S₂.dis.move hI⟩
 refine bu9 (FJ c own F A μ₀ s₀.heap b J) (λn s hJ=>?_) b.xs.length ⟨0,loc,_,μ₂,db2 _,j0,S₃,hpre,P₁.trans P₂,(K₁.trans K₂).trans (um▸ax4 S₃.itNo)⟩
 obtain⟨i,l,o,μ,hi,j,S,pre,P,K⟩:=hJ
 have hst:=ItR.st (S.sr.chunk _ _ S.itAt).2.2
 by_cases hlt:i<b.xs.length
 ·refine .inr (src.item A i s _ _ _ hhA hlt hst ⟨μ,pre⟩ (λv h' tk hv st' hk=>?_))
  obtain⟨sr',P'⟩:=S.sr.itStep (tk:=tk) S.itAt hk st' (src.frame (i+1)) (src.there (i+1) h' st')
  rw[x8 S.itNo S.itNe,c5] at sr'
  have pre':=stb.go P' pre
  obtain⟨x',hx,r⟩:=hv μ pre' λa e=>by
   cases q:μ a with
   | none=>rfl
   | some y=>obtain⟨ob,g⟩:=(S.sr.dom a y q).2;rw[e] at g;cases g
  exact bv3 hFI stb hi hlt (hturn i l o x' j hx) ⟨S.ok,S.ar,sr',S.out.fk ((ax4 S.itNo).trans (bd9 hFI S.itNo)),S.dis.swap⟩ pre' (P.trans P') K r
 ·obtain rfl:i=b.xs.length:=bv2 hi hlt
  refine .inl (src.done A s _ _ hhA hst ⟨μ,pre⟩ λh' tk hk=>⟨rfl,?_⟩)
  obtain⟨S',P'⟩:=S.itGone (tk:=tk) hFI hk
  exact wpAny_mono (hend l o j F A _ _ S' trivial) (λf s₃ y=>y.lift (P.trans P') K) λe s₃ y=>I4 S'.ok S'.ar S'.out y λs'' C told l' o' μ' q d X sr'' P'' K''=>P5 q d X sr'' ((P.trans P').trans P'') (K.trans K'')
end
section
variable {c:Cx} {loc:f8} {own:b9} {E:XP}
structure cf3 (c:Cx) (loc:f8) (own F:b9) (μ:Mu) (s:Shared) (ob:Obj) (o:O) (tk:Nat):Prop where
 own_:own s.heap.objs.size=none
 f:F s.heap.objs.size=none
 mu:μ s.heap.objs.size=none
 ne:s.heap.objs.size≠c.L/\(c.comp=true->s.heap.objs.size≠c.fL)
 sr:SR (r5 c loc (f9 (c7 own s.heap.objs.size (some o)) F)) (c7 μ s.heap.objs.size (some s.heap.objs.size)) {s with heap:=s.heap.push ob,toks:=tk}
 pres:f6 μ s.heap (c7 μ s.heap.objs.size (some s.heap.objs.size)) (s.heap.push ob)
 dj:Dj c (c7 own s.heap.objs.size (some o)) F
 fk:FK (f9 own F) (f9 (c7 own s.heap.objs.size (some o)) F)
theorem Dj.put {o F:b9} {a:Addr} {x:Option O} (D:Dj c o F) (hF:F a=none) (n:a≠c.L/\(c.comp=true->a≠c.fL)):Dj c (c7 o a x) F:=
 ⟨D.1.put hF,by rw[<-p0 hF,b7 (Ne.symm n.1)];exact D.2.1,λhc=>by rw[<-p0 hF,b7 (Ne.symm (n.2 hc))];exact D.2.2 hc⟩
theorem FK.put {o F:b9} {a:Addr} {x:Option O} (hF:F a=none) (h:∀e l,o a≠some (.frame e l)):FK (f9 o F) (f9 (c7 o a x) F):=λL e l q=>by
 by_cases k:L=a
 ·subst k;unfold f9 at q;cases ho:o L with
  | none=>rw[ho] at q;simp [hF] at q
  | some y=>rw[ho] at q;cases q;exact absurd ho (h e l)
 ·rw[<-p0 hF,b7 k];exact q
theorem St.push {A:Around} {F:b9} {μ:Mu} {s:Shared} {ob:Obj} {o:O} {tk:Nat} (S:St c loc own F A μ s) (hfree:ob.isFreed=false)
  (hrel:f6 μ s.heap (c7 μ s.heap.objs.size (some s.heap.objs.size)) (s.heap.push ob)->K7 (s.heap.push ob) (c7 μ s.heap.objs.size (some s.heap.objs.size)) s.heap.objs.size o):cf3 c loc own F μ s ob o tk:=by
 rcases S.sr.fresh with⟨h1,h2⟩
 obtain⟨n1,n2,h3⟩:=D0 S.ok h1
 rcases j6.mp h3 with⟨o1,f1⟩
 rcases S.sr.pushOwn (tk:=tk) hfree hrel with⟨a,b⟩
 rw[z0 n1 n2,p0 f1] at a
 exact⟨o1,f1,h2,⟨n1,n2⟩,a,b,S.dis.put f1 ⟨n1,n2⟩,FK.put f1 λe l q=>by rw[o1] at q;cases q⟩
theorem aj0 {M:Model} {A:Around} {E:Value->Shared->Prop} {s:Shared} {tgt:Expr} {I:Addr} {v:Value} {o:Obj} {n:String} {vs:Array Value} {Q:Unit->Shared->Prop} (h:s.heap.get? I=some o) (hc:o.cls=.type n) (hd:o.data=.fields vs)
  (hn:["enumerate","zip","dict_itemiterator","dict_reverseitemiterator","odict_iterator","itertools.zip_longest","itertools.pairwise"].contains n=false) (hQ:Q () s):wpAny M A (letOwnedTupleGo tgt (.ref I) v) Q E s:=by
 have key:∀a,wpAny M A (do
   let o <-load I
   match o.cls,o.data with
   | .type n,.fields vs=>
    if["enumerate","zip","dict_itemiterator","dict_reverseitemiterator","odict_iterator","itertools.zip_longest","itertools.pairwise"].contains n&&vs[0]? == some (rawInt a) then
     rule "for.unpacks-the-owned-tuple"
     updateField I 0 .none
   | _,_=>pure ():Sem Unit) Q E s:=λa=>by
  refine wpAny_bind (wpAny_load h ?_)
  rw[hc,hd]
  simp only[hn,Bool.false_and]
  exact wpAny_pure hQ
 cases tgt<;>first
  | exact wpAny_pure hQ
  | (cases v<;>first | exact wpAny_pure hQ | exact key _)
theorem P6 {tgt:Expr} {b:ItB} {P:Nat->Value->Prop} (W:∀A:Around,A.handled=none->Walks G.prog G.w A b.I b.fp b.wr b.xs.length P b.St) (hself:b.I∈b.wr)
  (there:∀i h,b.St i h->∀a∈b.fp,∃o,h.get? a=some o) (hP:∀h μ i v,b.PreS h μ->P i v->∃x,b.xs[i]?=some x/\VR h μ x v)
  (hgo:∀i h,b.St i h->∃o n vs,h.get? b.I=some o/\o.cls=.type n/\o.data=.fields vs/\
   ["enumerate","zip","dict_itemiterator","dict_reverseitemiterator","odict_iterator","itertools.zip_longest","itertools.pairwise"].contains n=false):Src tgt b where
 sub:=(W {} rfl).sub
 self:=hself
 frame:=(W {} rfl).frame
 there:=there
 again:=λA i s Q E hh st q=>(W A hh).self i s Q E st q
 item:=λA i s R E E' hh hi st U k=>(W A hh).item i s _ E hi st λv h' tk hp st' keep=>⟨v,rfl,by
  obtain⟨o,n,vs,g,hc,hd,hn⟩:=hgo _ _ st'
  exact aj0 (s:={s with heap:=h',toks:=tk}) g hc hd hn (k v h' tk (λμ pre U=>hP h' μ i v pre hp) st' keep)⟩
 done:=λA s Q E hh st U k=>(W A hh).done s Q E st k
theorem am1 {A:Around} {F:b9} {μ:Mu} {s:Shared} {ob:Obj} {tgt:Expr} {V:V} {v:Value} {b:ItB} (S:St c loc own F A μ s) (_:VR s.heap μ V v) (hI:b.I=s.heap.objs.size) (hwr:b.wr=[b.I]) (hfree:ob.isFreed=false)
  (src:Src tgt b) (stb:Stable b.PreS) (hst:b.St 0 (s.heap.push ob)) (hfp:∀a∈b.fp,a≠b.I->μ a=none/\∃o,s.heap.get? a=some o/\∀vs,o.data≠.fields vs) (hpre:b.PreS s.heap μ):
  i7 bN6 c own F μ s.heap (λb' l o=>l=loc/\b'.xs=b.xs/\o b'.I=some (b'.ch 0)/\c7 o b'.I none=own/\Src tgt b'/\Stable b'.PreS) (.ref s.heap.objs.size) {s with heap:=s.heap.push ob}:=by
 have p:=S.push (ob:=ob) (o:=b.ch 0) (tk:=s.toks) hfree λP=>by
  refine⟨by rw[<-hI];exact src.self,hst,src.sub,src.frame 0,src.there 0 _ hst,λa ha=>?_,λa ha hn=>?_⟩
  ·rw[hwr,cV8] at ha;rw[ha,hI];exact b5 _ _ _
  ·have ne:a≠b.I:=λq=>hn (by rw[hwr,q];exact .head _)
   obtain⟨m,o,e,d⟩:=hfp a ha ne
   exact⟨P.mu a o e m d,o,P.keep a o e m d,d⟩
 exact⟨b,loc,_,_,⟨rfl,rfl,by rw[hI];exact b5 _ _ _,by rw[hI,c5,d9 p.own_],src,stb⟩,p.dj,⟨by rw[hI],stb.go p.pres hpre⟩,p.sr,p.pres,p.fk⟩
theorem bv4 {tgt:Expr} {xs:List V}:av1 c loc own tgt (.lst xs) xs own E:=by
 intro _ F A μ s S q1_
 obtain⟨a,vs,rfl,t,m,r⟩:=q1_
 have tl:=t.isList
 refine wpAny_pyIter_list tl ?_
 have ha:a<s.heap.objs.size:=tl.elim λU e=>Heap.lt_size e.1
 have hne:a≠s.heap.objs.size:=cY4 ha
 have len:=r.length
 refine am1 (b:=⟨s.heap.objs.size,xs,[s.heap.objs.size],[s.heap.objs.size,a],λi h=>h.IsListIter s.heap.objs.size a i/\h.IsList a vs,λh μ=>q9 h μ xs vs.toList⟩) (V:=.lst xs) (v:=.ref a) S (.lst t m r) rfl rfl rfl
  (P6 (λA hh=>by have:=Walks.list (prog:=G.prog) (w:=G.w) hh s.heap.objs.size a hne vs;rw[show vs.size=xs.length by simpa using len] at this;exact this) (.head _) ?_ (λh μ i v pre hp=>?_) λi h st=>?_) aI9
  ⟨⟨_,Heap.get?_push_size _ rfl,rfl,rfl⟩,tl.elim λo x=>⟨o,Heap.get?_push_of_some _ x.1,x.2⟩⟩ (λb hb hn=>?_) r
 ·intro i h q1_ b hb
  obtain⟨⟨o,e,_⟩,o',e',_⟩:=q1_
  simp only[cW1,cY8,or_false] at hb
  rcases hb with rfl | rfl
  ·exact⟨o,e⟩
  ·exact⟨o',e'⟩
 ·have hp':vs.toList[i]?=some v:=by simpa using hp
  have hi:i<xs.length:=by rw[<-len];exact(cX4.mp hp').1
  obtain⟨u,hu,ru⟩:=pre.get (x:=xs[i]) (cW8 hi)
  rw[hp'] at hu;cases hu
  exact⟨_,cW8 hi,ru⟩
 ·obtain⟨⟨o,e,hc,hd⟩,_⟩:=st
  exact⟨o,_,_,e,hc,hd,rfl⟩
 ·simp only[cW1,cY8,or_false] at hb
  rcases hb with rfl | rfl
  ·exact absurd rfl hn
  ·exact⟨m,M9 t⟩
theorem bv5 {tgt:Expr} {xs:List V}:av1 c loc own tgt (.tup xs) xs own E:=by
 intro _ F A μ s S q1_
 obtain⟨a,vs,rfl,t,m,r⟩:=q1_
 have tl:=t.isTuple
 refine wpAny_pyIter_tuple tl ?_
 have ha:a<s.heap.objs.size:=tl.elim λU e=>Heap.lt_size e.1
 have hne:a≠s.heap.objs.size:=cY4 ha
 have len:=r.length
 refine am1 (b:=⟨s.heap.objs.size,xs,[s.heap.objs.size],[s.heap.objs.size,a],λi h=>h.IsTupleIter s.heap.objs.size a i/\h.IsTuple a vs,λh μ=>q9 h μ xs vs.toList⟩) (V:=.tup xs) (v:=.ref a) S (.tup t m r) rfl rfl rfl
  (P6 (λA hh=>by have:=Walks.tuple (prog:=G.prog) (w:=G.w) hh s.heap.objs.size a hne vs;rw[show vs.size=xs.length by simpa using len] at this;exact this) (.head _) ?_ (λh μ i v pre hp=>?_) λi h st=>?_) aI9
  ⟨⟨_,Heap.get?_push_size _ rfl,rfl,rfl⟩,tl.elim λo x=>⟨o,Heap.get?_push_of_some _ x.1,x.2⟩⟩ (λb hb hn=>?_) r
 ·intro i h q1_ b hb
  obtain⟨⟨o,e,_⟩,o',e',_⟩:=q1_
  simp only[cW1,cY8,or_false] at hb
  rcases hb with rfl | rfl
  ·exact⟨o,e⟩
  ·exact⟨o',e'⟩
 ·have hp':vs.toList[i]?=some v:=by simpa using hp
  have hi:i<xs.length:=by rw[<-len];exact(cX4.mp hp').1
  obtain⟨u,hu,ru⟩:=pre.get (x:=xs[i]) (cW8 hi)
  rw[hp'] at hu;cases hu
  exact⟨_,cW8 hi,ru⟩
 ·obtain⟨⟨o,e,hc,hd⟩,_⟩:=st
  exact⟨o,_,_,e,hc,hd,rfl⟩
 ·simp only[cW1,cY8,or_false] at hb
  rcases hb with rfl | rfl
  ·exact absurd rfl hn
  ·exact⟨m,ao3 t⟩
theorem am4 {A:Around} {F:b9} {μ:Mu} {s:Shared} {ob:Obj} {tgt:Expr} {xs:List V} {P:Nat->Value->Prop} {T:String} {vs:Array Value} {Z:Nat->Heap->Prop} (S:St c loc own F A μ s) (hfree:ob.isFreed=false)
  (W:∀A:Around,A.handled=none->Walks G.prog G.w A s.heap.objs.size [s.heap.objs.size] [s.heap.objs.size] xs.length P Z) (hst:Z 0 (s.heap.push ob))
  (hP:∀h μ i v,P i v->∃x,xs[i]?=some x/\VR h μ x v)
  (hgo:∀i h,Z i h->∃o n vs,h.get? s.heap.objs.size=some o/\o.cls=.type n/\o.data=.fields vs/\
   ["enumerate","zip","dict_itemiterator","dict_reverseitemiterator","odict_iterator","itertools.zip_longest","itertools.pairwise"].contains n=false):
  i7 bN6 c own F μ s.heap (λb' l o=>l=loc/\b'.xs=xs/\o b'.I=some (b'.ch 0)/\c7 o b'.I none=own/\Src tgt b'/\Stable b'.PreS) (.ref s.heap.objs.size) {s with heap:=s.heap.push ob}:=by
 refine am1 (b:=⟨s.heap.objs.size,xs,[s.heap.objs.size],[s.heap.objs.size],Z,λU U=>True⟩) (V:=.none) (v:=.none) S .none rfl rfl hfree
  (P6 W (.head _) ?_ (λh μ i v U hp=>hP h μ i v hp) hgo) B3 hst (λb hb hn=>?_) trivial
 ·intro i h st b hb
  rw[cV8] at hb;subst hb
  obtain⟨o,_,_,e,_⟩:=hgo i h st
  exact⟨o,e⟩
 ·exact absurd (cV8.mp hb) hn
noncomputable def ao7 (b:List UInt8):List V:=b.map λx=>.int (x.toNat:Int)
theorem aU5 {tgt:Expr} {b:List UInt8}:av1 c loc own tgt (.bytes b) (ao7 b) own E:=by
 rintro _ F A μ s S ⟨t,rfl⟩
 refine PySem.W.KBw.pyIter_bytes ?_
 refine am4 (xs:=ao7 b) (Z:=λi h=>PySem.W.KBw.IsBytesIter h s.heap.objs.size b.toArray t i) (vs:=#[]) (T:="") S rfl (λA hh=>by
   have:=PySem.W.KBw.walks (prog:=G.prog) (w:=G.w) hh s.heap.objs.size b.toArray t
   rw[show b.toArray.size=(ao7 b).length by simp [ao7]] at this;exact this) ⟨_,Heap.get?_push_size _ rfl,rfl,rfl⟩ (λh μ i v hp=>?_) λi h st=>?_
 ·obtain⟨x,u,hx,rfl⟩:=hp
  have hx':b[i]?=some x:=by simpa using hx
  exact⟨.int (x.toNat:Int),by simp [ao7,hx'],.int _ _⟩
 ·obtain⟨o,e,hc,hd⟩:=st
  exact⟨o,_,_,e,hc,hd,rfl⟩
noncomputable def I6 (x:Str):List V:=x.cps.toList.map λn=>.str ⟨#[n]⟩
theorem bv6 {tgt:Expr} {x:Str}:av1 c loc own tgt (.str x) (I6 x) own E:=by
 rintro _ F A μ s S ⟨t,rfl⟩
 refine wpAny_pyIter_strU ?_
 have hP:∀h μ i v,SignAt x i v->∃y,(I6 x)[i]?=some y/\VR h μ y v:=by
  intro h μ i v q1_
  obtain⟨n,u,hn,rfl⟩:=q1_
  have hn':x.cps.toList[i]?=some n:=by simpa using hn
  exact⟨.str ⟨#[n]⟩,by simp only[I6,cX9,hn',Option.map_some],.str _ _⟩
 unfold strIterType
 by_cases ha:(x.cps.all (·<128))=true
 ·rw[if_pos ha]
  refine am4 (xs:=I6 x) (Z:=λi h=>h.IsStrIter s.heap.objs.size "str_ascii_iterator" x t i) (vs:=#[]) (T:="") S rfl (λA hh=>by
    have:=Walks.strAscii (prog:=G.prog) (w:=G.w) hh s.heap.objs.size x t
    rw[show x.cps.size=(I6 x).length by simp [I6]] at this;exact this) ⟨_,Heap.get?_push_size _ rfl,rfl,rfl⟩ hP λi h st=>?_
  obtain⟨o,e,hc,hd⟩:=st
  exact⟨o,_,_,e,hc,hd,rfl⟩
 ·rw[if_neg ha]
  refine am4 (xs:=I6 x) (Z:=λi h=>h.IsStrIter s.heap.objs.size "str_iterator" x t i) (vs:=#[]) (T:="") S rfl (λA hh=>by
    have:=Walks.strWide (prog:=G.prog) (w:=G.w) hh s.heap.objs.size x t
    rw[show x.cps.size=(I6 x).length by simp [I6]] at this;exact this) ⟨_,Heap.get?_push_size _ rfl,rfl,rfl⟩ hP λi h st=>?_
  obtain⟨o,e,hc,hd⟩:=st
  exact⟨o,_,_,e,hc,hd,rfl⟩
end
section
variable {c:Cx} {loc:f8} {own:b9} {E:XP}
abbrev XC:=Addr->V->b9->Prop
structure bZ6 (own F:b9) (μ:Mu) (h:Heap) (own':b9) (μ':Mu) (s':Shared):Prop where
 sr:SR (f9 own' F) μ' s'
 P:f6 μ h μ' s'.heap
 K:FK (f9 own F) (f9 own' F)
inductive aC5 (own F:b9) (μ:Mu) (h:Heap) (Q:V->b9->Prop) (v:Value) (s':Shared):Prop
 | mk (V:V) (own':b9) (μ':Mu) (q:Q V own') (d:F1 own' F) (r:VR s'.heap μ' V v) (R:bZ6 own F μ h own' μ' s')
inductive bv7 (own F:b9) (μ:Mu) (h:Heap) (E:XC) (e:Value) (s':Shared):Prop
 | mk (C:Addr) (told:V) (own':b9) (μ':Mu) (tr:Bool) (q:E C told own') (d:F1 own' F) (X:XR s'.heap μ' tr e C told) (R:bZ6 own F μ h own' μ' s')
noncomputable def B9 (own F:b9) (μ:Mu) (h:Heap) (Q:V->b9->Prop) (E:XC) (r:Result) (s':Shared):Prop:=match r with
 | .ok (.ret v)=>aC5 own F μ h Q v s'
 | .ok _=>False
 | .error e=>bv7 own F μ h E e s'
theorem B9.elim {own F:b9} {μ:Mu} {h:Heap} {Q:V->b9->Prop} {E:XC} {P:Result->Shared->Prop} (ho:∀v s',aC5 own F μ h Q v s'->P (.ok (.ret v)) s') (hx:∀e s',bv7 own F μ h E e s'->P (.error e) s') (r:Result) (s':Shared) (x:B9 own F μ h Q E r s'):P r s':=by
 cases r with
 | error e=>exact hx e s' x
 | ok f=>cases f with
  | ret v=>exact ho v s' x
  | _=>exact False.elim x
noncomputable def r9 (hd:Option Value) (k:Nat) (f:Value) (Vs:List V) (own:b9) (Q:V->b9->Prop) (E:XC):Prop:=
 ∀(outer:List Env) (F:b9) (A:Around) (μ:Mu) (s:Shared) (vs:List Value),A.frames=some outer->A.handled=hd->A.depth+k<=600->A.units+10*k<=6000->y1 outer (f9 own F)->F1 own F->SR (f9 own F) μ s->q9 s.heap μ Vs vs->
  codeAny (model G.prog G.w) A (.call f ⟨vs,[]⟩) (B9 own F μ s.heap Q E) s
theorem r9.mono {hd:Option Value} {k:Nat} {f:Value} {Vs:List V} {Q Q':V->b9->Prop} {E E':XC} (h:r9 hd k f Vs own Q E) (hQ:∀V o,Q V o->Q' V o) (hE:∀C t o,E C t o->E' C t o):r9 hd k f Vs own Q' E':=
 λouter F A μ s vs h1 h2 h3 h4 h5 h6 h7 h8=>codeAny_mono (h outer F A μ s vs h1 h2 h3 h4 h5 h6 h7 h8) (B9.elim (λU U x=>by
  obtain⟨V,o,m,q,d,r,R⟩:=x;exact⟨V,o,m,hQ _ _ q,d,r,R⟩) λU U x=>by
  obtain⟨C,t,o,m,tr,q,d,X,R⟩:=x;exact⟨C,t,o,m,tr,hE _ _ _ q,d,X,R⟩)
noncomputable def s7 (c:Cx) (loc:f8) (own F:b9):b9:=λa=>match own a with | some _=>none | none=>r5 c loc (f9 own F) a
theorem aJ5 {F:b9} (D:Dj c own F):f9 own (s7 c loc own F)=r5 c loc (f9 own F):=by
 funext a
 unfold f9 s7
 cases h:own a with
 | none=>rfl
 | some x=>
  rcases D.ne (o9 (F:=F) h) with⟨n1,n2⟩
  show some x=_
  rw[k9 n1 n2,h]
theorem bj2 {F:b9}:F1 own (s7 c loc own F):=λa=>by
 unfold s7
 cases h:own a with
 | none=>exact .inl rfl
 | some x=>exact .inr rfl
theorem bv8 {F:b9} (D:Dj c own F):s7 c loc own F c.L=some (.frame c.env loc):=by
 have:own c.L=none:=(j6.mp D.2.1).1
 unfold s7;rw[this];exact P3 ..
theorem be0 {F:b9} (ok:c.Ok) (D:Dj c own F) (hc:c.comp=true):s7 c loc own F c.fL=some (.frame c.fenv c.floc):=by
 have:own c.fL=none:=(j6.mp (D.2.2 hc)).1
 unfold s7;rw[this];exact W0 ok hc ..
theorem ao8 {F:b9} {a:Addr} (h:own a=none) (n1:a≠c.L) (n2:c.comp=true->a≠c.fL):s7 c loc own F a=F a:=by
 unfold s7;rw[h];show r5 c loc (f9 own F) a=_;rw[k9 n1 n2,l7 h]
theorem af9 {F own':b9} (ok:c.Ok) (D:Dj c own F) (D':F1 own' (s7 c loc own F)):f9 own' (s7 c loc own F)=r5 c loc (f9 own' F)/\Dj c own' F:=by
 have hL:own' c.L=none:=D'.left (bv8 D)
 have hfL:c.comp=true->own' c.fL=none:=λhc=>D'.left (be0 ok D hc)
 have e:f9 own' (s7 c loc own F)=r5 c loc (f9 own' F):=by
  funext a
  by_cases h1:a=c.L
  ·subst h1;rw[P3,l7 hL,bv8 D]
  ·by_cases h2:c.comp=true/\a=c.fL
   ·rcases h2 with⟨hc,rfl⟩
    rw[W0 ok hc,l7 (hfL hc),be0 ok D hc]
   ·have n2:c.comp=true->a≠c.fL:=λhc q=>h2 ⟨hc,q⟩
    rw[k9 h1 n2]
    cases h:own' a with
    | some x=>rw[o9 h,o9 h]
    | none=>
     rw[l7 h,l7 h]
     cases h3:own a with
     | none=>exact ao8 h3 h1 n2
     | some x=>
      have:s7 c loc own F a=none:=by unfold s7;rw[h3]
      rw[this];exact(D.1.right h3).symm
 refine⟨e,λa=>?_,j6.mpr ⟨hL,(j6.mp D.2.1).2⟩,λhc=>j6.mpr ⟨hfL hc,(j6.mp (D.2.2 hc)).2⟩⟩
 cases h:own' a with
 | none=>exact .inl rfl
 | some x=>
  right
  have r:=D'.right h
  cases h3:own a with
  | some y=>exact D.1.right h3
  | none=>
   have h1:a≠c.L:=λq=>by rw[q,hL] at h;cases h
   have n2:c.comp=true->a≠c.fL:=λhc q=>by rw[q,hfL hc] at h;cases h
   rw[ao8 h3 h1 n2] at r;exact r
theorem be1 {F own':b9} (ok:c.Ok) (D:Dj c own F) (D':F1 own' (s7 c loc own F)) (K:FK (f9 own (s7 c loc own F)) (f9 own' (s7 c loc own F))):FK (f9 own F) (f9 own' F):=λL e l q=>by
 rcases D.ne q with⟨n1,n2⟩
 have:=K L e l (by rw[aJ5 D,k9 n1 n2];exact q)
 rw[(af9 ok D D').1,k9 n1 n2] at this
 exact this
theorem T3.callF (hk:k<=c.k) (h:r9 c.hd k f Vs own Q (λC t o=>E C t loc o)):
  T3 (λh μ=>q9 h μ Vs vs) (z9) c loc own (call f vs) (λV l o=>l=loc/\Q V o) E:=by
 intro F A μ s S p
 have D:=S.dis
 have ru:=aJ5 (loc:=loc) D
 have od:10*k<=10*c.k:=cZ3 10 hk
 refine wpAny_call (codeAny_mono (h (c.fenv::c.outer) (s7 c loc own F) A μ s vs S.ar.frames S.ar.handled (cV2 (da0 hk _) S.ar.depth) (cV2 (da0 od _) S.ar.units) (ru▸S.outs) bj2 (ru▸S.sr) p) (B9.elim ?_ ?_))
 ·intro v s' q1_
  obtain⟨V,o,m,q,d,r,R⟩:=q1_
  rcases af9 S.ok D d with⟨e,d'⟩
  exact⟨V,loc,o,m,⟨rfl,q⟩,d',r,e▸R.sr,R.P,be1 S.ok D d R.K⟩
 ·intro v s' q1_
  obtain⟨C,t,o,m,tr,q,d,X,R⟩:=q1_
  rcases af9 S.ok D d with⟨e,d'⟩
  exact⟨C,t,loc,o,m,tr,q,d',X,e▸R.sr,R.P,be1 S.ok D d R.K⟩
abbrev Evs (c:Cx) (loc:f8) (own:b9) (pos:Pos) (es:List Expr) (Q:List V->b9->Prop) (E:XP):Prop:=
 T3 TT (cq9) c loc own (spliced (backTo pos (starEach es c.env))) (λVs l o=>l=loc/\Q Vs o) E
theorem aC6 (h:Q [] own):Evs c loc own pos [] Q E:=T3.pure (b:=([]:List V)) (λU U U=>q9.nil) ⟨rfl,h⟩
theorem ao9 (h:Ev c loc own e (λV o=>Evs c loc o pos es (λVs o=>Q (V::Vs) o) E) E)
  (he:starEach (e::es) c.env=(false,eval e c.env)::starEach es c.env:=by rfl):Evs c loc own pos (e::es) Q E:=by
 intro F A μ s S p
 rw[he]
 refine PySem.Calls.spliced_cons (h.runV S p (λU U x=>x) λv s' V o m q r S' P K=>?_)
 exact q.runV S' trivial (λU U x=>x.lift P K) λvs s'' Vs o' m' q' r' S'' P' K'=>⟨V::Vs,_,o',m',⟨rfl,q'⟩,S''.dis,.cons (r.pres P') r',S''.sr,P.trans P',K.trans K'⟩
theorem bv9 (h:Evs c loc own pos es (λVs o=>Vs.length<=sizeLine/\Q (.tup Vs) o) E):Ev c loc own (.Tuple es k pos) Q E:=by
 intro F A μ s S p
 refine Tuple_ (h.runV S p (λU U x=>x) λvs s' Vs o m q r S₂ P K=>?_)
 have sr:=S₂.sr
 refine wpAny_newObj_type ?_ (by show vs.toArray.size<=sizeLine;rw[dc3,r.length];exact q.1)
 rcases(sr.grow (s':={s' with heap:=s'.heap.push {cls:=.type "tuple",data:=.seq vs.toArray}}) rfl rfl λb o e=>Heap.get?_push_of_some _ e) with⟨sr',P'⟩
 exact⟨.tup Vs,_,o,m,⟨rfl,q.2⟩,S₂.dis,.tup ⟨0,Heap.get?_push_size _ rfl⟩ sr.fresh.2 (r.pres P'),sr',P.trans P',K⟩
theorem T3.newLst (hP:∀h μ,Pre h μ->q9 h μ Vs vs) (hz:Vs.length<=sizeLine) (hQ:Q (.lst Vs) loc own):T3 Pre (z9) c loc own (newList vs) Q E:=by
 intro F A μ s S p
 have r:=hP _ _ p
 refine wpAny_newObj_type ?_ (by show vs.toArray.size<=sizeLine;rw[dc3,r.length];exact hz)
 rcases(S.sr.grow (s':={s with heap:=s.heap.push {cls:=.type "list",data:=.seq vs.toArray}}) rfl rfl λb o e=>Heap.get?_push_of_some _ e) with⟨sr',P'⟩
 exact⟨.lst Vs,_,own,μ,hQ,S.dis,.lst ⟨0,Heap.get?_push_size _ rfl⟩ S.sr.fresh.2 (r.pres P'),sr',P',FK.refl _⟩
theorem T3.newOwnList (hP:∀h μ,Pre h μ->q9 h μ Vs vs) (hz:Vs.length<=sizeLine) (hQ:∀a,own a=none->Q (.ref a) loc (c7 own a (some (.list Vs)))):
  T3 Pre (z9) c loc own (newList vs) Q E:=by
 intro F A μ s S p
 have r:=hP _ _ p
 refine wpAny_newObj_type ?_ (by show vs.toArray.size<=sizeLine;rw[dc3,r.length];exact hz)
 have q:=S.push (ob:={cls:=.type "list",data:=.seq vs.toArray}) (o:=.list Vs) (tk:=s.toks) rfl λP=>⟨_,⟨0,Heap.get?_push_size _ rfl⟩,r.pres P⟩
 exact⟨.ref _,_,_,_,hQ _ q.own_,q.dj,.ref _,q.sr,q.pres,q.fk⟩
theorem bN7 (h:Evs c loc own pos es (λVs o=>Vs.length<=sizeLine/\Q (.lst Vs) o) E):Ev c loc own (.List es pos) Q E:=by
 show T3 TT (z9) c loc own (do standAt pos;newList (<-spliced (backTo pos (starEach es c.env)))) _ E
 refine T3.standAt (T3.bind B3 (h.mono (λU U x=>x) (λVs l o q vs=>?_) λU U U U x=>x))
 rcases q with⟨rfl,hz,q⟩
 exact T3.newLst (λU U x=>x.2) hz ⟨rfl,q⟩
theorem aU6 (h:Evs c loc own pos es (λVs o=>Vs.length<=sizeLine/\∀a,o a=none->Q (.ref a) (c7 o a (some (.list Vs)))) E):Ev c loc own (.List es pos) Q E:=by
 show T3 TT (z9) c loc own (do standAt pos;newList (<-spliced (backTo pos (starEach es c.env)))) _ E
 refine T3.standAt (T3.bind B3 (h.mono (λU U x=>x) (λVs l o q vs=>?_) λU U U U x=>x))
 rcases q with⟨rfl,hz,q⟩
 exact T3.newOwnList (λU U x=>x.2) hz λa ha=>⟨rfl,q a ha⟩
end
section
variable {c:Cx} {loc:f8} {own:b9} {E:XP}
structure bw0 (f:Addr) (fd:FuncData) (body:List Stmt) (scope:Scope):Prop where
 at_:∃o,G.base.get? f=some o/\o.data=.func fd
 bd:fd.body=.stmts body
 sc:fd.scope=scope
 glob:fd.globals=mainGlobals
 clo:fd.closure=[]
 blt:fd.builtins=builtinsNs
 code:G.base.CodeRec fd.code fd.qualname
 co:scope.isCoroutine=false
 gen:scope.isGenerator=false
 kind:scope.kind=.function
noncomputable def am6 (ps:List Str) (Vs:List V) (others:List Str):f8:=ps.zip (Vs.map some)++others.map λx=>(x,none)
noncomputable def am7 (scope:Scope) (ps others:List Str):Bool:=
 decide ((ps++others).Nodup)&&(ps++others).all λx=>scope.names.lookup x == some .local || scope.names.lookup x == some .cell
theorem aU7 (kd:Str->Option NameKind) (bs:List (Str×Value)):∀(m:Str->Option Value) (x:Str),x∉bs.map (·.1)->bindL kd bs m x=m x:=by
 induction bs with
 | nil=>exactλU U U=>rfl
 | cons b r ih=>
  intro m x h
  have e:b.1≠x/\x∉r.map (·.1):=⟨λe=>h (e▸.head _),λq=>h (.tail _ q)⟩
  refine(ih _ x e.2).trans ?_
  by_cases q:kd b.1=some .local
  ·rw[if_pos q];exact if_neg (Ne.symm e.1)
  ·rw[if_neg q]
theorem bj3 (kd:Str->Option NameKind) (bs:List (Str×Value)):∀(m:Str->Option Value) (x:Str) (v:Value),(bs.map (·.1)).Nodup->(x,v)∈bs->kd x=some .local->bindL kd bs m x=some v:=by
 induction bs with
 | nil=>exactλU U U U h U=>nomatch h
 | cons b r ih=>
  intro m x v nd h k
  rw[cX3,cY9] at nd
  rcases cW1.mp h with rfl | e
  ·exact(aU7 kd r _ _ nd.1).trans (by rw[if_pos k];exact if_pos rfl)
  ·exact ih _ x v nd.2 e k
theorem aU8 (kd:Str->Option NameKind) (bs:List (Str×Value)):∀(m:Str->Option Value) (x:Str),x∉bs.map (·.1)->bindC kd bs m x=m x:=by
 induction bs with
 | nil=>exactλU U U=>rfl
 | cons b r ih=>
  intro m x h
  have e:b.1≠x/\x∉r.map (·.1):=⟨λe=>h (e▸.head _),λq=>h (.tail _ q)⟩
  refine(ih _ x e.2).trans ?_
  by_cases q:kd b.1=some .local
  ·rw[if_pos q]
  ·rw[if_neg q];exact if_neg (Ne.symm e.1)
theorem bj4 (kd:Str->Option NameKind) (bs:List (Str×Value)):∀(m:Str->Option Value) (x:Str) (v:Value),(bs.map (·.1)).Nodup->(x,v)∈bs->kd x=some .cell->bindC kd bs m x=some v:=by
 induction bs with
 | nil=>exactλU U U U h U=>nomatch h
 | cons b r ih=>
  intro m x v nd h k
  rw[cX3,cY9] at nd
  rcases cW1.mp h with rfl | e
  ·exact(aU8 kd r _ _ nd.1).trans (by rw[if_neg (by rw[k];decide)];exact if_pos rfl)
  ·exact ih _ x v nd.2 e k
theorem bN8 {h:Heap} {μ:Mu} {ps:List Str}:∀{Vs:List V} {vs:List Value} {x:Str} {ov:Option V},q9 h μ Vs vs->(x,ov)∈ps.zip (Vs.map some)->∃V v,ov=some V/\(x,v)∈ps.zip vs/\VR h μ V v:=by
 induction ps with
 | nil=>intro _ _ _ _ _ m;cases m
 | cons p ps ih=>
  intro Vs vs x ov r m
  cases Vs with
  | nil=>cases m
  | cons V Vs=>
   obtain⟨v,us,rfl,a,b⟩:=r
   rcases cW1.mp m with e | e
   ·cases e;exact⟨_,_,rfl,.head _,a⟩
   ·obtain⟨V,v,h1,h2,h3⟩:=ih b e
    exact⟨V,v,h1,.tail _ h2,h3⟩
theorem ab4 {α β:Type} {ps:List α}:∀{vs:List β},vs.length=ps.length->(ps.zip vs).map (·.1)=ps:=by
 induction ps with
 | nil=>exactλU=>rfl
 | cons p ps ih=>
  intro vs h
  cases vs with
  | nil=>cases h
  | cons v vs=>exact congrArg (p::·) (ih (Nat.succ.inj h))
theorem aJ6
  (hroom:A.depth<recursionLimit) (ho:s.heap.get? a=some o) (hdata:o.data=.func fd) (hlim:s.heap.NoLimit) (hcd:s.heap.CodeRec fd.code fd.qualname)
  (hbody:fd.body=.stmts body) (hbind:BindsTo s fd ⟨vals,[]⟩ binds) (hclo:fd.closure=[])
  (hkind:∀x∈binds,fd.scope.names.lookup x.1=some .local\/(fd.scope.names.lookup x.1=some .cell/\((cellsFrom (s.heap.objs.size+1) fd.scope.names []).lookup x.1).isSome=true))
  (h:∀s₁,InCallC s (callEnvC fd s.heap.objs.size a).locals (bindL (callEnvC fd s.heap.objs.size a).kindOf binds λU=>none) (callEnvC fd s.heap.objs.size a).cells
    (bindC (callEnvC fd s.heap.objs.size a).kindOf binds λU=>none) s₁->
   wpAny (model prog w) (A.deeper (callEnvC fd s.heap.objs.size a)) (execs body (callEnvC fd s.heap.objs.size a)) (λf s'=>R (.ok (.ret (match f with | .ret v=>v | _=>.none))) s')
    (λe s'=>wpAny (model prog w) (A.deeper (callEnvC fd s.heap.objs.size a)) (leaving (callEnvC fd s.heap.objs.size a) e) (λU s''=>R (.error e) s'') (λe' s''=>R (.error e') s'') s') s₁)
  (hco:fd.scope.isCoroutine=false) (hgen:fd.scope.isGenerator=false) (hk:fd.scope.kind=.function):
  codeAny (model prog w) A (.call (.ref a) ⟨vals,[]⟩) R s:=by
 refine codeAny_call_function hroom ho hdata hco hgen hbody hcd (hbind _ _ _ _ ?_)
 rw[hclo]
 refine wpAny_newFunctionEnv_cells hk hkind λenv he s' x=>?_
 subst he
 exact⟨hlim.keeps x.toInCall.keep,codeAny_func (h s' x)⟩
open Classical in
theorem ax5 (S:St c l o F A m s) (h:c.comp=false:=by rfl):SR (f9 o F) (t0 m c.L) s/\f6 m s.heap (t0 m c.L) s.heap:=by
 have:=S.sr.drop c.L
 rwa [show c7 (r5 c l (f9 o F)) c.L none=f9 o F from by unfold r5;rw[h];exact(c5 _ _ _ _).trans (d9 S.dis.2.1)] at this
theorem ak8.begin {h₁:Heap} {s:Shared} {μ:Mu} {a:Addr} {env:Env} {scope:Scope} {ps others:List Str} {Vs:List V} {vs:List Value} (hn:am7 scope ps others=true) (hlen:Vs.length=ps.length) (ek:∀x,env.kindOf x=scope.names.lookup x)
  (ecell:∀x,scope.names.lookup x=some .cell->∃a,env.cells.lookup x=some a) (ns:h₁.Ns a (bindL env.kindOf (ps.zip vs) λU=>none)) (ap:env.cells.Pairwise λx y=>x.2≠y.2) (hcell:∀n b,env.cells.lookup n=some b->μ b=some a/\b≠a/\h₁.IsCell b (bindC env.kindOf (ps.zip vs) (λU=>none) n))
  (r:q9 h₁ μ Vs vs):ak8 h₁ μ a env (am6 ps Vs others):=by
 rcases cX6.mp hn with⟨hnd,hall⟩
 have hnd:(ps++others).Nodup:=of_decide_eq_true hnd
 have hall:∀x∈ps++others,env.kindOf x=some .local\/env.kindOf x=some .cell:=λx hx=>by
  have:=cX0.mp hall x hx
  rw[ek]
  simpa only[dh2,beq_iff_eq] using this
 have keys:(ps.zip vs).map (·.1)=ps:=ab4 (r.length.trans hlen)
 have ndp:((ps.zip vs).map (·.1)).Nodup:=by rw[keys];exact(da2.mp hnd).1
 have cell:∀x ov,env.kindOf x=some .cell->aC1 h₁ μ ov (bindC env.kindOf (ps.zip vs) (λU=>none) x)->aI4 h₁ μ a env (x,ov):=λx ov q o=>by
  rcases ecell x ((ek x).symm.trans q) with⟨b,hb⟩
  obtain⟨c1,c2,c3⟩:=hcell x b hb
  exact⟨q,b,_,hb,c1,c2,c3,o⟩
 refine⟨_,ns,?_,ap,λx hx=>?_⟩
 ·have ho:(others.map λx=>(x,(none:Option V))).map (·.1)=others:=by rw[cW0];exact de1 _
  show((ps.zip (Vs.map some)++others.map λx=>(x,(none:Option V))).map (·.1)).Nodup
  rw[cV5,ab4 (by simpa using hlen),ho]
  exact hnd
 ·rcases cW9.mp hx with hx | hx
  ·rcases x with⟨x,ov⟩
   obtain⟨V,v,rfl,hm,rv⟩:=bN8 r hx
   have hp:x∈ps:=by rw[<-keys];exact cW4 (f:=(·.1)) hm
   rcases hall x (cX2 _ hp) with q | q
   ·exact .inl ⟨q,by rw[bj3 _ _ _ _ _ ndp hm q];exact .some rv⟩
   ·exact .inr (cell x _ q (by rw[bj4 _ _ _ _ _ ndp hm q];exact .some rv))
  ·rcases cV6.mp hx with⟨x,hx',rfl⟩
   exact(hall x (cW5 _ hx')).imp (λq=>⟨q,trivial⟩) λq=>cell x none q trivial
open Classical in
noncomputable def bN9 (μ:Mu) (N:Addr->Prop) (a:Addr):Mu:=λb=>if N b then some a else μ b
theorem SR.addP (N:Addr->Prop) (S:SR own μ s) (ha:N a) (far:∀b,N b->s.heap.objs.size<=b) (ex:∀b,N b->∃ob,h'.get? b=some ob) (keep:∀b o,s.heap.get? b=some o->h'.get? b=some o)
  (rel:f6 μ s.heap (bN9 μ N a) h'->K7 h' (bN9 μ N a) a y):SR (c7 own a (some y)) (bN9 μ N a) {s with heap:=h',toks:=tk}/\f6 μ s.heap (bN9 μ N a) h':=by
 refine S.step (s':={s with heap:=h',toks:=tk}) (λx=>x=a) rfl rfl (λb o e U=>keep b o e) (λb o e U=>if_neg λq=>dg4.mpr (far b q) (Heap.lt_size e)) (λx q=>b7 q) (λx o q e=>by subst q;exact⟨if_pos ha,ex _ ha⟩) (λP x o q e=>by subst q;rw[b5] at e;cases e;exact rel P) (λb x e q=>?_) (λb x e q=>?_)
 ·subst q
  refine⟨⟨_,b5 _ _ _⟩,?_⟩
  by_cases h1:N b
  ·exact ex b h1
  ·exact(S.dom b x ((if_neg h1).symm.trans e)).2.imp λU g=>keep _ _ g
 ·by_cases h1:N b
  ·exact absurd (Option.some.inj ((if_pos h1).symm.trans e)).symm q
  ·exact(if_neg h1).symm.trans e
theorem X7 {f:Addr} {fd:FuncData} {body:List Stmt} {scope:Scope} {ps others:List Str} {Vs:List V} {loc₀:f8} {hd:Option Value} {k:Nat} {Q:V->b9->Prop} {E:XC} (K:T6) (FA:bw0 f fd body scope)
  (hn:am7 scope ps others=true) (hl:am6 ps Vs others=loc₀) (hlen:Vs.length=ps.length) (hbind:∀(s':Shared) (vs:List Value),(∀b o,G.base.get? b=some o->s'.heap.get? b=some o)->vs.length=ps.length->BindsTo s' fd ⟨vs,[]⟩ (ps.zip vs)) (hhd:hd≠some byPass)
  (h:∀c:Cx,c.comp=false->c.env.scope=scope->c.hd=hd->c.k=k->own c.L=none->Exs c loc₀ own body (λF U o=>match F with | .ret V=>Q V o | .next=>Q .none o | _=>False) (λC t U o=>E C t o)):
  r9 hd (k+1) (.ref f) Vs own Q E:=by
 intro outer F A μ s vs hA hh hdp hun hout D S r
 obtain⟨o,ho,hdat⟩:=FA.at_
 have hsc:=FA.sc
 have hvl:vs.length=ps.length:=r.length.trans hlen
 have keys:(ps.zip vs).map (·.1)=ps:=ab4 hvl
 have hkinds:∀x∈ps.zip vs,fd.scope.names.lookup x.1=some .local\/(fd.scope.names.lookup x.1=some .cell/\((cellsFrom (s.heap.objs.size+1) fd.scope.names []).lookup x.1).isSome=true):=λx hx=>by
  have hm:x.1∈ps:=by rw[<-keys];exact cW4 hx
  have:=cX0.mp (cX6.mp hn).2 x.1 (cX2 _ hm)
  rw[dh2,beq_iff_eq,beq_iff_eq] at this
  rw[hsc]
  exact this.imp id λq=>⟨q,cellsFrom_some _ _ _ (.inl q)⟩
 refine aJ6 (by show _<1000;lia) (S.base f o ho) hdat (K.nolimit.keeps S.base) (FA.code.keeps S.base) FA.bd (hbind s vs S.base hvl) FA.clo hkinds (λs₁ X=>?_) (by rw[hsc];exact FA.co) (by rw[hsc];exact FA.gen) (by rw[hsc];exact FA.kind)
 generalize henv:callEnvC fd s.heap.objs.size f=env at X ⊢
 have e1:env.locals=s.heap.objs.size:=by rw[<-henv];rfl
 have e2:env.frame=some s.heap.objs.size:=by rw[<-henv];rfl
 have e3:env.scope=scope:=by rw[<-henv];exact hsc
 have e4:env.globals=mainGlobals:=by rw[<-henv];exact FA.glob
 have e5:env.builtins=builtinsNs:=by rw[<-henv];exact FA.blt
 have ek:∀x,env.kindOf x=scope.names.lookup x:=λx=>by unfold Env.kindOf;rw[e3]
 have ecell:∀x,scope.names.lookup x=some .cell->∃a,env.cells.lookup x=some a:=λx q=>by
  have:((cellsFrom (s.heap.objs.size+1) fd.scope.names []).lookup x).isSome=true:=cellsFrom_some _ _ _ (.inl (by rw[hsc];exact q))
  rcases di3.mp this with⟨a,h⟩
  exact⟨a,by rw[<-henv];exact h⟩
 rcases X.toInCall.same with⟨h₁,tk,rfl⟩
 rw[e1] at X
 clear henv
 have fr:=S.fresh
 rcases j6.mp fr.1 with⟨fo,fF⟩
 have ok:(⟨env,s.heap.objs.size,false,env,s.heap.objs.size,[],outer,k,hd⟩:Cx).Ok:=⟨e1,e2,e2,by rw[e3];exact FA.kind,by rw[e3];exact FA.kind,e4,e5,(λh=>nomatch h),λU=>⟨rfl,rfl⟩,hhd⟩
 have ar:AR ⟨env,s.heap.objs.size,false,env,s.heap.objs.size,[],outer,k,hd⟩ (A.deeper env):=⟨Around.frames_deeper hA,hh,by show A.depth+1+k<=600;lia,by show A.units+3+10*k<=6000;lia⟩
 have above:∀n b,env.cells.lookup n=some b->s.heap.objs.size<b:=λn b q=>X.above n b (mem_of_lookup q)
 obtain⟨S₁,P₁⟩:=S.addP (h':=h₁) (tk:=tk) (y:=.frame env loc₀) (λb=>b=s.heap.objs.size\/∃n,env.cells.lookup n=some b) (.inl rfl) (λb q=>by
   rcases q with q | ⟨n,q⟩
   ·exact de8 q.symm
   ·exact cY0 (above n b q)) (λb q=>by
   rcases q with rfl | ⟨n,q⟩
   ·obtain⟨ob,_,_,g,_⟩:=X.toInCall.ns;exact⟨ob,g⟩
   ·obtain⟨ob,g,_⟩:=X.cell n b q;exact⟨ob,g⟩) X.toInCall.keep λP=>
  hl▸ak8.begin (s:=s) hn hlen ek ecell X.toInCall.ns X.apart (λn b q=>⟨if_pos (.inr ⟨n,q⟩),Nat.ne_of_gt (above n b q),X.cell n b q⟩) (r.pres P)
 have K₁:FK (f9 own F) (c7 (f9 own F) s.heap.objs.size (some (.frame env loc₀))):=λL e l q=>by
  rw[b7 (λq'=>by subst q';rw[fr.1] at q;cases q)];exact q
 have St₁:St ⟨env,s.heap.objs.size,false,env,s.heap.objs.size,[],outer,k,hd⟩ loc₀ own F (A.deeper env) _ {s with heap:=h₁,toks:=tk}:=⟨ok,ar,S₁,hout,D,fr.1,λh=>nomatch h⟩
 clear ecell ek above X
 refine T3.run (h _ rfl e3 rfl rfl fo) St₁ trivial (λe s' x=>x.go St₁ λC t tr l o' m q X' S' P K'=>?_) λf s' Fl l o' m q r' S' P K'=>?_
 rotate_left
 ·rcases ax5 S' with⟨sr',P'⟩
  have P₂:=P₁.trans (P.trans P')
  cases Fl with
  | next=>cases r';exact⟨.none,o',_,q,S'.dis.1,.none,sr',P₂,K'⟩
  | ret V=>obtain⟨_,rfl,rv⟩:=r';exact⟨_,o',_,q,S'.dis.1,rv.pres P',sr',P₂,K'⟩
  | brk=>exact q.elim
  | cont=>exact q.elim
 ·unfold leaving
  refine wpAny_bind (bZ4 (fenv:=env) (outer:=outer) S'.sr (Around.frames_deeper hA) ((y1.cons ok).mpr ((hout.fk K').full ok l)) e2 e2 X' λh₂ S₂ P₂ X₂=>?_)
  refine P4 (s:={s' with heap:=h₂}) S₂ X₂ λh₃ S₃ P₃ X₃=>?_
  rcases ax5 (A:=A.deeper env) ⟨ok,ar,S₃,S'.out,S'.dis⟩ with⟨sr',P'⟩
  refine⟨C,t,o',_,true,q,S'.dis.1,X₃.pres P' (λb ob vs g U m=>⟨g,?_⟩),sr',P₁.trans (P.trans (P₂.trans (P₃.trans P'))),K'⟩
  unfold t0;rw[m];rfl
end
section
variable {c:Cx} {loc:f8} {own:b9} {E:XP}
abbrev u4 (c:Cx) (loc:f8) (own:b9) (f:Value) (Vs:List V) (Q:V->b9->Prop) (E:XP):Prop:=
 ∀vs,T3 (λh μ=>q9 h μ Vs vs) (z9) c loc own (call f vs) (λV l o=>l=loc/\Q V o) E
theorem aU9 {k:Nat} {f:Value} {Vs:List V} {Q:V->b9->Prop} (hk:k<=c.k) (h:r9 c.hd k f Vs own Q (λC t o=>E C t loc o)):u4 c loc own f Vs Q E:=λU=>T3.callF hk h
noncomputable def cf4 (a:Addr):Prop:=∃o fd,G.base.get? a=some o/\o.data=.func fd
theorem av2 {M:Model} {A:Around} {E:Value->Shared->Prop} {s:Shared} {f:Value} {Q:Args->Shared->Prop} (h:wpAny M A (spliced []) (λvs s'=>Q ⟨vs,[]⟩ s') E s):wpAny M A (evalArgs f true [] []) Q E s:=
 λΓ p hΓ=>h Γ p hΓ
noncomputable def A0 (args:List Expr) (env:Env):Prop:=starEach args env=[]\/∃x r,starEach args env=(false,x)::r/\∀pos,(backTo pos r).any (·.1)=false
theorem A0.any {args:List Expr} {env:Env} (h:A0 args env) (pos:Pos):(backTo pos (starEach args env)).any (·.1)=false:=by
 rcases h with e | ⟨x,r,e,hr⟩
 ·rw[e];rfl
 ·rw[e];show(false || _)=false;rw[Bool.false_or];exact hr pos
theorem bw1 {A:Around} {F:b9} {μ:Mu} {s:Shared} {pos:Pos} {args:List Expr} {f:Value} {Qa:List V->b9->Prop} {Qv:Args->Shared->Prop} (S:St c loc own F A μ s) (h:Evs c loc own pos args Qa E)
  (hp:A0 args c.env) (hQ:∀vs Vs o μ' s',Qa Vs o->q9 s'.heap μ' Vs vs->St c loc o F A μ' s'->f6 μ s.heap μ' s'.heap->FK (f9 own F) (f9 o F)->Qv ⟨vs,[]⟩ s'):
  wpAny (model G.prog G.w) A (evalArgs f true (backTo pos (starEach args c.env)) []) Qv (t8 c own F μ s.heap E) s:=by
 have key:=h.runV (RQ:=λvs s'=>Qv ⟨vs,[]⟩ s') S trivial (λU U y=>y) λvs s' Vs o m q r S P K=>hQ vs Vs o m s' q r S P K
 rcases hp with e | ⟨x,r,e,_⟩
 ·rw[e] at key ⊢;exact av2 key
 ·rw[e] at key ⊢;exact evalArgs_plain key
theorem H9 {A:Around} {F:b9} {μ₀ μ:Mu} {s:Shared} {h₀:Heap} {own₀:b9} {pos:Pos} {args:List Expr} {f g:Value} {V0:List V} {v0:List Value} {Q:V->b9->Prop} {Qv:Args->Shared->Prop} (S:St c loc own F A μ s) (r0:q9 s.heap μ V0 v0)
  (P:f6 μ₀ h₀ μ s.heap) (K:FK (f9 own₀ F) (f9 own F)) (q:Evs c loc own pos args (λVs o=>u4 c loc o g (V0++Vs) Q E) E) (hp:A0 args c.env)
  (hQ:∀vs s',(∀b o,G.base.get? b=some o->s'.heap.get? b=some o)->wpAny (model G.prog G.w) A (call g (v0++vs) []) (i7 (z9) c own₀ F μ₀ h₀ (λV l o=>l=loc/\Q V o)) (t8 c own₀ F μ₀ h₀ E) s'->Qv ⟨vs,[]⟩ s'):
  wpAny (model G.prog G.w) A (evalArgs f true (backTo pos (starEach args c.env)) []) Qv (t8 c own₀ F μ₀ h₀ E) s:=
 wpAny_mono (bw1 S q hp λvs Vs o' m' s' qa r' S' P' K'=>hQ vs s' S'.sr.base
  (wpAny_mono (qa (v0++vs) F A m' s' S' ((r0.pres P').append r')) (λU U y=>(y.lift P' K').lift P K) λU U y=>(y.lift P' K').lift P K)) (λU U y=>y) λU U y=>y.lift P K
section
variable {np pos:Pos} {x:Str} {args:List Expr} {Q:V->b9->Prop}
theorem bw2 (h:Ev c loc own (.Name x np) (λVf o=>∃a,Vf=.val (.ref a)/\cf4 a/\Evs c loc o pos args (λVs o=>u4 c loc o (.ref a) Vs Q E) E) E) (hp:A0 args c.env):Ev c loc own (.Call (.Name x np) args [] pos) Q E:=by
 intro F A μ s S p
 refine wpAny_Call_ofName (h.runV S p (λU U y=>y) λf s₁ V o m q r S P K=>?_)
 obtain⟨a,rfl,⟨ob,fd,g,hd⟩,q⟩:=q
 cases r
 exact callWith_function (o:=ob) (fd:=fd) (H9 (V0:=[]) S .nil P K q hp λvs s' hb y=>⟨⟨hb _ _ g,hd⟩,y⟩)
theorem bw3 (h:Ev c loc own (.Name x np) (λVf o=>∃id,Vf=.val (.builtin id)/\Evs c loc o pos args (λVs o=>u4 c loc o (.builtin id) Vs Q E) E) E) (hp:A0 args c.env):Ev c loc own (.Call (.Name x np) args [] pos) Q E:=by
 intro F A μ s S p
 refine wpAny_Call_ofName (h.runV S p (λU U y=>y) λf s₁ V o m q r S P K=>?_)
 rcases q with⟨a,rfl,q⟩
 cases r
 exact callWith_builtin (hp.any _) (H9 (V0:=[]) S .nil P K q hp λvs s' hb y=>y)
theorem bw4 (h:Ev c loc own (.Name x np) (λVf o=>∃T,Vf=.val (.type T)/\Evs c loc o pos args (λVs o=>u4 c loc o (.type T) Vs Q E) E) E) (hp:A0 args c.env):Ev c loc own (.Call (.Name x np) args [] pos) Q E:=by
 intro F A μ s S p
 refine wpAny_Call_ofName (h.runV S p (λU U y=>y) λf s₁ V o m q r S P K=>?_)
 rcases q with⟨a,rfl,q⟩
 cases r
 exact PySem.callWith_type (hp.any _) (H9 (V0:=[]) S .nil P K q hp λvs s' hb y=>y)
noncomputable def aC7 (T:String) (own:b9):V->Prop
 | .none=>T="NoneType"
 | .bool _=>T="bool"
 | .int _=>T="int"
 | .str _=>T="str"
 | .bytes _=>T="bytes"
 | .tup _=>T="tuple"
 | .lst _=>T="list"
 | .dct _=>T="dict"
 | .ref a=>(T="list"/\∃xs,own a=some (.list xs))\/(T="dict"/\((∃es,own a=some (.dictS es))\/∃es,own a=some (.dictI es)))
 | .val _=>False
theorem St.chunk {A:Around} {F:b9} {μ:Mu} {s:Shared} (S:St c loc own F A μ s) {a:Addr} {o:O} (h:own a=some o):μ a=some a/\(∃ob,s.heap.get? a=some ob)/\K7 s.heap μ a o:=
 S.sr.chunk a o (by obtain⟨n1,n2⟩:=S.dis.ne (o9 (F:=F) h);rw[k9 n1 n2];exact o9 h)
noncomputable def aJ7 (s:Shared) (T:String) (v:Value):Prop:=s.TypeIs v T/\∀a,v=.ref a->∃ob,s.heap.get? a=some ob/\ob.dict=none
theorem aJ7.obj {s:Shared} {T:String} {a:Addr} {ob:Obj} (e:s.heap.get? a=some ob) (hc:ob.cls=.type T) (hd:ob.dict=none):aJ7 s T (.ref a):=⟨⟨_,e,hc⟩,λU q=>by cases q;exact⟨_,e,hd⟩⟩
theorem aJ7.dct {prog:Program} {w:World} {K:Type} [DecidableEq K] {knd:KeyKind prog w K} {s:Shared} {a:Addr} {kvs:List (K×Value)} (t:s.heap.DictOf knd a kvs):aJ7 s "dict" (.ref a):=by
 obtain⟨_,_,_,e,c,_⟩:=t;exact .obj e c.1 c.2.1
theorem ag0 {A:Around} {F:b9} {μ:Mu} {s:Shared} {T:String} {v:Value} {V:V} (S:St c loc own F A μ s) (h:aC7 T own V) (e:VR s.heap μ V v):aJ7 s T v:=by
 cases V with
 | none=>cases h;cases e;exact⟨rfl,λU=>nofun⟩
 | bool _=>cases h;cases e;exact⟨rfl,λU=>nofun⟩
 | int _=>cases h;obtain⟨_,rfl⟩:=e;exact⟨rfl,λU=>nofun⟩
 | str _=>cases h;obtain⟨_,rfl⟩:=e;exact⟨rfl,λU=>nofun⟩
 | bytes _=>cases h;obtain⟨_,rfl⟩:=e;exact⟨rfl,λU=>nofun⟩
 | tup _=>cases h;obtain⟨_,_,rfl,⟨_,t⟩,_⟩:=e;exact .obj t rfl rfl
 | lst _=>cases h;obtain⟨_,_,rfl,⟨_,t⟩,_⟩:=e;exact .obj t rfl rfl
 | dct _=>cases h;obtain⟨_,_,rfl,t,_⟩:=e;exact .dct t
 | ref a=>
  cases e
  rcases h with⟨rfl,xs,h⟩ | ⟨rfl,⟨es,h⟩ | ⟨es,h⟩⟩
  ·obtain⟨vs,⟨_,e⟩,_⟩:=(S.chunk h).2.2;exact .obj e rfl rfl
  ·obtain⟨vs,t,_⟩:=(S.chunk h).2.2;exact .dct t
  ·obtain⟨vs,t,_⟩:=(S.chunk h).2.2;exact .dct t
 | val _=>exact h.elim
theorem bO0 {o:Expr} {name:Str} {apos:Pos} {T id:String} (pa:PlainAttrs T) (slot:Slot T name id) (hty:typeOf (.builtin id)=pure (.type "method_descriptor"))
  (h:Ev c loc own o (λV o₁=>aC7 T o₁ V/\Evs c loc o₁ pos args (λVs o₂=>u4 c loc o₂ (.builtin id) (V::Vs) Q E) E) E) (hp:A0 args c.env)
  (hbase:attributeBase o name c.env (eval o c.env)=eval o c.env:=by rfl)
  (hfew:((backTo pos (starEach args c.env)).all (λx=>!x.1)&&(backToKw pos (keywordEach [] c.env)).all (λx=>x.1.isSome)&&decide (args.length+([]:List Keyword).length+(if([]:List Keyword).isEmpty then 0 else 1)<30))=true:=by rfl)
  (hline:(apos.endLine == pos.line)=true:=by rfl):Ev c loc own (.Call (.Attribute o name apos) args [] pos) Q E:=by
 intro F A μ s S p
 refine wpAny_Call_method hbase hfew hline pa slot hty (h.runV S p (λU U y=>y) λv s₁ V o₁ m q r S P K=>?_)
 rcases q with⟨ht,q⟩
 rcases ag0 S ht r with⟨t1,t2⟩
 exact⟨t1,t2,callWith_builtin (hp.any _) (H9 (V0:=[V]) (v0:=[v]) S (.single r) P K q hp λvs s' hb y=>y)⟩
end
end
section
variable {c:Cx} {loc:f8} {own:b9} {E:XP}
theorem am8 {A:Around} {F:b9} {μ:Mu} {s:Shared} {ob:Obj} {V:V} {v:Value} {tk:Nat} {Q:Mine.V->b9->Prop} (S:St c loc own F A μ s) (hQ:Q V own) (hr:f6 μ s.heap μ (s.heap.push ob)->VR (s.heap.push ob) μ V v):
  i7 (z9) c own F μ s.heap (λV l o=>l=loc/\Q V o) v {s with heap:=s.heap.push ob,toks:=tk}:=by
 rcases(S.sr.grow (s':={s with heap:=s.heap.push ob,toks:=tk}) rfl rfl λb o e=>Heap.get?_push_of_some _ e) with⟨sr',P'⟩
 exact⟨V,_,own,μ,⟨rfl,hQ⟩,S.dis,hr P',sr',P',FK.refl _⟩
theorem bO1 {A:Around} {F:b9} {μ:Mu} {s:Shared} {ob ob':Obj} {V:V} {v:Value} {tk:Nat} {Q:Mine.V->b9->Prop} (S:St c loc own F A μ s) (hQ:Q V own)
  (hr:f6 μ s.heap μ ((s.heap.push ob).push ob')->μ (s.heap.push ob).objs.size=none->VR ((s.heap.push ob).push ob') μ V v):
  i7 (z9) c own F μ s.heap (λV l o=>l=loc/\Q V o) v {s with heap:=(s.heap.push ob).push ob',toks:=tk}:=by
 rcases(S.sr.grow (s':={s with heap:=s.heap.push ob,toks:=tk}) rfl rfl λb o e=>Heap.get?_push_of_some _ e) with⟨sr₁,_⟩
 rcases(S.sr.grow (s':={s with heap:=(s.heap.push ob).push ob',toks:=tk}) rfl rfl λb o e=>Heap.get?_push_of_some _ (Heap.get?_push_of_some _ e)) with⟨sr',P'⟩
 exact⟨V,_,own,μ,⟨rfl,hQ⟩,S.dis,hr P' sr₁.fresh.2,sr',P',FK.refl _⟩
theorem Z2 {A:Around} {F:b9} {μ:Mu} {s:Shared} {h':Heap} {a b:Addr} {o o':O} {tk:Nat} {V:V} {v:Value} {Q:Mine.V->b9->Prop} (S:St c loc own F A μ s) (ha:own a=some o) (nf:∀e l,o≠.frame e l) (hb:μ b=some a) (hs:Heap.SameBut b s.heap h') (hex:∃ob,h'.get? b=some ob)
  (hrel:f6 μ s.heap μ h'->K7 h' μ a o') (hQ:Q V (c7 own a (some o'))) (hr:f6 μ s.heap μ h'->VR h' μ V v):
  i7 (z9) c own F μ s.heap (λV l o=>l=loc/\Q V o) v {s with heap:=h',toks:=tk}:=by
 rcases S.dis.ne (o9 (F:=F) ha) with⟨n1,n2⟩
 have hF:F a=none:=S.dis.1.right ha
 rcases S.sr.turn (tk:=tk) hb hs hex hrel with⟨sr',P'⟩
 rw[z0 n1 n2,p0 hF] at sr'
 refine⟨V,_,_,μ,⟨rfl,hQ⟩,⟨S.dis.1.put hF,?_,λhc=>?_⟩,hr P',sr',P',λL e l q=>?_⟩
 ·rw[<-p0 hF,b7 (Ne.symm n1)];exact S.dis.2.1
 ·rw[<-p0 hF,b7 (Ne.symm (n2 hc))];exact S.dis.2.2 hc
 ·rw[<-p0 hF]
  by_cases q':L=a
  ·subst q';rw[o9 ha] at q;cases q;exact absurd rfl (nf _ _)
  ·rw[b7 q'];exact q
noncomputable def j4 (own:b9) (V:V) (xs:List Mine.V):Prop:=V=.lst xs\/∃a,V=.ref a/\own a=some (.list xs)
theorem j4.lst {xs:List V}:j4 own (.lst xs) xs:=.inl rfl
theorem j4.at_own {xs:List V} {a:Addr} (h:own a=some (.list xs)):j4 own (.ref a) xs:=.inr ⟨a,rfl,h⟩
theorem j4.at_ {V:V} {xs:List Mine.V} {A:Around} {F:b9} {μ:Mu} {s:Shared} {v:Value} (L:j4 own V xs) (S:St c loc own F A μ s) (r:VR s.heap μ V v):∃a vs,v=.ref a/\s.heap.PlainList a vs/\q9 s.heap μ xs vs.toList:=by
 rcases L with rfl | ⟨a,rfl,h⟩
 ·obtain⟨a,vs,e,t,_,r⟩:=r;exact⟨a,vs,e,t,r⟩
 ·exact(S.chunk h).2.2.elim λvs q=>⟨a,vs,r,q⟩
theorem j4.ty {V:V} {xs:List Mine.V} (L:j4 own V xs):aC7 "list" own V:=by
 rcases L with rfl | ⟨a,rfl,h⟩
 ·rfl
 ·exact .inl ⟨rfl,_,h⟩
section
variable {V₁ V₂:V} {xs ys:List V} {Q:V->b9->Prop}
theorem j9 {h:Heap} {μ:Mu} {xs:List V} {vs:Array Value} (r:q9 h μ xs vs.toList):vs.size=xs.length:=by rw[<-db0,r.length]
theorem aV0 {f:Value} {V₁ R:V} (hQ:Q R own) (h:∀F A μ s v,St c loc own F A μ s->VR s.heap μ V₁ v->∀P X,ak9 s R P->wpAny (model G.prog G.w) A (call f [v] []) P X s):u4 c loc own f [V₁] Q E:=by
 intro vs F A μ s S r
 rcases r.one with⟨v,rfl,r'⟩
 exact h F A μ s v S r' _ _ (.of S hQ)
theorem bj5 {f:Value} {V₁ V₂ R:V} (hQ:Q R own) (h:∀F A μ s v u,St c loc own F A μ s->VR s.heap μ V₁ v->VR s.heap μ V₂ u->∀P X,ak9 s R P->wpAny (model G.prog G.w) A (call f [v,u] []) P X s):u4 c loc own f [V₁,V₂] Q E:=by
 intro vs F A μ s S r
 obtain⟨v,u,rfl,r',r2⟩:=r.two
 exact h F A μ s v u S r' r2 _ _ (.of S hQ)
theorem op2 (hQ:Q R own) (h:∀F A μ s v u,St c loc own F A μ s->VR s.heap μ V₁ v->VR s.heap μ V₂ u->∀P X,ak9 s R P->wpAny (model G.prog G.w) A (t v u) P X s):Op2 c loc own V₁ V₂ t Q E:=λv u F A μ s S r=>h F A μ s v u S r.1 r.2 _ _ (.of S hQ)
theorem cs2 (L:j4 own V₁ xs) (hz:xs.length<2 ^ 63) (hQ:Q (.int xs.length) own):u4 c loc own (.builtin "len") [V₁] Q E:=aV0 hQ λU U U U U S r U U k=>by
 obtain⟨a,us,rfl,t,rr⟩:=L.at_ S r
 exact Calls.call_len_list t.isList ((j9 rr).symm▸cY1.mpr hz) ((j9 rr).symm▸k.in)
theorem cs3 (hz:xs.length<2 ^ 63) (hQ:Q (.int xs.length) own):u4 c loc own (.builtin "len") [.tup xs] Q E:=aV0 hQ λU U U U U S r U U k=>by
 obtain⟨a,us,rfl,⟨n,e⟩,-,rr⟩:=r
 exact PySem.P.len_tuple e ((j9 rr).symm▸Int.not_le.mpr (cY1.mpr hz)) ((j9 rr).symm▸k.in)
theorem cs4 (hz:b.length<=1099511627776) (hQ:Q (.int b.length) own):u4 c loc own (.builtin "len") [.bytes b] Q E:=aV0 hQ λU U U U U S r U U k=>by
 rcases r with⟨_,rfl⟩
 exact PySem.W.len_bytes hz k.in
theorem cs5 (hz:x.length<2 ^ 63) (hQ:Q (.int x.length) own):u4 c loc own (.builtin "len") [.str x] Q E:=aV0 hQ λU U U U U S r U U k=>by
 rcases r with⟨_,rfl⟩
 exact PySem.P.len_str (Int.not_le.mpr (cY1.mpr hz)) k.in
end
end
section
variable {c:Cx} {loc:f8} {own:b9} {E:XP}
abbrev ap0 (c:Cx) (loc:f8) (own:b9) (V₁ V₂:V) (Q:V->b9->Prop) (E:XP):Prop:=Op2 c loc own V₁ V₂ getItem Q E
section
variable {V₁ V₂ x:V} {xs ys:List V} {Q:V->b9->Prop} {i:Int}
theorem i7.same {A:Around} {F:b9} {μ:Mu} {s:Shared} {R:V} {v:Value} (S:St c loc own F A μ s) (hQ:Q R own) (r:VR s.heap μ R v):i7 (z9) c own F μ s.heap (λV l o=>l=loc/\Q V o) v s:=leaf S hQ rfl rfl rfl r
theorem be2 {us:Array Value} {v:Value} {i:Nat} (h:us.toList[i]?=some v):us[i]?=some v:=dj6.symm.trans h
theorem cf5 (L:j4 own V₁ xs) (h0:0<=i) (hfit:i<2 ^ 63) (hx:xs[i.toNat]?=some x) (hQ:Q x own):ap0 c loc own V₁ (.int i) Q E:=by
 rintro _ _ F A μ s S ⟨r,_,rfl⟩
 obtain⟨a,us,rfl,t,rr⟩:=L.at_ S r
 obtain⟨v,hv,rv⟩:=rr.get hx
 exact wpAny_getItem_list t.isList h0 hfit (be2 hv) (.same S hQ rv)
theorem bj6 (L:j4 own V₁ xs) (h0:i<0) (h1:-(xs.length:Int)<=i) (hfit:-(2 ^ 63)<=i) (hx:xs[(i+xs.length).toNat]?=some x) (hQ:Q x own):ap0 c loc own V₁ (.int i) Q E:=by
 rintro _ _ F A μ s S ⟨r,_,rfl⟩
 obtain⟨a,us,rfl,t,rr⟩:=L.at_ S r
 obtain⟨v,hv,rv⟩:=rr.get hx
 exact wpAny_getItem_list_neg t.isList h0 ((j9 rr).symm▸h1) hfit ((j9 rr).symm▸be2 hv) (.same S hQ rv)
theorem aJ8 {i:Int} {n:Nat} (h0:0<=i) (h:i.toNat<n):seqIndex? i n=some i.toNat:=by
 unfold seqIndex?
 have h1:¬i<0:=by lia
 have h2:i<(n:Int):=by lia
 simp [h1,h0,h2]
theorem cf6 (h0:0<=i) (hfit:i<2 ^ 63) (hx:xs[i.toNat]?=some x) (hQ:Q x own):ap0 c loc own (.tup xs) (.int i) Q E:=by
 intro _ _ F A μ s S q1_
 obtain⟨⟨a,us,rfl,⟨n,e⟩,-,rr⟩,_,rfl⟩:=q1_
 obtain⟨v,hv,rv⟩:=rr.get hx
 exact PySem.P.getItem_tuple (k:=i.toNat) e (dd5 (by decide) h0) hfit ((j9 rr).symm▸aJ8 h0 (cX4.mp hx).1) (be2 hv) (.same S hQ rv)
theorem cf7 {b:List UInt8} (hfit:b.length<=1099511627776) (h0:0<=i) (h1:i<b.length) (hQ:Q (.int ((b.getD i.toNat 0).toNat:Int)) own):ap0 c loc own (.bytes b) (.int i) Q E:=op2 hQ λ_ _ _ _ _ _ _ ⟨_,e⟩ ⟨_,e2⟩ _ _ k=>
 e▸e2▸PySem.W.getItem_bytes hfit h0 h1 k.in
end
abbrev EvP (c:Cx) (loc:f8) (own:b9) (x:Option Expr) (Q:V->b9->Prop) (E:XP):Prop:=T3 TT (z9) c loc own (evalPart x c.env) (λV l o=>l=loc/\Q V o) E
theorem bw5 {Q:V->b9->Prop} (h:Q .none own):EvP c loc own none Q E:=T3.pure (b:=V.none) (λU U U=>.none) ⟨rfl,h⟩
theorem bw6 {e:Expr} {Q:V->b9->Prop} (h:Ev c loc own e Q E):EvP c loc own (some e) Q E:=h
noncomputable def M5 (V:V) (x:Option Int):Prop:=V=match x with | some i=>.int i | none=>.none
theorem M5.is {h:Heap} {μ:Mu} {v:Value} {V:V}:∀{x:Option Int},M5 V x->VR h μ V v->IsPart v x
 | none,e,r=>by cases e;cases r;exact .none
 | some _,e,r=>by cases e;obtain⟨_,rfl⟩:=r;exact .int _ _
abbrev ab5 (vl vu vs:Value):Obj:={cls:=.type "slice",data:=.fields #[vl,vu,vs]}
abbrev ag1 (c:Cx) (loc:f8) (own:b9) (V₁ Vl Vu Vs:V) (Q:V->b9->Prop) (E:XP):Prop:=∀F A μ s v vl vu vs,St c loc own F A μ s->VR s.heap μ V₁ v->VR s.heap μ Vl vl->VR s.heap μ Vu vu->VR s.heap μ Vs vs->
 wpAny (model G.prog G.w) A (getItem v (.ref s.heap.objs.size)) (i7 (z9) c own F μ s.heap (λV l o=>l=loc/\Q V o)) (t8 c own F μ s.heap E) {s with heap:=s.heap.push (ab5 vl vu vs)}
noncomputable def cut {α:Type} (xs:List α) (lo hi:Option Int):List α:=(xs.drop (lo.elim 0 (clipAt xs.length))).take (hi.elim xs.length (clipAt xs.length)-lo.elim 0 (clipAt xs.length))
section
variable {V₁ V₂ Vl Vu:V} {xs ys:List V} {Q:V->b9->Prop} {lo hi:Option Int}
theorem aK0 {A:Around} {F:b9} {μ:Mu} {s:Shared} {v vl vu vs:Value} {zs:List V} {lo hi st:Option Int} (S:St c loc own F A μ s) (r:VR s.heap μ V₁ v) (L:j4 own V₁ xs) (hz:xs.length<=sizeLine) (hl:IsPart vl lo) (hu:IsPart vu hi) (hs:IsPart vs st) (h0:st≠some 0)
  (hp:∀us:Array Value,us.size=xs.length->q9 s.heap μ xs us.toList->q9 s.heap μ zs (slicePick us lo hi st).toList) (hQ:Q (.lst zs) own):
  wpAny (model G.prog G.w) A (getItem v (.ref s.heap.objs.size)) (i7 (z9) c own F μ s.heap (λV l o=>l=loc/\Q V o)) (t8 c own F μ s.heap E) {s with heap:=s.heap.push (ab5 vl vu vs)}:=by
 obtain⟨a,us,rfl,t,rr⟩:=L.at_ S r
 exact wpAny_getItem_list_slice (t.at λo e=>Heap.get?_push_of_some _ e).isList (Heap.IsSliceOf.new _ _ _ _) hl hu hs h0 (bO1 S hQ λP m=>.lst ⟨0,Heap.get?_push_size _ rfl⟩ m (q9.pres P (hp us (j9 rr) rr))) ((j9 rr).symm▸hz)
theorem bO3 (L:j4 own V₁ xs) (hz:xs.length<=sizeLine) (pl:M5 Vl lo) (pu:M5 Vu hi) (hQ:Q (.lst (cut xs lo hi)) own):ag1 c loc own V₁ Vl Vu .none Q E:=by
 intro F A μ s v vl vu vs S r r1 r2 r3
 cases r3
 refine aK0 S r L hz (pl.is r1) (pu.is r2) .none nofun (λus e rr=>?_) hQ
 rw[slicePick_plain]
 show q9 s.heap μ _ ((us.toList.drop _).take _)
 unfold cut
 rw[e]
 exact(rr.drop _).take _
theorem aV1 (L:j4 own V₁ xs) (hz:xs.length<=sizeLine) (hQ:Q (.lst xs.reverse) own):ag1 c loc own V₁ .none .none (.int (-1)) Q E:=by
 rintro F A μ s v vl vu vs S r rfl rfl ⟨_,rfl⟩
 exact aK0 S r L hz .none .none (.int _ _) (by decide) (λus e rr=>by rw[krv_pick];exact rr.reverse) hQ
theorem bO4 {b:List UInt8} (hz:b.length<=16777216) (pl:M5 Vl lo) (pu:M5 Vu hi) (hQ:Q (.bytes (cut b lo hi)) own):ag1 c loc own (.bytes b) Vl Vu .none Q E:=by
 rintro F A μ s v vl vu vs S ⟨_,rfl⟩ r1 r2 rfl
 refine getItem_meets (typeIs_bytes _ _ _) (by decide) FB.slot_bytes_getitem FB.entry_bytes_getitem (FB.args_bytes_getitem_2 _ _) (KBc.meets_slice2 _ _ _ (pl.is r1) (pu.is r2)) ?_
 refine⟨Heap.IsSliceOf.new _ _ _ _,cV2 (KBc.size_picked_le _ _ _) (by rw[sizeLine_eq];exact hz),λt' k=>?_⟩
 rw[KBc.picked_eq]
 exact am8 S hQ λU=>.bytes _ _
end
section
variable {V₁ V₂:V} {xs ys:List V} {Q:V->b9->Prop}
theorem cs6 (L:j4 own V₁ xs) (L2:j4 own V₂ ys) (hz:xs.length+ys.length<=sizeLine) (hQ:Q (.lst (xs++ys)) own):af8 c loc own .Add V₁ V₂ Q E:=by
 rintro _ _ F A μ s S ⟨r1,r2⟩
 obtain⟨a,us,rfl,⟨_,t⟩,rr⟩:=L.at_ S r1
 obtain⟨b,ws,rfl,⟨_,t2⟩,rr2⟩:=L2.at_ S r2
 exact PySem.P.add_list t t2 (am8 S hQ λP=>.lst ⟨0,Heap.get?_push_size _ rfl⟩ S.sr.fresh.2 (q9.pres P ((di2 (xs:=us) (ys:=ws)).symm▸rr.append rr2))) (by rw[j9 rr,j9 rr2];exact hz)
theorem cs7 {b d:List UInt8} (hz:b.length+d.length<=16777216) (hQ:Q (.bytes (b++d)) own):af8 c loc own .Add (.bytes b) (.bytes d) Q E:=op2 hQ λ_ _ _ _ _ _ _ ⟨_,e⟩ ⟨_,e2⟩ _ _ k=>by
 subst e e2
 exact KBy.add_bytes hz λt' n=>k _ _ (λU=>⟨t',congrArg (Value.bytes · t') (List.append_toArray b d)⟩) rfl rfl rfl
theorem be3 {h:Heap} {μ:Mu} {us:Array Value} {xs:List V} (r:q9 h μ xs us.toList) (h:xs≠[]) (q:us.isEmpty=true):False:=
 h (List.length_eq_zero_iff.mp ((j9 r).symm.trans (Array.isEmpty_iff_size_eq_zero.mp q)))
theorem cs8 (h1:xs≠[]) (h2:ys≠[]) (hz:xs.length+ys.length<=sizeLine) (hQ:Q (.tup (xs++ys)) own):af8 c loc own .Add (.tup xs) (.tup ys) Q E:=by
 intro _ _ F A μ s S q1_
 obtain⟨⟨a,us,rfl,⟨_,t⟩,-,rr⟩,⟨b,ws,rfl,⟨_,t2⟩,-,rr2⟩⟩:=q1_
 exact PySem.P.add_tuple t t2 (be3 rr h1) (be3 rr2 h2) (am8 S hQ λP=>.tup ⟨0,Heap.get?_push_size _ rfl⟩ S.sr.fresh.2 (q9.pres P ((di2 (xs:=us) (ys:=ws)).symm▸rr.append rr2))) (by rw[j9 rr,j9 rr2];exact hz)
theorem aK1 (ha:own a=some (.list xs)) (hz:xs.length<=sizeLine) (hQ:Q .none (c7 own a (some (.list (xs++[x]))))):u4 c loc own (.builtin "list.append") [.ref a,x] Q E:=by
 intro vs F A μ s S r
 obtain⟨_,v,rfl,rfl,rx⟩:=r.two
 obtain⟨hm,_,us,t,rr⟩:=S.chunk ha
 exact wpAny_list_append_plain t (λh' t' hs=>Z2 (o':=.list (xs++[x])) (tk:=s.toks) S ha (λU U=>nofun) hm hs (aI8 t') (λP=>⟨_,t',(dm9 (xs:=us) (x:=v)).symm▸(rr.append (.single rx)).pres P⟩) hQ λU=>.none) ((j9 rr).symm▸hz)
theorem T7 {h:Heap} {a:Addr} {us:Array Value} {n:Nat} (t:h.get? a=some {cls:=.type "list",data:=.seq us n}) (f:Array Value->Array Value):(h.update a (Obj.mapSeq f)).PlainList a (f us):=
 ⟨_,Heap.get?_update_self _ t rfl⟩
theorem aV2 {us:Array Value} {n:Nat} (h:us.size=n+1):(us.eraseIdxIfInBounds (us.size-1)).toList=us.toList.take n:=by
 rw[Array.toList_eraseIdxIfInBounds,List.eraseIdx_eq_take_drop_succ,h]
 show us.toList.take n++us.toList.drop (n+1)=_
 rw[List.drop_of_length_le (de8 (db0.trans h)),cW6]
theorem cs9 {a:Addr} {x:V} (ha:own a=some (.list (xs++[x]))) (hz:xs.length<sizeLine) (hQ:Q x (c7 own a (some (.list xs)))):u4 c loc own (.builtin "list.pop") [.ref a] Q E:=by
 intro vs F A μ s S r
 rcases r.one with⟨_,rfl,rfl⟩
 obtain⟨hm,_,us,⟨n,t⟩,rr⟩:=S.chunk ha
 have hsz:us.size=xs.length+1:=(j9 rr).trans cV4
 obtain⟨v,hv,rv⟩:=rr.get (i:=xs.length) (x:=x) (by rw[de2 (cX5 _),Nat.sub_self];rfl)
 refine call_meets PySem.F.slot_list_pop ⟨_,t,rfl⟩ PySem.F.entry_list_pop (PySem.F.args_list_pop_1 _) (PySem.MeetsSeq.list_pop_last a us n v (by rw[hsz];exact be2 hv) (hsz▸hz)) ⟨t,?_⟩
 have hob:=T7 t (λxs=>xs.eraseIdxIfInBounds (us.size-1))
 refine Z2 (o':=.list xs) (tk:=s.toks) S ha (λU U=>nofun) hm (Heap.SameBut.update ..) (aI8 hob) (λP=>⟨_,hob,q9.pres P ?_⟩) hQ λP=>rv.pres P
 rw[aV2 hsz]
 have:=rr.take xs.length
 rwa [List.take_left] at this
theorem bw7 (h:n<=sizeLine):¬(b&&Builtin.List.listTooLong n)=true:=by
 rw[show Builtin.List.listTooLong n=false from decide_eq_false (dg4.mpr h),Bool.and_false];exact nofun
theorem bw8 {V:V} (ha:own a=some (.list xs)) (hV:V=.lst ys) (hz:xs.length+ys.length<=sizeLine) (hQ:Q .none (c7 own a (some (.list (xs++ys))))):u4 c loc own (.builtin "list.extend") [.ref a,V] Q E:=by
 subst hV
 intro vs F A μ s S r
 obtain⟨_,_,rfl,rfl,b,ws,rfl,⟨n2,t2⟩,m2,rr2⟩:=r.two
 obtain⟨hm,_,us,⟨n,t⟩,rr⟩:=S.chunk ha
 have z:us.size+ws.size<=sizeLine:=by rw[j9 rr,j9 rr2];exact hz
 have hob:=T7 t (λx=>x++ws)
 exact call_meets PySem.F.slot_list_extend ⟨_,t,rfl⟩ PySem.F.entry_list_extend (PySem.F.args_list_extend_2 _ _) (PySem.AutoSeq1.list_extend_list_list_0 a us n _ _ n2 (bw7 z) (cV2 (dc4 _ _) z) (cZ6 z)) ⟨t,t2,
  Z2 (o':=.list (xs++ys)) (tk:=s.toks) S ha (λU U=>nofun) hm (Heap.SameBut.update ..) (aI8 hob) (λP=>⟨_,hob,q9.pres P ((di2 (xs:=us) (ys:=ws)).symm▸rr.append rr2)⟩) hQ λP=>.none⟩
end
end
section
variable {c:Cx} {loc:f8} {own:b9} {E:XP}
noncomputable def H0 (sc:Scope):Env:={scope:=sc,locals:=0,globals:=0,cells:=[]}
theorem B4 {env:Env} {sc:Scope} (h:env.scope=sc) (ts:List Expr) (e:Expr):swappedStores ts e env=swappedStores ts e (H0 sc):=by
 subst h
 unfold swappedStores Env.blockKind Env.kindOf H0
 rfl
theorem r8 {env:Env} {sc:Scope} (h:env.scope=sc) (e:Expr) (t:Option Expr) (n:Nat):swapsWith e t n env=swapsWith e t n (H0 sc):=by
 subst h
 unfold swapsWith Env.blockKind Env.kindOf H0
 rfl
theorem ax6 {t e:Expr} {pos:Pos} {Q:Fl->f8->b9->Prop} (h:Ev c loc own e (λV o=>Asg c loc o t V (λl o=>Q .next l o) E) E)
  (hw:swappedStores [t] e c.env=pure none) (hs:swapsWith e (some t) pos.line c.env=pure false:=by rfl) (ha:∀v,assignAll v ((assignEach [t] c.env).map (·.2))=assign t c.env v:=by intro _;rfl):
  Ex c loc own (.Assign [t] e pos) Q E:=by
 have he:∀env,exec (.Assign [t] e pos) env=(do
   standAt pos
   if <-swapsWith e (some t) pos.line env then do
    evalThenUse e env λv=>assignAll v ((assignEach [t] env).map (·.2))
    pure .next
   else do
    let v <-eval e env
    assignStores env v (<-swappedStores [t] e env) ((assignEach [t] env).map (·.2))):=λU=>rfl
 show T3 TT (FlR) c loc own (exec (.Assign [t] e pos) c.env) Q E
 rw[he,hs]
 refine T3.standAt ?_
 show T3 TT (FlR) c loc own (do let v <-eval e c.env;assignStores c.env v (<-swappedStores [t] e c.env) ((assignEach [t] c.env).map (·.2))) Q E
 refine T3.bind B3 (h.mono (λU U x=>x) (λV l o q v=>?_) λU U U U x=>x)
 rcases q with⟨rfl,q⟩
 rw[hw]
 show T3 _ (FlR) c l o (do assignAll v ((assignEach [t] c.env).map (·.2));pure .next) Q E
 rw[ha]
 refine T3.bind (L7 B3 E0) (T3.mono (q v) (λU U x=>x.2) (λU l o q U=>?_) λU U U U x=>x)
 exact T3.pure (b:=Fl.next) (λU U U=>.next) q
inductive bj7:List (Str×V)->f8->f8->Prop
 | nil {l:f8}:bj7 [] l l
 | cons {x:Str} {v:V} {r:List (Str×V)} {l l' l'':f8}:N0 x (some v) l l'->bj7 r l' l''->bj7 ((x,v)::r) l l''
theorem q9.hd {V:V} {v:Value} {Vs:List Mine.V} {vs:List Value} {h:Heap} {μ:Mu} (r:q9 h μ (V::Vs) (v::vs)):VR h μ V v/\q9 h μ Vs vs:=by
 obtain⟨_,_,e,a,b⟩:=r;cases e;exact⟨a,b⟩
theorem T3.thenAll {α:Type} {V:V} {v:Value} {Vs:List Mine.V} {vs:List Value} {t:Sem Unit} {f:Sem α} {β:Type} {Rel:Heap->Mu->β->α->Prop} {Q:β->f8->b9->Prop} (h:T3 (λh μ=>VR h μ V v) D6 c loc own t (λ(_:Unit) l o=>T3 (λh μ=>q9 h μ Vs vs) Rel c l o f Q E) E):
  T3 (λh μ=>q9 h μ (V::Vs) (v::vs)) Rel c loc own (PySem.holding vs t >>= λU=>f) Q E:=
 (T3.bind (Pre:=λh μ=>VR h μ V v/\q9 h μ Vs vs) (L7 E0 aI9) (T3.holding (T3.mono h (λU U x=>x.1) (λU U U q U=>q.pre λU U x=>x.1.2) λU U U U x=>x))).pre λU U r=>r.hd
theorem T3.ofVRs {α β:Type} {Rel:Heap->Mu->β->α->Prop} {Q:β->f8->b9->Prop} {V:V} {Vs:List Mine.V} {vs:List Value} {f:List Value->Sem α} (h:∀v us,vs=v::us->T3 (λh μ=>q9 h μ (V::Vs) (v::us)) Rel c loc own (f (v::us)) Q E):T3 (λh μ=>q9 h μ (V::Vs) vs) Rel c loc own (f vs) Q E:=by
 intro F A μ s S p
 have q:=p
 obtain⟨v,us,rfl,_⟩:=q
 exact h v us rfl F A μ s S p
theorem T3.unitNil {Q:Unit->f8->b9->Prop} {vs:List Value} {ts:List (Value->Sem Unit)} (ht:ts=[]) (hQ:Q () loc own):T3 (λh μ=>q9 h μ [] vs) D6 c loc own (assignInOrder ts vs) Q E:=
 λF A μ s S p=>ht▸(show vs=[] from p)▸T3.pure (Pre:=TT) (b:=()) (λU U U=>rfl) hQ F A μ s S trivial
theorem T3.bindAll {ns:List Str}:∀{Vs:List V} {vs:List Value} {loc loc':f8} {Q:Unit->f8->b9->Prop},ns.length=Vs.length->bj7 (ns.zip Vs) loc loc'->Q () loc' own->
  T3 (λh μ=>q9 h μ Vs vs) D6 c loc own (assignInOrder (ns.map λn=>PySem.bindName c.env n) vs) Q E:=by
 induction ns with
 | nil=>
  intro Vs vs _ _ Q hl u hQ
  cases Vs with
  | nil=>cases u;exact T3.unitNil rfl hQ
  | cons=>cases hl
 | cons n ns ih=>
  intro Vs vs _ _ Q hl u hQ
  cases Vs with
  | nil=>cases hl
  | cons V Vs=>
   cases u with
   | cons u1 u2=>exact T3.ofVRs (f:=assignInOrder ((n::ns).map λn=>PySem.bindName c.env n)) λv us e=>T3.thenAll (T3.bindName u1 (λU U x=>x) (ih (Nat.succ.inj hl) u2 hQ))
theorem av3 {t e:Expr} {pos:Pos} {names:List Str} {Q:Fl->f8->b9->Prop} (hh:c.hd=none)
  (h:Ev c loc own e (λV o=>∃xs loc',V=.tup xs/\xs.length=names.length/\bj7 (names.reverse.zip xs.reverse) loc loc'/\Q .next loc' o) E)
  (hw:swappedStores [t] e c.env=pure (some names)) (hs:swapsWith e (some t) pos.line c.env=pure false:=by rfl):Ex c loc own (.Assign [t] e pos) Q E:=by
 have he:∀env,exec (.Assign [t] e pos) env=(do
   standAt pos
   if <-swapsWith e (some t) pos.line env then do
    evalThenUse e env λv=>assignAll v ((assignEach [t] env).map (·.2))
    pure .next
   else do
    let v <-eval e env
    assignStores env v (<-swappedStores [t] e env) ((assignEach [t] env).map (·.2))):=λU=>rfl
 show T3 TT (FlR) c loc own (exec (.Assign [t] e pos) c.env) Q E
 rw[he,hs]
 refine T3.standAt ?_
 show T3 TT (FlR) c loc own (do let v <-eval e c.env;assignStores c.env v (<-swappedStores [t] e c.env) ((assignEach [t] c.env).map (·.2))) Q E
 refine T3.bind B3 (h.mono (λU U x=>x) (λV l o q v=>?_) λU U U U x=>x)
 obtain⟨rfl,xs,loc',rfl,hlen,u,q⟩:=q
 rw[hw]
 show T3 _ (FlR) c l o (do rule "assign.swapped-stores";let items <-unpackItems v names.length none;assignInOrder (names.reverse.map λn=>PySem.bindName c.env n) items.reverse;pure .next) Q E
 refine T3.rule ?_
 intro F A μ s S p
 obtain⟨a,us,rfl,t,m,rr⟩:=p.2
 rw[hlen.symm.trans (j9 rr).symm]
 refine wpAny_bind (wpAny_unpackItems_tuple (S.ar.handled.trans hh) t.isTuple λh' hk=>?_)
 rcases(S.sr.grow (s':={s with heap:=h'}) rfl rfl λb ob g=>hk b ob (cY4 (Heap.lt_size g)) g) with⟨sr',P'⟩
 have key:=T3.bind (c:=c) (loc:=l) (own:=o) (E:=E) (Pre:=λh μ=>q9 h μ xs.reverse us.toList.reverse) aI9 (T3.bindAll (ns:=names.reverse) (Q:=λU l o=>∀a:Unit,
  T3 (λh μ=>q9 h μ xs.reverse us.toList.reverse/\D6 h μ () a) (FlR) c l o (Pure.pure Flow.next) Q E) (by simp [hlen]) u (λU=>T3.pure (b:=Fl.next) (λU U U=>.next) q))
 exact wpAny_mono (key F A μ {s with heap:=h'} ⟨S.ok,S.ar,sr',S.out,S.dis⟩ (rr.reverse.pres P')) (λU U y=>y.lift P' (FK.refl _)) λU U y=>y.lift P' (FK.refl _)
abbrev ag2 (c:Cx) (loc:f8) (own:b9) (ts:List Expr) (Vs:List V) (Q:f8->b9->Prop) (E:XP):Prop:=
 ∀vs,T3 (λh μ=>q9 h μ Vs vs) D6 c loc own (assignInOrder ((assignEach ts c.env).map (·.2)) vs) (λ(_:Unit) l o=>Q l o) E
theorem aV3 {Q:f8->b9->Prop} (hQ:Q loc own):ag2 c loc own [] [] Q E:=λU=>T3.unitNil rfl hQ
theorem aK2 {t:Expr} {ts:List Expr} {V:V} {Vs:List Mine.V} {Q:f8->b9->Prop} (h:Asg c loc own t V (λl o=>ag2 c l o ts Vs Q E) E)
  (he:assignEach (t::ts) c.env=(false,assign t c.env)::assignEach ts c.env:=by rfl):ag2 c loc own (t::ts) (V::Vs) Q E:=by
 unfold ag2;rw[he]
 exactλU=>T3.ofVRs (f:=assignInOrder (assign t c.env::(assignEach ts c.env).map (·.2))) λv us e=>T3.thenAll (T3.mono (h v) (λU U x=>x) (λU U U q=>q us) λU U U U x=>x)
theorem aV4 (hh:A.handled=none) (hl:s.heap.IsList l items)
  (hQ:∀h',Heap.ExtBut s.heap.objs.size s.heap h'->Q items.toList {s with heap:=h'}):wpAny (model prog w) A (unpackItems (.ref l) items.size none) Q EE s:=by
 have hlt:l≠s.heap.objs.size:=by obtain⟨o,ho,_⟩:=hl;exact cY4 (Heap.lt_size ho)
 have drawl:∀(n i:Nat) (s:Shared) (it:Addr) (hne:l≠it) (Q:List Value->Shared->Prop),s.heap.IsListIter it l i->s.heap.IsList l items->i+n<=items.size->
   (∀h',h'.IsListIter it l (i+n)->Heap.SameBut it s.heap h'->Q ((items.toList.drop i).take n) {s with heap:=h'})->wpAny (model prog w) A (draw (.ref it) n) Q EE s:=by
  intro n
  induction n with
  | zero=>
   intro i s it hne Q hit _ _ hQ
   show wpAny _ _ (pure []) Q EE s
   exact wpAny_pure (by simpa using hQ s.heap hit (Heap.SameBut.refl ..))
  | succ n ih=>
   intro i s it hne Q hit ht hle hQ
   have hlt:i<items.size:=by lia
   show wpAny _ _ (pyNext (.ref it) >>= _) Q EE s
   refine wpAny_bind (wpAny_pyNext_list_item hit ht (x:=items[i]) (by simp [hlt]) λh₁ hit₁ hs₁=>?_)
   refine wpAny_bind (wpAny_holding (ih (i+1) _ it hne _ hit₁ (ht.extBut hs₁.extBut hne) (by lia) λh₂ hit₂ hs₂=>wpAny_pure ?_))
   have hd:items.toList.drop i=items[i]::items.toList.drop (i+1):=by simp [dl0,hlt]
   have:=hQ h₂ (by rw[show i+(n+1)=i+1+n by lia];exact hit₂) (hs₁.trans hs₂)
   rw[hd,List.take_succ_cons] at this
   exact this
 unfold unpackItems
 refine wpAny_bind ?_
 ·unfold notIterableAtAll
  refine wpAny_bind (wpAny_specialOf hl.typeIs PySem.F.slot_list_iter.lookup ?_)
  refine wpAny_pure ?_
  simp only[dg9,if_false]
  refine wpAny_bind (wpAny_holding (wpAny_pyIter_list hl ?_))
  refine wpAny_bind (wpAny_holding (drawl items.size 0 _ _ hlt _ ⟨_,Heap.get?_push_size _ rfl,rfl,rfl⟩ (hl.push _) (by lia) λh₁ hit₁ hs₁=>?_))
  have hall:List.take items.size (List.drop 0 items.toList)=items.toList:=by
   rw[do2];exact dd8 (by simp)
  rw[hall]
  rw[if_neg (by simp)]
  have ht₁:h₁.IsList l items:=(hl.push _).extBut hs₁.extBut hlt
  refine wpAny_bind (wpAny_holding (wpAny_pyNext_list_end hh hit₁ ht₁ (by simp) λh₂ he₂=>?_))
  simp only[Option.isSome_none,dg9,if_false]
  refine wpAny_pure (hQ h₂ λb o hb e=>he₂ b o hb (hs₁.extBut b o hb (Heap.get?_push_of_some _ e)))
theorem bj8 {x1} {V:V} (hh:c.hd=none) (hV:V=.tup xs\/j4 own V xs) (hn:elts.length=xs.length) (h:ag2 c loc own elts xs Q E)
  (hl:(assignEach elts c.env).length=elts.length:=by rfl) (hstar:(assignEach elts c.env).findIdx? (·.1)=none:=by rfl):Asg c loc own (.Tuple elts x1 pos) V Q E:=by
 intro v F A μ s S r
 rw[arm_assign_Tuple]
 refine wpAny_bind (wpAny_standAt ?_)
 unfold unpack
 rw[hl,hn,hstar]
 have go:∀us:Array Value,q9 s.heap μ xs us.toList->∀h',Heap.ExtBut s.heap.objs.size s.heap h'->
   wpAny (model G.prog G.w) A (assignInOrder ((assignEach elts c.env).map (·.2)) us.toList) (i7 D6 c own F μ s.heap λ(_:Unit) l o=>Q l o) (t8 c own F μ s.heap E) {s with heap:=h'}:=λus rr h' hk=>by
  rcases(S.sr.grow (s':={s with heap:=h'}) rfl rfl λb ob g=>hk b ob (cY4 (Heap.lt_size g)) g) with⟨sr',P'⟩
  exact wpAny_mono (h us.toList F A μ {s with heap:=h'} ⟨S.ok,S.ar,sr',S.out,S.dis⟩ (rr.pres P')) (λU U y=>y.lift P' (FK.refl _)) λU U y=>y.lift P' (FK.refl _)
 rcases hV with rfl | L
 ·obtain⟨a,us,rfl,t,m,rr⟩:=r
  rw[<-j9 rr]
  exact wpAny_bind (wpAny_holding (wpAny_unpackItems_tuple (S.ar.handled.trans hh) t.isTuple (go us rr)))
 ·obtain⟨a,us,rfl,t,rr⟩:=L.at_ S r
  rw[<-j9 rr]
  exact wpAny_bind (wpAny_holding (aV4 (S.ar.handled.trans hh) t.isList (go us rr)))
end
section
variable {c:Cx} {loc:f8} {own:b9} {E:XP}
noncomputable def k7 {K:Type} [DecidableEq K] (es:List (K×V)) (k:K):Option V:=(es.find? λkv=>kv.1=k).map (·.2)
noncomputable def put {K:Type} [DecidableEq K] (es:List (K×V)) (k:K) (x:V):List (K×V):=if es.any (λkv=>kv.1=k) then es.map (λkv=>if kv.1=k then(kv.1,x) else kv) else es++[(k,x)]
theorem ct0 {K:Type} [DecidableEq K] (k:K):k7 [] k=none:=rfl
theorem s9 {K:Type} [DecidableEq K] (k k':K) (x:V) (es:List (K×V)):k7 ((k',x)::es) k=if k'=k then some x else k7 es k:=by
 unfold k7;rw[di6];by_cases q:k'=k
 ·rw[decide_eq_true q,if_pos q];rfl
 ·rw[decide_eq_false q,if_neg q]
theorem aC8 {K:Type} [DecidableEq K] (k k':K) (x:Value) (es:List (K×Value)):valueAt ((k',x)::es) k=if k'=k then some x else valueAt es k:=by
 unfold valueAt;rw[di6];by_cases q:k'=k
 ·rw[decide_eq_true q,if_pos q];rfl
 ·rw[decide_eq_false q,if_neg q]
theorem K6.look {K:Type} [DecidableEq K] {h:Heap} {μ:Mu} (k:K) {es:List (K×V)} {vs:List (K×Value)} (r:K6 h μ es vs):P0 h μ (k7 es k) (valueAt vs k):=
 r.ind (C:=λes vs=>P0 h μ (Mine.k7 es k) (valueAt vs k)) .none λ{k' _ _ _ _} a _ ih=>by
  rw[s9,aC8];by_cases q:k'=k
  ·rw[if_pos q,if_pos q];exact .some a
  ·rw[if_neg q,if_neg q];exact ih
theorem K6.any {K:Type} {h:Heap} {μ:Mu} (p:K->Bool) {es:List (K×V)} {vs:List (K×Value)} (r:K6 h μ es vs):es.any (λkv=>p kv.1)=vs.any (λkv=>p kv.1):=
 r.ind (C:=λes vs=>es.any (λkv=>p kv.1)=vs.any (λkv=>p kv.1)) rfl λU U ih=>by rw[dl1,dl1,ih]
theorem K6.over {K:Type} [DecidableEq K] {h:Heap} {μ:Mu} (k:K) {x:V} {v:Value} (a:VR h μ x v) {es:List (K×V)} {vs:List (K×Value)} (r:K6 h μ es vs):K6 h μ (es.map λkv=>if kv.1=k then(kv.1,x) else kv) (vs.map λkv=>if kv.1=k then(kv.1,v) else kv):=
 r.ind (C:=λes vs=>K6 h μ (es.map λkv=>if kv.1=k then(kv.1,x) else kv) (vs.map λkv=>if kv.1=k then(kv.1,v) else kv)) .nil λ{k' _ _ _ _} b _ ih=>by
  rw[cX3,cX3];by_cases q:k'=k
  ·rw[if_pos q,if_pos q];exact .cons a ih
  ·rw[if_neg q,if_neg q];exact .cons b ih
theorem K6.snoc {K:Type} {h:Heap} {μ:Mu} {k:K} {x:V} {v:Value} (a:VR h μ x v) {es:List (K×V)} {vs:List (K×Value)} (r:K6 h μ es vs):K6 h μ (es++[(k,x)]) (vs++[(k,v)]):=
 r.ind (C:=λes vs=>K6 h μ (es++[(k,x)]) (vs++[(k,v)])) (.cons a .nil) λb U=>.cons b
theorem K6.put {K:Type} [DecidableEq K] {h:Heap} {μ:Mu} {es:List (K×V)} {vs:List (K×Value)} (r:K6 h μ es vs) (k:K) {x:V} {v:Value} (a:VR h μ x v):K6 h μ (put es k x) (stored vs k v):=by
 unfold Mine.put stored
 rw[r.any (λq=>decide (q=k))]
 split
 ·exact r.over k a
 ·exact r.snoc a
theorem aj2 {K:Type} [DecidableEq K] {h:Heap} {μ:Mu} {es:List (K×V)} {vs:List (K×Value)} (r:K6 h μ es vs) (k:K):(valueAt vs k).isSome=(k7 es k).isSome:=by
 have:=r.look k
 cases e:Mine.k7 es k with
 | none=>rw[e] at this;rw[show valueAt vs k=none from this];rfl
 | some x=>rw[e] at this;obtain⟨v,hv,-⟩:=this;rw[hv];rfl
abbrev bO5 {K:Type} [DecidableEq K] (knd:KeyKind G.prog G.w K) (h:Heap) (μ:Mu) (a:Addr) (es:List (K×V)):Prop:=∃vs,h.DictOf knd a vs/\K6 h μ es vs
class DK (K:Type) [DecidableEq K] where
 knd:(prog:Program)->(w:World)->KeyKind prog w K
 mkV:K->V
 mkO:List (K×V)->O
 froz:V->List (K×V)->Prop
 isK:∀{h:Heap} {μ:Mu} {k:K} {v:Value},VR h μ (mkV k) v->(knd G.prog G.w).is k v=true
 rel:∀{h:Heap} {μ:Mu} {a:Addr} {es:List (K×V)},K7 h μ a (mkO es)->bO5 (knd G.prog G.w) h μ a es
 rel':∀{h:Heap} {μ:Mu} {a:Addr} {es:List (K×V)},bO5 (knd G.prog G.w) h μ a es->K7 h μ a (mkO es)
 frz:∀{h:Heap} {μ:Mu} {V:V} {es:List (K×Mine.V)} {v:Value},froz V es->VR h μ V v->∃a,v=.ref a/\(a == sysModules)=false/\bO5 (knd G.prog G.w) h μ a es
 nf:∀{es:List (K×V)} {e:Env} {l:f8},mkO es≠.frame e l
 tyF:∀{V:V} {es:List (K×Mine.V)} {own:b9},froz V es->aC7 "dict" own V
 tyO:∀{a:Addr} {es:List (K×V)} {own:b9},own a=some (mkO es)->aC7 "dict" own (.ref a)
instance:DK Str where
 knd:=PySem.strKind
 mkV:=.str
 mkO:=.dictS
 froz V es:=V=.dct es
 isK r:=by obtain⟨_,rfl⟩:=r;exact strKind_is _ _ _ _
 rel:=id
 rel':=id
 frz e r:=by subst e;obtain⟨a,vs,e,t,m,z,r⟩:=r;exact⟨_,e,z,_,t,r.to⟩
 nf:=nofun
 tyF e:=by subst e;rfl
 tyO h:=.inr ⟨rfl,.inl ⟨_,h⟩⟩
instance:DK Int where
 knd:=intKind
 mkV:=.int
 mkO:=.dictI
 froz V es:=False
 isK r:=by obtain⟨_,rfl⟩:=r;exact intKind_is _ _ _ _
 rel:=id
 rel':=id
 frz e:=e.elim
 nf:=nofun
 tyF e:=e.elim
 tyO h:=.inr ⟨rfl,.inr ⟨_,h⟩⟩
noncomputable def A1 {K:Type} [DecidableEq K] [DK K] (own:b9) (V:V) (es:List (K×Mine.V)):Prop:=DK.froz V es\/∃a,V=.ref a/\own a=some (DK.mkO es)
theorem A1.dct {es:List (Str×V)}:A1 own (.dct es) es:=.inl rfl
theorem A1.at_own {K:Type} [DecidableEq K] [DK K] {a:Addr} {es:List (K×V)} (h:own a=some (DK.mkO es)):A1 own (.ref a) es:=.inr ⟨a,rfl,h⟩
theorem A1.ty {K:Type} [DecidableEq K] [DK K] {V:V} {es:List (K×Mine.V)} (h:A1 own V es):aC7 "dict" own V:=by
 rcases h with h | ⟨a,rfl,h⟩
 ·exact DK.tyF h
 ·exact DK.tyO h
theorem St.ne_sys {A:Around} {F:b9} {μ:Mu} {s:Shared} (K0:T6) (S:St c loc own F A μ s) {a:Addr} {o:O} (h:own a=some o):(a == sysModules)=false:=by
 have:=(S.chunk h).1
 rcases K0.sysm with⟨ob,e⟩
 rw[beq_eq_false_iff_ne]
 intro q
 subst q
 rw[S.sr.baseMu _ _ e] at this
 cases this
theorem A1.at_ {K:Type} [DecidableEq K] [DK K] {V:V} {es:List (K×Mine.V)} {A:Around} {F:b9} {μ:Mu} {s:Shared} {v:Value} (K0:T6) (L:A1 own V es) (S:St c loc own F A μ s) (r:VR s.heap μ V v):
  ∃a,v=.ref a/\(a == sysModules)=false/\bO5 (DK.knd G.prog G.w) s.heap μ a es:=by
 rcases L with h | ⟨a,rfl,h⟩
 ·exact DK.frz h r
 ·exact⟨a,r,S.ne_sys K0 h,DK.rel (S.chunk h).2.2⟩
section
variable {K:Type} [DecidableEq K] [DK K] {k:K} {V₁ x:V} {es:List (K×V)} {Q:V->b9->Prop}
theorem cE1 (K0:T6) (L:A1 own V₁ es) (hQ:Q (.bool (k7 es k).isSome) own):y7 c loc own .In (DK.mkV k) V₁ Q E:=op2 hQ λU U U U U U S r1 r2 U U n=>by
 obtain⟨a,rfl,hn,vs,hd,rr⟩:=L.at_ K0 S r2
 exact wpAny_in_of (DK.isK r1) hn hd.mapOf (aj2 rr k▸n.bo)
theorem bO6 (K0:T6) (L:A1 own V₁ es) (hQ:Q (.bool (!(k7 es k).isSome)) own):y7 c loc own .NotIn (DK.mkV k) V₁ Q E:=op2 hQ λU U U U U U S r1 r2 U U n=>by
 obtain⟨a,rfl,hn,vs,hd,rr⟩:=L.at_ K0 S r2
 exact wpAny_notIn_of (DK.isK r1) hn hd.mapOf (aj2 rr k▸n.bo)
theorem bw9 (K0:T6) (L:A1 own V₁ es) (hx:k7 es k=some x) (hQ:Q x own):ap0 c loc own V₁ (DK.mkV k) Q E:=by
 rintro _ kv F A μ s S ⟨r1,r2⟩
 obtain⟨a,rfl,hn,vs,hd,rr⟩:=L.at_ K0 S r1
 obtain⟨v,hv,rv⟩:P0 s.heap μ (some x) (valueAt vs k):=hx▸rr.look k
 exact wpAny_getItem_of (DK.isK r2) hd.mapOf hv (leaf (s':={s with toks:=s.toks+1}) S hQ rfl rfl rfl rv)
theorem P0.getD {h:Heap} {μ:Mu} {ox:Option V} {ov:Option Value} (r:P0 h μ ox ov):VR h μ (ox.getD .none) (ov.getD .none):=by
 cases ox with
 | none=>cases r;exact .none
 | some _=>obtain⟨_,rfl,r⟩:=r;exact r
theorem ct1 (K0:T6) (L:A1 own V₁ es) (hQ:Q ((k7 es k).getD .none) own):u4 c loc own (.builtin "dict.get") [V₁,DK.mkV k] Q E:=by
 intro vs F A μ s S r
 obtain⟨_,kv,rfl,r1,r2⟩:=r.two
 obtain⟨a,rfl,hn,vs,hd,rr⟩:=L.at_ K0 S r1
 exact call_meetsIn PySem.F.slot_dict_get hd.typeIs PySem.F.entry_dict_get (PySem.F.args_dict_get_2 _ _) (meets_dict_get (DK.knd G.prog G.w) a (DK.isK r2) hn) ⟨_,hd.mapOf,leaf (s':={s with toks:=s.toks+1}) S hQ rfl rfl rfl (rr.look k).getD⟩
theorem aC9 {k:K} {x:V} (hx:k7 es k=none):put es k x=es++[(k,x)]:=by
 unfold put
 rw[if_neg]
 rw[dj9]
 intro q1_
 obtain⟨kv,hm,he⟩:=q1_
 unfold k7 at hx
 rw[dn6,List.find?_eq_none] at hx
 exact hx kv hm he
theorem ct2 (K0:T6) {a:Addr} (ha:own a=some (DK.mkO es)) (hz:es.length<=sizeLine) {kv v:Value} {Q:Unit->f8->b9->Prop} (hQ:Q () loc (c7 own a (some (DK.mkO (put es k x))))):
  T3 (λh μ=>VR h μ (DK.mkV k) kv/\VR h μ x v) D6 c loc own (setItem (.ref a) kv v) Q E:=by
 rintro F A μ s S ⟨r1,r2⟩
 obtain⟨hm,_,hr⟩:=S.chunk ha
 obtain⟨vs,hd,rr⟩:=DK.rel hr
 refine wpAny_setItem_pairs (DK.isK r1) hd (λh' hd' hs=>?_) (by rw[rr.length];exact hz)
 have:=Z2 (Q:=λV o=>Q () loc o) (V:=.none) (v:=.none) (o':=DK.mkO (put es k x)) (tk:=s.toks+1) S ha (λU U=>DK.nf) hm hs (bt6 hd') (λP=>DK.rel' ⟨_,hd',(rr.put k r2).pres P⟩) hQ (λU=>.none)
 obtain⟨V,l,o,m,⟨rfl,q⟩,r⟩:=this
 exact⟨(),_,o,m,q,r.d,rfl,r.sr,r.P,r.K⟩
end
theorem bO7 {d i:Expr} {pos:Pos} {V:V} {Q:f8->b9->Prop}
  (h:Ev c loc own d (λV₁ o₁=>Ev c loc o₁ i (λV₂ o₂=>∀ov iv v,T3 (λh μ=>VR h μ V₁ ov/\VR h μ V₂ iv/\VR h μ V v) D6 c loc o₂ (setItem ov iv v) (λ(_:Unit) l o=>Q l o) E) E) E):
  Asg c loc own (.Subscript d i pos) V Q E:=by
 intro v
 rw[assign_Subscript]
 exact Ev.bindP E0 (h.mono (λU U x=>x) (λU U U q=>⟨q.1,λov=>Ev.bindP (L7 E0 E0) (q.2.mono (λU U x=>x) (λU U U q=>⟨q.1,λiv=>T3.standAt (T3.bind (L7 (L7 E0 E0) E0)
  (T3.holding (T3.mono (q.2 ov iv v) (λU U x=>⟨x.1.2,x.2,x.1.1⟩) (λU U U q U=>T3.release (b:=()) (λU U U=>rfl) q) λU U U U x=>x)))⟩) λU U U U x=>x)⟩) λU U U U x=>x)
theorem T8 {prog:Program} {w:World} {K:Type} [DecidableEq K] {knd:KeyKind prog w K} {A:Around} {EE:Value->Shared->Prop} {s:Shared} {d:Addr} {kvs:List (K×Value)} {k:K} {key v:Value} {Q:Value->Shared->Prop} (hkey:knd.is k key=true) (hm:s.heap.DictOf knd d kvs)
  (hthere:∀u,valueAt kvs k=some u->Q u {s with toks:=s.toks+1})
  (hQ:valueAt kvs k=none->∀h',h'.DictOf knd d (stored kvs k v)->Heap.SameBut d s.heap h'->Q v {s with heap:=h',toks:=s.toks+1})
  (hsz:kvs.length<=sizeLine):
  wpAny (model prog w) A (dictSetDefault d key v) Q EE s:=by
 have hmap:=hm.mapOf
 obtain⟨o,es,ep,ho,hc,hd,hk,hp,hn⟩:=hm
 have hes:es.size<=sizeLine:=by
  have e1:=hp.length
  have e2:es.toList.length=es.size:=by simp
  lia
 cases hva:valueAt kvs k with
 | some u=>
  refine wpAny_dictSetDefault_of (f:=valueAt kvs) hkey hmap (λv' e=>hthere v' e) (λe=>by rw[hva] at e;cases e) (λo' es' ep' e1 e2=>?_)
  rw[ho] at e1;cases e1;rw[hd] at e2;cases e2;exact hes
 | none=>
 unfold dictSetDefault
 try with_reducible refine wpAny_holding ?_
 refine wpAny_bind (knd.pyHash hkey ?_)
 refine wpAny_bind (wpAny_dictFind_of (s:={s with toks:=s.toks+1}) hkey ho hd hk ?_)
 have hidx:(es.findIdx? λe=>knd.is k e.key)=kvs.findIdx? λkv=>decide (kv.1=k):=by
  rw[<-hp.findIdx k];obtain⟨l⟩:=es;simp
 cases hi:es.findIdx? λe=>knd.is k e.key with
 | some i=>
  exfalso
  have hany:=any_of_findIdx_some (hidx▸hi)
  rw[dj9] at hany
  obtain⟨kv,hm,he⟩:=hany
  unfold valueAt at hva
  rw[dn6,List.find?_eq_none] at hva
  exact hva kv hm he
 | none=>
  have hnot:k∉kvs.map (·.1):=not_mem_of_findIdx_none (hidx▸hi)
  have hany:¬(kvs.any λkv=>decide (kv.1=k))=true:=by
   rw[dj9];rintro⟨kv,hkv,he⟩
   exact hnot (cV6.mpr ⟨kv,hkv,of_decide_eq_true he⟩)
  refine wpAny_bind (wpAny_rule (wpAny_bind (wpAny_updateDictKeys (hz:=hes) (s:={s with toks:=s.toks+1}) ho hd (wpAny_pure (hQ hva _ ⟨_,_,ep+1,Heap.get?_update_self _ ho (Obj.isFreed_of_dict (Obj.data_mapDictKeys hd _)),
   hc.mapDictKeys _,Obj.data_mapDictKeys hd _,hk.push hkey _,?_,?_⟩ (Heap.SameBut.update ..))))))
  ·rw[stored,if_neg hany]
   have:=hp.append hkey (knd.hash k) v
   rcases es with⟨l⟩
   simpa using this
  ·rw[stored,if_neg hany,cV5,da2]
   refine⟨hn,by simp,?_⟩
   intro a ha b hb
   simp only[cX3,dc9,cV8] at hb
   subst hb
   exactλe=>hnot (e▸ha)
theorem aD0 {K:Type} [DecidableEq K] [DK K] {k:K} {x:V} {es:List (K×V)} {Q:V->b9->Prop} (K0:T6) {a:Addr} (ha:own a=some (DK.mkO es)) (hz:es.length<=sizeLine)
  (hQ:(∃y,k7 es k=some y/\Q y own)\/(k7 es k=none/\Q x (c7 own a (some (DK.mkO (es++[(k,x)])))))):u4 c loc own (.builtin "dict.setdefault") [.ref a,DK.mkV k,x] Q E:=by
 intro vs F A μ s S r
 obtain⟨_,_,rfl,rfl,kv,_,rfl,rk,v,_,rfl,rx,rfl⟩:=r
 obtain⟨hm,_,hr⟩:=S.chunk ha
 obtain⟨vs,hd,rr⟩:=DK.rel hr
 have hns:=S.ne_sys K0 ha
 refine wpAny_call_entry PySem.F.slot_dict_setdefault hd.typeIs PySem.F.entry_dict_setdefault ?_ (PySem.F.args_dict_setdefault_3 _ _ _)
 unfold Builtin.«dict.setdefault»
 refine wpAny_bind ?_
 unfold Builtin.Dict.keyAndDefault
 refine wpAny_bind (wpAny_notOrdered_dict hd.typeIs ?_)
 show wpAny _ _ (pure (a,kv,some v)) _ _ s
 refine wpAny_pure ?_
 show wpAny _ _ (if(a == sysModules)=true then _ else(dictSetDefault a kv v >>= _)) _ _ s
 rw[if_neg (by rw[hns];exact cV7)]
 have rl:=rr.look k
 refine wpAny_bind (T8 (DK.isK rk) hd (λu hu=>wpAny_pure ⟨u,rfl,?_⟩) (λhn h' hd' hs=>wpAny_pure ⟨v,rfl,?_⟩) (by rw[rr.length];exact hz))
 ·rcases hQ with⟨y,hy,hQ⟩ | ⟨hy,hQ⟩
  ·obtain⟨_,e,ry⟩:P0 s.heap μ (some y) (some u):=hy▸hu▸rl
   cases e;exact leaf (s':={s with toks:=s.toks+1}) S hQ rfl rfl rfl ry
  ·rw[hu,hy] at rl;exact nomatch (show some u=none from rl)
 ·rcases hQ with⟨y,hy,hQ⟩ | ⟨hy,hQ⟩
  ·obtain⟨_,e,-⟩:P0 s.heap μ (some y) none:=hy▸hn▸rl
   exact nomatch e
  ·rw[<-aC9 hy] at hQ
   exact Z2 (o':=DK.mkO (put es k x)) (tk:=s.toks+1) S ha (λU U=>DK.nf) hm hs (bt6 hd') (λP=>DK.rel' ⟨_,hd',(rr.put k rx).pres P⟩) hQ (λP=>rx.pres P)
end
section
variable {c:Cx} {loc:f8} {own:b9} {E:XP}
theorem ap1 {A:Around} {F:b9} {μ:Mu} {s:Shared} {h':Heap} {tk:Nat} {V:V} {v:Value} {Q:Mine.V->b9->Prop} (S:St c loc own F A μ s) (hk:∀b o,s.heap.get? b=some o->h'.get? b=some o) (hQ:Q V own)
  (hr:SR (r5 c loc (f9 own F)) μ {s with heap:=h',toks:=tk}->f6 μ s.heap μ h'->VR h' μ V v):i7 (z9) c own F μ s.heap (λV l o=>l=loc/\Q V o) v {s with heap:=h',toks:=tk}:=by
 rcases S.sr.grow (s':={s with heap:=h',toks:=tk}) rfl rfl hk with⟨sr',P'⟩
 exact⟨V,_,own,μ,⟨rfl,hQ⟩,S.dis,hr sr' P',sr',P',FK.refl _⟩
section
variable {Q:V->b9->Prop} {V:V} {xs:List Mine.V}
theorem cE2 {n:Nat} (hQ:Q (.int n) own):u4 c loc own (.builtin "ord") [.str ⟨#[n]⟩] Q E:=aV0 hQ λ_ _ _ _ _ _ ⟨_,e⟩ _ _ k=>e▸PySem.P.ord_of_char k.in
theorem cE3 {i:Int} (h0:0<=i) (h1:i<=1114111) (hQ:Q (.str ⟨#[i.toNat]⟩) own):u4 c loc own (.builtin "chr") [.int i] Q E:=aV0 hQ λ_ _ _ s _ _ ⟨_,e⟩ _ _ k=>by
 subst e
 refine PySem.P.chr_of_int ?_ (k _ {s with toks:=s.toks+1} (λU=>.str _ _) rfl rfl rfl)
 have a:¬i<0:=dg5.mpr h0
 have b:¬i > 1114111:=dg5.mpr h1
 simp [a,b]
theorem bO8 {h:Heap} {μ:Mu} {ns:List Int}:∀{vs:List Value},q9 h μ (ns.map .int) vs->IntsAre vs ns:=by
 induction ns with
 | nil=>rintro _ rfl;exact .nil
 | cons n ns ih=>rintro _ ⟨_,_,rfl,⟨_,rfl⟩,b⟩;exact .cons _ _ (ih b)
theorem cf8 {ns:List Int} (hh:c.hd=none) (L:j4 own V (ns.map .int)) (hr:∀n∈ns,0<=n/\n<256) (hz:ns.length<=sizeLine) (hQ:Q (.bytes (ns.map λn=>n.toNat.toUInt8)) own):u4 c loc own (.type "bytes") [V] Q E:=by
 intro vs F A μ s S r
 rcases r.one with⟨v,rfl,r1⟩
 obtain⟨a,us,rfl,t,rr⟩:=L.at_ S r1
 have hi:=bO8 rr
 refine call_bytes_ints (vs:=us.toList) t.isList hi hr (by rw[rr.length,cV3];exact hz) (S.ar.handled.trans hh) λh' t' k hk=>?_
 exact ap1 S hk hQ λU U=>.bytes _ _
theorem cf9 (L:j4 own V xs) (hz:xs.length<=sizeLine) (hQ:Q (.tup xs) own):u4 c loc own (.type "tuple") [V] Q E:=by
 intro vs F A μ s S r
 rcases r.one with⟨v,rfl,r1⟩
 obtain⟨a,us,rfl,t,rr⟩:=L.at_ S r1
 refine call_tuple_list t.isList (λh' hk=>?_) (by rw[j9 rr];exact hz)
 rcases S.sr.grow (s':={s with heap:=h'}) rfl rfl hk with⟨sr',_⟩
 exact ap1 (tk:=s.toks) S (λb o e=>Heap.get?_push_of_some _ (hk b o e)) hQ λU P=>.tup ⟨0,Heap.get?_push_size _ rfl⟩ sr'.fresh.2 (rr.pres P)
theorem aK3 {A:Around} {F:b9} {μ:Mu} {s:Shared} {a:Addr} {us:Array Value} {n:Nat} {T:String} (S:St c loc own F A μ s) (hT:T="list"\/T="tuple") (e:s.heap.get? a=some {cls:=.type T,data:=.seq us n}) (rr:q9 s.heap μ xs us.toList) (hz:xs.length<=sizeLine) (hQ:Q (.lst xs) own):
  wpAny (model G.prog G.w) A (call (.type "list") [.ref a] []) (i7 (z9) c own F μ s.heap (λV l o=>l=loc/\Q V o)) (t8 c own F μ s.heap E) s:=
 call_list_seq (hsz:=(j9 rr).symm▸hz) a hT e rfl rfl λh' c' hk hD=>ap1 (tk:=s.toks) S hk hQ λU P=>.lst ⟨_,hD⟩ S.sr.fresh.2 (rr.pres P)
theorem ct3 (hV:V=.tup xs\/j4 own V xs) (hz:xs.length<=sizeLine) (hQ:Q (.lst xs) own):u4 c loc own (.type "list") [V] Q E:=by
 intro vs F A μ s S r
 rcases r.one with⟨v,rfl,r1⟩
 rcases hV with rfl | L
 ·obtain⟨a,us,rfl,⟨n,e⟩,m,rr⟩:=r1
  exact aK3 S (.inr rfl) e rr hz hQ
 ·obtain⟨a,us,rfl,⟨n,e⟩,rr⟩:=L.at_ S r1
  exact aK3 S (.inl rfl) e rr hz hQ
theorem cE4 {i:Int} (hQ:Q (.int i) own):u4 c loc own (.type "int") [.int i] Q E:=aV0 hQ λ_ _ _ _ _ _ ⟨_,e⟩ _ _ k=>e▸call_int_int (k _ _ (λU=>.int _ _) rfl rfl rfl)
theorem av4 (hQ:Q (.bool true) own):u4 c loc own (.builtin "isinstance") [.dct es,.val (.type "dict")] Q E:=bj5 hQ λU U U U U U U r e2 U U k=>by
 obtain⟨_,_,rfl,⟨_,_,_,g,⟨hc,_⟩,_⟩,_⟩:=r
 cases e2;exact PySem.IsiPair.dict_dict g hc (k _ _ (λU=>.bool _) rfl rfl rfl)
noncomputable def isB:Mine.V->Bool
 | .bool _=>true
 | _=>false
noncomputable def bOk:Mine.V->Bool
 | .none | .bool _ | .tup _ | .lst _ | .dct _=>true
 | _=>false
theorem bx0 (hV:bOk V=true) (hQ:Q (.bool (isB V)) own):u4 c loc own (.builtin "isinstance") [V,.val (.type "bool")] Q E:=bj5 hQ λU U U s v U U r e2 U U k=>by
 cases e2
 cases V with
 | none=>cases r;exact PySem.IsiPair.NoneType_bool k.bo
 | bool b=>cases r;exact PySem.IsiPair.bool_bool (k _ _ (λU=>.bool _) rfl rfl rfl)
 | tup _=>obtain⟨_,_,rfl,⟨_,g⟩,_⟩:=r;exact PySem.IsiPair.tuple_bool g rfl k.bo
 | lst _=>obtain⟨_,_,rfl,⟨_,g⟩,_⟩:=r;exact PySem.IsiPair.list_bool g rfl k.bo
 | dct _=>obtain⟨_,_,rfl,⟨_,_,_,g,⟨hc,_⟩,_⟩,_⟩:=r;exact PySem.IsiPair.dict_bool g hc k.bo
 | _=>cases hV
end
theorem be4:∀{vs:List Value},q9 h μ (ns.map .str) vs->∃l:List (Str×Tok),vs=strValues l/\l.map (·.1)=ns:=by
 induction ns with
 | nil=>exactλe=>⟨[],e,rfl⟩
 | cons n ns ih=>
  intro _ q1_
  obtain⟨_,_,rfl,⟨t,rfl⟩,b⟩:=q1_
  rcases ih b with⟨l,rfl,e⟩
  exact⟨(n,t)::l,rfl,congrArg (n::·) e⟩
theorem ap2 (hf:ns.toArray.foldl (·+·.length+sep.length) 0<=sizeLine):(Builtin.Str.glued sep ns).length<=sizeLine:=by
 rw[size_glued]
 rw[<-di7,dg1] at hf
 have:∀(xs:List Str) (a:Nat),xs.foldl (·+·.length+sep.length) a=a+(xs.map (·.length)).sum+xs.length*sep.length:=λxs=>by
  induction xs with
  | nil=>intro a;simp
  | cons x xs ih=>intro a;simp only[dh3,cX3,dn1,db1];rw[ih,di8];lia
 rw[this,db2] at hf
 exact cV2 (da0 (cY3 _ (dn7 _ _)) _) hf
theorem ax7 {s:Shared} {Q:V->b9->Prop} (S:St c loc own F A μ s) (hf:(l.map (·.1)).toArray.foldl (·+·.length+sep.length) 0<=sizeLine) (hQ:Q (.str (Str.join sep (l.map (·.1)))) own):
  (joinMade sep l).post (λv s'=>i7 (z9) c own F μ s.heap (λV l o=>l=loc/\Q V o) v s') s:=by
 rcases l with _ | ⟨p,_ | ⟨q,r⟩⟩
 ·exact⟨ap2 hf,leaf (s':={s with toks:=s.toks+1}) S hQ rfl rfl rfl (.str _ _)⟩
 ·exact leaf S hQ rfl rfl rfl (.str _ _)
 ·rw[<-PySem.StrLaws.glued_eq_join] at hQ
  exact⟨ap2 hf,leaf (s':={s with toks:=s.toks+1}) S hQ rfl rfl rfl (.str _ _)⟩
theorem cg0 {V:V} (hV:V=.tup (ns.map .str)\/j4 own V (ns.map .str)) (hf:ns.toArray.foldl (·+·.length+sep.length) 0<=sizeLine) (hQ:Q (.str (Str.join sep ns)) own):
  u4 c loc own (.builtin "str.join") [.str sep,V] Q E:=by
 intro vs F A μ s S r
 obtain⟨v,u,rfl,⟨_,rfl⟩,r2⟩:=r.two
 rcases hV with rfl | L
 ·obtain⟨a,us,rfl,⟨n,e⟩,m,rr⟩:=r2
  rcases be4 rr with⟨l,hl,rfl⟩
  obtain rfl:us=(strValues l).toArray:=by rw[<-hl]
  exact call_meets PySem.F.slot_str_join (typeIs_str _ _ _) PySem.F.entry_str_join (PySem.F.args_str_join_2 _ _) (meets_str_join_tuple sep _ a l (decide_eq_false (dg4.mpr hf))) ⟨⟨_,_,e,rfl,rfl⟩,ax7 S hf hQ⟩
 ·obtain⟨a,us,rfl,t,rr⟩:=L.at_ S r2
  rcases be4 rr with⟨l,hl,rfl⟩
  obtain rfl:us=(strValues l).toArray:=by rw[<-hl]
  exact call_meets PySem.F.slot_str_join (typeIs_str _ _ _) PySem.F.entry_str_join (PySem.F.args_str_join_2 _ _) (meets_str_join_list sep _ a l (decide_eq_false (dg4.mpr hf))) ⟨t.isList,ax7 S hf hQ⟩
end
section
variable {c:Cx} {loc:f8} {own:b9} {E:XP}
theorem G9:Slot "bytes" "find" "bytes.find":=
 .of (owner:="bytes") (n:="find") (by rw[typeLookup_type,builtinLookup_eq_fast];kernel_rfl) rfl rfl rfl (by first | exact .inl rfl | exact .inr rfl) (by rw[isSubtype_type];kernel_rfl)
theorem R3:typeOf (.builtin "bytes.find")=pure (.type "method_descriptor"):=by show builtinType _=_;rw[builtinType_eq_fast];kernel_rfl
theorem ag3:entryFor table "bytes.find"=some Builtin.«bytes.find»:=entryFor_of_tree (by kernel_rfl)
theorem ab6 (a b:Value):argsOk "bytes.find" ⟨[a,b],[]⟩:=by
 unfold argsOk;rw[signature?_of (id:="bytes.find") (n:=['d','n','i','f']) (o:=['s','e','t','y','b']) (by kernel_rfl) FB.owner_bytes];kernel_rfl
theorem l8:Slot "bytes" "split" "bytes.split":=
 .of (owner:="bytes") (n:="split") (by rw[typeLookup_type,builtinLookup_eq_fast];kernel_rfl) rfl rfl rfl (by first | exact .inl rfl | exact .inr rfl) (by rw[isSubtype_type];kernel_rfl)
theorem o0:typeOf (.builtin "bytes.split")=pure (.type "method_descriptor"):=by show builtinType _=_;rw[builtinType_eq_fast];kernel_rfl
theorem ab7:entryFor table "bytes.split"=some Builtin.«bytes.split»:=entryFor_of_tree (by kernel_rfl)
theorem Z3 (a b:Value):argsOk "bytes.split" ⟨[a,b],[]⟩:=by
 unfold argsOk;rw[signature?_of (id:="bytes.split") (n:=['t','i','l','p','s']) (o:=['s','e','t','y','b']) (by kernel_rfl) FB.owner_bytes];kernel_rfl
theorem A9:Slot "bytes" "strip" "bytes.strip":=
 .of (owner:="bytes") (n:="strip") (by rw[typeLookup_type,builtinLookup_eq_fast];kernel_rfl) rfl rfl rfl (by first | exact .inl rfl | exact .inr rfl) (by rw[isSubtype_type];kernel_rfl)
theorem F2:typeOf (.builtin "bytes.strip")=pure (.type "method_descriptor"):=by show builtinType _=_;rw[builtinType_eq_fast];kernel_rfl
theorem ab8:entryFor table "bytes.strip"=some Builtin.«bytes.strip»:=entryFor_of_tree (by kernel_rfl)
theorem Z4 (a b:Value):argsOk "bytes.strip" ⟨[a,b],[]⟩:=by
 unfold argsOk;rw[signature?_of (id:="bytes.strip") (n:=['p','i','r','t','s']) (o:=['s','e','t','y','b']) (by kernel_rfl) FB.owner_bytes];kernel_rfl
theorem l5:Slot "bytes" "join" "bytes.join":=
 .of (owner:="bytes") (n:="join") (by rw[typeLookup_type,builtinLookup_eq_fast];kernel_rfl) rfl rfl rfl (by first | exact .inl rfl | exact .inr rfl) (by rw[isSubtype_type];kernel_rfl)
theorem n6:typeOf (.builtin "bytes.join")=pure (.type "method_descriptor"):=by show builtinType _=_;rw[builtinType_eq_fast];kernel_rfl
theorem ag4:entryFor table "bytes.join"=some Builtin.«bytes.join»:=entryFor_of_tree (by kernel_rfl)
theorem ab9 (a b:Value):argsOk "bytes.join" ⟨[a,b],[]⟩:=by
 unfold argsOk;rw[signature?_of (id:="bytes.join") (n:=['n','i','o','j']) (o:=['s','e','t','y','b']) (by kernel_rfl) FB.owner_bytes];kernel_rfl
theorem ac0 {id:String} {b:Array UInt8} {t:Tok}:Bytes.bytesLike id (.bytes b t)=pure b:=by
 unfold Bytes.bytesLike
 rw[KBy.buffer_eq]
 rfl
noncomputable def ac1 (x:UInt8) (b:List UInt8):Int:=match b.findIdx? (· == x) with | some i=>(i:Nat) | none=>-1
theorem aj3 (b:Array UInt8) (x:UInt8) (i:Nat) (h:i<b.size):(b.extract i (i+1) == #[x])=(b[i] == x):=by
 have:b.extract i (i+1)=#[b[i]]:=by
  apply Array.ext
  ·simp;lia
  ·intro j h1 h2
   simp at h1 h2
   have:j=0:=by lia
   subst this
   simp
 rw[this]
 rw[dl2];simp
theorem aV5 {α:Type} (p:α->Bool) (l:List α):∀(f:Nat->Bool),(∀i (h:i<l.length),f i=p l[i])->(dh4 l.length).find? f=l.findIdx? p:=by
 induction l with
 | nil=>exactλU U=>rfl
 | cons x l ih=>
  intro f h
  rw[db1,List.range_succ_eq_map,di6,dl9,show f 0=p x from h 0 (dl3 _)]
  cases p x with
  | true=>rfl
  | false=>
   show((dh4 l.length).map Nat.succ).find? f=_
   rw[List.find?_map,ih (f∘Nat.succ) λi hi=>h (i+1) (dm4 hi)];rfl
theorem bx1 (b:List UInt8) (x:UInt8):Bytes.find? b.toArray #[x] 0 b.length=b.findIdx? (· == x):=by
 unfold Bytes.find?
 have e:b.length+1-(0+(#[x]:Array UInt8).size)=b.length:=by simp
 rw[e]
 have m:(dh4 b.length).map (·+0)=dh4 b.length:=by simp
 rw[m]
 refine aV5 _ b _ λi hi=>?_
 have:=aj3 b.toArray x i (by simpa using hi)
 simpa using this
theorem cg1 {b:List UInt8} {x:UInt8} {Q:V->b9->Prop} (hQ:Q (.int (ac1 x b)) own):u4 c loc own (.builtin "bytes.find") [.bytes b,.bytes [x]] Q E:=by
 refine bj5 hQ λF A μ s v u S r1 r2 P X kk=>?_
 rcases r1 with⟨t1,rfl⟩
 rcases r2 with⟨t2,rfl⟩
 clear hQ
 refine wpAny_call_entry G9 (typeIs_bytes _ _ _) ag3 ?_ (ab6 _ _)
 show wpAny _ _ (Bytes.searchM .bytes "find" false false ⟨_,_⟩) _ _ s
 unfold Bytes.searchM
 refine wpAny_bind (m:=Bytes.searchArgs .bytes "find" _) ?_
 unfold Bytes.searchArgs
 refine wpAny_bind (m:=selfAndSome _ _ _ _ _) (wpAny_pure ?_)
 refine wpAny_bind (m:=Bytes.bound? _) (wpAny_pure ?_)
 refine wpAny_bind (m:=Bytes.bound? _) (wpAny_pure ?_)
 refine wpAny_bind (wpAny_of_eq KBy.buffer_eq ?_)
 refine wpAny_bind (wpAny_pure ?_)
 refine wpAny_bind (m:=Bytes.payload _) (wpAny_of_eq (a:=b.toArray) rfl ?_)
 refine wpAny_pure ?_
 have hw:Bytes.window b.toArray.size none none=(0,(b.length:Int)):=by unfold Bytes.window;simp;lia
 have hf:((if(b.length:Int)-0<((#[x]:Array UInt8).size:Nat) then none else some ((0:Int).toNat,(b.length:Int).toNat)).bind λ(lo,hi)=>Bytes.find? b.toArray #[x] lo hi)=b.findIdx? (· == x):=by
  cases b with
  | nil=>rfl
  | cons y b=>
   rw[if_neg (by simp;lia)]
   exact bx1 (y::b) x
 show wpAny _ _ (match ((if(Bytes.window b.toArray.size none none).2-(Bytes.window b.toArray.size none none).1<((#[x]:Array UInt8).size:Nat) then none else some ((Bytes.window b.toArray.size none none).1.toNat,(Bytes.window b.toArray.size none none).2.toNat)).bind
  λ(lo,hi)=>Bytes.find? b.toArray #[x] lo hi) with | some i=>retInt i | none=>_) _ _ s
 rw[hw,hf]
 unfold ac1 at kk
 cases hi:b.findIdx? (· == x) with
 | some i=>
  rw[hi] at kk
  exact wpAny_bind (wpAny_mkInt (wpAny_pure ⟨_,rfl,kk.in⟩))
 | none=>
  rw[hi] at kk
  refine wpAny_bind (wpAny_rule ?_)
  exact wpAny_bind (wpAny_mkInt (wpAny_pure ⟨_,rfl,kk.in⟩))
theorem S6:isSubtype (.type "bytes") (.type "tuple")=pure false:=by rw[isSubtype_type];kernel_rfl
theorem P7:isInstance (.bytes b t) (.type "tuple")=pure false:=by
 have e:isInstance (.bytes b t) (.type "tuple")=isSubtype (.type "bytes") (.type "tuple"):=rfl
 rw[e,S6]
theorem bx2 (hQ:Q (.bool (d.isPrefixOf b)) own):u4 c loc own (.builtin "bytes.startswith") [.bytes b,.bytes d] Q E:=by
 refine bj5 hQ λF A μ s v u S r1 r2 P X kk=>?_
 rcases r1 with⟨t1,rfl⟩
 rcases r2 with⟨t2,rfl⟩
 clear hQ
 refine wpAny_call_entry FB.slot_bytes_startswith (typeIs_bytes _ _ _) FB.entry_bytes_startswith ?_ (FB.args_bytes_startswith_2 _ _)
 show wpAny _ _ (Bytes.tailMatchM .bytes "startswith" false ⟨_,_⟩) _ _ s
 unfold Bytes.tailMatchM
 refine wpAny_bind (m:=selfAndSome _ _ _ _ _) (wpAny_pure ?_)
 refine wpAny_bind (m:=Bytes.bound? _) (wpAny_pure ?_)
 refine wpAny_bind (m:=Bytes.bound? _) (wpAny_pure ?_)
 refine wpAny_bind (m:=Bytes.payload _) (wpAny_of_eq (a:=b.toArray) rfl ?_)
 refine wpAny_bind (wpAny_of_eq P7 ?_)
 refine wpAny_ite (KBy.ite_no cV7 ?_)
 refine wpAny_bind (wpAny_of_eq KBy.buffer_eq ?_)
 have hw:Bytes.window b.toArray.size none none=(0,(b.length:Int)):=by unfold Bytes.window;simp;lia
 show wpAny _ _ (ret (.bool (if(Bytes.window b.toArray.size none none).2-(Bytes.window b.toArray.size none none).1<d.toArray.size then false else b.toArray.extract (Bytes.window b.toArray.size none none).1.toNat ((Bytes.window b.toArray.size none none).1.toNat+d.toArray.size) == d.toArray))) _ _ s
 rw[hw]
 have e:(if(b.length:Int)-0<d.toArray.size then false else b.toArray.extract (0:Int).toNat ((0:Int).toNat+d.toArray.size) == d.toArray)=d.isPrefixOf b:=by
  have ex:b.toArray.extract (0:Int).toNat ((0:Int).toNat+d.toArray.size)=(b.take d.length).toArray:=by
   apply dn8.mp;simp
  rw[ex]
  by_cases h:b.length<d.length
  ·rw[if_pos (by simp;lia)]
   symm
   rw[Bool.eq_false_iff]
   intro q
   have:=(dk6.mp q).length_le
   lia
  ·rw[if_neg (by simp;lia)]
   rw[dl2,dk6,List.prefix_iff_eq_take]
   constructor
   ·intro q;exact(congrArg dm5 (eq_of_beq q)).symm
   ·intro q;rw[<-q];exact beq_self_eq_true _
 rw[e]
 exact wpAny_pure ⟨_,rfl,kk _ _ (λU=>.bool _) rfl rfl rfl⟩
noncomputable def I7 (set b:List UInt8):List UInt8:=((b.dropWhile set.contains).reverse.dropWhile set.contains).reverse
theorem X9 {α:Type} (p:α->Bool):∀l:List α,(l.dropWhile p).length=l.length->l.dropWhile p=l
 | [],_=>rfl
 | x::l,h=>by
  rw[List.dropWhile_cons] at h ⊢
  split
  ·rename_i q
   rw[if_pos q] at h
   have:=(de9 (l:=l) p).length_le
   simp at h;lia
  ·rfl
theorem bj9 {set b:List UInt8} (h:(I7 set b).length=b.length):I7 set b=b:=by
 unfold I7 at h ⊢
 rw[cZ0] at h
 have a1:((b.dropWhile set.contains).reverse.dropWhile set.contains).length<=(b.dropWhile set.contains).length:=by
  have:=(de9 (l:=(b.dropWhile set.contains).reverse) set.contains).length_le
  rwa [cZ0] at this
 have a2:=(de9 (l:=b) set.contains).length_le
 have e1:=X9 set.contains b (by lia)
 rw[e1] at h ⊢
 have e2:=X9 set.contains b.reverse (by simpa using h)
 rw[e2,dj7]
theorem aK4 {set b:List UInt8}:(I7 set b).length<=b.length:=by
 unfold I7
 rw[cZ0]
 have a1:=(de9 (l:=(b.dropWhile set.contains).reverse) set.contains).length_le
 have a2:=(de9 (l:=b) set.contains).length_le
 rw[cZ0] at a1
 lia
theorem bO9 {b set:List UInt8} {Q:V->b9->Prop} (hz:b.length<=sizeLine) (hQ:Q (.bytes (I7 set b)) own):u4 c loc own (.builtin "bytes.strip") [.bytes b,.bytes set] Q E:=by
 refine bj5 hQ λF A μ s v u S r1 r2 P X kk=>?_
 rcases r1 with⟨t1,rfl⟩
 rcases r2 with⟨t2,rfl⟩
 clear hQ
 refine wpAny_call_entry A9 (typeIs_bytes _ _ _) ab8 ?_ (Z4 _ _)
 show wpAny _ _ (Bytes.stripM .bytes "strip" true true ⟨_,_⟩) _ _ s
 unfold Bytes.stripM
 refine wpAny_bind (m:=selfAndSome _ _ _ _ _) (wpAny_pure ?_)
 refine wpAny_bind (m:=Bytes.bytesLike _ _) (wpAny_of_eq ac0 ?_)
 refine wpAny_bind (m:=Bytes.payload _) (wpAny_of_eq (a:=b.toArray) rfl ?_)
 have hc:(λx=>set.toArray.contains x)=set.contains:=by funext x;simp
 show wpAny _ _ (if(((b.dropWhile λx=>set.toArray.contains x).reverse.dropWhile λx=>set.toArray.contains x).reverse.length == b.toArray.size)=true then _ else(mkBytes ((b.dropWhile λx=>set.toArray.contains x).reverse.dropWhile λx=>set.toArray.contains x).reverse.toArray >>= λv=>ret v)) _ _ s
 rw[hc]
 by_cases h:(I7 set b).length=b.length
 ·refine wpAny_ite (KBc.ite_yes (by rw[beq_iff_eq];exact h) ?_)
  refine wpAny_bind (wpAny_rule ?_)
  have:=bj9 h
  rw[this] at kk
  refine wpAny_bind (m:=Bytes.Kind.same .bytes _) ?_
  unfold Bytes.Kind.same
  refine wpAny_ite (KBc.ite_yes rfl ?_)
  refine wpAny_bind (wpAny_typeOf (typeIs_bytes _ _ _) ?_)
  refine wpAny_ite (KBc.ite_yes rfl ?_)
  exact wpAny_pure (wpAny_pure ⟨_,rfl,kk _ _ (λU=>.bytes _ _) rfl rfl rfl⟩)
 ·refine wpAny_ite (KBy.ite_no (by rw[beq_iff_eq];exact h) ?_)
  refine wpAny_bind (m:=mkBytes _) (wpAny_mkBytes (wpAny_pure ⟨_,rfl,kk _ _ (λU=>.bytes _ _) rfl rfl rfl⟩) ?_)
  rw[dc3]
  exact cV2 aK4 hz
end
section
variable {c:Cx} {loc:f8} {own:b9} {E:XP}
noncomputable def z6 (x:UInt8):List UInt8->List UInt8->List (List UInt8)
 | [],cur=>[cur]
 | y::r,cur=>if y=x then cur::z6 x r [] else z6 x r (cur++[y])
noncomputable def i5 (x:UInt8) (b:List UInt8):List (List UInt8):=z6 x b []
noncomputable def r6 (x:UInt8):List UInt8->Nat->List Nat
 | [],_=>[]
 | y::r,k=>if y=x then k::r6 x r (k+1) else r6 x r (k+1)
theorem D3:z6 x (y::r) cur=if y=x then cur::z6 x r [] else z6 x r (cur++[y]):=rfl
theorem I8 {x y:UInt8} {r:List UInt8} {k:Nat}:r6 x (y::r) k=if y=x then k::r6 x r (k+1) else r6 x r (k+1):=rfl
theorem be5 {l b:List UInt8} {y:UInt8} {k:Nat} (hd:b.drop k=y::l):k<b.length/\b.drop (k+1)=l/\b[k]?=some y:=by
 refine⟨?_,?_,?_⟩
 ·have:=congrArg dc7 hd
  rw[dh9,db1] at this;lia
 ·rw[<-List.tail_drop,hd];rfl
 ·rw[<-List.head?_drop,hd];rfl
theorem bx3 (x:UInt8) (b:Array UInt8) (l:List UInt8):∀(k:Nat) (acc:List Nat) (m:Nat),b.toList.drop k=l->m<=k->
  (((do3 k l.length).foldl (λ(acc:List Nat×Nat) (i:Nat)=>if(decide (i>=acc.2)&&b.extract i (i+(#[x]:Array UInt8).size) == #[x])=true then(i::acc.1,i+(#[x]:Array UInt8).size) else acc) (acc,m))).1.reverse=acc.reverse++r6 x l k:=by
 induction l with
 | nil=>exactλk acc m U U=>(cW6 _).symm
 | cons y l ih=>
  intro k acc m hd hm
  obtain⟨hk,hd',h2⟩:=be5 hd
  have hy:b[k]=y:=Option.some.inj ((df5 hk).symm.trans (dj6.symm.trans h2))
  have e1:(decide (k>=m)&&b.extract k (k+(#[x]:Array UInt8).size) == #[x])=(y == x):=by rw[decide_eq_true hm,Bool.true_and,<-hy];exact aj3 b x k hk
  rw[db1,dn0,dh3]
  dsimp only
  rw[e1]
  by_cases q:y=x
  ·rw[if_pos (beq_iff_eq.mpr q),I8,if_pos q]
   exact(ih (k+1) (k::acc) (k+1) hd' (cX5 _)).trans (by rw[de0,cW2];rfl)
  ·rw[if_neg λe=>q (beq_iff_eq.mp e),ih (k+1) acc m hd' (cZ6 hm),I8,if_neg q]
theorem bP0 (x:UInt8) (b:List UInt8):Bytes.occurrences b.toArray #[x] 0 b.length=r6 x b 0:=by
 unfold Bytes.occurrences
 have e:b.length+1-(0+(#[x]:Array UInt8).size)=b.length:=by simp
 have m:(dh4 b.length).map (·+0)=do3 0 b.length:=by rw[List.range_eq_range'];simp
 rw[e,m]
 have:=bx3 x b.toArray b 0 [] 0 (by simp) (cX5 _)
 simpa using this
theorem bk0 (x:UInt8) (l:List UInt8):∀(k:Nat),(r6 x l k).length<=l.length:=by
 induction l with
 | nil=>exactλU=>cX5 _
 | cons y l ih=>
  intro k
  rw[I8]
  by_cases q:y=x
  ·rw[if_pos q];exact cW3 (ih (k+1))
  ·rw[if_neg q];exact cZ6 (ih (k+1))
theorem aD1 (x:UInt8) (b:Array UInt8) (l:List UInt8):∀(k last:Nat) (E1:Array (Array UInt8)),b.toList.drop k=l->last<=k->k<=b.size->
  ((λp:Array (Array UInt8)×Nat=>(p.1.push (b.extract p.2 b.size)).toList.map dm5) ((r6 x l k).foldl (λ(p:Array (Array UInt8)×Nat) q=>(p.1.push (b.extract p.2 q),q+1)) (E1,last)))=
   E1.toList.map dm5++z6 x l ((b.toList.drop last).take (k-last)):=by
 induction l with
 | nil=>
  intro k last E1 hd hl hk
  have:b.size<=k:=List.drop_eq_nil_iff.mp hd
  have e:k=b.size:=dg6 hk this
  subst e
  show(E1.push (b.extract last b.size)).toList.map dm5=E1.toList.map dm5++[(b.toList.drop last).take (b.size-last)]
  simp [dm9]
 | cons y l ih=>
  intro k last E1 hd hl _
  obtain⟨hk,hd',hy⟩:=be5 hd
  rw[I8,D3]
  by_cases q:y=x
  ·rw[if_pos q,if_pos q,dh3,ih (k+1) (k+1) _ hd' (cX5 _) hk]
   simp [dm9]
  ·rw[if_neg q,if_neg q,ih (k+1) last E1 hd' (cZ6 hl) hk,Nat.succ_sub hl,dm6,List.getElem?_drop,Nat.add_sub_cancel' hl,hy];rfl
theorem T9 (x:UInt8) (b:List UInt8):(Bytes.between b.toArray 1 (r6 x b 0)).map dm5=i5 x b:=by
 have:=aD1 x b.toArray b 0 0 #[] (by simp) (cX5 _) (cZ2 _)
 unfold Bytes.between i5
 simpa using this
theorem aD2 (x:UInt8) (l:List UInt8):∀(k:Nat) (cur:List UInt8),r6 x l k=[]->z6 x l cur=[cur++l]:=by
 induction l with
 | nil=>exactλU cur U=>congrArg (λl=>[l]) (cW6 cur).symm
 | cons y l ih=>
  intro k cur h
  rw[I8] at h
  rw[D3]
  by_cases q:y=x
  ·rw[if_pos q] at h;cases h
  ·rw[if_neg q] at h ⊢
   rw[ih (k+1) _ h,cW2];rfl
theorem aj4 (x:UInt8) (l:List UInt8):∀(cur:List UInt8) (y:List UInt8),y∈z6 x l cur->y.length<=cur.length+l.length:=by
 induction l with
 | nil=>intro cur y h;cases cV8.mp h;exact cX5 _
 | cons z l ih=>
  intro cur y h
  rw[D3] at h
  by_cases q:z=x
  ·rw[if_pos q] at h
   rcases cW1.mp h with rfl | e
   ·exact dc4 _ _
   ·exact cV2 (ih [] y e) (cV2 (de8 (db2 _)) (cV2 (db7 _) (dd6 _ _)))
  ·rw[if_neg q] at h
   have:=ih _ y h
   rwa [cV4,de7,df0,dd0 1] at this
theorem aj5 (x:UInt8) (l:List UInt8):∀(cur:List UInt8),(z6 x l cur).length<=l.length+1:=by
 induction l with
 | nil=>exactλU=>cX5 _
 | cons z l ih=>
  intro cur
  rw[D3]
  by_cases q:z=x
  ·rw[if_pos q];exact cW3 (ih [])
  ·rw[if_neg q];exact cZ6 (ih _)
theorem aV6 (bs:List (Array UInt8)):∀(s:Shared) (Q:List Value->Shared->Prop),s.heap=h->(∀b∈bs,b.size<=sizeLine)->
  (∀vs tk,q9 h μ (bs.map λb=>.bytes b.toList) vs->Q vs {s with toks:=tk})->wpAny M A (bs.mapM (Bytes.Kind.new .bytes)) Q EE s:=by
 induction bs with
 | nil=>
  intro s Q _ _ hQ
  rw[List.mapM_nil];exact wpAny_pure (hQ [] s.toks .nil)
 | cons b bs ih=>
  intro s Q hs hb hQ
  rw[List.mapM_cons]
  refine wpAny_bind (m:=mkBytes b) (wpAny_mkBytes ?_ (hb b (.head _)))
  refine wpAny_bind (ih {s with toks:=s.toks+1} _ hs (λb' h'=>hb b' (.tail _ h')) λvs tk r=>?_)
  exact wpAny_pure (hQ _ tk (.cons (.bytes _ _) r))
noncomputable def cE5 (μ:Mu) (s:Shared) (R:V) (P:Value->Shared->Prop):Prop:=∀ob v tk,(f6 μ s.heap μ (s.heap.push ob)->VR (s.heap.push ob) μ R v)->P v {s with heap:=s.heap.push ob,toks:=tk}
theorem ct4 (hQ:Q R own) (h:∀F A μ s v u,St c loc own F A μ s->VR s.heap μ V₁ v->VR s.heap μ V₂ u->∀P X,cE5 μ s R P->wpAny (model G.prog G.w) A (call f [v,u] []) P X s):u4 c loc own f [V₁,V₂] Q E:=by
 intro vs F A μ s S r
 obtain⟨v,u,rfl,r',r2⟩:=r.two
 exact h F A μ s v u S r' r2 _ _ λU U U hr=>am8 S hQ hr
theorem aV7 (he:r6 x b 0=[]):i5 x b=[b]:=aD2 x b 0 [] he
theorem aK5:(Bytes.between b.toArray 1 (r6 x b 0)).length<=b.length+1:=by
 have:=congrArg dc7 (T9 x b)
 rw[cV3] at this
 rw[this];exact aj5 x b []
theorem aK6 (hy:y∈Bytes.between b.toArray 1 (r6 x b 0)):y.size<=b.length:=by
 have:y.toList∈i5 x b:=by rw[<-T9 x b];exact cW4 hy
 have:=aj4 x b [] _ this
 rwa [db0,dh5,db2] at this
theorem aV8:(Bytes.occurrences b.toArray [x].toArray 0 b.toArray.size).take (if(-1:Int)<0 then b.toArray.size+1 else(-1:Int).toNat)=r6 x b 0:=by
 have:Bytes.occurrences b.toArray [x].toArray 0 b.toArray.size=r6 x b 0:=bP0 x b
 rw[this]
 exact dd8 (cV2 (bk0 x b 0) (db7 _))
theorem bP1 (hz:b.length<sizeLine) (hQ:Q (.lst ((i5 x b).map .bytes)) own):u4 c loc own (.builtin "bytes.split") [.bytes b,.bytes [x]] Q E:=by
 refine ct4 hQ λF A μ s v u S r1 r2 P X kk=>?_
 rcases r1 with⟨t1,rfl⟩
 rcases r2 with⟨t2,rfl⟩
 clear hQ
 refine wpAny_call_entry l8 (typeIs_bytes _ _ _) ab7 ?_ (Z3 _ _)
 show wpAny _ _ (Bytes.splitM .bytes "split" false ⟨_,_⟩) _ _ s
 unfold Bytes.splitM
 dsimp only
 refine wpAny_bind (m:=Bytes.bindOptional _ _ _ _ _) (wpAny_of_eq (a:=[some (.bytes (List.toArray [x]) t2),none]) rfl ?_)
 refine wpAny_bind (wpAny_pure ?_)
 refine wpAny_bind (m:=Bytes.payload _) (wpAny_of_eq (a:=b.toArray) rfl ?_)
 refine wpAny_bind (m:=Bytes.bytesLike _ _) (wpAny_of_eq ac0 ?_)
 refine wpAny_ite (KBy.ite_no (by simp) ?_)
 show wpAny _ _ (if((Bytes.occurrences b.toArray [x].toArray 0 b.toArray.size).take (if(-1:Int)<0 then b.toArray.size+1 else(-1:Int).toNat)).isEmpty=true then _ else
  ((Bytes.between b.toArray 1 ((Bytes.occurrences b.toArray [x].toArray 0 b.toArray.size).take (if(-1:Int)<0 then b.toArray.size+1 else(-1:Int).toNat))).mapM (Bytes.Kind.new .bytes) >>= λvs=>newList vs >>= λv=>ret v)) _ _ s
 rw[aV8]
 by_cases he:r6 x b 0=[]
 ·rw[he]
  refine wpAny_ite (KBc.ite_yes rfl (wpAny_bind (wpAny_rule ?_)))
  rw[aV7 he] at kk
  refine wpAny_bind (m:=Bytes.Kind.same .bytes _) ?_
  unfold Bytes.Kind.same
  refine wpAny_ite (KBc.ite_yes rfl ?_)
  refine wpAny_bind (wpAny_typeOf (typeIs_bytes _ _ _) ?_)
  refine wpAny_ite (KBc.ite_yes rfl ?_)
  refine wpAny_pure (wpAny_bind (wpAny_newList ?_ (by rw[sizeLine_eq];show 1<=_;decide)))
  exact wpAny_pure ⟨_,rfl,kk _ _ s.toks λP=>.lst ⟨0,Heap.get?_push_size _ rfl⟩ S.sr.fresh.2 (.cons (.bytes _ _) .nil)⟩
 ·refine wpAny_ite (KBy.ite_no (by rw[dk0];exact he) ?_)
  refine wpAny_bind (aV6 (h:=s.heap) (μ:=μ) _ s _ rfl (λy hy=>cY0 (cV9 (aK6 hy) hz)) λvs tk r=>?_)
  refine wpAny_bind (wpAny_newList ?_ (r.length▸?_))
  ·rw[<-T9 x b,cW0] at kk
   exact wpAny_pure ⟨_,rfl,kk _ _ tk λP=>.lst ⟨0,Heap.get?_push_size _ rfl⟩ S.sr.fresh.2 (q9.pres P r)⟩
  ·rw[cV3];exact cV2 aK5 hz
end
section
variable {c:Cx} {loc:f8} {own:b9} {E:XP}
noncomputable def g8 (sep:List UInt8):List (List UInt8)->List UInt8
 | []=>[]
 | [x]=>x
 | x::y::r=>x++sep++g8 sep (y::r)
theorem am9 {s x:List UInt8}:g8 s [x]=x:=rfl
theorem ac2 {s x y:List UInt8} {r:List (List UInt8)}:g8 s (x::y::r)=x++s++g8 s (y::r):=rfl
theorem aK7 (sep:Array UInt8) (ps:List (List UInt8)):∀(i:Nat) (out:Array UInt8),0<i->((ps.map List.toArray).zipIdx i).foldl (λout (p:Array UInt8×Nat)=>(if p.2 > 0 then out++sep else out)++p.1) out=out++((ps.map λp=>sep.toList++p).flatten).toArray:=by
 induction ps with
 | nil=>exactλU out U=>(Array.append_empty).symm
 | cons p ps ih=>
  intro i out hi
  rw[cX3,dk1,dh3]
  dsimp only
  rw[if_pos hi,ih (i+1) _ (dl3 i)]
  apply dn8.mp
  simp
theorem ap3 (sep:List UInt8) (ps:List (List UInt8)):∀x,g8 sep (x::ps)=x++(ps.map λp=>sep++p).flatten:=by
 induction ps with
 | nil=>exactλx=>(cW6 x).symm
 | cons y r ih=>exactλx=>(congrArg (x++sep++·) (ih y)).trans (by rw[cX3,df7,cW2,cW2])
theorem bk1 (sep:List UInt8) (ps:List (List UInt8)):Bytes.joined sep.toArray (ps.map List.toArray)=(g8 sep ps).toArray:=by
 unfold Bytes.joined
 cases ps with
 | nil=>rfl
 | cons p ps=>
  rw[ap3]
  simp only[cX3,dk1,dh3]
  rw[if_neg (by lia)]
  have:=aK7 sep.toArray ps (0+1) (#[]++p.toArray) (by lia)
  rw[this]
  apply dn8.mp
  simp
theorem aD3 {id:String} {b:Array UInt8} {t:Tok}:Bytes.takeBufferQuiet? id (.bytes b t) 0=pure (some (b,none)):=by
 have hf:((0:Int) == Bytes.fullReadOnly)=false:=by decide
 have h:Bytes.takeBuffer? id (.bytes b t) 0=pure (some (b,none)):=by
  unfold Bytes.takeBuffer?
  rw[KBy.special_eq KBy.look_buffer,KBy.own_buffer,hf]
  have:∀id:String,Bytes.buffer? id (.bytes b t) false=pure (some b):=λid=>KBy.buffer_eq
  refine(pure_bind _ _).trans ((pure_bind _ _).trans ((pure_bind _ _).trans ?_))
  show(Bytes.buffer? id (.bytes b t) false >>= λx=>Pure.pure (x.map (·,none)))=_
  rw[this]
  rfl
 unfold Bytes.takeBufferQuiet?
 rw[h]
 rfl
theorem bx4 {h:Heap} {μ:Mu} {ns:List (List UInt8)}:∀{vs:List Value},q9 h μ (ns.map .bytes) vs->∃l:List (List UInt8×Tok),vs=l.map (λp=>.bytes p.1.toArray p.2)/\l.map (·.1)=ns:=by
 induction ns with
 | nil=>exactλe=>⟨[],e,rfl⟩
 | cons n ns ih=>
  intro _ q1_
  obtain⟨_,_,rfl,⟨t,rfl⟩,b⟩:=q1_
  rcases ih b with⟨l,rfl,e⟩
  exact⟨(n,t)::l,rfl,congrArg (n::·) e⟩
theorem bk2 (sep:List UInt8) (ps:List (List UInt8)):(g8 sep ps).length=(ps.map dc7).sum+(ps.length-1)*sep.length:=by
 cases ps with
 | nil=>exact((db2 _).trans (Nat.zero_mul _)).symm
 | cons x r=>
  rw[ap3,cV4,cX3,dn1,de7]
  refine congrArg (x.length+·) ?_
  rw[db1,Nat.add_sub_cancel]
  induction r with
  | nil=>exact((db2 _).trans (Nat.zero_mul _)).symm
  | cons y r ih=>rw[cX3,df7,cV4,cV4,ih,cX3,dn1,db1,di8];lia
theorem aV9 (l:List (List UInt8×Tok)):((l.map λp=>((Value.bytes p.1.toArray p.2,none):Value×Option Value)).any (·.1.onHeap))=false:=by
 induction l with
 | nil=>rfl
 | cons _ l ih=>exact ih
theorem aW0 {M:Model} {A:Around} {EE:Value->Shared->Prop} {Q:Unit->Shared->Prop} {keep:List Value} (s:Shared) (h:Q () s) (l:List (List UInt8×Tok)):wpAny M A (Bytes.joinLetGo (l.map λp=>((Value.bytes p.1.toArray p.2,none):Value×Option Value)) keep) Q EE s:=by
 induction l with
 | nil=>exact wpAny_pure h
 | cons p l ih=>exact wpAny_bind (wpAny_letGo ih)
theorem U0 {M:Model} {A:Around} {EE:Value->Shared->Prop} {s:Shared} {a:Addr} {n:Nat} {cls:Value} {dd:Option Addr} {sl:Array (Option Value)} {xs:Array Value} {Q:Option (Array Value)->Shared->Prop} (ho:s.heap.get? a=some ⟨cls,dd,.seq xs n,sl⟩) (h:Q (some xs) s):
  wpAny M A (seqItems? (.ref a)) Q EE s:=by
 unfold seqItems?
 exact wpAny_bind (wpAny_load ho (wpAny_pure h))
theorem aW1 {A:Around} {s:Shared} {EE:Value->Shared->Prop} {prog:Program} {w:World} {R:PySem.Fin->Shared->Prop} {l:List (List UInt8×Tok)} {f:Value->Sem PySem.Fin} {J:Sem PySem.Fin} (one:∀p,l=[p]->wpAny (model prog w) A (f (.bytes p.1.toArray p.2)) R EE s) (rest:wpAny (model prog w) A J R EE s):
  wpAny (model prog w) A (Bytes.joinM.match_1 (λU=>Sem PySem.Fin) (l.map λp=>Value.bytes p.1.toArray p.2).toArray (λx=>f x) (λU=>J)) R EE s:=by
 rcases l with _ | ⟨p,_ | ⟨q,r⟩⟩
 ·exact rest
 ·exact one p rfl
 ·exact rest
abbrev F3 (l:List (List UInt8×Tok)) (k:Nat):Array (Array UInt8)×List (Value×Option Value):=(((l.take k).map λp=>p.1.toArray).toArray,(l.take k).map λp=>((Value.bytes p.1.toArray p.2,none):Value×Option Value))
theorem bk3 {A:Around} {s:Shared} {EE:Value->Shared->Prop} {prog:Program} {w:World} {l:List (List UInt8×Tok)} {Q:Array (Array UInt8)×List (Value×Option Value)->Shared->Prop} {f:Nat->Array (Array UInt8)×List (Value×Option Value)->Sem (ForInStep (Array (Array UInt8)×List (Value×Option Value)))}
  (turn:∀k p,l[k]?=some p->wpAny (model prog w) A (f k (F3 l k)) (λst s'=>st=.yield (F3 l (k+1))/\s'=s) EE s) (hQ:Q (F3 l l.length) s):
  wpAny (model prog w) A (forIn [:(l.map λp=>Value.bytes p.1.toArray p.2).toArray.size] ((#[]:Array (Array UInt8)),([]:List (Value×Option Value))) f) Q EE s:=by
 rw[Std.Legacy.Range.forIn_eq_forIn_range']
 refine wpAny_forIn_list f (λrest b s'=>∃k,rest=do3 k (l.length-k)/\k<=l.length/\b=F3 l k/\s'=s) Q ?_ ?_ _ _ ⟨0,?_,cZ2 _,rfl,rfl⟩
 ·intro x rest b s' q1_
  obtain⟨k,hr,hk,rfl,rfl⟩:=q1_
  have hlt:k<l.length:=by
   rcases Nat.lt_or_ge k l.length with h | h
   ·exact h
   ·rw[Nat.sub_eq_zero_of_le h] at hr;cases hr
  rw[show l.length-k=(l.length-(k+1))+1 by lia,dn0] at hr
  cases hr
  exact wpAny_mono (turn x l[x] (cW8 hlt)) (λst s' h=>by rw[h.1];exact⟨x+1,rfl,hlt,rfl,h.2⟩) λU U x=>x
 ·intro b s' q1_
  obtain⟨k,hr,hk,rfl,rfl⟩:=q1_
  obtain rfl:k=l.length:=by
   rcases Nat.lt_or_ge k l.length with h | h
   ·rw[show l.length-k=(l.length-(k+1))+1 by lia,dn0] at hr;cases hr
   ·exact dg6 hk h
  exact hQ
 ·show do3 0 _ 1=_
  simp [Std.Legacy.Range.size]
theorem bk4 {l:List (List UInt8×Tok)} {sep:List UInt8} (hz:(g8 sep (l.map (·.1))).length<=sizeLine):Bytes.tooLong ((F3 l l.length).1.foldl (·+·.size) (sep.toArray.size*((F3 l l.length).1.size-1)))=false:=by
 unfold Bytes.tooLong F3
 rw[cY5]
 refine decide_eq_false ?_
 rw[<-di7,dg1]
 have:∀(xs:List (List UInt8×Tok)) (n:Nat),(xs.map λp=>p.1.toArray).foldl (·+·.size) n=n+((xs.map (·.1)).map dc7).sum:=λxs=>by
  induction xs with
  | nil=>intro n;simp
  | cons x xs ih=>intro n;simp only[cX3,dh3,dn1];rw[ih];simp;lia
 rw[this]
 rw[bk2] at hz
 simp only[cV3,dc3] at hz ⊢
 rw[Nat.mul_comm];lia
theorem be6 {l:List (List UInt8×Tok)} {sep:List UInt8}:Bytes.joined sep.toArray (F3 l l.length).1.toList=(g8 sep (l.map (·.1))).toArray:=by
 unfold F3
 rw[cY5,dg1,<-bk1,cW0];rfl
theorem bk5 {l:List (List UInt8×Tok)} {k:Nat} {p:List UInt8×Tok} (h:l[k]?=some p):((F3 l k).1.push p.1.toArray,(F3 l k).2++[(.bytes p.1.toArray p.2,none)])=F3 l (k+1):=by
 unfold F3
 rw[dm6,h];simp
theorem bk6 {l:List (List UInt8×Tok)} {k:Nat} {p:List UInt8×Tok} (h:l[k]?=some p):(l.map λp=>Value.bytes p.1.toArray p.2).toArray.getD k .none=Value.bytes p.1.toArray p.2:=by simp [h]
theorem bk7 {A:Around} {s:Shared} {EE:Value->Shared->Prop} {a:Addr} {n:Nat} {cls:Value} {dd:Option Addr} {sl:Array (Option Value)} {l:List (List UInt8×Tok)} {sep:List UInt8} {t:Tok} {R:PySem.Fin->Shared->Prop} {prog:Program} {w:World}
  (ho:s.heap.get? a=some ⟨cls,dd,.seq (l.map λp=>Value.bytes p.1.toArray p.2).toArray n,sl⟩) (hji:∀(Q:Value->Shared->Prop),Q (.ref a) s->wpAny (model prog w) A (Bytes.joinItems (.ref a)) Q EE s)
  (hz:(g8 sep (l.map (·.1))).length<=sizeLine) (hone:∀p,l=[p]->R (.done (.ret (.bytes p.1.toArray p.2))) s)
  (hR:R (.done (.ret (.bytes (g8 sep (l.map (·.1))).toArray s.toks))) {s with toks:=s.toks+1}):wpAny (model prog w) A («bytes.join» ⟨[.bytes sep.toArray t,.ref a],[]⟩) R EE s:=by
 show wpAny _ _ (Bytes.joinM .bytes ⟨_,_⟩) _ _ s
 unfold Bytes.joinM
 refine wpAny_bind (m:=selfAndOne _ _) (wpAny_pure ?_)
 dsimp only
 refine wpAny_ite (KBc.ite_yes rfl ?_)
 refine wpAny_bind (hji _ ?_)
 refine wpAny_bind (m:=seqItems? _) (U0 ho ?_)
 dsimp only
 refine wpAny_ite (KBc.ite_yes rfl (aW1 (λp e=>?_) ?_))
 ·exact wpAny_bind (wpAny_typeOf (typeIs_bytes _ _ _) (wpAny_ite (KBc.ite_yes rfl (wpAny_bind (wpAny_rule (wpAny_pure (hone p e)))))))
 refine wpAny_bind (bk3 (λk p hp=>?_) ?_)
 ·refine wpAny_bind (U0 ho ?_)
  dsimp only
  rw[aV9,bk6 hp]
  refine wpAny_ite (KBy.ite_no (by decide) (wpAny_bind (wpAny_holding (wpAny_of_eq aD3 ?_))))
  dsimp only
  refine wpAny_bind (U0 ho ?_)
  dsimp only
  exact wpAny_ite (KBy.ite_no (by simp) (wpAny_pure ⟨congrArg ForInStep.yield (bk5 hp),rfl⟩))
 ·dsimp only
  refine wpAny_bind (m:=Bytes.payload _) (wpAny_of_eq (a:=sep.toArray) rfl ?_)
  refine wpAny_ite (KBy.ite_no (λh=>cV7 ((bk4 hz).symm.trans h)) ?_)
  refine wpAny_bind (m:=mkBytes _) (wpAny_mkBytes ?_ (by rw[be6,dc3];exact hz))
  refine wpAny_bind (wpAny_holding (wpAny_point (wpAny_bind (aW0 _ ?_ _))))
  rw[be6]
  exact wpAny_pure hR
theorem ap4 (hT:s.TypeIs (.ref a) "list"\/s.TypeIs (.ref a) "tuple") (Q:Value->Shared->Prop) (h:Q (.ref a) s):wpAny (model prog w) A (Bytes.joinItems (.ref a)) Q EE s:=by
 unfold Bytes.joinItems
 rcases hT with hT | hT
 ·refine wpAny_bind (wpAny_typeOf hT ?_)
  exact wpAny_ite (KBc.ite_yes rfl (wpAny_pure h))
 ·refine wpAny_bind (wpAny_typeOf hT ?_)
  exact wpAny_ite (KBc.ite_yes rfl (wpAny_pure h))
theorem be7 {P X} (hT:T="list"\/T="tuple") (e:s.heap.get? a=some {cls:=.type T,data:=.seq us n}) (rr:q9 s.heap μ (ns.map .bytes) us.toList)
  (hz:(g8 sep ns).length<=sizeLine) (kk:ak9 s (.bytes (g8 sep ns)) P):wpAny (model G.prog G.w) A (call (.builtin "bytes.join") [.bytes sep.toArray tk,.ref a]) P X s:=by
 obtain⟨l,hl,rfl⟩:=bx4 rr
 obtain rfl:us=(l.map λp=>Value.bytes p.1.toArray p.2).toArray:=by rw[<-hl]
 refine wpAny_call_entry l5 (typeIs_bytes _ _ _) ag4 ?_ (ab9 _ _)
 refine bk7 (n:=n) (l:=l) (sep:=sep) e (λQ h=>ap4 (hT.imp (λq=>⟨_,e,by rw[q]⟩) λq=>⟨_,e,by rw[q]⟩) Q h) hz (λp hp=>?_) ⟨_,rfl,kk _ _ (λU=>.bytes _ _) rfl rfl rfl⟩
 subst hp
 exact⟨_,rfl,kk _ _ (λU=>.bytes _ _) rfl rfl rfl⟩
theorem cg2 {V:V} (hV:V=.tup (ns.map .bytes)\/j4 own V (ns.map .bytes)) (hz:(g8 sep ns).length<=sizeLine) (hQ:Q (.bytes (g8 sep ns)) own):
  u4 c loc own (.builtin "bytes.join") [.bytes sep,V] Q E:=by
 refine bj5 hQ λF A μ s v u S r1 r2 P X kk=>?_
 rcases r1 with⟨tk,rfl⟩
 rcases hV with rfl | L
 ·obtain⟨a,us,rfl,⟨n,e⟩,m,rr⟩:=r2
  exact be7 (.inr rfl) e rr hz kk
 ·obtain⟨a,us,rfl,⟨n,e⟩,rr⟩:=L.at_ S r2
  exact be7 (.inl rfl) e rr hz kk
end
section
open PySem PySem.W PyProof.Rows PySem.Calls PySem.Builtin PySem.SeqAt
variable {c:Cx} {loc:f8} {own:b9} {E:XP}
mutual
noncomputable def ofD:PyData->V
 | .none=>.none
 | .bool b=>.bool b
 | .int i=>.int i
 | .str s=>.str s
 | .list xs=>.lst (X1 xs)
 | .tuple xs=>.tup (X1 xs)
 | .dict _=>.none
noncomputable def X1:List PyData->List V
 | []=>[]
 | x::xs=>ofD x::X1 xs
end
theorem bZ9 {xs:List PyData}:ofD (.list xs)=.lst (X1 xs):=rfl
theorem ap5 {xs:List PyData}:ofD (.tuple xs)=.tup (X1 xs):=rfl
theorem bx5 {x:PyData} {xs:List PyData}:X1 (x::xs)=ofD x::X1 xs:=rfl
theorem N1:∀xs:List PyData,X1 xs=xs.map ofD
 | []=>rfl
 | x::xs=>congrArg (ofD x::·) (N1 xs)
mutual
theorem I9 {h:Heap} {μ:Mu} {d:PyData} {v:Value} (hc:d.canLay0=true) (r:VR h μ (ofD d) v):∃as,Reads h v d as:=by
 refine PyData.rec (motive_1:=λd=>d.canLay0=true->∀v,VR h μ (ofD d) v->∃as,Reads h v d as) (motive_2:=λds=>PyData.canLayAll0 ds=true->∀vs,q9 h μ (X1 ds) vs->∃as,ReadsAll h vs ds as) (motive_3:=λU=>True) (motive_4:=λU=>True)
  ?_ ?_ ?_ ?_ ?_ ?_ (λU U hc=>nomatch hc) ?_ ?_ trivial (λU U U U=>trivial) (λU U U U=>trivial) d hc v r
 ·rintro _ _ rfl;exact⟨_,.none⟩
 ·rintro b _ _ rfl;exact⟨_,.bool b⟩
 ·rintro b _ _ ⟨_,rfl⟩;exact⟨_,.int _ _⟩
 ·rintro b _ _ ⟨_,rfl⟩;exact⟨_,.str _ _⟩
 ·rintro xs ih hc _ r
  rw[bZ9] at r
  obtain⟨a,us,rfl,⟨n,e⟩,m,rr⟩:=r
  rcases(ih (by rwa [PyData.canLay0] at hc) _ rr) with⟨as,ra⟩
  exact⟨_,.list e rfl rfl ra⟩
 ·rintro xs ih hc _ r
  rw[ap5] at r
  obtain⟨a,us,rfl,⟨n,e⟩,m,rr⟩:=r
  rcases(ih (by rwa [PyData.canLay0] at hc) _ rr) with⟨as,ra⟩
  exact⟨_,.tuple e rfl rfl ra⟩
 ·rintro _ _ rfl;exact⟨_,.nil⟩
 ·rintro d ds ih ihs hc _ r
  rw[bx5] at r
  obtain⟨_,_,rfl,a,b⟩:=r
  rcases(cX6.mp (by rwa [PyData.canLayAll0] at hc)) with⟨c1,c2⟩
  rcases ih c1 _ a with⟨as,ra⟩
  rcases ihs c2 _ b with⟨bs,rb⟩
  exact⟨_,.cons ra rb⟩
end
mutual
noncomputable def nb:PyData->Bool
 | .none | .int _ | .str _=>true
 | .list xs | .tuple xs=>nbs xs
 | _=>false
noncomputable def nbs:List PyData->Bool
 | []=>true
 | x::xs=>nb x&&nbs xs
end
theorem Z5 {p:Prop} (h:¬p):false=true<->p:=⟨λe=>absurd e cV7,λe=>absurd e h⟩
theorem be8 (d:PyData):∀d',nb d=true->nb d'=true->(PyData.eqv d d'=true<->d=d'):=by
 refine PyData.rec (motive_1:=λd=>∀d',nb d=true->nb d'=true->(PyData.eqv d d'=true<->d=d')) (motive_2:=λds=>∀ds',nbs ds=true->nbs ds'=true->(PyData.eqvAll ds ds'=true<->ds=ds')) (motive_3:=λU=>True) (motive_4:=λU=>True)
  ?_ (λU U h=>absurd h cV7) ?_ ?_ ?_ ?_ (λU U U h=>absurd h cV7) ?_ ?_ trivial (λU U U U=>trivial) (λU U U U=>trivial) d
 ·intro d' _ h
  cases d'<;>first | exact iff_of_true rfl rfl | exact absurd h cV7 | exact Z5 λe=>nomatch e
 ·intro a d' _ h
  cases d'<;>first | exact beq_iff_eq.trans ⟨λe=>e▸rfl,PyData.int.inj⟩ | exact absurd h cV7 | exact Z5 λe=>nomatch e
 ·intro a d' _ h
  cases d'<;>first | exact beq_iff_eq.trans ⟨λe=>e▸rfl,PyData.str.inj⟩ | exact absurd h cV7 | exact Z5 λe=>nomatch e
 ·intro xs ih d' h h'
  cases d'<;>first | exact(ih _ h h').trans ⟨λe=>e▸rfl,PyData.list.inj⟩ | exact absurd h' cV7 | exact Z5 λe=>nomatch e
 ·intro xs ih d' h h'
  cases d'<;>first | exact(ih _ h h').trans ⟨λe=>e▸rfl,PyData.tuple.inj⟩ | exact absurd h' cV7 | exact Z5 λe=>nomatch e
 ·intro ds' _ _
  cases ds'<;>first | exact iff_of_true rfl rfl | exact Z5 λe=>nomatch e
 ·intro x xs ih ihs ds' h h'
  cases ds' with
  | nil=>exact Z5 λe=>nomatch e
  | cons y ys=>
   have h:=cX6.mp h
   have h':=cX6.mp h'
   exact cX6.trans ((and_congr (ih y h.1 h'.1) (ihs ys h.2 h'.2)).trans ⟨λe=>e.1▸e.2▸rfl,List.cons.inj⟩)
theorem bx6 {c:Cx} {A:Around} (a:AR c A) {n:Nat} (h:n<=1000):A.units+n<cLine:=by
 have h1:=a.units
 have h2:cLine=9900:=rfl
 lia
section
variable {d d':PyData} {Q:V->b9->Prop}
theorem aW2 (h1:d.canLay0=true) (h2:d'.canLay0=true) (hd:min d.depth d'.depth<=1000) (hQ:Q (.bool (PyData.eqv d d')) own):y7 c loc own .Eq (ofD d) (ofD d') Q E:=by
 rintro _ _ F A μ s S ⟨r1,r2⟩
 rcases I9 h1 r1 with⟨as,ra⟩
 rcases I9 h2 r2 with⟨bs,rb⟩
 exact rcAt_reads ra rb h1 h2 (bx6 S.ar hd) _ _ _ _ (leaf S hQ rfl rfl rfl (.bool _))
theorem cg4 (h1:d.canLay0=true) (h2:d'.canLay0=true) (hd:min d.depth d'.depth<=1000) (hQ:Q (.bool (!PyData.eqv d d')) own):y7 c loc own .NotEq (ofD d) (ofD d') Q E:=by
 rintro _ _ F A μ s S ⟨r1,r2⟩
 rcases I9 h1 r1 with⟨as,ra⟩
 rcases I9 h2 r2 with⟨bs,rb⟩
 exact rcNeAt_reads ra rb h1 h2 (bx6 S.ar hd) _ _ _ _ (leaf S hQ rfl rfl rfl (.bool _))
theorem bx7 {s:Shared} {μ:Mu} {A:Around} {x:PyData} {vx:Value} (hx:x.canLay0=true) (rx:VR s.heap μ (ofD x) vx) (ds:List PyData) (vs:List Value) (hd:∀d∈ds,d.canLay0=true/\A.units+min d.depth x.depth<cLine) (r:q9 s.heap μ (X1 ds) vs):
  ∃e:Value->Bool,(∀y∈vs,EqAt A s y vx (e y))/\vs.any e=ds.any (λd=>PyData.eqv d x):=by
 classical
 obtain⟨e,he⟩:∃e:Value->Bool,∀(d:PyData) (y:Value),d.canLay0=true->VR s.heap μ (ofD d) y->e y=PyData.eqv d x:=⟨λy=>decide (∃d as,Reads s.heap y d as/\d.canLay0=true/\PyData.eqv d x=true),λd y hc rd=>by
  rcases I9 hc rd with⟨as,ra⟩
  cases q:PyData.eqv d x with
  | true=>exact decide_eq_true ⟨d,as,ra,hc,q⟩
  | false=>
   refine decide_eq_false ?_
   intro q1_
   obtain⟨d',bs,rb,hc',q'⟩:=q1_
   rw[SeqAt.Reads.unique d d' y as bs hc ra rb,q'] at q;cases q⟩
 rcases I9 hx rx with⟨bs,rb⟩
 refine⟨e,?_⟩
 induction ds generalizing vs with
 | nil=>cases (show vs=[] from r);exact⟨λU h=>absurd h cY8,rfl⟩
 | cons d ds ih=>
  rw[bx5] at r
  obtain⟨v,us,rfl,a,b⟩:=r
  rcases(ih us (λd' h=>hd d' (.tail _ h)) b) with⟨i1,i2⟩
  have h0:=(hd d (.head _)).1
  refine⟨λy hy=>?_,by rw[dl1,dl1,i2,he d _ h0 a]⟩
  rcases cW1.mp hy with q | q
  ·rcases I9 h0 a with⟨as,ra⟩
   rw[q,he d _ h0 a]
   exact eqAt_reads _ _ A s _ _ _ _ ra rb h0 hx (hd d (.head _)).2
  ·exact i1 y q
theorem aW3 {c:Cx} {A:Around} {ds:List PyData} {x:PyData} (a:AR c A) (hd:∀d∈ds,d.canLay0=true/\min d.depth x.depth<=1000):∀d∈ds,d.canLay0=true/\A.in1.units+min d.depth x.depth<cLine:=λd h=>⟨(hd d h).1,by
  have h1:=a.units
  have h2:cLine=9900:=rfl
  have h3:=(hd d h).2
  show A.units+1+_<_;lia⟩
theorem cg5 {us:Array Value} {y:Value} (h:y∈us):y∈us.toList:=Array.mem_toList_iff.mpr h
theorem cE6 {ds:List PyData} {x:PyData} (hx:x.canLay0=true) (hd:∀d∈ds,d.canLay0=true/\min d.depth x.depth<=1000) (hQ:Q (.bool (ds.any λd=>PyData.eqv d x)) own):y7 c loc own .In (ofD x) (.tup (X1 ds)) Q E:=op2 hQ λU U U U U U S r1 r2 U U k=>by
 obtain⟨a,us,rfl,t,m,rr⟩:=r2
 obtain⟨e,h1,h2⟩:=bx7 hx r1 ds us.toList (aW3 S.ar hd) rr
 exact in_tupleAt e t.isTuple (λy hy=>h1 y (cg5 hy)) (k _ _ (λU=>(dn9.symm.trans h2)▸.bool _) rfl rfl rfl)
theorem bP2 {ds:List PyData} {x:PyData} (hx:x.canLay0=true) (hd:∀d∈ds,d.canLay0=true/\min d.depth x.depth<=1000) (hQ:Q (.bool (!ds.any λd=>PyData.eqv d x)) own):y7 c loc own .NotIn (ofD x) (.tup (X1 ds)) Q E:=op2 hQ λU U U U U U S r1 r2 U U k=>by
 obtain⟨a,us,rfl,t,m,rr⟩:=r2
 obtain⟨e,h1,h2⟩:=bx7 hx r1 ds us.toList (aW3 S.ar hd) rr
 exact notIn_tupleAt e t.isTuple (λy hy=>h1 y (cg5 hy)) (k _ _ (λU=>(dn9.symm.trans h2)▸.bool _) rfl rfl rfl)
theorem cE7 {V:V} {ds:List PyData} {x:PyData} (L:j4 own V (X1 ds)) (hx:x.canLay0=true) (hd:∀d∈ds,d.canLay0=true/\min d.depth x.depth<=1000) (hQ:Q (.bool (ds.any λd=>PyData.eqv d x)) own):y7 c loc own .In (ofD x) V Q E:=op2 hQ λU U U U U U S r1 r2 U U k=>by
 obtain⟨a,us,rfl,t,rr⟩:=L.at_ S r2
 obtain⟨e,h1,h2⟩:=bx7 hx r1 ds us.toList (aW3 S.ar hd) rr
 exact in_listAt e t.isList (λy hy=>h1 y (cg5 hy)) (k _ _ (λU=>(dn9.symm.trans h2)▸.bool _) rfl rfl rfl)
theorem aj6 {c:Cx} {A:Around} (a:AR c A):A.units<cLine:=bx6 a (n:=0) (cZ2 _)
theorem bx8 {V₁ V₂:V} {xs:List V} (L:j4 own V₁ xs) (L2:j4 own V₂ []) (hQ:Q (.bool xs.isEmpty) own):y7 c loc own .Eq V₁ V₂ Q E:=op2 hQ λU U U U U U S r1 r2 U U k=>by
 obtain⟨a,us,rfl,t,rr⟩:=L.at_ S r1
 obtain⟨b,ws,rfl,t2,rr2⟩:=L2.at_ S r2
 have z1:=j9 rr
 have z2:ws.size=0:=j9 rr2
 cases xs with
 | nil=>
  have z1:us.size=0:=z1
  exact eq_listAt (e:=λU=>true) t.isList t2.isList (z1.trans z2.symm) (aj6 S.ar) (λj h1 U=>absurd (z1▸h1) (dk2 _)) (k _ _ (λU=>z1▸.bool _) rfl rfl rfl)
 | cons x xs=>exact eq_list_lengthsAt t.isList t2.isList (by rw[z1,z2];rfl) (aj6 S.ar) (k _ _ (λU=>.bool _) rfl rfl rfl)
theorem bx9 {V₁ V₂:V} {xs:List V} (L:j4 own V₁ xs) (L2:j4 own V₂ []) (hQ:Q (.bool (!xs.isEmpty)) own):y7 c loc own .NotEq V₁ V₂ Q E:=op2 hQ λU U U U U U S r1 r2 U U k=>by
 obtain⟨a,us,rfl,t,rr⟩:=L.at_ S r1
 obtain⟨b,ws,rfl,t2,rr2⟩:=L2.at_ S r2
 have z1:=j9 rr
 have z2:ws.size=0:=j9 rr2
 cases xs with
 | nil=>
  have z1:us.size=0:=z1
  exact RcNeAt.lists (e:=λU=>true) t.isList t2.isList (z1.trans z2.symm) (aj6 S.ar) (λj h1 U=>absurd (z1▸h1) (dk2 _)) _ _ _ _ (k _ _ (λU=>z1▸.bool _) rfl rfl rfl)
 | cons x xs=>exact RcNeAt.lists_lengths t.isList t2.isList (by rw[z1,z2];rfl) (aj6 S.ar) _ _ _ _ (k _ _ (λU=>.bool _) rfl rfl rfl)
theorem cE8 {b d:List UInt8} (hQ:Q (.bool (b == d)) own):y7 c loc own .Eq (.bytes b) (.bytes d) Q E:=op2 hQ λ_ _ _ _ _ _ _ ⟨_,e⟩ ⟨_,e2⟩ _ _ k=>e▸e2▸PySem.W.eq_bytes (k _ _ (λU=>.bool _) rfl rfl rfl)
theorem cE9 {b d:List UInt8} (hQ:Q (.bool (!(b == d))) own):y7 c loc own .NotEq (.bytes b) (.bytes d) Q E:=op2 hQ λ_ _ _ _ _ _ _ ⟨_,e⟩ ⟨_,e2⟩ _ _ k=>e▸e2▸PySem.W.ne_bytes (k _ _ (λU=>.bool _) rfl rfl rfl)
theorem cF0 {b d:Str} (hQ:Q (.bool (b == d)) own):y7 c loc own .Eq (.str b) (.str d) Q E:=op2 hQ λ_ _ _ _ _ _ _ ⟨_,e⟩ ⟨_,e2⟩ _ _ k=>e▸e2▸PyProof.Rows.eq_str (k _ _ (λU=>.bool _) rfl rfl rfl)
theorem cF1 {b d:Str} (hQ:Q (.bool (!(b == d))) own):y7 c loc own .NotEq (.str b) (.str d) Q E:=op2 hQ λ_ _ _ _ _ _ _ ⟨_,e⟩ ⟨_,e2⟩ _ _ k=>e▸e2▸PyProof.Rows.ne_str (k _ _ (λU=>.bool _) rfl rfl rfl)
theorem cF2 {b d:Str} (hQ:Q (.bool (!(decide (d.cps.toList<b.cps.toList)))) own):y7 c loc own .LtE (.str b) (.str d) Q E:=op2 hQ λ_ _ _ _ _ _ _ ⟨_,e⟩ ⟨_,e2⟩ _ _ k=>e▸e2▸PySem.P.le_str (k _ _ (λU=>.bool _) rfl rfl rfl)
noncomputable def isN:V->Bool
 | .none=>true
 | _=>false
noncomputable def nOk:V->Bool
 | .val _=>false
 | _=>true
theorem by0 {V:V} (hn:nOk V=true) (r:VR h μ V v):isN V=(v == .none):=by
 cases V with
 | none=>cases r;rfl
 | bool _=>cases r;rfl
 | ref _=>cases r;rfl
 | int _=>obtain⟨_,rfl⟩:=r;rfl
 | str _=>obtain⟨_,rfl⟩:=r;rfl
 | bytes _=>obtain⟨_,rfl⟩:=r;rfl
 | tup _=>obtain⟨_,_,rfl,_⟩:=r;rfl
 | lst _=>obtain⟨_,_,rfl,_⟩:=r;rfl
 | dct _=>obtain⟨_,_,rfl,_⟩:=r;rfl
 | val _=>cases hn
theorem cF3 {V:V} (hn:nOk V=true) (hQ:Q (.bool (isN V)) own):y7 c loc own .Is V .none Q E:=by
 rintro v _ F A μ s S ⟨r,rfl⟩
 exact is_none (leaf S hQ rfl rfl rfl (by0 hn r▸.bool _))
theorem bP3 {V:V} (hn:nOk V=true) (hQ:Q (.bool (!isN V)) own):y7 c loc own .IsNot V .none Q E:=by
 rintro v _ F A μ s S ⟨r,rfl⟩
 exact isnot_none_gen (leaf S hQ rfl rfl rfl (by0 hn r▸.bool _))
end
end
section
variable {c:Cx} {loc:f8} {own:b9} {E:XP}
noncomputable def aK8 (c:Cx) (loc:f8) (own:b9) (loc':f8) (own':b9):Prop:=
 ∀F A μ s,St c loc own F A μ s->∃μ',St c loc' own' F A μ' s/\f6 μ s.heap μ' s.heap/\FK (f9 own F) (f9 own' F)
theorem T3.ghost {α β:Type} {Pre:Heap->Mu->Prop} {Rel:Heap->Mu->β->α->Prop} {loc':f8} {own':b9} {t:Sem α} {Q:β->f8->b9->Prop} (g:aK8 c loc own loc' own') (hP:Stable Pre) (h:T3 Pre Rel c loc' own' t Q E):T3 Pre Rel c loc own t Q E:=by
 intro F A μ s S p
 obtain⟨μ',S',P,K⟩:=g F A μ s S
 exact wpAny_mono (h F A μ' s S' (hP.go P p)) (λU U y=>y.lift P K) λU U y=>y.lift P K
theorem i7.ghost {α β:Type} {Rel Rel':Heap->Mu->β->α->Prop} {own₀ F:b9} {A:Around} {μ₀:Mu} {h₀:Heap} {Q Q':β->f8->b9->Prop} {a:α} {s':Shared} (ok:c.Ok) (ar:AR c A) (out:y1 c.outer (f9 own₀ F)) (x:i7 Rel c own₀ F μ₀ h₀ Q a s')
  (g:∀b l o μ,Q b l o->Rel s'.heap μ b a->St c l o F A μ s'->∃b' l' o' μ',Q' b' l' o'/\Rel' s'.heap μ' b' a/\St c l' o' F A μ' s'/\f6 μ s'.heap μ' s'.heap/\FK (f9 o F) (f9 o' F)):i7 Rel' c own₀ F μ₀ h₀ Q' a s':=by
 obtain⟨b,l,o,m,q,d,r,sr,P,K⟩:=x
 obtain⟨b',l',o',m',q',r',S',P',K'⟩:=g b l o m q r ⟨ok,ar,sr,out.fk K,d⟩
 exact⟨b',l',o',m',q',S'.dis,r',S'.sr,P.trans P',K.trans K'⟩
theorem St.dropped {A:Around} {F:b9} {μ:Mu} {s:Shared} (S:St c loc own F A μ s) {a:Addr} {o:O} (h:own a=some o) (nf:∀e l,o≠.frame e l):
  St c loc (c7 own a none) F A (t0 μ a) s/\f6 μ s.heap (t0 μ a) s.heap/\FK (f9 own F) (f9 (c7 own a none) F):=by
 rcases S.dis.ne (o9 (F:=F) h) with⟨n1,n2⟩
 have hF:F a=none:=S.dis.1.right h
 rcases S.sr.drop a with⟨sr',P'⟩
 rw[z0 n1 n2,p0 hF] at sr'
 have K:FK (f9 own F) (f9 (c7 own a none) F):=FK.put hF λe l q=>by rw[h] at q;cases q;exact nf _ _ rfl
 exact⟨⟨S.ok,S.ar,sr',S.out.fk K,S.dis.put hF ⟨n1,n2⟩⟩,P',K⟩
theorem aK8.drop {a:Addr} {o:O} (h:own a=some o) (nf:∀e l,o≠.frame e l):aK8 c loc own loc (c7 own a none):=λU U U U S=>⟨_,S.dropped h nf⟩
noncomputable def Frz (own:b9) (V W:Mine.V) (own':b9):Prop:=
 (∃a xs,V=.ref a/\own a=some (.list xs)/\W=.lst xs/\own'=c7 own a none)\/(∃a es,V=.ref a/\own a=some (.dictS es)/\W=.dct es/\own'=c7 own a none)
theorem D4 {μ:Mu} {a:Addr} (h:μ a=some a):t0 μ a a=none:=if_pos h
theorem Frz.go {V W:Mine.V} {own':b9} {A:Around} {F:b9} {μ:Mu} {s:Shared} {v:Value} (K0:T6) (f:Frz own V W own') (S:St c loc own F A μ s) (r:VR s.heap μ V v):
  ∃μ',VR s.heap μ' W v/\St c loc own' F A μ' s/\f6 μ s.heap μ' s.heap/\FK (f9 own F) (f9 own' F):=by
 rcases f with⟨a,xs,rfl,ho,rfl,rfl⟩ | ⟨a,es,rfl,ho,rfl,rfl⟩
 ·cases r
  obtain⟨hm,_,us,t,rr⟩:=S.chunk ho
  obtain⟨S',P',K'⟩:=S.dropped ho λU U=>nofun
  exact⟨_,.lst t (D4 hm) (rr.pres P'),S',P',K'⟩
 ·cases r
  obtain⟨hm,_,us,t,rr⟩:=S.chunk ho
  obtain⟨S',P',K'⟩:=S.dropped ho λU U=>nofun
  exact⟨_,.dct t (D4 hm) (S.ne_sys K0 ho) (rr.pres P'),S',P',K'⟩
theorem bk9 {e:Expr} {Q:V->b9->Prop} (K0:T6) (h:Ev c loc own e (λV o=>∃W o',Frz o V W o'/\Q W o') E):Ev c loc own e Q E:=by
 intro F A μ s S p
 refine wpAny_mono (h F A μ s S p) (λv s' x=>?_) λU U y=>y
 refine i7.ghost (Q':=λV l o=>l=loc/\Q V o) S.ok S.ar S.out x λV l o m q r S'=>?_
 obtain⟨rfl,W,o',f,q⟩:=q
 obtain⟨m',r',S'',P,K⟩:=f.go K0 S' r
 exact⟨W,_,o',m',⟨rfl,q⟩,r',S'',P,K⟩
theorem r9.freeze {hd:Option Value} {k:Nat} {f:Value} {Vs:List V} {Q:V->b9->Prop} {EX:XC} (K0:T6) (h:r9 hd k f Vs own (λV o=>∃W o',Frz o V W o'/\Q W o') EX):r9 hd k f Vs own Q EX:=by
 intro outer F A μ s vs h1 h2 h3 h4 h5 h6 h7 h8
 refine codeAny_mono (h outer F A μ s vs h1 h2 h3 h4 h5 h6 h7 h8) (B9.elim ?_ λU U x=>x)
 intro v s' q1_
 obtain⟨V,o,m,⟨W,o',f,q⟩,d,r,R⟩:=q1_
 have fin:∀{a:Addr} {ob:O},o a=some ob->(∀e l,ob≠.frame e l)->(f6 m s'.heap (t0 m a) s'.heap->VR s'.heap (t0 m a) W v)->o'=c7 o a none->aC5 own F μ s.heap Q v s':=λ{a ob} ho nf hr e=>by
  rcases R.sr.drop a with⟨sr',P'⟩
  rw[p0 (d.right ho)] at sr'
  subst e
  exact⟨_,_,_,q,d.put (d.right ho),hr P',sr',R.P.trans P',R.K.trans (FK.put (d.right ho) λe l q=>nf e l (Option.some.inj (ho.symm.trans q)))⟩
 rcases f with⟨a,xs,rfl,ho,rfl,e⟩ | ⟨a,es,rfl,ho,rfl,e⟩
 ·cases r
  obtain⟨hm,_,us,t,rr⟩:=R.sr.chunk a _ (o9 ho)
  exact fin ho (λU U=>nofun) (λP'=>.lst t (D4 hm) (rr.pres P')) e
 ·cases r
  obtain⟨hm,_,us,t,rr⟩:=R.sr.chunk a _ (o9 ho)
  exact fin ho (λU U=>nofun) (λP'=>.dct t (D4 hm) (by
   rcases K0.sysm with⟨ob,g⟩
   rw[beq_eq_false_iff_ne]
   intro q;subst q
   rw[R.sr.baseMu _ _ g] at hm;cases hm) (rr.pres P')) e
theorem cg6 (hne:a≠I):Src tgt ⟨I,xs,[I],[I],λi h=>h.IsListIter I a i,λh μ=>∃vs,h.PlainList a vs/\q9 h μ xs vs.toList⟩ where
 sub:=λU h=>h
 self:=.head _
 frame:=λU h h' t k=>t.elim λo t=>⟨o,k _ (.head _) o t.1,t.2⟩
 there:=λi h t b hb=>cV8.mp hb▸t.elim λo t=>⟨o,t.1⟩
 again:=λA i s Q E hh st q=>wpAny_pyIter_listiter st q
 item:=λA i s R E E' hh hi st q k=>by
  obtain⟨μ,vs,t,r⟩:=q
  have len:vs.size=xs.length:=by rw[<-r.length,db0]
  refine(Walks.list (prog:=G.prog) (w:=G.w) hh I a hne vs).item i s _ E (len▸hi) ⟨st,t.isList⟩ λv h' tk hp st' keep=>⟨v,rfl,?_⟩
  obtain⟨o,g,hc,hd⟩:=id st'.1
  refine aj0 (s:={s with heap:=h',toks:=tk}) g hc hd rfl (k v h' tk ?_ st'.1 keep)
  rintro μ' ⟨vs',⟨n',t'⟩,r'⟩ -
  rcases t with⟨n,t⟩
  have:=keep a _ (λq=>hne (cV8.mp q)) t
  rw[this] at t'
  cases t'
  have hp':vs.toList[i]?=some v:=by simpa using hp
  obtain⟨u,hu,ru⟩:=r'.get (x:=xs[i]) (cW8 hi)
  rw[hp'] at hu;cases hu
  exact⟨_,cW8 hi,ru⟩
 done:=λA s Q E hh st q k=>by
  obtain⟨μ,vs,t,r⟩:=q
  have len:vs.size=xs.length:=by rw[<-r.length,db0]
  exact(Walks.list (prog:=G.prog) (w:=G.w) hh I a hne vs).done s Q E ⟨len▸st,t.isList⟩ k
theorem by1 (ho:own a=some (.list xs)):ax3 c loc own tgt (.ref a) xs own (λo=>o a=some (.list xs)) E:=by
 rintro _ F A μ s S rfl
 obtain⟨hm,_,vs,t,r⟩:=S.chunk ho
 have ha:a<s.heap.objs.size:=let ⟨_,e⟩:=t;Heap.lt_size e
 have hne:a≠s.heap.objs.size:=cY4 ha
 have st:(s.heap.push {cls:=.type "list_iterator",data:=.fields #[.ref a,.int 0 0]}).IsListIter s.heap.objs.size a 0:=⟨_,Heap.get?_push_size _ rfl,rfl,rfl⟩
 refine wpAny_pyIter_list t.isList ?_
 have src:=cg6 (tgt:=tgt) (xs:=xs) hne
 have p:=S.push (ob:={cls:=.type "list_iterator",data:=.fields #[.ref a,.int 0 0]}) (o:=.it [s.heap.objs.size] [s.heap.objs.size] λh=>h.IsListIter s.heap.objs.size a 0) (tk:=s.toks) rfl λP=>
  ⟨.head _,st,λU h=>h,src.frame 0,src.there 0 _ st,λb hb=>by rw[cV8] at hb;subst hb;exact b5 _ _ _,λb hb hn=>absurd hb hn⟩
 exact⟨_,loc,_,_,⟨rfl,rfl,b5 _ _ _,by rw[c5,d9 p.own_],src,λinv S' U U=>(S'.chunk inv).2.2⟩,p.dj,⟨rfl,vs,let ⟨n,e⟩:=t;⟨n,Heap.get?_push_of_some _ e⟩,r.pres p.pres⟩,p.sr,p.pres,p.fk⟩
theorem by2 {P:Nat->Value->Prop} {St:Nat->Heap->Prop} (W:Walks prog w A I fp wr n P St):Walks prog w A I fp wr n (λi v=>i<n/\P i v) St where
 sub:=W.sub
 frame:=W.frame
 item:=λi s Q E hi st k=>W.item i s Q E hi st λv h' tk hp=>k v h' tk ⟨hi,hp⟩
 done:=W.done
 self:=W.self
noncomputable def ct7 (r:Addr) (a b:Int) (h:Heap):Prop:=∃t u v,IsRange h r a b 1 t u v
abbrev aK9 (r:Addr) (a b:Int):O:=.it [r] [r] (ct7 r a b)
theorem ap6 {s:Shared} {Q:V->b9->Prop} (S:St c loc own F A μ s) (hQ:∀r,own r=none->Q (.ref r) (c7 own r (some (aK9 r a b)))):
  i7 (z9) c own F μ s.heap (λV l o=>l=loc/\Q V o) (.ref s.heap.objs.size) {s with heap:=s.heap.push {cls:=.type "range",data:=.fields #[.int a t,.int b u,.int 1 v]},toks:=tk}:=by
 have st:ct7 s.heap.objs.size a b (s.heap.push {cls:=.type "range",data:=.fields #[.int a t,.int b u,.int 1 v]}):=⟨t,u,v,IsRange.new _ _ _ _ _ _ _⟩
 have p:=S.push (ob:={cls:=.type "range",data:=.fields #[.int a t,.int b u,.int 1 v]}) (o:=aK9 s.heap.objs.size a b) (tk:=tk) rfl λP=>
  ⟨.head _,st,λU h=>h,λh h' q k=>by obtain⟨t,u,v,e⟩:=q;exact⟨t,u,v,k _ (.head _) _ e⟩,λb hb=>by rw[cV8] at hb;subst hb;exact⟨_,Heap.get?_push_size _ rfl⟩,
   λb hb=>by rw[cV8] at hb;subst hb;exact b5 _ _ _,λb hb hn=>absurd hb hn⟩
 exact⟨.ref _,_,_,_,⟨rfl,hQ _ p.own_⟩,p.dj,.ref _,p.sr,p.pres,p.fk⟩
theorem bP4 (hQ:∀r,own r=none->Q (.ref r) (c7 own r (some (aK9 r 0 n)))):u4 c loc own (.type "range") [.int n] Q E:=by
 intro vs F A μ s S r
 rcases r.one with⟨v,rfl,_,rfl⟩
 exact call_range_1 (ap6 S hQ)
theorem bP5 (hQ:∀r,own r=none->Q (.ref r) (c7 own r (some (aK9 r m n)))):u4 c loc own (.type "range") [.int m,.int n] Q E:=by
 intro vs F A μ s S r
 obtain⟨v,u,rfl,⟨_,rfl⟩,_,rfl⟩:=r.two
 exact call_range_2 (ap6 S hQ)
noncomputable def P9 (a b:Int):List V:=(dh4 (b-a).toNat).map λ(i:Nat)=>.int (a+(i:Int))
theorem aW4 (ho:own r=some (aK9 r a b)) (ha:-(2 ^ 62)<=a) (ha':a<2 ^ 62) (hb:-(2 ^ 62)<=b) (hb':b<2 ^ 62):av1 c loc own tgt (.ref r) (P9 a b) (c7 own r none) E:=by
 rintro _ F A μ s S rfl
 obtain⟨_,_,_,⟨t,u,v,e⟩,_⟩:=S.chunk ho
 refine wpAny_pyIter_range e (small_one ha ha' hb hb') ?_
 obtain⟨S',P',K'⟩:=S.dropped ho λU U=>nofun
 have hn:(P9 a b).length=(b-a).toNat:=by simp [P9]
 have post:=am4 (tgt:=tgt) (xs:=P9 a b) (P:=λi v=>i<(b-a).toNat/\∃t,v=.int (a+(i:Nat)*1) t) (Z:=λi h=>IsRangeIter h s.heap.objs.size (a+(i:Nat)*1) (((b-a).toNat:Int)-(i:Nat)) 1) (vs:=#[]) (T:="")
  (ob:={cls:=.type "range_iterator",data:=.fields #[rawInt a,rawInt (Builtin.Range.rangeSize a b 1),rawInt 1]}) S' rfl
  (λA hh=>by rw[hn];exact by2 (Walks.range hh _ _ _ _)) ?_ (λh μ i v hp=>?_) λi h st=>?_
 ·exact post.lift P' K'
 ·show IsRangeIter _ _ _ _ _
  have e1:a+((0:Nat):Int)*1=a:=by omega
  have e2:(((b-a).toNat:Int)-((0:Nat):Int))=Builtin.Range.rangeSize a b 1:=by
   rw[rangeSize_one];split<;>omega
  rw[e1,e2]
  exact Heap.get?_push_size _ rfl
 ·rcases hp with⟨hi,t,rfl⟩
  refine⟨.int (a+(i:Int)),by simp [P9,hi],?_⟩
  rw[Int.mul_one];exact .int _ _
 ·exact⟨_,_,_,st,rfl,rfl,rfl⟩
end
section
variable {c:Cx} {loc:f8} {own:b9} {E:XP}
theorem by3 (J:Nat->f8->b9->Prop) (n₀:Nat) (j0:J n₀ loc own)
  (h:∀n l o,J n l o->Tst c l o test (λb o'=>if b then Exs c l o' body (λF l2 o2=>match F with
    | .next | .cont=>∃m,m<n/\J m l2 o2
    | .brk=>Q .next l2 o2
    | .ret V=>Q (.ret V) l2 o2) E else Exs c l o' orelse Q E) E):Ex c loc own (.While test body orelse pos) Q E:=by
 intro F A μ₀ s₀ S₀ p₀
 refine wpAny_While ?_
 have ar:=S₀.ar
 let Jn:Nat->Shared->Prop:=λn s=>∃l o μ,J n l o/\St c l o F A μ s/\f6 μ₀ s₀.heap μ s.heap/\FK (f9 own F) (f9 o F)
 have lift:∀{o:b9} {μ:Mu} {s s':Shared} {e:Value},f6 μ₀ s₀.heap μ s.heap->FK (f9 own F) (f9 o F)->t8 c o F μ s.heap E e s'->
   notedBy (model G.prog G.w) A c.env (λe s'=>cameBackBy (model G.prog G.w) A c.env (t8 c own F μ₀ s₀.heap E) e s') e s':=λ{o μ s s' e} P K x=>by
  refine I4 S₀.ok ar (S₀.out.fk K) x λs'' C told l' o' μ' q d X sr P' K'=>?_
  exact P5 q d X sr (P.trans P') (K.trans K')
 refine codeAny_whileLoop (R:=λr s'=>match r with | .ok f=>i7 (FlR) c own F μ₀ s₀.heap Q f s' | .error e=>cameBackBy (model G.prog G.w) A c.env (t8 c own F μ₀ s₀.heap E) e s') Jn (λn s hJ=>?_) n₀ ⟨loc,own,μ₀,j0,S₀,f6.refl _ _,FK.refl _⟩
 obtain⟨l,o,μ,j,S,P,K⟩:=hJ
 refine(h n l o j).runV S trivial (λU U y=>lift P K y) λb s₂ b' o₂ m₂ q r S₂ P₂ K₂=>?_
 obtain rfl:b'=b:=r
 have P':=P.trans P₂
 have K':=K.trans K₂
 cases b' with
 | true=>
  refine T3.run q S₂ trivial (λU U y=>lift P' K' y) λf s₃ Fl l₃ o₃ m₃ q₃ r₃ S₃ P₃ K₃=>?_
  cases Fl with
  | next=>cases r₃;obtain⟨m,hm,j'⟩:=q₃;exact⟨m,hm,l₃,o₃,m₃,j',S₃,P'.trans P₃,K'.trans K₃⟩
  | cont=>cases r₃;obtain⟨m,hm,j'⟩:=q₃;exact⟨m,hm,l₃,o₃,m₃,j',S₃,P'.trans P₃,K'.trans K₃⟩
  | brk=>cases r₃;exact⟨_,l₃,o₃,m₃,q₃,S₃.dis,.next,S₃.sr,P'.trans P₃,K'.trans K₃⟩
  | ret V=>obtain⟨_,rfl,r⟩:=r₃;exact⟨_,l₃,o₃,m₃,q₃,S₃.dis,.ret r,S₃.sr,P'.trans P₃,K'.trans K₃⟩
 | false=>exact wpAny_mono (q F A m₂ s₂ S₂ trivial) (λU U y=>y.lift P' K') λU U y=>lift P' K' y
end
section
variable {c:Cx} {loc:f8} {own:b9} {E:XP}
abbrev bl0 (c:Cx) (loc:f8) (own:b9) (ifs:List Expr) (Q:Bool->b9->Prop) (E:XP):Prop:=
 T3 TT D6 c loc own (forIn ifs true λe r=>if r=true then do let ok <-isTrue e c.env (eval e c.env);Pure.pure (ForInStep.yield ok) else Pure.pure (ForInStep.yield r)) (λb l o=>l=loc/\Q b o) E
theorem by4 (h:Q true own):bl0 c loc own [] Q E:=by
 intro F A μ s S p
 exact wpAny_tests_nil ⟨true,_,own,μ,⟨rfl,h⟩,S.dis,rfl,S.sr,f6.refl _ _,FK.refl _⟩
theorem by5 (h:Tst c loc own e Q E):bl0 c loc own [e] Q E:=λF A μ s S p=>wpAny_tests_one (h F A μ s S p)
noncomputable def Cap (c:Cx) (x:Str):Prop:=c.comp=true/\c.env.kindOf x=some .cell/\c.fenv.kindOf x=some .cell/\∃a,c.fenv.cells.lookup x=some a/\c.env.cells.lookup x=some a
theorem aW5 {x:Str} {pos:Pos} {v:V} {Q:V->b9->Prop} (hc:Cap c x) (hm:(x,some v)∈c.floc) (hQ:Q v own) (hd:(x == ("__debug__":Str))=false:=by decide +kernel):Ev c loc own (.Name x pos) Q E:=by
 obtain⟨h0,h1,h2,a,h3,h4⟩:=hc
 exact bt8 h0 hm h1 h2 h3 h4 hQ hd
theorem aL0 {env:Env} (pw:env.cells.Pairwise λx y=>x.2≠y.2) {cl:List (Str×Addr)} (nd:(cl.map (·.1)).Nodup) (h:∀p∈cl,env.cells.lookup p.1=some p.2):cl.Pairwise λx y=>x.2≠y.2:=by
 refine dl4.imp_of_mem (λ{p q} hp hq n e=>n ?_) (da3.mp nd)
 have h1:=mem_of_lookup (h p hp)
 have h2:=mem_of_lookup (h q hq)
 rw[<-e] at h2
 exact PySem.name_of_addr pw h1 h2
theorem aW6 {scope:Scope} {env:Env} (hnd:(scope.names.map (·.1)).Nodup) (pw:env.cells.Pairwise λx y=>x.2≠y.2) (h:∀x,(x,NameKind.free)∈scope.names->∃a,cellOf env x=pure a/\env.cells.lookup x=some a):
  ∃cl,closureFor scope env=pure cl/\(∀x,(x,NameKind.free)∈scope.names->cl.lookup x=env.cells.lookup x)/\cl.Pairwise λx y=>x.2≠y.2:=by
 have key:∀(names:List (Str×NameKind)) (cs:List (Str×Addr)),(names.map (·.1)).Nodup->(cs.map (·.1)).Nodup->(∀x∈cs.map (·.1),x∉names.map (·.1))->(∀x,(x,NameKind.free)∈names->∃a,cellOf env x=pure a/\env.cells.lookup x=some a)->(∀p∈cs,env.cells.lookup p.1=some p.2)->
   ∃cl,(forIn names cs λ(p:Str×NameKind) (r:List (Str×Addr))=>if(p.2 == NameKind.free)=true then do let a <-cellOf env p.1;Pure.pure (ForInStep.yield ((p.1,a)::r)) else Pure.pure (ForInStep.yield r))=(pure cl:Sem (List (Str×Addr)))/\
    (∀p∈cl,env.cells.lookup p.1=some p.2)/\(∀x∈cs.map (·.1),x∈cl.map (·.1))/\(∀x,(x,NameKind.free)∈names->x∈cl.map (·.1))/\(cl.map (·.1)).Nodup:=by
  intro names
  induction names with
  | nil=>intro cs _ nd _ _ hcs;exact⟨cs,rfl,hcs,λU h=>h,(λU h=>nomatch h),nd⟩
  | cons p names ih=>
   intro cs hn nd dj h hcs
   rcases p with⟨n,k⟩
   rw[cX3,cY9] at hn
   rw[List.forIn_cons]
   by_cases hk:k=.free
   ·subst hk
    obtain⟨a,h1,h2⟩:=h n (.head _)
    obtain⟨cl,e,a1,a2,a3,a4⟩:=ih ((n,a)::cs) hn.2 (by
      rw[cX3,cY9]
      exact⟨λq=>dj n q (.head _),nd⟩) (λx hx hx'=>by
      rw[cX3] at hx
      rcases cW1.mp hx with q | q
      ·subst q;exact hn.1 hx'
      ·exact dj x q (.tail _ hx')) (λx hx=>h x (.tail _ hx)) (λp hp=>by
     rcases cW1.mp hp with q | q
     ·subst q;exact h2
     ·exact hcs p q)
    refine⟨cl,?_,a1,λx hx=>a2 x (.tail _ hx),λx hx=>?_,a4⟩
    ·simp only[beq_self_eq_true,if_true,h1,pure_bind];exact e
    ·rcases cW1.mp hx with q | q
     ·cases q;exact a2 _ (.head _)
     ·exact a3 x q
   ·obtain⟨cl,e,a1,a2,a3,a4⟩:=ih cs hn.2 nd (λx hx hx'=>dj x hx (.tail _ hx')) (λx hx=>h x (.tail _ hx)) hcs
    refine⟨cl,?_,a1,a2,λx hx=>?_,a4⟩
    ·have:(k == NameKind.free)=false:=by simpa using hk
     simp only[this,dg9,if_false,pure_bind];exact e
    ·rcases cW1.mp hx with q | q
     ·cases q;exact absurd rfl hk
     ·exact a3 x q
 obtain⟨cl,e,a1,_,a3,a4⟩:=key scope.names [] hnd (by simp) (by simp) h (λU h=>nomatch h)
 refine⟨cl,?_,λx hx=>?_,aL0 pw a4 a1⟩
 ·unfold closureFor
  exact(congrArg (· >>= λcs=>pure cs) e).trans (by rfl)
 ·rcases cV6.mp (a3 x hx) with⟨p,hp,rfl⟩
  have:∃a,cl.lookup p.1=some a:=by
   cases q:cl.lookup p.1 with
   | some a=>exact⟨a,rfl⟩
   | none=>
    exfalso
    rw[List.lookup_eq_none_iff] at q
    have:=q p hp
    simp at this
  rcases this with⟨a,ha⟩
  rw[ha,a1 _ (mem_of_lookup ha)]
noncomputable def p7 (c:Cx) (loc:f8) (scope:Scope) (cl:List (Str×Addr)) (C:Addr):Cx:=
 {env:=compEnvC scope cl C c.env,L:=C,comp:=true,fenv:=c.fenv,fL:=c.fL,floc:=if c.comp then c.floc else loc,outer:=c.outer,k:=c.k,hd:=c.hd}
structure be9 (c:Cx) (loc:f8) (scope:Scope) (c':Cx):Prop where
 comp:c'.comp=true
 sc:c'.env.scope=relabel scope c.env
 hd:c'.hd=c.hd
 k:c'.k=c.k
 floc:c'.floc=if c.comp then c.floc else loc
 cap:c.comp=false->∀x,(x,NameKind.free)∈scope.names->Cap c' x
noncomputable def ac4 (c:Cx) (loc:f8) (F:b9):b9:=if c.comp then c7 F c.L (some (.frame c.env loc)) else F
theorem by6 (ok:c.Ok) (hL:o c.L=none):
  r5 (p7 c loc scope cl C) l (f9 o (ac4 c loc F))=c7 (r5 c loc (f9 o F)) C (some (.frame (compEnvC scope cl C c.env) l)):=by
 unfold r5 ac4
 simp only[p7,if_true]
 cases hc:c.comp with
 | false=>
  rcases ok.same hc with⟨e1,e2⟩
  simp only[dg9,if_false]
  rw[e1,e2]
 | true=>
  simp only[if_true]
  rw[I5 hL,n9 _ _ _ (ok.apart hc)]
theorem cg7 (ok:c.Ok) (D:Dj c o F) (hC:r5 c loc (f9 o F) C=none):Dj (p7 c loc scope cl C) o (ac4 c loc F):=by
 obtain⟨n1,n2,h3⟩:=D0 ok hC
 have hL:=(j6.mp D.2.1).1
 unfold ac4
 refine⟨?_,?_,λU=>?_⟩
 ·cases hc:c.comp with
  | false=>exact D.1
  | true=>
   intro b
   by_cases q:b=c.L
   ·subst q;exact .inl hL
   ·rw[if_pos rfl,b7 q];exact D.1 b
 ·show f9 o _ C=none
  cases hc:c.comp with
  | false=>exact h3
  | true=>rw[if_pos rfl,I5 hL,b7 n1];exact h3
 ·show f9 o _ c.fL=none
  cases hc:c.comp with
  | false=>rw[(ok.same hc).2];exact D.2.1
  | true=>rw[if_pos rfl,I5 hL,b7 (Ne.symm (ok.apart hc))];exact D.2.2 hc
theorem by7 (ok:c.Ok) (hF:F c.L=none) (D:Dj (p7 c loc scope cl C) o (ac4 c loc F)):Dj c o F:=by
 obtain⟨d1,d2,d3⟩:=D
 have d3:=d3 rfl
 unfold ac4 at d1 d2 d3
 change f9 o _ c.fL=none at d3
 cases hc:c.comp with
 | false=>
  rw[hc] at d1 d2 d3
  exact⟨d1,by rw[<-(ok.same hc).2];exact d3,λh=>by rw[hc] at h;cases h⟩
 | true=>
  rw[hc,if_pos rfl] at d1 d2 d3
  have hL:o c.L=none:=d1.left (b5 _ _ _)
  refine⟨λb=>?_,j6.mpr ⟨hL,hF⟩,λU=>?_⟩
  ·by_cases q:b=c.L
   ·subst q;exact .inl hL
   ·have:=d1 b;rw[b7 q] at this;exact this
  ·rw[I5 hL,b7 (Ne.symm (ok.apart hc))] at d3;exact d3
theorem cg8 (ok:c.Ok) (hk:scope.kind=.function) (hC:C≠c.fL):(p7 c loc scope cl C).Ok:=
 ⟨rfl,ok.frm,ok.ffrm,hk,ok.fkind,ok.glob,ok.blt,λU=>hC,(λh=>nomatch h),ok.nobp⟩
theorem cg9 (a:AR c A):AR (p7 c loc scope cl C) A:=⟨a.frames,a.handled,a.depth,a.units⟩
theorem SR.add2 (S:SR own μ s) (ha:s.heap.objs.size<=a) (hd:s.heap.objs.size<=d) (ea:∃ob,h'.get? a=some ob) (ed:∃ob,h'.get? d=some ob) (keep:∀b o,s.heap.get? b=some o->h'.get? b=some o)
  (rel:f6 μ s.heap (c7 (c7 μ d (some a)) a (some a)) h'->K7 h' (c7 (c7 μ d (some a)) a (some a)) a y):
  SR (c7 own a (some y)) (c7 (c7 μ d (some a)) a (some a)) {s with heap:=h',toks:=tk}/\f6 μ s.heap (c7 (c7 μ d (some a)) a (some a)) h':=by
 refine S.step (s':={s with heap:=h',toks:=tk}) (λx=>x=a) rfl rfl (λb o e U=>keep b o e) (λb o e U=>?_) (λx q=>b7 q) (λx o q e=>by subst q;exact⟨b5 _ _ _,ea⟩) (λP x o q e=>by subst q;rw[b5] at e;cases e;exact rel P) (λb x e q=>?_) (λb x e q=>?_)
 ·have:=Heap.lt_size e
  rw[b7 (cY4 (cX7 this ha)),b7 (cY4 (cX7 this hd))]
 ·subst q
  refine⟨⟨_,b5 _ _ _⟩,?_⟩
  by_cases h1:b=x
  ·exact h1▸ea
  ·rw[b7 h1] at e
   by_cases h2:b=d
   ·exact h2▸ed
   ·rw[b7 h2] at e
    exact(S.dom _ _ e).2.imp λU g=>keep _ _ g
 ·by_cases h1:b=a
  ·rw[h1,b5] at e;exact absurd (Option.some.inj e).symm q
  ·rw[b7 h1] at e
   by_cases h2:b=d
   ·rw[h2,b5] at e;exact absurd (Option.some.inj e).symm q
   ·rwa [b7 h2] at e
theorem St.add2 (S:St c loc own F A μ s) (ha:s.heap.objs.size<=a) (hd:s.heap.objs.size<=d) (ea:∃ob,h'.get? a=some ob) (ed:∃ob,h'.get? d=some ob) (keep:∀b o,s.heap.get? b=some o->h'.get? b=some o)
  (rel:f6 μ s.heap (c7 (c7 μ d (some a)) a (some a)) h'->K7 h' (c7 (c7 μ d (some a)) a (some a)) a y):
  own a=none/\St c loc (c7 own a (some y)) F A (c7 (c7 μ d (some a)) a (some a)) {s with heap:=h',toks:=tk}/\f6 μ s.heap (c7 (c7 μ d (some a)) a (some a)) h'/\FK (f9 own F) (f9 (c7 own a (some y)) F):=by
 obtain⟨n1,n2,n3⟩:=D0 S.ok (S.sr.far ha).1
 rcases j6.mp n3 with⟨ho,hF⟩
 rcases S.sr.add2 (tk:=tk) ha hd ea ed keep rel with⟨sr,P⟩
 rw[z0 n1 n2,p0 hF] at sr
 have K:FK (f9 own F) (f9 (c7 own a (some y)) F):=FK.put hF λe l q=>by rw[ho] at q;cases q
 exact⟨ho,⟨S.ok,S.ar,sr,S.out.fk K,S.dis.put hF ⟨n1,n2⟩⟩,P,K⟩
theorem SR.redo (S:SR own μ s) (hm:μ a=some a) (hd:s.heap.objs.size<=d) (ea:∃ob,h'.get? a=some ob) (ed:∃ob,h'.get? d=some ob) (keep:∀b o,s.heap.get? b=some o->b≠a->h'.get? b=some o)
  (rel:f6 μ s.heap (c7 μ d (some a)) h'->K7 h' (c7 μ d (some a)) a y):
  SR (c7 own a (some y)) (c7 μ d (some a)) {s with heap:=h',toks:=tk}/\f6 μ s.heap (c7 μ d (some a)) h':=by
 rcases(S.dom _ _ hm).2 with⟨ob,g⟩
 have had:a≠d:=cY4 (cX7 (Heap.lt_size g) hd)
 refine S.step (s':={s with heap:=h',toks:=tk}) (λx=>x=a) rfl rfl (λb o e q=>keep b o e λq'=>q a (q'▸hm) rfl) (λb o e U=>b7 (cY4 (cX7 (Heap.lt_size e) hd))) (λx q=>b7 q) (λx o q e=>by subst q;exact⟨(b7 had).trans hm,ea⟩) (λP x o q e=>by subst q;rw[b5] at e;cases e;exact rel P) (λb x e q=>?_) (λb x e q=>?_)
 ·subst q
  refine⟨⟨_,b5 _ _ _⟩,?_⟩
  by_cases h2:b=d
  ·exact h2▸ed
  ·rw[b7 h2] at e
   by_cases h3:b=x
   ·exact h3▸ea
   ·exact(S.dom _ _ e).2.imp λU g=>keep _ _ g h3
 ·by_cases h2:b=d
  ·rw[h2,b5] at e;exact absurd (Option.some.inj e).symm q
  ·rwa [b7 h2] at e
end
section
variable {c:Cx} {loc:f8} {own:b9} {E:XP}
abbrev NoX:XP:=λU U U U=>False
theorem noX (x:t8 c own F μ h NoX e s):False:=by
 obtain⟨_,_,_,_,_,_,q,_⟩:=x;exact q
theorem ac5 (ho:o a=none) (hF:F a=none):f9 (c7 o a (some y)) F=f9 o (c7 F a (some y)):=by rw[I5 ho,p0 hF]
theorem F1.unF (D:F1 o (c7 F a (some y))):F1 o F:=λb=>by
 by_cases q:b=a
 ·subst q;exact .inl (D.left (b5 _ _ _))
 ·have:=D b;rw[b7 q] at this;exact this
theorem St.pull (S:St c loc own (c7 F a (some y)) A μ s) (hF:F a=none):St c loc (c7 own a (some y)) F A μ s:=by
 have ho:own a=none:=S.dis.1.left (b5 _ _ _)
 have e:=ac5 (y:=y) ho hF
 exact⟨S.ok,S.ar,e▸S.sr,e▸S.out,S.dis.1.unF.put hF,e▸S.dis.2.1,λhc=>e▸S.dis.2.2 hc⟩
theorem St.give (S:St c loc own F A μ s) (ho:own a=some y):St c loc (c7 own a none) (c7 F a (some y)) A μ s:=by
 have hF:=S.dis.1.right ho
 have e:=ab3 ho hF
 exact⟨S.ok,S.ar,e▸S.sr,e▸S.out,S.dis.move ho⟩
theorem Dj.putF (D:Dj c o F) (ho:o a=none) (n:a≠c.L/\(c.comp=true->a≠c.fL)):Dj c o (c7 F a (some y)):=by
 refine⟨λb=>?_,?_,λhc=>?_⟩
 ·by_cases q:b=a
  ·subst q;exact .inl ho
  ·rw[b7 q];exact D.1 b
 ·rw[I5 ho,b7 (Ne.symm n.1)];exact D.2.1
 ·rw[I5 ho,b7 (Ne.symm (n.2 hc))];exact D.2.2 hc
theorem bl1 {prog:Program} {w:World} {A:Around} {R:Result->Shared->Prop} {s:Shared} {elt target iter:Expr} {ifs:List Expr} {scope:Scope} {pos:Pos} {it acc:Value} {env:Env} (J:Nat->Shared->Prop)
  (turn:∀n s,J n s->(wpAny (model prog w) A (pyNext it) (λr s₁=>r=none/\R (.ok .next) s₁) (λU U=>False) s)\/
   wpAny (model prog w) A (pyNext it) (λr s₁=>∃v,r=some v/\wpAny (model prog w) A (letOwnedTupleGo target it v) (λU s₂=>wpAny (model prog w) A (assign target env v) (λU s₃=>
    wpAny (model prog w) A (forIn ifs true λe r=>if r=true then do let ok <-isTrue e env (eval e env);Pure.pure (ForInStep.yield ok) else Pure.pure (ForInStep.yield r)) (λok s₄=>
     if ok=true then wpAny (model prog w) A (eval elt env) (λx s₅=>wpAny (model prog w) A (call (.builtin "list.append") [acc,x]) (λU s₆=>∃m,m<n/\J m s₆) (λU U=>False) s₅) (λU U=>False) s₄
     else∃m,m<n/\J m s₄) (λU U=>False) s₃) (λU U=>False) s₂) (λU U=>False) s₁) (λU U=>False) s)
  (n:Nat) (h:J n s):codeAny (model prog w) A (.compLoop (.ListComp elt [⟨target,iter,ifs,0⟩] scope pos) 0 it acc env) R s:=by
 refine codeAny_loop rfl J (λn s hI=>?_) n h
 show wpAny _ A ((compTurn (.ListComp elt [⟨target,iter,ifs,0⟩] scope pos) 0 it acc env).onRaise (λx=>do noteFrame x env;theTreesLotGoes x)) _ _ s
 refine wpAny_noted ?_
 rw[compTurn_list]
 rcases turn n s hI with t | t
 ·refine wpAny_bind (wpAny_standAt (wpAny_bind (wpAny_mono t (λr s₁ h₁=>?_) λU U h'=>h'.elim)))
  rcases h₁ with⟨rfl,h₁⟩
  exact wpAny_pure h₁
 ·refine wpAny_bind (wpAny_standAt (wpAny_bind (wpAny_mono t (λr s₁ h₁=>?_) λU U h'=>h'.elim)))
  rcases h₁ with⟨v,rfl,h₁⟩
  refine wpAny_bind (wpAny_mono h₁ (λU s₂ h₂=>wpAny_bind (wpAny_mono h₂ (λU s₃ h₃=>wpAny_bind (wpAny_mono h₃ (λok s₄ h₄=>?_) λU U h'=>h'.elim)) λU U h'=>h'.elim)) λU U h'=>h'.elim)
  cases ok with
  | false=>exact wpAny_pure ⟨rfl,h₄⟩
  | true=>
   exact wpAny_bind (wpAny_bind (wpAny_mono h₄ (λx s₄ h₄=>wpAny_bind (wpAny_mono h₄ (λU s₅ h₅=>wpAny_pure (wpAny_pure ⟨rfl,h₅⟩)) λU U h'=>h'.elim)) λU U h'=>h'.elim))
structure aW7 (scope:Scope) (names:List Str) (rsc:Scope):Prop where
 cell:∀y∈scope.names,y.2≠.cell
 kind:scope.kind=.function
 loc:∀x∈scope.names,x.2=.local->scope.names.lookup x.1=some .local
 nd:names.Nodup
 mine:∀x∈names,rsc.names.lookup x=some .local
structure CC (c:Cx) (F:b9) (I C D:Addr):Prop where
 ok:c.Ok
 C1:C≠c.L
 C2:c.comp=true->C≠c.fL
 D1:D≠c.L
 D2:c.comp=true->D≠c.fL
 I1:I≠c.L
 I2:c.comp=true->I≠c.fL
 CF:F C=none
 DF:F D=none
 IF:F I=none
 FL:F c.L=none
 DC:D≠C
 IC:I≠C
 ID:I≠D
noncomputable def FFo (c:Cx) (loc:f8) (F:b9) (I D:Addr) (x:O) (acc:List V):b9:=c7 (c7 (ac4 c loc F) I (some x)) D (some (.list acc))
theorem Cx.Ok.nfL (ok:c.Ok) (h1:a≠c.L) (h2:c.comp=true->a≠c.fL):a≠c.fL:=by
 cases hc:c.comp with
 | false=>rw[(ok.same hc).2];exact h1
 | true=>exact h2 hc
theorem an1 (h:a≠c.L):ac4 c loc F a=F a:=by
 unfold ac4;split
 ·exact b7 h
 ·rfl
section
variable {F:b9} {I C D:Addr} {scope:Scope} {cl:List (Str×Addr)} {l:f8} {o:b9} {x:O} {acc:List V}
theorem ax8 (e:F' L=F L):f9 o F' L=f9 o F L:=by unfold f9;rw[e]
theorem CC.FD (K:CC c F I C D):ac4 c loc F D=none:=(an1 K.D1).trans K.DF
theorem CC.FI (K:CC c F I C D):ac4 c loc F I=none:=(an1 K.I1).trans K.IF
theorem ca1:FFo c loc F I D x acc D=some (.list acc):=b5 ..
theorem CC.atI (K:CC c F I C D):FFo c loc F I D x acc I=some x:=(b7 K.ID).trans (b5 ..)
theorem CC.nI (K:CC c F I C D):I≠(p7 c loc scope cl C).L/\((p7 c loc scope cl C).comp=true->I≠(p7 c loc scope cl C).fL):=⟨K.IC,λU=>K.ok.nfL K.I1 K.I2⟩
theorem CC.nD (K:CC c F I C D):D≠(p7 c loc scope cl C).L/\((p7 c loc scope cl C).comp=true->D≠(p7 c loc scope cl C).fL):=⟨K.DC,λU=>K.ok.nfL K.D1 K.D2⟩
theorem CC.shape (K:CC c F I C D) (oL:o c.L=none) (oI:o I=none) (oD:o D=none):r5 (p7 c loc scope cl C) l (f9 o (FFo c loc F I D x acc))=c7 (c7 (c7 (r5 c loc (f9 o F)) C (some (.frame (compEnvC scope cl C c.env) l))) I (some x)) D (some (.list acc)):=by
 rw[<-by6 K.ok oL,x8 (c:=p7 c loc scope cl C) (F:=ac4 c loc F) oI K.nI,x8 (c:=p7 c loc scope cl C) oD K.nD];rfl
theorem CC.far (K:CC c F I C D) (d:Dj c o F) (oD:o D=none) (oI:o I=none) (q:f9 o F L=some (.frame e l')):f9 o (FFo c loc F I D x acc) L=f9 o F L:=by
 have n:∀{a},f9 o F a=none->L≠a:=λh e=>by rw[e,h] at q;cases q
 exact ax8 ((b7 (n (j6.mpr ⟨oD,K.DF⟩))).trans ((b7 (n (j6.mpr ⟨oI,K.IF⟩))).trans (an1 (n d.2.1))))
theorem CC.fkOut (K:CC c F I C D) (d:Dj c o F) (oD:o D=none) (oI:o I=none) (d2:Dj c o2 F) (o2D:o2 D=none) (o2I:o2 I=none) (k:FK (f9 o (FFo c loc F I D x acc)) (f9 o2 (FFo c loc F I D x acc))):FK (f9 o F) (f9 o2 F):=λL e l' q=>by
 have q2:=k L e l' ((K.far d oD oI q).trans q)
 have n:∀{a},f9 o F a=none->L≠a:=λh e=>by rw[e,h] at q;cases q
 rw[<-q2]
 exact(ax8 ((b7 (n (j6.mpr ⟨oD,K.DF⟩))).trans ((b7 (n (j6.mpr ⟨oI,K.IF⟩))).trans (an1 (n d.2.1))))).symm
theorem CC.out (K:CC c F I C D) (d:Dj c o F) (oD:o D=none) (oI:o I=none) (h:y1 c.outer (f9 o F)):y1 c.outer (f9 o (FFo c loc F I D x acc)):=λe he=>by
 obtain⟨k,L,e',l',f,q⟩:=h e he
 exact⟨k,L,e',l',f,(K.far d oD oI q).trans q⟩
theorem CC.base (K:CC c F I C D) (d:Dj (p7 c loc scope cl C) o (FFo c loc F I D x acc)):Dj (p7 c loc scope cl C) o (ac4 c loc F):=(d.back (by rw[b7 (Ne.symm K.ID)];exact K.FD)).back K.FI
structure cF4 (c:Cx) (o F:b9) (I C D:Addr):Prop where
 dc:Dj c o F
 oD:o D=none
 oI:o I=none
 oL:o c.L=none
 oC:o C=none
theorem CC.undj (K:CC c F I C D) (d:Dj (p7 c loc scope cl C) o (FFo c loc F I D x acc)):cF4 c o F I C D:=
 have dc:=by7 K.ok K.FL (K.base d)
 ⟨dc,d.1.left ca1,d.1.left K.atI,(j6.mp dc.2.1).1,(j6.mp d.2.1).1⟩
theorem CC.redj (K:CC c F I C D) (oI:o I=none) (oD:o D=none) (d:Dj (p7 c loc scope cl C) o (ac4 c loc F)):Dj (p7 c loc scope cl C) o (FFo c loc F I D x acc):=(d.putF oI K.nI).putF oD K.nD
theorem CC.feq (K:CC c F I C D):c7 (FFo c loc F I D x acc) I (some x')=FFo c loc F I D x' acc:=(n9 _ _ _ (Ne.symm K.ID)).trans (congrArg (λz=>c7 z D (some (O.list acc))) (c5 _ _ _ _))
end
inductive CJ (c c':Cx) (own F:b9) (A:Around) (μ:Mu) (h:Heap) (b:ItB) (FF:Nat->List V->b9) (J:Nat->List V->f8->b9->Prop) (n:Nat) (s':Shared):Prop
 | mk (i:Nat) (acc:List V) (l:f8) (o:b9) (μ':Mu) (hi:i+n=b.xs.length) (hal:acc.length<=i) (j:J i acc l o) (S:St c' l o (FF i acc) A μ' s') (pre:b.PreS s'.heap μ') (P:f6 μ h μ' s'.heap) (K:FK (f9 own F) (f9 o F))
section
variable {scope:Scope} {cl:List (Str×Addr)} {F:b9} {A:Around} {μ μ':Mu} {s':Shared} {h:Heap} {b:ItB} {C D:Addr} {J:Nat->List V->f8->b9->Prop} {S5:b9->Prop} {target elt:Expr} {ifs:List Expr}
theorem bl2 (K:CC c F b.I C D) (hhA:A.handled=none) (src:Src target b) (kp:aU4 b S5) (hout:y1 c.outer (f9 own F)) (hz:b.xs.length<=sizeLine) (hJ:∀i acc l o,J i acc l o->S5 o)
  (hturn:∀i acc l o x,J i acc l o->b.xs[i]?=some x->Asg (p7 c loc scope cl C) l o target x (λl' o'=>bl0 (p7 c loc scope cl C) l' o' ifs (λt o''=>if t=true then Ev (p7 c loc scope cl C) l' o'' elt (λV o3=>J (i+1) (acc++[V]) l' o3) NoX else J (i+1) acc l' o'') NoX) NoX)
  (hi:i+n=b.xs.length) (hal:acc.length<=i) (j:J i acc l o) (S':St (p7 c loc scope cl C) l o (FFo c loc F b.I D (b.ch i) acc) A μ' s') (pre:b.PreS s'.heap μ') (P:f6 μ h μ' s'.heap) (KF:FK (f9 own F) (f9 o F)) (hst:b.St i s'.heap) (hlt:i<b.xs.length):
  wpAny (model G.prog G.w) A (pyNext (.ref b.I)) (λr s₁=>∃v,r=some v/\wpAny (model G.prog G.w) A (letOwnedTupleGo target (.ref b.I) v) (λU s₂=>wpAny (model G.prog G.w) A (assign target (compEnvC scope cl C c.env) v) (λU s₃=>
    wpAny (model G.prog G.w) A (forIn ifs true λe r=>if r=true then do let ok <-isTrue e (compEnvC scope cl C c.env) (eval e (compEnvC scope cl C c.env));Pure.pure (ForInStep.yield ok) else Pure.pure (ForInStep.yield r)) (λok s₄=>
     if ok=true then wpAny (model G.prog G.w) A (eval elt (compEnvC scope cl C c.env)) (λx s₅=>wpAny (model G.prog G.w) A (call (.builtin "list.append") [.ref D,x]) (λU s₆=>∃m,m<n/\CJ c (p7 c loc scope cl C) own F A μ h b (λi acc=>FFo c loc F b.I D (b.ch i) acc) J m s₆) (λU U=>False) s₅) (λU U=>False) s₄
     else∃m,m<n/\CJ c (p7 c loc scope cl C) own F A μ h b (λi acc=>FFo c loc F b.I D (b.ch i) acc) J m s₄) (λU U=>False) s₃) (λU U=>False) s₂) (λU U=>False) s₁) (λU U=>False) s':=by
 have Uu:=K.undj S'.dis
 refine src.item A i s' (λv s₂=>wpAny (model G.prog G.w) A (assign target (compEnvC scope cl C c.env) v) _ _ s₂) _ _ hhA hlt hst ⟨μ',pre⟩ (λv h' tk hv st' hk=>?_)
 have hch:r5 (p7 c loc scope cl C) l (f9 o (FFo c loc F b.I D (b.ch i) acc)) b.I=some (b.ch i):=by rw[k9 K.nI.1 K.nI.2,l7 Uu.oI];exact K.atI
 have it:=S'.sr.itStep (tk:=tk) hch hk st' (src.frame (i+1)) (src.there (i+1) h' st')
 rw[x8 Uu.oI K.nI,K.feq] at it
 have S'':St (p7 c loc scope cl C) l o (FFo c loc F b.I D (b.ch (i+1)) acc) A μ' {s' with heap:=h',toks:=tk}:=⟨S'.ok,S'.ar,it.1,K.out Uu.dc Uu.oD Uu.oI (hout.fk KF),K.redj Uu.oI Uu.oD (K.base S'.dis)⟩
 have pre':=kp (hJ _ _ _ _ j) S'' pre it.2
 obtain⟨x,hx,r⟩:=hv μ' pre' λa e=>by
  cases q:μ' a with
  | none=>rfl
  | some y=>obtain⟨ob,g⟩:=(S'.sr.dom a y q).2;rw[e] at g;cases g
 refine(hturn i acc l o x j hx v).runU S'' r (λU U y=>noX y) λs₃ l₃ o₃ μ₃ q₃ S₃ P₃ K₃=>?_
 refine T3.runV q₃ S₃ trivial (λU U y=>noX y) λok s₄ b' o₄ μ₄ q₄ hb S₄ P₄ K₄=>?_
 obtain rfl:b'=ok:=hb
 have U₄:=K.undj S₄.dis
 have PP:=((P.trans it.2).trans P₃).trans P₄
 have KK:=KF.trans (K.fkOut Uu.dc Uu.oD Uu.oI U₄.dc U₄.oD U₄.oI (K₃.trans K₄))
 have n1:=bv1 hi hlt
 cases b' with
 | false=>
  rw[if_neg cV7] at q₄ ⊢
  exact⟨n-1,n1.1,i+1,acc,_,o₄,μ₄,n1.2,cZ6 hal,q₄,S₄,kp (hJ _ _ _ _ q₄) S₄ pre' (P₃.trans P₄),PP,KK⟩
 | true=>
  rw[if_pos rfl] at q₄ ⊢
  refine T3.runV q₄ S₄ trivial (λU U y=>noX y) λxv s₅ V o₅ μ₅ q₅ r₅ S₅ P₅ K₅=>?_
  have U₅:=K.undj S₅.dis
  have S₆:=S₅.pull ((b7 (Ne.symm K.ID)).trans K.FD)
  refine T3.runV (aK1 (E:=NoX) (a:=D) (x:=V) (b5 _ _ _) (cV2 hal (cV2 (cY0 hlt) hz)) (Q:=λU o=>o=c7 (c7 o₅ D (some (.list acc))) D (some (.list (acc++[V])))) rfl _) S₆ (.cons (.ref D) (.cons r₅ .nil)) (λU U y=>noX y) λU s₆ U o₆ μ₆ e U S₇ P₇ K₇=>?_
  subst e
  have S₈:=S₇.give (b5 _ _ _)
  rw[c5,c5,d9 U₅.oD] at S₈
  exact⟨n-1,n1.1,i+1,acc++[V],_,o₅,μ₆,n1.2,by rw[cV4];exact cW3 hal,q₅,S₈,kp (hJ _ _ _ _ q₅) S₈ pre' (((P₃.trans P₄).trans P₅).trans P₇),(PP.trans P₅).trans P₇,KK.trans (K.fkOut U₄.dc U₄.oD U₄.oI U₅.dc U₅.oD U₅.oI K₅)⟩
theorem by8 (K:CC c F b.I C D) (ar:AR c A) (S':St (p7 c loc scope cl C) l o (FFo c loc F b.I D (b.ch i) acc) A μ' s') (hout:y1 c.outer (f9 o F)) (hk:∀a ob,a∉b.wr->s'.heap.get? a=some ob->h'.get? a=some ob):
  ∃μ₃,St c loc o (c7 F C (some (.frame (compEnvC scope cl C c.env) l))) A μ₃ {s' with heap:=h',toks:=tk}/\VR h' μ₃ (.lst acc) (.ref D)/\f6 μ' s'.heap μ₃ h':=by
 have Uu:=K.undj S'.dis
 have hch:r5 (p7 c loc scope cl C) l (f9 o (FFo c loc F b.I D (b.ch i) acc)) b.I=some (b.ch i):=by rw[k9 K.nI.1 K.nI.2,l7 Uu.oI];exact K.atI
 have I:=(S'.sr.chunk _ _ hch).2.2
 rcases(S'.sr.gone (tk:=tk) b.I λa ob e q=>hk a ob (λhw=>q b.I (ItR.ho I a hw) rfl) e) with⟨sr₂,P₂⟩
 have hDc:c7 (r5 (p7 c loc scope cl C) l (f9 o (FFo c loc F b.I D (b.ch i) acc))) b.I none D=some (.list acc):=by
  rw[b7 (Ne.symm K.ID),k9 K.nD.1 K.nD.2,l7 Uu.oD];exact ca1
 obtain⟨hmD,_,us,t,rr⟩:=sr₂.chunk D _ hDc
 rcases sr₂.drop D with⟨sr₃,P₃⟩
 have XI:r5 c loc (f9 o F) b.I=none:=by rw[k9 K.I1 K.I2,l7 Uu.oI];exact K.IF
 have XD:r5 c loc (f9 o F) D=none:=by rw[k9 K.D1 K.D2,l7 Uu.oD];exact K.DF
 rw[K.shape Uu.oL Uu.oI Uu.oD,n9 _ _ _ (Ne.symm K.ID),c5,c5,d9 (a:=b.I) (by rw[b7 K.IC];exact XI),d9 (by rw[b7 K.DC];exact XD),x8 Uu.oC ⟨K.C1,K.C2⟩] at sr₃
 refine⟨_,⟨K.ok,ar,sr₃,λe he=>?_,Uu.dc.putF Uu.oC ⟨K.C1,K.C2⟩⟩,.lst t (D4 hmD) (rr.pres P₃),P₂.trans P₃⟩
 obtain⟨k,L,e',l',f,q⟩:=hout e he
 exact⟨k,L,e',l',f,by rw[I5 Uu.oC,b7 λq'=>by rw[q',l7 Uu.oC,K.CF] at q;cases q];exact q⟩
theorem aW8 (K:CC c F b.I C D) (S:St c loc own F A μ s) (hI:own b.I=some (b.ch 0)) (hC:s.heap.objs.size<=C) (hD:s.heap.objs.size<=D) (CS:aW7 scope names (relabel scope c.env)) (hcl:cl.Pairwise λx y=>x.2≠y.2)
  (m6:∀b o,s.heap.get? b=some o->h₁.get? b=some o) (hns₁:h₁.Ns C λU=>none) (hDat:h₁.PlainList D #[]):
  ∃μ₁,St (p7 c loc scope cl C) (names.map λx=>(x,none)) (c7 own b.I none) (FFo c loc F b.I D (b.ch 0) []) A μ₁ {s with heap:=h₁,toks:=tk}/\f6 μ s.heap μ₁ h₁/\FK (f9 own F) (f9 (c7 own b.I none) F):=by
 have fC:=S.sr.far hC
 have fD:=S.sr.far hD
 have dr:Dj c (c7 own b.I none) F:=S.dis.put K.IF ⟨K.I1,K.I2⟩
 have orI:c7 own b.I none b.I=none:=b5 ..
 have orD:c7 own b.I none D=none:=(b7 (Ne.symm K.ID)).trans (j6.mp (D0 S.ok fD.1).2.2).1
 have orL:c7 own b.I none c.L=none:=(j6.mp dr.2.1).1
 have Kr:FK (f9 own F) (f9 (c7 own b.I none) F):=FK.put K.IF λe l q=>by rw[hI] at q;cases q
 have efull:r5 c loc (f9 own F)=c7 (r5 c loc (f9 (c7 own b.I none) F)) b.I (some (b.ch 0)):=by
  rw[z0 K.I1 K.I2,p0 K.IF,c5,d9 hI]
 have hCr:r5 c loc (f9 (c7 own b.I none) F) C=none:=by
  have:=fC.1
  rwa [efull,b7 (Ne.symm K.IC)] at this
 have sh:=λl=>K.shape (loc:=loc) (scope:=scope) (cl:=cl) (x:=b.ch 0) (acc:=[]) (l:=l) orL orI orD
 obtain⟨sr₁,P₁⟩:=S.sr.step (own':=r5 (p7 c loc scope cl C) (names.map λx=>(x,none)) (f9 (c7 own b.I none) (FFo c loc F b.I D (b.ch 0) []))) (μ':=c7 (c7 μ D (some D)) C (some C)) (s':={s with heap:=h₁,toks:=tk}) (λa=>a=C\/a=D) rfl rfl
  (λb o e U=>m6 b o e) (λb o e U=>by
   have lt:=Heap.lt_size e
   rw[b7 (cY4 (cX7 lt hC)),b7 (cY4 (cX7 lt hD))])
  (λa q=>by
   rw[sh,b7 (λq'=>q (.inr q')),efull]
   by_cases q':a=b.I
   ·rw[q',b5,b5]
   ·rw[b7 q',b7 q',b7 (λq'=>q (.inl q'))])
  (λa o q e=>by
   rcases q with rfl | rfl
   ·exact⟨b5 _ _ _,bd5 hns₁⟩
   ·exact⟨by rw[b7 K.DC,b5],aI8 hDat⟩)
  (λP a o q e=>by
   rw[sh] at e
   rcases q with rfl | rfl
   ·rw[b7 (Ne.symm K.DC),b7 (Ne.symm K.IC),b5] at e
    cases e
    refine⟨_,hns₁,?_,hcl,λx hx=>?_⟩
    ·rw[cW0];show(names.map _root_.id).Nodup;rw[de1];exact CS.nd
    ·rcases cV6.mp hx with⟨y,hy,rfl⟩
     exact .inl ⟨CS.mine y hy,trivial⟩
   ·rw[b5] at e
    cases e
    exact⟨#[],hDat,.nil⟩)
  (λx a e q=>by
   by_cases h:x=C
   ·rw[h,b5] at e;cases e
    exact⟨⟨_,by rw[sh,b7 (Ne.symm K.DC),b7 (Ne.symm K.IC)];exact b5 _ _ _⟩,h▸bd5 hns₁⟩
   ·rw[b7 h] at e
    by_cases h2:x=D
    ·rw[h2,b5] at e;cases e
     exact⟨⟨_,by rw[sh];exact b5 _ _ _⟩,h2▸aI8 hDat⟩
    ·rw[b7 h2] at e
     have:=(S.sr.dom _ _ e).1
     rcases q with rfl | rfl
     ·rw[fC.1] at this;exact absurd this.choose_spec nofun
     ·rw[fD.1] at this;exact absurd this.choose_spec nofun)
  (λx a e q=>by
   by_cases h:x=C
   ·rw[h,b5] at e;cases e;exact absurd (.inl rfl) q
   ·rw[b7 h] at e
    by_cases h2:x=D
    ·rw[h2,b5] at e;cases e;exact absurd (.inr rfl) q
    ·rw[b7 h2] at e;exact e)
 exact⟨_,⟨cg8 S.ok CS.kind (K.ok.nfL K.C1 K.C2),cg9 S.ar,sr₁,K.out dr orD orI (S.out.fk Kr),K.redj orI orD (cg7 S.ok dr hCr)⟩,P₁,Kr⟩
end
theorem bl3 {elt target iter:Expr} {ifs:List Expr} {scope:Scope} {pos:Pos} {names:List Str} {use:Option (Value->Sem Unit)} {Qv EE:Value->Shared->Prop} {cl:List (Str×Addr)} {F:b9} {A:Around} {μ:Mu} {s:Shared} {b:ItB}
  (hh:c.hd=none) (S:St c loc own F A μ s) (hI:own b.I=some (b.ch 0)) (src:Src target b) {S5:b9->Prop} (kp:aU4 b S5) (hpre:b.PreS s.heap μ) (CS:aW7 scope names (relabel scope c.env)) (hcl:cl.Pairwise λx y=>x.2≠y.2) (hcap:∀C,c.comp=false->∀x,(x,NameKind.free)∈scope.names->Cap (p7 c loc scope cl C) x)
  (hz:b.xs.length<=sizeLine) (J:Nat->List V->f8->b9->Prop) (hJ:∀i acc l o,J i acc l o->S5 o) (j0:J 0 [] (names.map λx=>(x,none)) (c7 own b.I none))
  (hturn:∀c',be9 c loc scope c'->∀i acc l o x,J i acc l o->b.xs[i]?=some x->Asg c' l o target x (λl' o'=>bl0 c' l' o' ifs (λt o''=>if t=true then Ev c' l' o'' elt (λV o3=>J (i+1) (acc++[V]) l' o3) NoX else J (i+1) acc l' o'') NoX) NoX)
  (fin:∀acc l o μ' s' C D,J b.xs.length acc l o->acc.length<=b.xs.length->St c loc o (c7 F C (some (.frame (compEnvC scope cl C c.env) l))) A μ' s'->F C=none->VR s'.heap μ' (.lst acc) (.ref D)->f6 μ s.heap μ' s'.heap->FK (f9 own F) (f9 o F)->
   compPost (model G.prog G.w) A EE use Qv (.ref D) C (.ok .next) s'):
  wpAny (model G.prog G.w) A (newList []) (λacc s₃=>wpAny (model G.prog G.w) A (newFunctionEnv scope c.env.globals cl [] c.env.qual none .none (some c.env)) (λcenv s₄=>
   codeAny (model G.prog G.w) A (.compStart (.ListComp elt [⟨target,iter,ifs,0⟩] scope pos) 0 (.ref b.I) acc {cenv with scope:=relabel scope c.env}) (compPost (model G.prog G.w) A EE use Qv acc cenv.locals) s₄) EE s₃) EE s:=by
 refine wpAny_newObj_type (wpAny_newFunctionEnv CS.cell (by intro y hy;simp at hy) (λh₁ hns₁ hsb₁=>?_) CS.kind)
 have hC:s.heap.objs.size<=(s.heap.push {cls:=.type "list",data:=.seq ([]:List Value).toArray}).objs.size:=by rw[Heap.size_push];exact db7 _
 have hDC:s.heap.objs.size≠(s.heap.push {cls:=.type "list",data:=.seq ([]:List Value).toArray}).objs.size:=by rw[Heap.size_push];exact cY4 (db4 _)
 have m6:∀b o,s.heap.get? b=some o->h₁.get? b=some o:=λb o e=>hsb₁.extBut b o (cY4 (cX7 (Heap.lt_size e) hC)) (Heap.get?_push_of_some _ (Heap.get?_push_of_some _ e))
 have hDat:h₁.PlainList s.heap.objs.size #[]:=⟨_,hsb₁.extBut _ _ hDC (Heap.get?_push_of_some _ (Heap.get?_push_size _ rfl))⟩
 have fC:=D0 S.ok (S.sr.far hC).1
 have fD:=D0 S.ok S.sr.fresh.1
 have hIlt:b.I<s.heap.objs.size:=Heap.lt_size (S.chunk hI).2.1.choose_spec
 have nI:=S.dis.ne (o9 (F:=F) hI)
 have K:CC c F b.I (s.heap.push {cls:=.type "list",data:=.seq ([]:List Value).toArray}).objs.size s.heap.objs.size:=⟨S.ok,fC.1,fC.2.1,fD.1,fD.2.1,nI.1,nI.2,(j6.mp fC.2.2).2,(j6.mp fD.2.2).2,S.dis.1.right hI,(j6.mp S.dis.2.1).2,hDC,cY4 (cX7 hIlt hC),cY4 hIlt⟩
 obtain⟨μ₁,St₁,P₁,Kr⟩:=aW8 (loc:=loc) (h₁:=h₁) (tk:=s.toks+([]:List (Str×Value)).length) K S hI hC (cX5 _) CS hcl m6 hns₁ hDat
 have hhA:A.handled=none:=S.ar.handled.trans hh
 have sub':be9 c loc scope (p7 c loc scope cl (s.heap.push {cls:=.type "list",data:=.seq ([]:List Value).toArray}).objs.size):=⟨rfl,rfl,rfl,rfl,rfl,hcap _⟩
 have U₀:=K.undj St₁.dis
 have at_:∀{l o i acc μ' s'},o b.I=none->St (p7 c loc scope cl (s.heap.push {cls:=.type "list",data:=.seq ([]:List Value).toArray}).objs.size) l o (FFo c loc F b.I _ (b.ch i) acc) A μ' s'->b.St i s'.heap:=λ{l o i acc μ' s'} oI S'=>ItR.st (S'.sr.chunk b.I (b.ch i) (by rw[k9 K.nI.1 K.nI.2,l7 oI];exact K.atI)).2.2
 have loop:=bl1 (it:=.ref b.I) (acc:=.ref s.heap.objs.size) (scope:=scope) (pos:=pos) (iter:=iter) (R:=compPost (model G.prog G.w) A EE use Qv (.ref s.heap.objs.size) _) (CJ c (p7 c loc scope cl (s.heap.push {cls:=.type "list",data:=.seq ([]:List Value).toArray}).objs.size) own F A μ s.heap b (λi acc=>FFo c loc F b.I s.heap.objs.size (b.ch i) acc) J) (λn s' hJn=>by
  obtain⟨i,acc,l,o,μ',hi,hal,j,S',pre,P,KF⟩:=hJn
  have Uu:=K.undj S'.dis
  by_cases hlt:i<b.xs.length
  ·exact .inr (bl2 K hhA src kp S.out hz hJ (hturn _ sub') hi hal j S' pre P KF (at_ Uu.oI S') hlt)
  ·obtain rfl:i=b.xs.length:=bv2 hi hlt
   refine .inl (src.done A s' _ _ hhA (at_ Uu.oI S') ⟨μ',pre⟩ λh' tk hk=>⟨rfl,?_⟩)
   obtain⟨μ₃,S₃,r,P₃⟩:=by8 (tk:=tk) K S.ar S' (S.out.fk KF) hk
   exact fin acc l o _ _ _ _ j hal S₃ K.CF r (P.trans P₃) KF) b.xs.length (s:={s with heap:=h₁,toks:=s.toks+([]:List (Str×Value)).length}) ⟨0,[],_,_,_,db2 _,cX5 _,j0,St₁,kp (hJ _ _ _ _ j0) St₁ hpre P₁,P₁,Kr⟩
 exact codeAny_compStart_list loop (src.again A 0 _ _ _ hhA (at_ U₀.oI St₁) loop)
end
section
variable {c:Cx} {loc:f8} {own:b9} {E:XP}
theorem Y0 {env:Env} {sc:Scope} (h:env.scope=sc) (scope:Scope):relabel scope env=relabel scope (H0 sc):=by
 subst h;unfold relabel Env.kindOf H0;rfl
theorem av5 {α:Type} {l:List (Str×α)} {x:Str} {y:α} (nd:(l.map (·.1)).Nodup) (h:(x,y)∈l):l.lookup x=some y:=by
 induction l with
 | nil=>cases h
 | cons p l ih=>
  rw[cX3,cY9] at nd
  rcases cW1.mp h with rfl | e
  ·exact List.lookup_cons_self
  ·rw[df4,beq_false_of_ne λq:x=p.1=>nd.1 (q▸cW4 (f:=(·.1)) e)]
   exact ih nd.2 e
theorem X2 {env:Env} {names:List (Str×NameKind)} {x:Str} (h1:env.scope.kind=.function) (h2:env.kindOf x=some .cell):names.lookup x=some .free->
  (names.map λ(n,k)=>if(k == NameKind.free&&env.scope.kind == .function&&env.kindOf n == some .cell) then(n,NameKind.cell) else(n,k)).lookup x=some .cell:=by
 induction names with
 | nil=>intro h;cases h
 | cons p r ih=>
  intro h
  rcases p with⟨n,k⟩
  show List.lookup x ((if(k == NameKind.free&&env.scope.kind == .function&&env.kindOf n == some .cell)=true then(n,NameKind.cell) else(n,k))::_)=_
  rw[df4] at h
  by_cases hx:x=n
  ·subst hx
   rw[beq_self_eq_true] at h
   cases h
   rw[h1,h2];exact List.lookup_cons_self
  ·rw[beq_false_of_ne hx] at h
   rw[df4,show(if(k == NameKind.free&&env.scope.kind == .function&&env.kindOf n == some .cell)=true then(n,NameKind.cell) else(n,k)).1=n by split<;>rfl,beq_false_of_ne hx]
   exact ih h
noncomputable def cOk (scope:Scope) (names:List Str) (fsc:Scope):Bool:=
 decide names.Nodup&&(decide (scope.names.map (·.1)).Nodup&&(scope.kind == .function&&(scope.names.all (λy=>y.2 != .cell&&(y.2 != .local || scope.names.lookup y.1 == some .local)&&(y.2 != .free || fsc.names.lookup y.1 == some .cell))&&
  names.all λx=>(relabel scope (H0 fsc)).names.lookup x == some .local)))
theorem bl4 (hsc:c.env.scope=fsc) (h:cOk scope names fsc=true):
  aW7 scope names (relabel scope c.env)/\(scope.names.map (·.1)).Nodup/\∀x,(x,NameKind.free)∈scope.names->c.env.kindOf x=some .cell:=by
 unfold cOk at h
 simp only[cY6,decide_eq_true_eq,cX0] at h
 obtain⟨h1,h2,h3,h4,h5⟩:=h
 refine⟨⟨λy hy q=>?_,by simpa using h3,λx hx q=>?_,h1,λx hx=>?_⟩,h2,λx hx=>?_⟩
 ·have:=(h4 y hy).1.1;rw[q] at this;simp at this
 ·have:=(h4 x hx).1.2;rw[q] at this;simpa using this
 ·rw[Y0 hsc];simpa using h5 x hx
 ·have:=(h4 _ hx).2
  simp at this
  unfold Env.kindOf;rw[hsc];exact this
theorem bl5 {scope:Scope} {A:Around} {F:b9} {μ:Mu} {s:Shared} (S:St c loc own F A μ s) (hnd:(scope.names.map (·.1)).Nodup) (hk:∀x,(x,NameKind.free)∈scope.names->c.env.kindOf x=some .cell)
  (hfree:∀x,(x,NameKind.free)∈scope.names->c.comp=false/\x∈loc.map (·.1)):
  ∃cl,closureFor scope c.env=pure cl/\(cl.Pairwise λx y=>x.2≠y.2)/\∀C,c.comp=false->∀x,(x,NameKind.free)∈scope.names->Cap (p7 c loc scope cl C) x:=by
 obtain⟨_,_,m,hn,nd,pw,hl⟩:=S.sr.chunk c.L _ (P3 c loc (f9 own F))
 have cells:∀x,(x,NameKind.free)∈scope.names->∃a,c.env.cells.lookup x=some a:=λx hx=>by
  obtain⟨p,hp,e⟩:=cV6.mp (hfree x hx).2
  rcases p with⟨x',ov⟩
  cases e
  rcases hl _ hp with⟨k,_⟩ | ⟨k,a,cv,h1,_⟩
  ·have h:=hk x' hx;have k:c.env.kindOf x'=some .local:=k;rw[h] at k;cases k
  ·exact⟨a,h1⟩
 obtain⟨cl,h1,h2,h3⟩:=aW6 hnd pw λx hx=>by
  rcases cells x hx with⟨a,ha⟩
  exact⟨a,by unfold cellOf;rw[ha],ha⟩
 refine⟨cl,h1,h3,λC hc x hx=>?_⟩
 rcases cells x hx with⟨a,ha⟩
 rcases S.ok.same hc with⟨e1,e2⟩
 refine⟨rfl,?_,?_,a,?_,?_⟩
 ·exact X2 S.ok.kind (hk x hx) (av5 hnd hx)
 ·show c.fenv.kindOf x=_;rw[e1];exact hk x hx
 ·show c.fenv.cells.lookup x=_;rw[e1];exact ha
 ·show cl.lookup x=_;rw[h2 x hx];exact ha
theorem ax9 (S:St c loc own (c7 F C (some (.frame e l))) A μ s) (hF:F C=none):
  ∃m,s.heap.Ns C m/\∀h',Heap.SameBut C s.heap h'->∃μ',SR (r5 c loc (f9 own F)) μ' {s with heap:=h'}/\f6 μ s.heap μ' h'/\Dj c own F:=by
 have oC:own C=none:=S.dis.1.left (b5 _ _ _)
 have nC:=S.dis.ne (a:=C) (x:=.frame e l) (by rw[l7 oC];exact b5 _ _ _)
 have hch:r5 c loc (f9 own (c7 F C (some (.frame e l)))) C=some (.frame e l):=by rw[k9 nC.1 nC.2,l7 oC];exact b5 _ _ _
 obtain⟨hm,_,m,hn,_⟩:=S.sr.chunk _ _ hch
 refine⟨m,hn,λh' hs=>?_⟩
 rcases(S.sr.gone (h':=h') (tk:=s.toks) C λb ob g q=>(hs.2 b λe=>q C (e▸hm) rfl).trans g) with⟨sr,P⟩
 rw[x8 oC nC,c5,d9 hF] at sr
 exact⟨_,sr,P,S.dis.back hF⟩
section
variable {elt target iter:Expr} {ifs:List Expr} {scope:Scope} {pos:Pos} {names:List Str} {fsc:Scope}
inductive ct9 (c:Cx) (loc:f8) (scope:Scope) (names:List Str) (target elt:Expr) (ifs:List Expr) (Q:V->b9->Prop) (E:XP) (V:V) (o:b9):Prop
 | mk (xs:List Mine.V) (ownr:b9) (S5:b9->Prop) (it:ax3 c loc o target V xs ownr S5 E) (le:xs.length<=sizeLine) (J:Nat->List Mine.V->f8->b9->Prop) (hJ:∀i acc l o,J i acc l o->S5 o) (j0:J 0 [] (names.map λx=>(x,none)) ownr)
  (turn:∀c',be9 c loc scope c'->∀i acc l o x,J i acc l o->xs[i]?=some x->Asg c' l o target x (λl' o'=>bl0 c' l' o' ifs (λt o''=>if t=true then Ev c' l' o'' elt (λV o3=>J (i+1) (acc++[V]) l' o3) NoX else J (i+1) acc l' o'') NoX) NoX)
  (fin:∀acc l o,J xs.length acc l o->acc.length<=xs.length->Q (.lst acc) o)
abbrev bf0 (c:Cx) (loc:f8) (scope:Scope) (names:List Str) (target elt:Expr) (ifs:List Expr) (iter:Expr) (own:b9) (Q:V->b9->Prop) (E:XP):Prop:=
 Ev c loc own iter (ct9 c loc scope names target elt ifs Q E) E
theorem aL1 (hh:c.hd=none) (hsc:c.env.scope=fsc) (hok:cOk scope names fsc=true) (hfree:∀x,(x,NameKind.free)∈scope.names->c.comp=false/\x∈loc.map (·.1))
  (h:bf0 c loc scope names target elt ifs iter own Q E) (hs:∀x,foldedSetIterable iter c.env x=pure x) (S:St c loc own F A μ s)
  (fin:∀acc l o μ' s' C D cl,Q (.lst acc) o->St c loc o (c7 F C (some (.frame (compEnvC scope cl C c.env) l))) A μ' s'->F C=none->VR s'.heap μ' (.lst acc) (.ref D)->f6 μ s.heap μ' s'.heap->FK (f9 own F) (f9 o F)->
   compPost (model G.prog G.w) A (t8 c own F μ s.heap E) use Qv (.ref D) C (.ok .next) s'):
  wpAny (model G.prog G.w) A (comprehension (.ListComp elt [⟨target,iter,ifs,0⟩] scope pos) scope c.env cp (newList []) false (eval iter c.env) use) Qv (t8 c own F μ s.heap E) s:=by
 obtain⟨CS,hnd,hk⟩:=bl4 hsc hok
 obtain⟨cl,hclos,hpw,hcap⟩:=bl5 S hnd hk hfree
 refine wpAny_comprehension_free rfl hs hclos CS.kind CS.loc (h.runV S trivial (λU U y=>y) λx s₁ V o₁ μ₁ q r₁ S₁ P₁ K₁=>?_)
 obtain⟨xs,ownr,S5,hit,hz,J,hJ,j0,hturn,hQ⟩:=q
 refine(hit x).runV S₁ r₁ (λU U y=>y.lift P₁ K₁) λit s₂ b o₂ μ₂ q r S₂ P₂ K₂=>?_
 obtain⟨rfl,hI,rfl,src,kp⟩:=q
 rcases r with⟨rfl,hpre⟩
 exact bl3 hh S₂ hI src kp hpre CS hpw hcap hz J hJ j0 hturn λacc l o μ' s' C D j hal S' CF r P K=>fin acc l o μ' s' C D cl (hQ acc l o j hal) S' CF r ((P₁.trans P₂).trans P) ((K₁.trans K₂).trans K)
theorem aL2 (hh:c.hd=none) (hsc:c.env.scope=fsc) (hok:cOk scope names fsc=true) (hfree:∀x,(x,NameKind.free)∈scope.names->c.comp=false/\x∈loc.map (·.1))
  (h:bf0 c loc scope names target elt ifs iter own Q E) (hs:∀x,foldedSetIterable iter c.env x=pure x):Ev c loc own (.ListComp elt [⟨target,iter,ifs,0⟩] scope pos) Q E:=λF A μ s S p=>by
 rw[eval_ListComp]
 refine aL1 (use:=none) hh hsc hok hfree h hs S λacc l o μ' s' C D cl q S' CF r P K=>?_
 obtain⟨m,hn,go⟩:=ax9 S' CF
 refine⟨m,hn,λh' hs'=>?_⟩
 obtain⟨μ'',sr,P',d⟩:=go h' hs'
 exact⟨.lst acc,_,o,μ'',⟨rfl,q⟩,d,r.pres P',sr,P.trans P',K⟩
theorem av6 (hh:c.hd=none) (hsc:c.env.scope=fsc) (hok:cOk scope names fsc=true) (hfree:∀x,(x,NameKind.free)∈scope.names->c.comp=false/\x∈loc.map (·.1))
  (h:bf0 c loc scope names target elt ifs iter own (λV o=>∃loc',N0 y (some V) loc loc'/\Q .next loc' o) E)
  (hsw:swapsWith (.ListComp elt [⟨target,iter,ifs,0⟩] scope pos) (some (.Name y py)) spos.line c.env=pure true) (hs:∀x,foldedSetIterable iter c.env x=pure x):
  Ex c loc own (.Assign [.Name y py] (.ListComp elt [⟨target,iter,ifs,0⟩] scope pos) spos) Q E:=λF A μ s S p=>by
 rw[exec_Assign_Name_used _ _ _ _ hsw]
 refine wpAny_bind (wpAny_standAt (wpAny_bind (wpAny_bind (wpAny_mono (aL1 (use:=some (assign (.Name y py) c.env)) (Qv:=λU s'=>i7 (FlR) c own F μ s.heap Q .next s') hh hsc hok hfree h hs S λacc l o μ' s' C D cl q S' CF r P K=>?_) (λU U hq=>wpAny_pure (wpAny_pure hq)) λU U e=>e))))
 obtain⟨loc',u,q⟩:=q
 refine(aJ3 (c:=c) (E:=NoX) (pos:=py) (V:=.lst acc) (Q:=λl o'=>l=loc'/\o'=o) u ⟨rfl,rfl⟩ (.ref D)).runU S' r (λU U y=>(noX y).elim) λs'' l₃ o₃ μ₃ q₃ S₃ P₃ K₃=>?_
 rcases q₃ with⟨rfl,rfl⟩
 obtain⟨m,hn,go⟩:=ax9 S₃ CF
 refine⟨m,hn,λh' hs'=>?_⟩
 obtain⟨μ'',sr,P',d⟩:=go h' hs'
 exact⟨.next,_,_,μ'',q,d,.next,sr,(P.trans P₃).trans P',K⟩
end
end
section
variable {c:Cx} {loc:f8} {own:b9} {E:XP} {K:Frag}
theorem ay0 {h:Heap} {d:Addr} {m:Str->Option Value} (hn:h.Ns d m):∃o,h.get? d=some o/\∀name,lookIn name o=some (m name):=by
 obtain⟨o,es,ep,e,hd,sk,f⟩:=hn
 refine⟨o,e,λname=>?_⟩
 have f:=f name
 unfold nsFind findBy at f
 unfold lookIn
 rw[hd]
 dsimp only
 rw[Array.find?_toList]
 cases q:es.find? λe=>e.key.isStr name with
 | some en=>rw[q] at f;rw[<-f];rfl
 | none=>
  rw[q] at f
  have:es.toList.any (·.refKey)=false:=by
   rw[dm7]
   intro en hen
   obtain⟨n,t,k⟩:=sk en (by simpa using hen)
   unfold DictEntry.refKey
   rw[k];simp
  rw[this,<-f];rfl
inductive cu0 (h:Heap) (μ:Mu) (a C:Addr) (fs:List (Str×V)):Prop
 | mk (ox od:Obj) (d:Addr) (m:Str->Option Value) (I:InstAt h a ox C (some od)) (hd:ox.dict=some d) (hod:h.get? d=some od) (hne:d≠a) (hm:μ d=some a) (hn:h.Ns1 d m) (hl:∀n,lookIn n od=some (m n)) (nd:(fs.map (·.1)).Nodup)
  (hr:∀x∈fs,P0 h μ (some x.2) (m x.1)) (hz:∀n,n∉fs.map (·.1)->m n=none) (hpl:ox.data=.plain)
theorem aD4 {A:Around} {F:b9} {μ:Mu} {s:Shared} {a C:Addr} {fs:List (Str×V)} (S:St c loc own F A μ s) (ha:own a=some (.inst C fs)):cu0 s.heap μ a C fs:=by
 obtain⟨o,d,m,e,hc,hd,hp,hne,hm,hn,nd,hf,hz⟩:=(S.chunk ha).2.2
 obtain⟨od,hod,hl⟩:=ay0 hn.ns
 exact⟨o,od,d,m,⟨e,hc,by unfold notCls;rw[hp],by rw[hd];exact hod⟩,hd,hod,hne,hm,hn,hl,nd,hf,hz,hp⟩
theorem by9 {h:Heap} {μ:Mu} {v:Value} {V:V} (r:VR h μ V v) (hn:nOk V=true):handedIn v=true:=by
 cases V with
 | none=>cases r;rfl
 | bool _=>cases r;rfl
 | ref _=>cases r;rfl
 | int _=>obtain⟨_,rfl⟩:=r;rfl
 | str _=>obtain⟨_,rfl⟩:=r;rfl
 | bytes _=>obtain⟨_,rfl⟩:=r;rfl
 | tup _=>obtain⟨_,_,rfl,_⟩:=r;rfl
 | lst _=>obtain⟨_,_,rfl,_⟩:=r;rfl
 | dct _=>obtain⟨_,_,rfl,_⟩:=r;rfl
 | val _=>cases hn
theorem bP6 {o:Expr} {name:Str} {pos:Pos} {Q:V->b9->Prop} (X:K.In G.base)
  (h:Ev c loc own o (λV o₁=>∃a C fs x,V=.ref a/\o₁ a=some (.inst C fs)/\aw9 K C/\findIn K (.ref C) name=some none/\(name,x)∈fs/\nOk x=true/\Q x o₁) E)
  (he:eval (.Attribute o name pos) c.env=(do
   let v <-eval o c.env
   standAt pos.atName
   let r <-holding [v] (getAttr v name true)
   letTemporaryGo o v r
   Pure.pure r):=by with_unfolding_all rfl):Ev c loc own (.Attribute o name pos) Q E:=by
 intro F A μ s S p
 refine Attribute_any_ (h.runV S p (λU U y=>y) λv s₁ V o₁ μ₁ q r S₁ P K=>?_) he
 obtain⟨a,C,fs,x,rfl,ha,CO,hf,hx,hn,hq⟩:=q
 cases r
 obtain⟨ox,od,d,m,I,_,_,_,_,_,hl,_,hr,_,_⟩:=aD4 S₁ ha
 obtain⟨v,hv,rv⟩:=hr _ hx
 obtain⟨cd,hcd,hh⟩:=CO.dict
 refine get_value (v:=v) (X.keeps S₁.sr.base) I CO.ga ?_ (by9 rv hn) ((leaf (s':={s₁ with toks:=s₁.toks+1}) S₁ hq rfl rfl rfl rv).lift P K)
 unfold findObj
 rw[hcd,hf]
 have:W.ownOf cd (some od) name=some (some v):=by unfold W.ownOf;rw[if_pos hh];show lookIn name od=_;rw[hl];exact congrArg some hv
 simp only[dc5,this]
theorem bf1 (fs:List (Str×V)) (name:Str) (x:V):(put fs name x).map (·.1)=if fs.any (λkv=>kv.1=name) then fs.map (·.1) else fs.map (·.1)++[name]:=by
 unfold put
 split
 ·rw[cW0]
  congr 1;funext kv;show(if kv.1=name then(kv.1,x) else kv).1=kv.1;split<;>rfl
 ·rw[cV5];rfl
theorem aD5 {fs:List (Str×V)} {name:Str}:(fs.any λkv=>kv.1=name)=true<->name∈fs.map (·.1):=by
 rw[dj9,cV6]
 exact⟨λh=>h.imp λU h=>⟨h.1,of_decide_eq_true h.2⟩,λh=>h.imp λU h=>⟨h.1,decide_eq_true h.2⟩⟩
theorem bf2 {fs:List (Str×V)} {name y:Str} {x:V} (h:y∈fs.map (·.1)\/y=name):y∈(put fs name x).map (·.1):=by
 rw[bf1]
 split
 ·rename_i q;exact h.elim id λe=>e▸aD5.mp q
 ·exact cW9.mpr (h.imp id cV8.mpr)
theorem bl6 {fs:List (Str×V)} {name:Str} {x:V} (nd:(fs.map (·.1)).Nodup):((put fs name x).map (·.1)).Nodup:=by
 rw[bf1]
 split
 ·exact nd
 ·rename_i q
  exact da2.mpr ⟨nd,by simp,λy hy z hz e=>q (aD5.mpr (cV8.mp hz▸e▸hy))⟩
theorem bz0 {fs:List (Str×V)} {name:Str} {x:V}:∀y∈put fs name x,y=(name,x)\/(y∈fs/\y.1≠name):=λy hy=>by
 unfold put at hy
 split at hy
 ·obtain⟨kv,h1,h2⟩:=cV6.mp hy
  split at h2
  ·rename_i e;exact .inl (h2▸e▸rfl)
  ·rename_i e;exact .inr (h2▸⟨h1,e⟩)
 ·rename_i q
  exact(cW9.mp hy).elim (λh1=>.inr ⟨h1,λe=>q (aD5.mpr (e▸cW4 (f:=(·.1)) h1))⟩) λh1=>.inl (cV8.mp h1)
theorem ai9.store {h h':Heap} {μ:Mu} {a d C:Addr} {o:Obj} {fs:List (Str×V)} {m:Str->Option Value} {name:Str} {x:V} {v:Value} (P:f6 μ h μ h') (e:h'.get? a=some o) (hc:o.cls=.ref C) (hd:o.dict=some d) (hp:o.data=.plain) (hne:d≠a) (hm:μ d=some a) (hn:h'.Ns1 d (λn=>if n=name then some v else m n))
  (nd:(fs.map (·.1)).Nodup) (hr:∀x∈fs,P0 h μ (some x.2) (m x.1)) (hz:∀n,n∉fs.map (·.1)->m n=none) (r:VR h μ x v):ai9 h' μ a C (put fs name x):=by
 refine⟨o,d,_,e,hc,hd,hp,hne,hm,hn,bl6 nd,λy hy=>?_,λn hn0=>?_⟩
 ·rcases bz0 y hy with e | ⟨e,ne⟩
  ·subst e;exact⟨v,if_pos rfl,r.pres P⟩
  ·rw[if_neg ne];exact(hr y e).pres P
 ·rw[if_neg λe=>hn0 (bf2 (.inr e))]
  exact hz n λe=>hn0 (bf2 (.inl e))
theorem T3.setField_ {Q:Unit->f8->b9->Prop} (X:K.In G.base) (ha:own a=some (.inst C fs)) (CO:aw9 K C) (hf:findIn K (.ref C) name=some none)
  (hfs:fs'=put fs name x) (hsz:(name::fs.map (·.1)).length<=sizeLine) (hQ:Q () loc (c7 own a (some (.inst C fs')))):T3 (λh μ=>VR h μ x v) D6 c loc own (setAttr (.ref a) name v) Q E:=by
 intro F A μ s S r
 obtain⟨ox,od,d,m,I,hd,hod,hne,hm,hn,hl,nd,hr,hz,hpl⟩:=aD4 S ha
 obtain⟨cd,hcd,hh⟩:=CO.dict
 have XK:=X.keeps S.sr.base
 refine set_plain XK I CO.sa ?_
 refine osa_open (s:={s with toks:=s.toks+1}) (r:=none) XK I CO.over (by unfold takerIn;rw[hf];rfl) λb=>?_
 obtain⟨hx,hcl,hnc,-⟩:=I
 obtain⟨oc,odi,oda,osl⟩:=ox
 dsimp only at hcl hd hpl
 subst hcl hd
 refine wpAny_bind (wpAny_pure (wpAny_bind (wpAny_bind (wpAny_loadPart (s:={s with toks:=s.toks+1}) hx (wpAny_bind (Looks.here (s:={s with toks:=s.toks+1}) (looks_clsIn XK hcd) ?_))))))
 rw[hh]
 refine wpAny_pure (a:=some d) ?_
 show wpAny _ _ (ObjectAttr.storeInDict d (.str name _) name v) _ _ _
 unfold ObjectAttr.storeInDict ObjectAttr.newKeyGuard
 refine wpAny_bind (wpAny_pure (wpAny_bind (wpAny_nsSet1 (s:={s with toks:=s.toks+1}) hn λh' hn' hs=>?_)))
 have hw:Within m (fs.map (·.1)):=λy hy=>by
  by_cases q:y∈fs.map (·.1)
  ·exact q
  ·exact absurd (hz y q) hy
 obtain⟨oD,esD,epD,hoD,hdD,hcD⟩:=hn'.count (Within.cons name v hw)
 refine wpAny_bind (wpAny_lookBehind hoD (by rw[hdD];exact pastItsLine_dict (cZ6 (cV2 hcD hsz))) ?_)
 have post:=Z2 (Q:=λV o=>Q () loc o) (V:=.none) (v:=.none) (o':=.inst C fs') (tk:=s.toks+1+1) S ha (λU U=>nofun) hm hs (hn'.elim λU h=>h.elim λU h=>h.elim λU h=>⟨_,h.1⟩) (λP=>hfs▸ai9.store P ((hs.2 a (Ne.symm hne)).trans hx) rfl rfl hpl hne hm hn' nd hr hz r) hQ (λU=>.none)
 exact wpAny_pure (post.change λU U U q U U U=>⟨(),q.1▸q.2,rfl⟩)
end
section
variable {c:Cx} {loc:f8} {own:b9} {E:XP} {K:Frag}
theorem bz1 {V:V} (X:K.In G.base)
  (h:Ev c loc own o (λV₁ o₁=>∃a C fs,V₁=.ref a/\o₁ a=some (.inst C fs)/\aw9 K C/\findIn K (.ref C) name=some none/\(name::fs.map (·.1)).length<=sizeLine/\Q loc (c7 o₁ a (some (.inst C (put fs name V))))) E):
  Asg c loc own (.Attribute o name pos) V Q E:=by
 intro v
 rw[assign_Attribute]
 refine Ev.bindP E0 (h.mono (λU U x=>x) (λV₁ l o q=>⟨q.1,λov=>?_⟩) λU U U U x=>x)
 obtain⟨-,a,C,fs,rfl,ha,CO,hf,hz,q⟩:=q
 intro F A μ s S p
 cases (show ov=.ref a from p.2)
 exact T3.standAt (T3.bind E0 (T3.holding (β:=Unit) (Rel:=D6) (T3.setField_ (fs':=put fs name V) X ha CO hf rfl hz λu=>T3.release (b:=()) (λU U U=>rfl) q))) F A μ s S p.1
theorem ag5
  (hbase:attributeBase o name env (eval o env)=eval o env)
  (hfew:((backTo pos (starEach args env)).all (λx=>!x.1)&&(backToKw pos (keywordEach [] env)).all (λx=>x.1.isSome)
   && decide (args.length+([]:List Keyword).length+(if([]:List Keyword).isEmpty then 0 else 1)<30))=true)
  (hline:(apos.endLine == pos.line)=true)
  (h:wpAny (model prog w) A (eval o env) (λov s₁=>∃f,(∀(pl:Sem Bool) (Q':Value×List Value->Shared->Prop),Q' (f,[ov]) s₁->wpAny (model prog w) A (getMethod ov name pl) Q' EE s₁)/\
   wpAny (model prog w) A (callWith pos f [ov] (backTo pos (starEach args env)) []) Q EE s₁) EE s):
  wpAny (model prog w) A (eval (.Call (.Attribute o name apos) args [] pos) env) Q EE s:=by
 rw[arm_eval_Call,hbase]
 refine wpAny_bind (wpAny_mono h (λov s₁ h₁=>?_) λU U e=>e)
 obtain⟨f,hd,hc⟩:=h₁
 refine wpAny_bind (wpAny_standAt ?_)
 have hform:methodCallForm (args.length+([]:List Keyword).length) (backTo pos (starEach args env)) (backToKw pos (keywordEach [] env))=true:=hfew
 have hpos:methodCallPos true o env apos pos=pure pos:=by unfold methodCallPos;simp [hline]
 unfold methodCall
 rw[hform]
 unfold calleeOf
 simp only[if_true]
 refine wpAny_bind (wpAny_holding (hd _ _ ?_))
 exact wpAny_bind (wpAny_of_eq hpos hc)
theorem bz3 (X:K.In G.base)
  (h:Ev c loc own o (λV o₁=>∃a C fs f,V=.ref a/\o₁ a=some (.inst C fs)/\aw9 K C/\findIn K (.ref C) name=some (some (.ref f))/\typeIn K (.ref f)=some (.type "function")/\cf4 f/\name∉fs.map (·.1)/\
   Evs c loc o₁ pos args (λVs o₂=>u4 c loc o₂ (.ref f) (.ref a::Vs) Q E) E) E) (hp:A0 args c.env)
  (hbase:attributeBase o name c.env (eval o c.env)=eval o c.env:=by rfl)
  (hfew:((backTo pos (starEach args c.env)).all (λx=>!x.1)&&(backToKw pos (keywordEach [] c.env)).all (λx=>x.1.isSome)&&decide (args.length+([]:List Keyword).length+(if([]:List Keyword).isEmpty then 0 else 1)<30))=true:=by rfl)
  (hline:(apos.endLine == pos.line)=true:=by rfl):Ev c loc own (.Call (.Attribute o name apos) args [] pos) Q E:=by
 intro F A μ s S p
 refine ag5 hbase hfew hline (h.runV S p (λU U y=>y) λv s₁ V o₁ m q r S₁ P K=>?_)
 obtain⟨a,C,fs,f,rfl,ha,CO,hf,ht,⟨ob,fd,g,hd⟩,hn,q⟩:=q
 cases r
 obtain⟨ox,od,d,mm,I,_,_,_,_,_,hl,_,_,hz,_⟩:=aD4 S₁ ha
 refine⟨.ref f,λpl Q' hQ'=>method_fn (X.keeps S₁.sr.base) I CO.ga CO.gh hf ht ?_ hQ',?_⟩
 ·unfold shadowIn;show(lookIn name od).map _=_;rw[hl,hz _ hn];rfl
 ·exact callWith_function (o:=ob) (fd:=fd) (H9 (V0:=[.ref a]) (v0:=[.ref a]) S₁ (.single (.ref a)) P K q hp λvs s' hb y=>⟨⟨hb _ _ g,hd⟩,y⟩)
end
section
variable {c:Cx} {loc:f8} {own:b9} {E:XP} {K:Frag}
theorem aj7 {A:Around} {C:Addr} {vs:List Value} {k:Nat} (h1:A.depth+(k+1)<=600) (h2:A.units+10*(k+1)<=6000):(A.under (.builtin "type.__call__" ⟨.ref C::vs,[]⟩)).depth+k<=600/\(A.under (.builtin "type.__call__" ⟨.ref C::vs,[]⟩)).units+10*k<=6000:=by
 have w1:(Code.builtin "type.__call__" ⟨.ref C::vs,[]⟩).weight<=1:=dd9 (by rfl)
 have w2:(Code.builtin "type.__call__" ⟨.ref C::vs,[]⟩).cUnits<=10:=dd9 (by rfl)
 refine⟨?_,?_⟩
 ·show A.depth+_+k<=600
  lia
 ·show A.units+_+10*k<=6000
  lia
theorem aL3 {h h':Heap} {Q:V->b9->Prop} {R:Result->Shared->Prop} (P:f6 μ h μ' h') (K:FK (f9 own F) (f9 (c7 own x (some oc)) F))
  (hR:∀v s',v=.none->aC5 own F μ h Q (.ref x) s'->R (.ok (.ret v)) s') (hE:∀e s',bv7 own F μ h EX e s'->R (.error e) s') (r:Result) (s':Shared) (p:B9 (c7 own x (some oc)) F μ' h' (λV o=>V=.none/\Q (.ref x) o) EX r s'):R r s':=by
 refine B9.elim (λv s' x=>?_) (λe s' x=>?_) r s' p
 ·obtain⟨V,o,m,⟨hV,q⟩,dd,rr,R⟩:=x
  subst hV
  exact hR v s' rr ⟨.ref _,o,m,q,dd,.ref _,R.sr,P.trans R.P,K.trans R.K⟩
 ·obtain⟨C',t',o,m,tr,q,dd,XX,R⟩:=x
  exact hE e s' ⟨C',t',o,m,tr,q,dd,XX,R.sr,P.trans R.P,K.trans R.K⟩
theorem ap7 {C fI:Addr} {hd:Option Value} {k:Nat} {Vs:List V} {Q:V->b9->Prop} {EX:XC} (X:K.In G.base) (hm:makesIn K C=true) (hi:findIn K (.ref C) "__init__"=some (some (.ref fI))) (hf:typeIn K (.ref fI)=some (.type "function"))
  (h:∀x,own x=none->r9 hd k (.ref fI) (.ref x::Vs) (c7 own x (some (.inst C []))) (λV o=>V=.none/\Q (.ref x) o) EX):r9 hd (k+1) (.ref C) Vs own Q EX:=by
 intro outer F A μ s vs hA hh hdp hun hout D S r
 obtain⟨hp,g,d,t,os⟩:=s
 obtain⟨hx1,hm1,-⟩:=S.far (db7 _)
 rcases j6.mp hx1 with⟨ox,Fx⟩
 have hsz:(hp.push emptyDict).objs.size=hp.objs.size+1:=Heap.size_push ..
 have hne:hp.objs.size≠hp.objs.size+1:=cY4 (db4 _)
 have gx:((hp.push emptyDict).push (instObj C hp.objs.size)).get? (hp.objs.size+1)=some (instObj C hp.objs.size):=by rw[<-hsz];exact Heap.get?_push_size _ rfl
 have gd:((hp.push emptyDict).push (instObj C hp.objs.size)).get? hp.objs.size=some emptyDict:=Heap.get?_push_of_some _ (Heap.get?_push_size _ rfl)
 have keep:∀b o,hp.get? b=some o->((hp.push emptyDict).push (instObj C hp.objs.size)).get? b=some o:=λb o e=>Heap.get?_push_of_some _ (Heap.get?_push_of_some _ e)
 have XK:K.In hp:=X.keeps S.base
 obtain⟨S',P'⟩:=S.add2 (h':=(hp.push emptyDict).push (instObj C hp.objs.size)) (y:=.inst C []) (tk:=t) (db7 _) (cX5 _) ⟨_,gx⟩ ⟨_,gd⟩ keep λP=>
  ⟨_,hp.objs.size,λU=>none,gx,rfl,rfl,rfl,hne,by rw[b7 hne];exact b5 _ _ _,Heap.Ns1.of_empty ⟨_,#[],_,gd,rfl,(λe he=>absurd he (by simp)),λU=>rfl⟩,.nil,(λU h=>nomatch h),λU U=>rfl⟩
 rw[p0 Fx] at S'
 have Kx:FK (f9 own F) (f9 (c7 own (hp.objs.size+1) (some (.inst C []))) F):=FK.put Fx λe l q=>by rw[ox] at q;cases q
 refine make_core (makes_of XK hm) (looks_findIn XK hi) (λself=>bind_fn XK self hf) (.inl rfl) ?_
 have ar:=aj7 (C:=C) (vs:=vs) hdp hun
 refine codeAny_mono (h (hp.objs.size+1) ox outer F _ _ ⟨(hp.push emptyDict).push (instObj C hp.objs.size),g,d,t,os⟩ (.ref (hp.objs.size+1)::vs) hA hh ar.1 ar.2 (hout.fk Kx) (D.put Fx) S' (.cons (.ref _) (r.pres P'))) (aL3 P' Kx (λU U e x=>⟨e,x⟩) λU U x=>x)
end
section
variable {c:Cx} {loc:f8} {own:b9} {E:XP} {K:Frag}
theorem ap8 (X:K.In G.base)
  (h:Ev c loc own (.Name x np) (λVf o=>∃a,Vf=.val (.ref a)/\keepIn K (.ref a)=true/\Evs c loc o pos args (λVs o=>u4 c loc o (.ref a) Vs Q E) E) E) (hp:A0 args c.env):Ev c loc own (.Call (.Name x np) args [] pos) Q E:=by
 intro F A μ s S p
 refine wpAny_Call_ofName (h.runV S p (λU U y=>y) λf s₁ V o m q r S₁ P K=>?_)
 obtain⟨a,rfl,hk,q⟩:=q
 cases r
 exact callWith_of (by rw[hp.any];rfl) (keeps_K hk) (H9 (V0:=[]) S₁ .nil P K q hp λvs s' hb y=>⟨X.keeps hb,y⟩)
section
variable {nm q:Str} {N C:Addr} {bs bm bmB:List Value} {hdct:Bool} {sn:List Str} {sub:List Value} {ab:Bool} {col:Option Bool} {dd:Option Addr} {k0 k1 k2 k3 k5:Option Value} {B newId initId:String} {h:Heap} {g:Array GenState} {d:Drawn} {t:Nat} {os:OsState} {A:Around}
theorem av7 (F:ExcBaseFacts B newId initId bmB) (hB:bm.contains (.type B)=true) (hC:h.get? C=some (excClassObj nm q C N bs bm hdct sn sub ab col dd k0 k1 k2 k3 k5 newId))
  (hq:Q () ⟨h,g,d,t,os⟩):wpAny M A (checkBuiltinCall newId ⟨.ref C::rest,[]⟩) Q EE ⟨h,g,d,t,os⟩:=by
 have hcont:(Value.ref C::bm).contains (.type B)=true:=by rw[dc6,hB,Bool.or_true]
 have hstar:=F.noStar
 unfold checkBuiltinCall
 rw[F.newKind,F.newSplit,F.newRow]
 dsimp only
 repeat (first | refine wpAny_loadPart_at hC ?_ | (refine wpAny_isSubtype_exc hC ?_;rw[hcont]) | refine wpAny_staticBase_exc hC ?_ | refine wpAny_madeBy_exc hC ?_ | rw[bne_self_eq_false] | wp_step)
 exact hq
theorem bP7 (F:ExcBaseFacts B newId initId bmB) (hB:bm.contains (.type B)=true) (hA:bm.contains (.type "AttributeError")=false) (hN:bm.contains (.type "NameError")=false)
  (hC:h.get? C=some (excClassObj nm q C N bs bm hdct sn sub ab col dd k0 k1 k2 k3 k5 newId))
  (hq:R (.ok (.ret (.ref (h.objs.size+1)))) ⟨(h.push {cls:=.type "tuple",data:=.seq rest.toArray}).push {cls:=.ref C,data:=.fields #[.ref h.objs.size,.none,.none,.none,.bool false,.none]},g,d,t,os⟩) (hrest:rest.length<=sizeLine):
  codeAny (model prog w) A (.builtin newId ⟨.ref C::rest,[]⟩) R ⟨h,g,d,t,os⟩:=by
 have hends:=F.ends
 have hcB:(Value.ref C::bm).contains (.type B)=true:=by rw[dc6,hB,Bool.or_true]
 have hcA:(Value.ref C::bm).contains (.type "AttributeError")=false:=by rw[dc6,hA];rfl
 have hcN:(Value.ref C::bm).contains (.type "NameError")=false:=by rw[dc6,hN];rfl
 refine codeAny_builtinAt F.entry ?_
 unfold Builtin.«BaseException.__new__»
 refine PySem.wpAt_bind ?_
 show PySem.wpAt _ _ _ (stack >>= _) _ _ _
 refine PySem.wpAt_bind (PySem.wpAt_stack λp aL4=>PySem.wpAt_of_wpAny ?_)
 wp_walk
 refine PySem.wpAt_of_wpAny ?_
 rw[F.owner]
 repeat (first | with_reducible refine wpAny_madeHere_exc F.canon hC ?_ | with_reducible refine wpAny_loadPart_at hC ?_ | (with_reducible refine wpAny_isSubtype_exc hC ?_;first | rw[hcB] | rw[hcA] | rw[hcN]) | wp_step)
 show R _ _
 rw[Heap.size_push]
 exact hq
theorem av8 (F:ExcBaseFacts B newId initId bmB) (hB:bm.contains (.type B)=true) (hA:bm.contains (.type "AttributeError")=false) (hN:bm.contains (.type "NameError")=false)
  (hC:h.get? C=some (excClassObj nm q C N bs bm hdct sn sub ab col dd k0 k1 k2 k3 k5 newId)) (hi:Looks (model prog w) h (typeLookup (.ref C) "__init__") (some (.ref fI))) (hb:∀self,Looks (model prog w) h (bindSpecial (.ref fI) self) (.ref fI,[self])) (hrest:rest.length<=sizeLine)
  (hq:codeAny (model prog w) A (.call (.ref fI) ⟨.ref (h.objs.size+1)::rest,[]⟩) (λr s'=>match r with | .ok (.ret v)=>v=.none/\Q (.done (.ret (.ref (h.objs.size+1)))) s' | .ok _=>False | .error e=>EE e s')
   ⟨(h.push {cls:=.type "tuple",data:=.seq rest.toArray}).push {cls:=.ref C,data:=.fields #[.ref h.objs.size,.none,.none,.none,.bool false,.none]},g,d,t,os⟩):
  wpAny (model prog w) A (Builtin.«type.__call__» ⟨.ref C::rest,[]⟩) Q EE ⟨h,g,d,t,os⟩:=by
 repeat (first | with_reducible refine wpAny_loadPart_at hC ?_ | with_reducible refine wpAny_madeBy_exc hC ?_ | wp_step)
 refine codeAny_call_builtin_code (Code.quiet_builtin _ F.quiet) (av7 F hB hC ?_)
 refine bP7 F hB hA hN hC ?_ hrest
 show wpAny _ _ _ _ _ _
 have k:∀b o,h.get? b=some o->((h.push {cls:=.type "tuple",data:=.seq rest.toArray}).push {cls:=.ref C,data:=.fields #[.ref h.objs.size,.none,.none,.none,.bool false,.none]}).get? b=some o:=λb o e=>Heap.get?_push_of_some _ (Heap.get?_push_of_some _ e)
 have hC₁:=k _ _ hC
 have hget:((h.push {cls:=.type "tuple",data:=.seq rest.toArray}).push
   {cls:=.ref C,data:=.fields #[.ref h.objs.size,.none,.none,.none,.bool false,.none]}).get? (h.objs.size+1)=some
   {cls:=.ref C,data:=.fields #[.ref h.objs.size,.none,.none,.none,.bool false,.none]}:=by heap_get
 have hcC:(Value.ref C::bm).contains (.ref C)=true:=by simp
 unfold isInstance
 repeat (first | with_reducible refine wpAny_loadPart_at hget ?_ | (with_reducible refine wpAny_isSubtype_exc hC₁ ?_;rw[hcC]) | wp_step)
 show wpAny _ _ (typeLookup (.ref C) _) _ _ _
 refine Looks.at (hi.keeps k) ?_
 refine wpAny_holding (wpAny_bind (Looks.at ((hb _).keeps k) ?_))
 refine wpAny_bind (wpAny_call (codeAny_mono hq λr s' z=>?_))
 rcases r with e | (v | _ | _ | _)<;>first | exact z | exact z.elim | skip
 rcases z with⟨rfl,z⟩
 exact wpAny_pure (wpAny_pure z)
end
end
section
variable {c:Cx} {loc:f8} {own:b9} {E:XP} {K:Frag}
theorem bl7 (X:K.In G.base) (O:T4 K C fI B newId initId bmB) (hz:Vs.length<=sizeLine)
  (h:∀x,own x=none->r9 hd k (.ref fI) (.ref x::Vs) (c7 own x (some (.exn C none))) (λV o=>V=.none/\Q (.ref x) o) EX):r9 hd (k+1) (.ref C) Vs own Q EX:=by
 intro outer F A μ s vs hA hh hdp hun hout D S r
 obtain⟨hp,g,d,t,os⟩:=s
 obtain⟨hx1,hm1,hb1⟩:=S.far (db7 _)
 rcases j6.mp hx1 with⟨ox,Fx⟩
 let tupO:Obj:={cls:=.type "tuple",data:=.seq vs.toArray}
 let excO:Obj:={cls:=.ref C,data:=.fields #[.ref hp.objs.size,.none,.none,.none,.bool false,.none]}
 have hsz:(hp.push tupO).objs.size=hp.objs.size+1:=Heap.size_push ..
 have gx:((hp.push tupO).push excO).get? (hp.objs.size+1)=some excO:=by rw[<-hsz];exact Heap.get?_push_size _ rfl
 have keep:∀b o,hp.get? b=some o->((hp.push tupO).push excO).get? b=some o:=λb o e=>Heap.get?_push_of_some _ (Heap.get?_push_of_some _ e)
 have XK:K.In hp:=X.keeps S.base
 rcases(S.add2 (h':=(hp.push tupO).push excO) (y:=.exn C none) (tk:=t) (db7 _) (db7 _) ⟨_,gx⟩ ⟨_,gx⟩ keep λP=>⟨_,_,gx,rfl,rfl,⟨cX5 _,rfl⟩,rfl,hb1,rfl⟩) with⟨S',P'⟩
 rw[p0 Fx] at S'
 have Kx:FK (f9 own F) (f9 (c7 own (hp.objs.size+1) (some (.exn C none))) F):=FK.put Fx λe l q=>by rw[ox] at q;cases q
 obtain⟨nm,q,N,bs,bm,hdct,sn,sub,ab,col,dd,k0,k1,k2,k3,k5,hCK,hB,hAt,hNm,hBE⟩:=O.obj
 have hC:hp.get? C=some (excClassObj nm q C N bs bm hdct sn sub ab col dd k0 k1 k2 k3 k5 newId):=XK _ _ hCK
 have f1:=tc_lookup
 have f2:=tc_bind (.ref C)
 have hT:(⟨hp,g,d,t,os⟩:Shared).TypeIs (.ref C) "type":=⟨_,hC,rfl⟩
 refine codeAny_of_tree ?_
 show wpAny _ _ (callAny (.ref C) _) _ _ _
 repeat (any_goals (first | assumption | with_reducible refine wpAny_loadPart_at hC ?_ | wp_step))
 refine⟨rfl,?_⟩
 refine codeAny_call_builtin_at (Code.quiet_builtin _ (by decide +kernel)) entry_typeCall (wpAny_check_type_call_sub hC (av8 O.facts hB hAt hNm hC (looks_findIn XK O.init) (λself=>bind_fn XK self O.fn) (show vs.length<=sizeLine by rw[r.length];exact hz) ?_))
 have ar:=aj7 (C:=C) (vs:=vs) hdp hun
 refine codeAny_mono (h (hp.objs.size+1) ox outer F _ _ ⟨(hp.push tupO).push excO,g,d,t,os⟩ (.ref (hp.objs.size+1)::vs) hA hh ar.1 ar.2 (hout.fk Kx) (D.put Fx) S' (.cons (.ref _) (r.pres P'))) (aL3 P' Kx (λU U e x=>⟨e,x⟩) λU U x=>x)
theorem T3.setTold_ (X:K.In G.base) (ha:own a=some (.exn C none)) (CO:Z0 K C) (hQ:Q () loc (c7 own a (some (.exn C (some x))))):
  T3 (λh μ=>VR h μ x v) D6 c loc own (setAttr (.ref a) (Str.ofString "told") v) Q E:=by
 intro F A μ s S r
 obtain⟨hm,_,ox,vs,hx,hc,hdat,hsz,h1,hb,hd⟩:=S.chunk ha
 have hd:ox.dict=none:=hd
 have XK:=X.keeps S.sr.base
 obtain⟨cd,hcd,hh,hobj,hemp,hpass⟩:=CO.cls
 have I:InstAt s.heap a ox C none:=⟨hx,hc,by unfold notCls;rw[hdat],by rw[hd];trivial⟩
 refine set_plain XK I CO.sa ?_
 have SF:=PySem.F.store_object
 have sub:Looks (model G.prog G.w) s.heap (isInstance (.ref a) (.type "object")) true:=I.type.andThen (looks_mroIn XK (by unfold mroIn;rw[hcd,dc5,if_neg (by rw[hemp];decide),hobj]))
 refine codeAny_call_builtin SF.slot.plain SF.entry (@check_slot (model G.prog G.w) _ _ {s with toks:=s.toks+1} "object.__setattr__" "object" "__setattr__" (.ref a) [.str _ _,v] [] _ SF.kind SF.split sub (SF.args (.ref a) (.str _ _) v) ?_)
 have hm2:Looks (model G.prog G.w) s.heap (mroOf (.ref C)) cd.mro:=(looks_clsIn XK hcd).andThen .now
 rw[osa_eq,refuse_eq]
 refine wpAny_bind (wpAny_bind (Looks.here (s:={s with toks:=s.toks+1}) I.type (wpAny_bind (Looks.here (s:={s with toks:=s.toks+1}) hm2 ?_))))
 rw[hpass]
 refine wpAny_pure (wpAny_bind (Looks.here (s:={s with toks:=s.toks+1}) I.type (wpAny_bind (Looks.here (s:={s with toks:=s.toks+1}) (looks_findIn XK CO.told) (wpAny_bind (wpAny_of_eq (a:=none) rfl ?_))))))
 dsimp only
 obtain⟨oc,odi,oda,osl⟩:=ox
 obtain rfl:oc=.ref C:=hc
 obtain rfl:odi=none:=hd
 obtain rfl:oda=.fields vs:=hdat
 refine wpAny_bind (wpAny_pure (wpAny_bind (wpAny_bind (wpAny_loadPart (s:={s with toks:=s.toks+1}) hx (wpAny_bind (Looks.here (s:={s with toks:=s.toks+1}) (looks_clsIn XK hcd) ?_))))))
 rw[hh]
 have hx₁:(s.heap.push emptyDict).get? a=some ⟨.ref C,none,.fields vs,osl⟩:=Heap.get?_push_of_some _ hx
 have hxs:a≠s.heap.objs.size:=cY4 (Heap.lt_size hx)
 show wpAny _ _ (alloc emptyDict >>= λd=>update a (λo=>{cls:=o.cls,dict:=some d,data:=o.data,slots:=o.slots}) >>= λU=>dictMade (.ref C) a d) _ _ _
 refine wpAny_bind (wpAny_alloc' ?_)
 refine wpAny_bind (wpAny_update' hx₁ ?_)
 refine wpAny_pure ?_
 generalize hH:(s.heap.push emptyDict).update a (λo=>{cls:=o.cls,dict:=some s.heap.objs.size,data:=o.data,slots:=o.slots})=H
 have hgd:H.get? s.heap.objs.size=some emptyDict:=by rw[<-hH];exact(Heap.get?_update_ne _ _ _ _ hxs.symm).trans (Heap.get?_push_at rfl rfl)
 have hga:H.get? a=some ⟨.ref C,some s.heap.objs.size,.fields vs,osl⟩:=by
  rw[<-hH];exact Heap.get?_update_self _ hx₁ rfl
 have hkeep:∀b o,b≠a->s.heap.get? b=some o->H.get? b=some o:=λb o hb e=>by
  rw[<-hH];exact(Heap.get?_update_ne _ _ _ _ hb).trans (Heap.get?_push_of_some _ e)
 have hnd:H.Ns s.heap.objs.size (λU=>none):=⟨_,#[],_,hgd,rfl,(λe he=>absurd he (by simp)),λU=>rfl⟩
 show wpAny _ _ (ObjectAttr.storeInDict s.heap.objs.size (.str _ _) (Str.ofString "told") v) _ _ _
 unfold ObjectAttr.storeInDict ObjectAttr.newKeyGuard
 refine wpAny_bind (wpAny_pure (wpAny_bind (wpAny_nsSet1 (s:={s with heap:=H,toks:=s.toks+1}) (Heap.Ns1.of_empty hnd) λh' hn' hs=>?_)))
 obtain⟨oD,esD,epD,hoD,hdD,hcD⟩:=hn'.count (Within.cons (Str.ofString "told") v Within.nil)
 refine wpAny_bind (wpAny_lookBehind hoD (by rw[hdD];exact pastItsLine_dict (cV2 hcD (by rw[db1,dh5,sizeLine_eq];lia))) ?_)
 refine wpAny_pure ?_
 rcases S.dis.ne (o9 (F:=F) ha) with⟨n1,n2⟩
 have hF:F a=none:=S.dis.1.right ha
 have g':h'.get? a=some ⟨.ref C,some s.heap.objs.size,.fields vs,osl⟩:=(hs.2 a hxs).trans hga
 have keep':∀b o,s.heap.get? b=some o->b≠a->h'.get? b=some o:=λb o e hb=>(hs.2 b (cY4 (Heap.lt_size e))).trans (hkeep b o hb e)
 rcases(S.sr.redo (y:=.exn C (some x)) (tk:=s.toks+1+1) hm (cX5 _) ⟨_,g'⟩ ⟨_,hoD⟩ keep' λP=>⟨_,vs,g',rfl,rfl,hsz,h1,hb,_,_,rfl,Ne.symm hxs,b5 _ _ _,hn'.ns,v,if_pos rfl,r.pres P⟩) with⟨sr',P'⟩
 rw[z0 n1 n2,p0 hF] at sr'
 exact⟨(),loc,_,_,hQ,S.dis.put hF ⟨n1,n2⟩,rfl,sr',P',FK.put hF λe l q=>by rw[ha] at q;cases q⟩
end
section
variable {c:Cx} {loc:f8} {own:b9} {E:XP} {K:Frag}
section
variable {M:Model} {A:Around} {EE:Value->Shared->Prop} {env:Env}
variable {nm q:Str} {C N:Addr} {bs bm:List Value} {hdct:Bool} {sn:List Str} {sub:List Value} {ab:Bool} {col:Option Bool} {dd:Option Addr} {k0 k1 k2 k3 k5:Option Value} {newId:String}
inductive cu1 (h:Heap) (C:Addr):Prop
 | mk (nm q:Str) (N:Addr) (bs bm:List Value) (hdct:Bool) (sn:List Str) (sub:List Value) (ab:Bool) (col:Option Bool) (dd:Option Addr) (k0 k1 k2 k3 k5:Option Value) (newId:String)
  (hC:h.get? C=some (excClassObj nm q C N bs bm hdct sn sub ab col dd k0 k1 k2 k3 k5 newId)) (hB:bm.contains (.type "BaseException")=true)
inductive ch1 (M:Model) (A:Around) (EE:Value->Shared->Prop) (C:Addr) (Q:Flow->Shared->Prop) (v:Value) (s:Shared):Prop
 | mk (e:Addr) (dx:Option Addr) (vs:Array Value) (sl:Array (Option Value)) (h0:v=.ref e) (hC:cu1 s.heap C) (he:s.heap.get? e=some ⟨.ref C,dx,.fields vs,sl⟩) (h1:vs[1]?=some .none) (hE:wpAny M A (raiseNew (.ref e):Sem Flow) Q EE s)
theorem aW9 (h:wpAny M A x (ch1 M A EE C Q) EE s):wpAny M A (raiseStmt env (some x) none) Q EE s:=by
 unfold raiseStmt
 refine wpAny_bind (wpAny_mono h (λv s₁ h₁=>?_) λU U x=>x)
 obtain⟨e,dx,vs,sl,rfl,⟨nm,q,N,bs,bm,hdct,sn,sub,ab,col,dd,k0,k1,k2,k3,k5,newId,hC,hbase⟩,he,h1,hE⟩:=h₁
 have hcB:(Value.ref C::bm).contains (.type "BaseException")=true:=by rw[dc6,hbase,Bool.or_true]
 obtain⟨hp,g,d,tk,os⟩:=s₁
 repeat (first | with_reducible refine wpAny_loadPart_at he ?_ | with_reducible refine wpAny_loadPart_at hC ?_ | (with_reducible refine wpAny_isSubtype_exc hC ?_;rw[hcB]) | wp_step)
 rw[h1]
 exact wpAny_pure (wpAny_ite (KBy.ite_no (by decide) (wpAny_pure hE)))
end
theorem av9:entryFor table "proto.unchain"=some Builtin.«proto.unchain»:=entryFor_of_tree (by kernel_rfl)
theorem aw0 (hh:A.handled=some (.ref b)) (hne:b≠e) (he:s.heap.get? e=some oe) (hde:oe.data=.fields vs)
  (hb:s.heap.get? b=some ob) (hdb:ob.data=.fields us) (h2:us[2]?=some .none) (hsz:2<vs.size)
  (h:EE (.ref e) {s with heap:=s.heap.update e (Obj.mapFields (·.setIfInBounds 2 (.ref b)))}):wpAny (model prog w) A (raiseNew (.ref e):Sem Flow) Q EE s:=by
 unfold raiseNew
 refine wpAny_bind (wpAny_handled ?_)
 rw[hh]
 dsimp only
 refine wpAny_ite (KBc.ite_yes (by simp [hne]) ?_)
 refine wpAny_bind (wpAny_holding (wpAny_runValue (codeAny_builtin av9 ?_)))
 refine wpAny_bind (wpAny_field hb hdb h2 ?_)
 refine wpAny_ite (KBc.ite_yes rfl (wpAny_pure ?_))
 exact wpAny_bind (m:=updateField e 2 (.ref b)) (wpAny_setField he hde hsz (wpAny_throw h))
end
section
variable {c:Cx} {loc:f8} {own:b9} {E:XP} {K:Frag}
inductive cu2 (h:Heap) (μ:Mu) (a C:Addr) (told:V):Prop
 | mk (dx:Addr) (vs:Array Value) (sl:Array (Option Value)) (g:h.get? a=some ⟨.ref C,some dx,.fields vs,sl⟩) (hsz:6<=vs.size/\vs[2]?=some .none) (h1:vs[1]?=some .none) (hb:G.base.get? a=none) (ht:aI3 h (t0 μ a) told dx) (hm:t0 μ a a=none)
theorem bl8 {A:Around} {F:b9} {μ:Mu} {s:Shared} {a C:Addr} {told:V} (S:St c loc own F A μ s) (ha:own a=some (.exn C (some told))):
  cu2 s.heap μ a C told:=by
 obtain⟨hm,_,⟨oc,od,oda,osl⟩,vs,hx,hc,hdat,hsz,h1,hb,d,m,q2,q3,q4,q5,q6⟩:=S.chunk ha
 cases hc;cases hdat;cases q2
 exact⟨d,vs,osl,hx,hsz,h1,hb,⟨m,q5,q6.pres (S.dropped ha λU U=>nofun).2.1,if_pos q4⟩,D4 hm⟩
theorem aL5 {h:Heap} {C fI:Addr} {B newId initId:String} {bmB:List Value} (XK:K.In h) (O:T4 K C fI B newId initId bmB):cu1 h C:=
by
 obtain⟨_,_,_,_,_,_,_,_,_,_,_,_,_,_,_,_,hCK,_,_,_,hBE⟩:=O.obj
 exact⟨_,_,_,_,_,_,_,_,_,_,_,_,_,_,_,_,_,XK _ _ hCK,hBE⟩
theorem ap9 {e:Expr} {pos:Pos} {C fI:Addr} {B newId initId:String} {bmB:List Value} {Q:Fl->f8->b9->Prop} {W:Addr->V->b9->Prop} (X:K.In G.base) (O:T4 K C fI B newId initId bmB)
  (h:Ev c loc own e (λV o=>∃a told,V=.ref a/\o a=some (.exn C (some told))/\W a told o) E)
  (hr:∀F A μ s a told o,St c loc o F A μ s->o a=some (.exn C (some told))->W a told o->cu2 s.heap μ a C told->wpAny (model G.prog G.w) A (raiseNew (.ref a)) (i7 (FlR) c o F μ s.heap Q) (t8 c o F μ s.heap E) s):Ex c loc own (.Raise (some e) none pos) Q E:=by
 intro F A μ s S p
 show wpAny _ A (do standAt pos;raiseStmt c.env (some (do let v <-eval e c.env;standAt pos;Pure.pure v)) none) _ _ s
 refine wpAny_bind (wpAny_standAt (aW9 (C:=C) (wpAny_bind (h.runV S p (λU U y=>y) λv s₁ V o μ₁ q r S₁ P K=>wpAny_bind (wpAny_standAt (wpAny_pure ?_))))))
 obtain⟨a,told,rfl,ha,hw⟩:=q
 cases r
 have Z:=bl8 S₁ ha
 have hE:=wpAny_mono (hr F A μ₁ s₁ a told o S₁ ha hw Z) (λU U y=>y.lift P K) λU U y=>y.lift P K
 obtain⟨dx,vs,sl,g,hsz,h1,hb,ht,hm⟩:=Z
 exact⟨a,some dx,vs,sl,rfl,aL5 (X.keeps S₁.sr.base) O,g,h1,hE⟩
theorem bz4 {e:Expr} {pos:Pos} {C fI:Addr} {B newId initId:String} {bmB:List Value} {Q:Fl->f8->b9->Prop} (X:K.In G.base) (O:T4 K C fI B newId initId bmB) (hh:c.hd=none)
  (h:Ev c loc own e (λV o=>∃a told,V=.ref a/\o a=some (.exn C (some told))/\E C told loc (c7 o a none)) E):Ex c loc own (.Raise (some e) none pos) Q E:=by
 refine ap9 X O h λF A μ s a told o S ha hE ⟨dx,vs,sl,g,hsz,h1,hb,ht,hm⟩=>wpAny_raiseNew_none (S.ar.handled.trans hh) ?_
 obtain⟨S₂,P₂,K₂⟩:=S.dropped ha λU U=>nofun
 exact⟨C,told,_,_,_,false,hE,S₂.dis,⟨a,_,vs,dx,rfl,g,rfl,rfl,⟨hsz.1,.inl hsz.2⟩,hm,hb,rfl,ht,.inl ⟨rfl,h1⟩⟩,S₂.sr,P₂,K₂⟩
theorem bl9 {vs:Array Value} {i j:Nat} {v w:Value} (h:i≠j) (e:vs[j]?=some w):(vs.setIfInBounds i v)[j]?=some w:=by rw[Array.getElem?_setIfInBounds_ne h];exact e
theorem bm0 {e:Expr} {pos:Pos} {C fI b:Addr} {B newId initId:String} {bmB:List Value} {Q:Fl->f8->b9->Prop} (X:K.In G.base) (O:T4 K C fI B newId initId bmB) (hh:c.hd=some (.ref b)) (hch:G.ch C)
  (h:Ev c loc own e (λV o=>∃a told Cb tb,V=.ref a/\o a=some (.exn C (some told))/\o b=some (.held Cb tb)/\¬G.ch Cb/\E C told loc (c7 o a none)) E):Ex c loc own (.Raise (some e) none pos) Q E:=by
 refine ap9 (W:=λa told o=>∃Cb tb,o b=some (.held Cb tb)/\¬G.ch Cb/\E C told loc (c7 o a none)) X O (h.mono (λU U x=>x) (λU U U q=>?_) λU U U U x=>x) ?_
 ·obtain⟨e,a,told,Cb,tb,h1,h2,h3⟩:=q;exact⟨e,a,told,h1,h2,Cb,tb,h3⟩
 intro F A μ s a told o S ha q1_ q2_
 obtain⟨Cb,tb,hob,hnc,hE⟩:=q1_
 obtain⟨dx,vs,sl,g,hsz,h1,hb,ht,hm⟩:=q2_
 obtain⟨ob,us,dxb,gb,_,hdb,hszb,_⟩:=(S.chunk hob).2.2
 obtain⟨S₂,P₂,K₂⟩:=S.dropped ha λU U=>nofun
 refine aw0 (S.ar.handled.trans hh) (λq=>by rw[q,ha] at hob;cases hob) g rfl gb hdb (hszb.2.resolve_right hnc) (cV2 (by decide) hsz.1) ?_
 rcases S₂.sr.fields (f:=Obj.mapFields (·.setIfInBounds 2 (.ref b))) g rfl hm hb with⟨S₃,P₃⟩
 exact⟨C,told,_,_,_,false,hE,S₂.dis,⟨a,_,_,dx,rfl,Heap.get?_update_self _ g rfl,rfl,rfl,⟨(Array.size_setIfInBounds (xs:=vs)).symm▸hsz.1,.inr hch⟩,hm,hb,rfl,ht.pres P₃,.inl ⟨rfl,bl9 (by decide) h1⟩⟩,S₃,P₂.trans P₃,K₂⟩
end
section
variable {c:Cx} {loc:f8} {own:b9} {E:XP} {K:Frag}
theorem SR.adopt (S:SR own μ s) (h1:s.heap.get? ea=some oe) (h2:oe.cls=.ref C) (h3:oe.data=.fields vs) (h4:6<=vs.size/\(vs[2]?=some .none\/G.ch C)) (h5:μ ea=none) (h6:G.base.get? ea=none) (h7:oe.dict=some dx) (h8:aI3 s.heap μ told dx):
  own ea=none/\SR (c7 own ea (some (.held C told))) (c7 μ ea (some ea)) s/\f6 μ s.heap (c7 μ ea (some ea)) s.heap:=by
 have ho:own ea=none:=by
  cases q:own ea with
  | none=>rfl
  | some o=>have:=(S.chunk ea o q).1;rw[h5] at this;cases this
 have P:f6 μ s.heap (c7 μ ea (some ea)) s.heap:=⟨λU U e U U=>e,λb o e m d=>by
  have:b≠ea:=λq=>by subst q;rw[h1] at e;cases e;exact d _ h3
  rw[b7 this];exact m⟩
 refine⟨ho,⟨S.gens,S.os,S.base,λb o e=>?_,λa o e=>?_,λb a e=>?_⟩,P⟩
 ·have:b≠ea:=λq=>by subst q;rw[h6] at e;cases e
  rw[b7 this];exact S.baseMu b o e
 ·by_cases q:a=ea
  ·subst q
   rw[b5] at e;cases e
   exact⟨b5 _ _ _,⟨oe,h1⟩,oe,vs,dx,h1,h2,h3,h4,h6,h7,h8.pres P⟩
  ·rw[b7 q] at e
   obtain⟨m,ex,r⟩:=S.chunk a o e
   have hm:∀b,μ b=some a->c7 μ ea (some ea) b=some a:=λb mb=>by
    have:b≠ea:=λq'=>by subst q';rw[h5] at mb;cases mb
    rw[b7 this];exact mb
   exact⟨hm a m,ex,K7.keep P (λU U U e=>e) hm m r⟩
 ·by_cases q:b=ea
  ·subst q
   rw[b5] at e;cases e
   exact⟨⟨_,b5 _ _ _⟩,oe,h1⟩
  ·rw[b7 q] at e
   obtain⟨⟨o,e1⟩,ex⟩:=S.dom b a e
   have:a≠ea:=λq'=>by subst q';rw[ho] at e1;cases e1
   exact⟨⟨o,by rw[b7 this];exact e1⟩,ex⟩
theorem St.adopt (S:St c loc own F A μ s) (x:XR s.heap μ tr ev C told):
  ∃ea,ev=.ref ea/\own ea=none/\St c loc (c7 own ea (some (.held C told))) F A (c7 μ ea (some ea)) s/\f6 μ s.heap (c7 μ ea (some ea)) s.heap/\FK (f9 own F) (f9 (c7 own ea (some (.held C told))) F):=by
 obtain⟨ea,oe,vs,dx,rfl,h1,h2,h3,h4,h5,h6,h7,h8,h9⟩:=x
 obtain⟨ho,sr,P⟩:=S.sr.adopt h1 h2 h3 h4 h5 h6 h7 h8
 obtain⟨n1,n2,h⟩:=D0 S.ok ho
 rcases j6.mp h with⟨o1,f1⟩
 rw[z0 n1 n2,p0 f1] at sr
 have Kx:FK (f9 own F) (f9 (c7 own ea (some (.held C told))) F):=FK.put f1 λe l q=>by rw[o1] at q;cases q
 exact⟨ea,rfl,o1,⟨S.ok,S.ar,sr,S.out.fk Kx,S.dis.put f1 ⟨n1,n2⟩⟩,P,Kx⟩
end
section
variable {c:Cx} {loc:f8} {own:b9} {E:XP} {K:Frag}
abbrev Cx.held (c:Cx) (ea:Addr):Cx:={c with hd:=some (.ref ea)}
theorem bP8 (ok:c.Ok):(c.held ea).Ok:=⟨ok.loc,ok.frm,ok.ffrm,ok.kind,ok.fkind,ok.glob,ok.blt,ok.apart,ok.same,λh=>by injection h with h;exact absurd h (by unfold byPass;exact nofun)⟩
theorem aL6 (ok:c.Ok) (S:SR own μ s) (K0:T6) (hv:G.mg x=some v) (hk:c.env.kindOf x=some .globalImplicit) (hQ:Q v s) (hd:(x == ("__debug__":Str))=false):
  wpAny (model G.prog G.w) A (eval (.Name x np) c.env) Q EE s:=by
 have ng:s.heap.Ns c.env.globals G.mg:=ok.glob▸K0.g.keeps S.base
 exact Name_function_global ok.kind hk (loadGlobal_global ng hv hQ) hd
section
variable {A:Around} {F:b9} {μ:Mu} {s:Shared} {body hb:List Stmt} {hb₀:Stmt} {x:Str} {np hpos pos:Pos} {C fI:Addr} {B newId initId:String} {bmB:List Value}
abbrev cu3 (M:Model) (A:Around) (env:Env) (nm:Option Str) (hpos:Pos) (Q:Flow->Shared->Prop) (E:Value->Shared->Prop):Result->Shared->Prop:=λr s₂=>match r with
 | .ok f=>(match nm with
  | none=>Q f s₂
  | some n=>wpAny M A (do bindName env n .none;unbindBehindTheSuite env n hpos) (λU s₃=>Q f s₃) E s₂)
 | .error x=>cameBackBy M A env E x s₂
theorem ch2 {s₂:Shared} {K2:Shared->Prop} {ES:Value->Shared->Prop} (S:St c l o F A μ' s₂) (X:XR s₂.heap μ' tr (.ref ea) C told)
  (hand:∀μ'' s',o ea=none->St (c.held ea) l (c7 o ea (some (.held C told))) F (A.mark (some (.ref ea))) μ'' s'->f6 μ' s₂.heap μ'' s'.heap->FK (f9 o F) (f9 (c7 o ea (some (.held C told))) F)->K2 s'):
  wpAny (model G.prog G.w) (A.mark (some (.ref ea))) (setFlight (.ref ea) none) (λU s'=>K2 s') ES s₂:=
 P4 S.sr X λh₄ sr₄ P₄ XX₄=>by
 obtain⟨ea',e',ho,S₅,P₅,K₅⟩:=St.adopt (s:={s₂ with heap:=h₄}) ⟨S.ok,S.ar,sr₄,S.out,S.dis⟩ XX₄
 cases e'
 exact hand _ _ ho ⟨bP8 S.ok,⟨S.ar.frames,rfl,S.ar.depth,S.ar.units⟩,S₅.sr,S₅.out,S₅.dis⟩ (P₄.trans P₅) K₅
theorem aL7 {Q:Fl->f8->b9->Prop} {Hand:V->f8->b9->Prop} {K2:Addr->Shared->Prop} (K0:T6) (X:K.In G.base) (O:T4 K C fI B newId initId bmB)
  (hv:G.mg x=some (.ref C)) (hk:c.env.kindOf x=some .globalImplicit) (hd:(x == ("__debug__":Str))=false) (S:St c loc own F A μ s)
  (h:Exs c loc own body Q (λC' told l o=>C'=C/\Hand told l o))
  (suite:∀ea s',(∀ES,wpAny (model G.prog G.w) (A.mark (some (.ref ea))) (setFlight (.ref ea) none) (λU s=>K2 ea s) ES s')->
   codeAny (model G.prog G.w) (A.mark (some (.ref ea))) (.handlers (.ref ea) [.ExceptHandler none nm (hb₀::hb) hpos] c.env) (cu3 (model G.prog G.w) A c.env nm hpos (i7 (FlR) c own F μ s.heap Q) (t8 c own F μ s.heap E)) s')
  (hand:∀ea told l o μ' s',Hand told l o->o ea=none->St (c.held ea) l (c7 o ea (some (.held C told))) F (A.mark (some (.ref ea))) μ' s'->f6 μ s.heap μ' s'.heap->FK (f9 own F) (f9 (c7 o ea (some (.held C told))) F)->K2 ea s'):
  wpAny (model G.prog G.w) A (exec (.Try body [.ExceptHandler (some (.Name x np)) nm (hb₀::hb) hpos] [] [] pos) c.env) (i7 (FlR) c own F μ s.heap Q) (t8 c own F μ s.heap E) s:=by
 obtain⟨nm,q,N,bs,bm,hdct,sn,sub,ab,col,dd,k0,k1,k2,k3,k5,newId,hC,hBE⟩:=aL5 X O
 refine wpAny_Try_except (T3.run h S trivial (λe s₁ y=>?_) λf s₁ Fl l o m q r S₁ P K=>?_)
 rotate_left
 ·have done:i7 (FlR) c own F μ s.heap Q f s₁:=⟨Fl,l,o,m,q,S₁.dis,r,S₁.sr,P,K⟩
  cases Fl with
  | next=>cases r;exact T3.ahead P K S₁ (am0 (E:=E) (Q:=Q) q) trivial
  | brk=>cases r;exact done
  | cont=>cases r;exact done
  | ret v=>obtain⟨_,rfl,r⟩:=r;exact done
 ·refine I4 S.ok S.ar S.out y λs₂ C' told l o μ' q d XX sr P K₁=>?_
  rcases q with⟨rfl,q⟩
  refine P4 sr XX λh₃ sr₃ P₃ XX₃=>?_
  have XX₃':=XX₃
  obtain⟨ea,oe,vs,dx,rfl,g1,g2,_⟩:=XX₃'
  exact wpAny_handleBy_cons (codeAny_handlers_test (aL6 S.ok sr₃ K0 hv hk (wpAny_excMatches_sub_self (sr₃.base _ _ hC) g1 g2 hBE
   (suite ea {s₂ with heap:=h₃} λES=>ch2 ⟨S.ok,S.ar,sr₃,S.out.fk K₁,d⟩ XX₃ λμ'' s' ho S' P' K'=>hand ea told l o μ'' s' q ho S' ((P.trans P₃).trans P') (K₁.trans K'))) hd)) (by unfold byPass;exact nofun)
theorem ch3 (K0:T6) (X:K.In G.base) (O:T4 K C fI B newId initId bmB)
  (hv:G.mg x=some (.ref C)) (hk:c.env.kindOf x=some .globalImplicit)
  (h:Exs c loc own body Q (λC' told l o=>C'=C/\∀ea,o ea=none->Exs (c.held ea) l (c7 o ea (some (.held C told))) (hb₀::hb)
   (λF l2 o2=>o2 ea=some (.held C told)/\Q F l2 (c7 o2 ea none)) (λC2 t2 l2 o2=>o2 ea=some (.held C told)/\E C2 t2 l2 (c7 o2 ea none))))
  (hd:(x == ("__debug__":Str))=false):Ex c loc own (.Try body [.ExceptHandler (some (.Name x np)) none (hb₀::hb) hpos] [] [] pos) Q E:=λF A μ s S p=>
 aL7 K0 X O hv hk hd S h (λea s h=>codeAny_handlers_suite (h _)) λea told l o μ' s' q ho S' P K=>by
 refine T3.run (q ea ho) S' trivial (λe₇ s₇ y=>?_) λf s₇ Fl l₇ o₇ m₇ q r S₇ P₇ K₇=>?_
 rotate_left
 ·obtain⟨S₈,P₈,K₈⟩:=St.dropped (A:=A) ⟨S.ok,S.ar,S₇.sr,S₇.out,S₇.dis⟩ q.1 λU U=>nofun
  exact⟨Fl,l₇,_,_,q.2,S₈.dis,r.pres P₈,S₈.sr,(P.trans P₇).trans P₈,(K.trans K₇).trans K₈⟩
 ·refine I4 (c:=c.held ea) S'.ok S'.ar S'.out y λs₈ C2 t2 l2 o2 μ8 q8 d8 X8 sr8 P8 K8=>?_
  obtain⟨S₉,P₉,K₉⟩:=St.dropped (A:=A) ⟨S.ok,S.ar,sr8,S'.out.fk K8,d8⟩ q8.1 λU U=>nofun
  exact P5 q8.2 S₉.dis (X8.pres P₉ λb ob vs g U m=>⟨g,by unfold t0;rw[m];rfl⟩) S₉.sr ((P.trans P8).trans P₉) ((K.trans K8).trans K₉)
end
end
section
variable {c:Cx} {loc:f8} {own:b9} {E:XP} {K:Frag}
theorem bP9 {E:Value->Shared->Prop} {s:Shared} {ox:Obj} {od:Option Obj} {Q:Value->Shared->Prop} (X:K.In s.heap) (I:InstAt s.heap x ox C od)
  (CO:Z0 K C)
  (hf:findObj K C od name=some (.value v)) (hh:handedIn v=true) (h:Q v {s with toks:=s.toks+1}):wpAny (model prog w) A (getAttr (.ref x) name e) Q E s:=by
 obtain⟨hp,g,d,t,os⟩:=s
 have L0:=I.type (M:=model prog w)
 have LB:Looks (model prog w) hp (isInstance (.ref x) (.type "BaseException")) true:=L0.andThen (looks_subIn X CO.sub)
 unfold getAttr getAttrBy
 refine wpAny_bind (wpAny_mkText (wpAny_holding (wpAny_bind (L0.at (wpAny_bind ((looks_findIn X CO.ga).at ?_))))))
 show wpAny _ _ (getAttrByItsOwn _ _ _ _ _ _) _ _ _
 unfold getAttrByItsOwn
 refine wpAny_bind ((looks_findIn X CO.gh).at (wpAny_bind (wpAny_attempt (wpAny_holding ?_))))
 rw[show callGetattribute (.ref x) (.str name t) (.builtin "BaseException.__getattribute__") e=boundAndCalled (.builtin "BaseException.__getattribute__") (.ref x) (.str name t) by cases e<;>rfl]
 unfold boundAndCalled
 rw[(F.attr_Exception).ga.bind (.ref x)]
 refine wpAny_bind (wpAny_pure (wpAny_call (codeAny_call_builtin (F.attr_Exception).ga.plain F.entry_bexc_ga ?_)))
 unfold checkBuiltinCall
 rw[show builtinKind "BaseException.__getattribute__"=some .slot by decide +kernel,show splitId "BaseException.__getattribute__"=some ("BaseException","__getattribute__") by decide +kernel]
 dsimp only
 refine wpAny_bind (LB.at (wpAny_of_eq (F.args_bexc_ga (.ref x) (.str name t)) ?_))
 unfold Builtin.«object.__getattribute__»
 refine wpAny_bind (wpAny_pure (wpAny_bind (wpAny_pure (wpAny_bind (L0.at (wpAny_bind ((looks_find X I hf).at (wpAny_pure ?_))))))))
 show wpAny _ _ (handedOut v) _ _ _
 rw[handedOut_of hh];exact wpAny_pure h
theorem bQ0 (X:K.In G.base)
  (h:Ev c loc own o (λV o₁=>∃a C told,V=.ref a/\o₁ a=some (.held C told)/\Z0 K C/\nOk told=true/\Q told o₁) E)
  (he:eval (.Attribute o (Str.ofString "told") pos) c.env=(do
   let v <-eval o c.env
   standAt pos.atName
   let r <-holding [v] (getAttr v (Str.ofString "told") true)
   letTemporaryGo o v r
   Pure.pure r):=by with_unfolding_all rfl):Ev c loc own (.Attribute o (Str.ofString "told") pos) Q E:=by
 intro F A μ s S p
 refine Attribute_any_ (h.runV S p (λU U y=>y) λv s₁ V o₁ μ₁ q r S₁ P K=>?_) he
 obtain⟨a,C,told,rfl,ha,CO,hn,hq⟩:=q
 cases r
 obtain⟨ox,vs,dx,g1,g2,g3,_,_,g7,m,hns,⟨v,hv,rv⟩,_⟩:=(S₁.chunk ha).2.2
 obtain⟨od,hod,hl⟩:=ay0 hns
 obtain⟨cd,hcd,hh,_⟩:=CO.cls
 have I:InstAt s₁.heap a ox C (some od):=⟨g1,g2,by unfold notCls;rw[g3],by rw[g7];exact hod⟩
 refine bP9 (v:=v) (X.keeps S₁.sr.base) I CO ?_ (by9 rv hn) ((leaf (s':={s₁ with toks:=s₁.toks+1}) S₁ hq rfl rfl rfl rv).lift P K)
 unfold findObj
 rw[hcd,CO.told]
 have:W.ownOf cd (some od) (Str.ofString "told")=some (some v):=by unfold W.ownOf;rw[if_pos hh];show lookIn _ od=_;rw[hl];exact congrArg some hv
 simp only[dc5,this]
theorem T3.nameGoes (hu:N0 x none loc loc') (hk:c.env.kindOf x=some .local) (hQ:Q () loc' own):
  T3 TT D6 c loc own (do PySem.bindName c.env x .none;unbindBehindTheSuite c.env x pos) Q E:=by
 intro F A μ s S _
 obtain⟨hL,hlt,m,hn,nd,pw,hl⟩:=S.sr.chunk c.L _ (P3 c loc (f9 own F))
 refine wpAny_bind (wpAny_bindName (wpAny_storeName_local hk (S.ok.loc▸hn) (λh₁ hn₁ hs₁=>?_) (by rw[S.ok.kind];rfl)))
 unfold unbindBehindTheSuite
 refine wpAny_onRaise ?_
 rw[S.ok.loc] at hn₁ hs₁
 refine wpAny_unbindName_local (s:={s with heap:=h₁,toks:=s.toks+1}) hk (S.ok.loc▸hn₁) (v:=.none) (if_pos rfl) (by rw[S.ok.kind];rfl) (λh₂ u hn₂ hs₂=>?_)
 rw[S.ok.loc] at hn₂ hs₂
 have hs:=hs₁.trans hs₂
 have st:=S.sr.turn (tk:=s.toks+1) (o':=.frame c.env loc') hL hs (bd5 hn₂) λP=>⟨_,hn₂,hu.keys▸nd,pw,λy hy=>?_⟩
 ·exact⟨(),loc',own,μ,hQ,S.dis,rfl,ax0 c loc loc' (f9 own F)▸st.1,st.2,FK.refl _⟩
 ·rcases hu.each nd y hy with e | ⟨e,ne⟩
  ·subst e;exact .inl ⟨hk,trivial⟩
  rcases hl y e with⟨k',r'⟩ | ⟨k',a',cv',e1,e2,e3,e4,e5⟩
  ·refine .inl ⟨k',?_⟩
   show aC1 h₂ μ y.2 (if y.1=x then u else if y.1=x then some .none else m y.1)
   rw[if_neg ne,if_neg ne];exact r'.pres P
  ·obtain⟨oc,g,d⟩:=e4
   exact .inr ⟨k',a',cv',e1,e2,e3,⟨oc,(hs.2 a' e3).trans g,d⟩,e5.pres P⟩
end
section
variable {c:Cx} {loc:f8} {own:b9} {E:XP} {K:Frag}
theorem bz5 (K0:T6) (X:K.In G.base) (O:T4 K C fI B newId initId bmB)
  (hv:G.mg x=some (.ref C)) (hk:c.env.kindOf x=some .globalImplicit) (hn:c.env.kindOf n=some .local)
  (h:Exs c loc own body Q (λC' told l o=>C'=C/\∀ea,o ea=none->∃l',N0 n (some (.ref ea)) l l'/\Exs (c.held ea) l' (c7 o ea (some (.held C told))) (hb₀::hb)
   (λF l2 o2=>∃l3,N0 n none l2 l3/\o2 ea=some (.held C told)/\Q F l3 (c7 o2 ea none)) NoX))
  (hd:(x == ("__debug__":Str))=false):Ex c loc own (.Try body [.ExceptHandler (some (.Name x np)) (some n) (hb₀::hb) hpos] [] [] pos) Q E:=λF A μ s S p=>
 aL7 K0 X O hv hk hd S h (λea s h=>codeAny_handlers_suite_as (h _)) λea told l o μ' s' q ho S₆ P K=>by
 obtain⟨l',hu,hand⟩:=q ea ho
 refine T3.run (T3.store (c:=c.held ea) (E:=NoX) (Pre:=TT) (V:=.ref ea) (v:=.ref ea) (Q:=λU l₁ o₁=>l₁=l'/\o₁=c7 o ea (some (.held C told))) hu (λU U U=>.ref ea) ⟨rfl,rfl⟩) S₆ trivial (λU U y=>(noX y).elim) λU s₇ U l₇ o₇ m₇ q₇ U S₇ P₇ K₇=>?_
 rcases q₇ with⟨rfl,rfl⟩
 refine T3.run hand S₇ trivial (λU U y=>(noX y).elim) λf s₈ Fl l₈ o₈ m₈ q₈ r S₈ P₈ K₈=>?_
 obtain⟨l₉,hdel,hx,q⟩:=q₈
 have S₈':St c l₈ o₈ F A m₈ s₈:=⟨S.ok,S.ar,S₈.sr,S₈.out,S₈.dis⟩
 refine T3.run (T3.nameGoes (E:=NoX) (pos:=hpos) (Q:=λU l₁ o₁=>l₁=l₉/\o₁=o₈) hdel hn ⟨rfl,rfl⟩) S₈' trivial (λU U y=>(noX y).elim) λU s₉ U l₁₀ o₁₀ m₉ q₉ U S₉ P₉ K₉=>?_
 rcases q₉ with⟨rfl,rfl⟩
 obtain⟨S₁₀,P₁₀,K₁₀⟩:=S₉.dropped hx λU U=>nofun
 exact⟨Fl,_,_,_,q,S₁₀.dis,(r.pres P₉).pres P₁₀,S₁₀.sr,(((P.trans P₇).trans P₈).trans P₉).trans P₁₀,(((K.trans K₇).trans K₈).trans K₉).trans K₁₀⟩
end
section
variable {c:Cx} {loc:f8} {own:b9} {E:XP}
theorem ch4 (hQ:∀e it l,own e=none->Q (.ref e) (c7 own e (some (.enum it l xs)))):u4 c loc own (.type "enumerate") [.lst xs] Q E:=by
 intro vs F A μ s S r
 obtain⟨v,rfl,l,us,rfl,t,m,rr⟩:=r.one
 refine call_enumerate_list t.isList λh' he hit hsz hk=>?_
 have hne:s.heap.objs.size≠s.heap.objs.size+1:=cY4 (db4 _)
 obtain⟨oi,gi,_⟩:=id hit
 obtain⟨ho,S',P',K⟩:=S.add2 (y:=.enum s.heap.objs.size l xs) (tk:=s.toks) (db7 _) (cX5 _) ⟨_,he⟩ ⟨_,gi⟩ hk λP=>
  ⟨us,he,hit,L6 t λo e U=>hk _ o e,P.mu' (M9 t) m,rr.pres P,by rw[b7 hne];exact b5 _ _ _,hne⟩
 exact⟨.ref _,loc,_,_,⟨rfl,hQ _ _ _ ho⟩,S'.dis,.ref _,S'.sr,P',K⟩
end
section
variable {c:Cx} {loc:f8} {own:b9} {E:XP}
noncomputable def o5 (xs:List V):List V:=xs.zipIdx.map λp=>.tup [.int (p.2:Nat),p.1]
theorem Q0 {xs:List V} {i:Nat} {x:V} (h:xs[i]?=some x):(o5 xs)[i]?=some (.tup [.int (i:Nat),x]):=by
 unfold o5
 rw[cX9,List.getElem?_zipIdx,h];simp
theorem bQ1 {e it l:Addr} {xs:List V} {us:Array Value} {elts:List Expr} {x1} {pos:Pos} (hne:it≠e) (hl1:l≠e) (hl2:l≠it) (hlen:us.size=xs.length):
  Src (.Tuple elts x1 pos) ⟨e,o5 xs,[e,it],[e,it,l],λi h=>(∃old,IsEnum h e it (i:Nat) old)/\h.IsListIter it l i/\h.PlainList l us,λh μ=>q9 h μ xs us.toList⟩:=by
 have hn:(o5 xs).length=xs.length:=by simp [o5]
 refine⟨?_,?_,?_,?_,?_,?_,?_⟩
 ·intro a ha;simp at ha ⊢;rcases ha with h | h<;>simp [h]
 ·simp
 ·intro i h h' q1_ k
  obtain⟨⟨old,a⟩,b,t⟩:=q1_
  exact⟨⟨old,k e (by simp) _ a⟩,b.at λo g=>k it (by simp) o g,t.at λo g=>k l (by simp) o g⟩
 ·intro i h q1_ y hy
  obtain⟨⟨old,a⟩,⟨o,b,_⟩,⟨n,t⟩⟩:=q1_
  simp only[cW1,cY8,or_false] at hy
  rcases hy with rfl | rfl | rfl
  ·exact⟨_,a⟩
  ·exact⟨_,b⟩
  ·exact⟨_,t⟩
 ·intro A i s Q EE hh q1_ q
  obtain⟨⟨old,a⟩,_⟩:=q1_
  exact wpAny_pyIter_enum a q
 ·rintro A i s R EE EE' hh hi ⟨⟨old,a⟩,b,t⟩-k
  have hi:i<us.size:=by rw[hlen,<-hn];exact hi
  refine wpAny_pyNext_enum_item a b t.isList (x:=us[i]) (by simp [hi]) (Ne.symm hne) λh' ho hit htup hsz keep=>?_
  refine⟨_,rfl,wpAny_letOwnedTupleGo_enum (s:={s with heap:=h',toks:=s.toks+1}) ho λh'' he hs=>?_⟩
  have hle:l≠s.heap.objs.size:=let ⟨_,g⟩:=t;cY4 (Heap.lt_size g)
  have hee:s.heap.objs.size≠e:=(cY4 (Heap.lt_size a)).symm
  have keep2:∀y o,y≠e->y≠it->s.heap.get? y=some o->h''.get? y=some o:=λy o h1 h2 g=>(hs.2 y h1).trans (keep y o h1 h2 g)
  have hi1:((i+1:Nat):Int)=(i:Int)+1:=by lia
  have he':IsEnum h'' e it ((i+1:Nat):Int) us[i]:=by rw[hi1];exact he
  refine k _ h'' _ (λμ pre fr=>?_) ⟨⟨_,he'⟩,?_,?_⟩ (λy o hy g=>keep2 y o (λq=>hy (by simp [q])) (λq=>hy (by simp [q])) g)
  ·have hix:i<xs.length:=by rw[<-hlen];exact hi
   obtain⟨v,hv,rv⟩:=pre.get (i:=i) (x:=xs[i]) (cW8 hix)
   have hv':us[i]?=some v:=by simpa using hv
   rw[df5 hi] at hv'
   cases hv'
   refine⟨_,Q0 (cW8 hix),?_⟩
   refine .tup ⟨0,(hs.2 _ hee).trans htup⟩ (fr _ (Heap.get?_none_of_le (cX5 _))) (.cons (.int _ _) (.cons rv .nil))
  ·obtain⟨o,g,r⟩:=hit
   exact⟨o,(hs.2 it hne).trans g,r⟩
  ·exact t.at λo g=>keep2 l o hl1 hl2 g
 ·rintro A s Q EE hh ⟨⟨old,a⟩,b,t⟩-k
  have hz:us[(o5 xs).length]?=none:=Array.getElem?_eq_none (by rw[hn,hlen];exact cX5 _)
  refine wpAny_pyNext_enum_end hh a b t.isList hz λh' hk=>?_
  exact k h' s.toks λy o hy g=>hk y o (λq=>hy (by simp [q])) g
theorem bm1 {x1} (ho:own e=some (.enum it l xs)):av1 c loc own (.Tuple elts x1 pos) (.ref e) (o5 xs) (c7 own e none) E:=by
 rintro _ F A μ s S rfl
 obtain⟨hm,_,us,he,hit,t,ml,rr,mi,hne⟩:=S.chunk ho
 refine wpAny_pyIter_enum he ?_
 rcases S.dis.ne (o9 (F:=F) ho) with⟨n1,n2⟩
 have hF:F e=none:=S.dis.1.right ho
 have hl1:l≠e:=λq=>by rw[q,hm] at ml;cases ml
 have hl2:l≠it:=λq=>by rw[q,mi] at ml;cases ml
 have src:=bQ1 (elts:=elts) (x1:=x1) (pos:=pos) hne hl1 hl2 (j9 rr)
 obtain⟨sr',P'⟩:=S.sr.turn (tk:=s.toks) (o':=.it [e,it] [e,it,l] (λh=>(∃old,IsEnum h e it ((0:Nat):Int) old)/\h.IsListIter it l 0/\h.PlainList l us)) hm (Heap.SameBut.refl _ _) ⟨_,he⟩ λP=>by
  refine⟨by simp,⟨⟨_,he⟩,hit,t⟩,src.sub,src.frame 0,src.there 0 _ ⟨⟨_,he⟩,hit,t⟩,λb hb=>?_,λb hb hn=>?_⟩
  ·simp only[cW1,cY8,or_false] at hb
   rcases hb with rfl | rfl
   ·exact hm
   ·exact mi
  ·simp only[cW1,cY8,or_false,not_or] at hb hn
   rcases hb with h | h | rfl
   ·exact absurd h hn.1
   ·exact absurd h hn.2
   ·exact⟨ml,M9 t⟩
 rw[z0 n1 n2,p0 hF] at sr'
 exact⟨_,loc,_,μ,⟨rfl,rfl,b5 _ _ _,by rw[c5],src,aI9⟩,S.dis.put hF ⟨n1,n2⟩,⟨rfl,rr⟩,sr',P',FK.put hF λe' l' q=>by rw[ho] at q;cases q⟩
end
section
variable {c:Cx} {loc:f8} {own:b9} {E:XP}
theorem aq0 {s:Shared} {ob:Obj} {Q:V->b9->Prop} (S:St c loc own F A μ s) (hfree:ob.isFreed=false)
  (hrel:f6 μ s.heap (c7 μ s.heap.objs.size (some s.heap.objs.size)) (s.heap.push ob)->K7 (s.heap.push ob) (c7 μ s.heap.objs.size (some s.heap.objs.size)) s.heap.objs.size o)
  (hQ:∀a,own a=none->Q (.ref a) (c7 own a (some o))):i7 (z9) c own F μ s.heap (λV l o=>l=loc/\Q V o) (.ref s.heap.objs.size) {s with heap:=s.heap.push ob,toks:=tk}:=by
 have q:=S.push (tk:=tk) hfree hrel
 exact⟨.ref _,_,_,_,⟨rfl,hQ _ q.own_⟩,q.dj,.ref _,q.sr,q.pres,q.fk⟩
theorem bz6 (L:j4 own V₁ xs) (L2:j4 own V₂ ys) (hz:xs.length+ys.length<=sizeLine) (hQ:∀a,own a=none->Q (.ref a) (c7 own a (some (.list (xs++ys))))):af8 c loc own .Add V₁ V₂ Q E:=by
 rintro _ _ F A μ s S ⟨r1,r2⟩
 obtain⟨a,us,rfl,⟨_,t⟩,rr⟩:=L.at_ S r1
 obtain⟨b,ws,rfl,⟨_,t2⟩,rr2⟩:=L2.at_ S r2
 refine PySem.P.add_list t t2 ?_ (by rw[j9 rr,j9 rr2];exact hz)
 refine aq0 (o:=.list (xs++ys)) (tk:=s.toks) S rfl (λP=>⟨_,⟨0,Heap.get?_push_size _ rfl⟩,q9.pres P ?_⟩) hQ
 rw[di2]
 exact rr.append rr2
theorem ac6 {K:Type} [DecidableEq K] [DK K] (hQ:∀a,own a=none->Q (.ref a) (c7 own a (some (DK.mkO ([]:List (K×V)))))):Ev c loc own (.Dict [] [] pos) Q E:=by
 intro F A μ s S p
 exact wpAny_Dict_empty (aq0 (o:=DK.mkO ([]:List (K×V))) (tk:=s.toks) S rfl (λP=>DK.rel' ⟨[],Heap.DictOf.new _,.nil⟩) hQ)
theorem aL8 (K0:T6) (hQ:Q (.dct []) own):Ev c loc own (.Dict [] [] pos) Q E:=by
 refine bk9 K0 (ac6 (K:=Str) λa ha=>⟨.dct [],own,.inr ⟨a,[],rfl,b5 _ _ _,rfl,?_⟩,hQ⟩)
 rw[c5,d9 ha]
end
section
open PySem PySem.W PyProof.Rows PySem.Calls PySem.Builtin PySem.SeqAt
variable {c:Cx} {loc:f8} {own:b9} {E:XP}
section
variable {prog:Program} {w:World} {A:Around} {EE:Value->Shared->Prop} {s:Shared} {a:Addr}
theorem N2 (ht:s.TypeIs (.ref a) "dict") (h:Q .notImplemented s):wpAny (model prog w) A (call (.builtin "dict.__eq__") [.ref a,.none]) Q EE s:=by
 refine wpAny_call_entry PySem.F.slot_dict_eq ht PySem.F.entry_dict_eq ?_ (PySem.F.args_dict_eq_2 _ _)
 have hT:=ht
 have hs:=PySem.F.sub_NoneType_dict
 unfold Builtin.«dict.__eq__»
 wp_walk
 exact⟨_,rfl,h⟩
theorem ag6 (ht:s.TypeIs (.ref a) "dict") (h:Q .notImplemented s):wpAny (model prog w) A (call (.builtin "dict.__ne__") [.ref a,.none]) Q EE s:=by
 refine wpAny_call_entry PySem.F.slot_dict_ne ht PySem.F.entry_dict_ne ?_ (PySem.F.args_dict_ne_2 _ _)
 have hT:=ht
 have hs:=PySem.F.sub_NoneType_dict
 unfold Builtin.«dict.__ne__»
 wp_walk
 exact⟨_,rfl,h⟩
end
theorem aX0 (r:VR h μ (.dct es) v):∃a o,v=.ref a/\h.get? a=some o/\o.cls=.type "dict":=by
 obtain⟨a,vs,e0,⟨o,_,_,e,⟨hc,_⟩,_⟩,_⟩:=r
 exact⟨a,o,e0,e,hc⟩
theorem aL9 (hQ:Q (.bool false) own):y7 c loc own .Eq .none (.dct es) Q E:=by
 refine op2 hQ λF A μ s v u S r1 r2 P X kk=>?_
 cases r1
 obtain⟨a,o,rfl,e,hc⟩:=aX0 r2
 have ht:s.TypeIs (.ref a) "dict":=⟨o,e,hc⟩
 have hu:A.units<cLine:=aj6 S.ar
 exact rc_eq_decline_or (k:=false) rfl ht (by decide) PySem.F.sub_dict_NoneType PySem.F.slot_NoneType_eq PySem.F.slot_dict_eq_refl
  (λU hq=>call_gives PySem.F.slot_NoneType_eq rfl PySem.F.entry_NoneType_eq (PySem.F.args_NoneType_eq_2 _ _) (NoneType___eq___none_ref_0 a) hq)
  (λU hq=>N2 ht hq) (λU hq=>wpAny_of_eq (rfl:isSame .none (.ref a)=pure false) hq) (.inr hu) (kk _ _ (λU=>.bool _) rfl rfl rfl)
theorem aM0 (hQ:Q (.bool false) own):y7 c loc own .Eq (.dct es) .none Q E:=by
 refine op2 hQ λF A μ s v u S r2 r1 P X kk=>?_
 cases r1
 obtain⟨a,o,rfl,e,hc⟩:=aX0 r2
 have ht:s.TypeIs (.ref a) "dict":=⟨o,e,hc⟩
 have hu:A.units<cLine:=aj6 S.ar
 exact rc_eq_decline_or (k:=false) ht rfl (by decide) PySem.F.sub_NoneType_dict PySem.F.slot_dict_eq PySem.F.slot_NoneType_eq_refl
  (λU hq=>N2 ht hq) (λU hq=>call_gives PySem.F.slot_NoneType_eq rfl PySem.F.entry_NoneType_eq (PySem.F.args_NoneType_eq_2 _ _) (NoneType___eq___none_ref_0 a) hq)
  (λU hq=>wpAny_of_eq (rfl:isSame (.ref a) .none=pure false) hq) (.inr hu) (kk _ _ (λU=>.bool _) rfl rfl rfl)
theorem aM1 (hQ:Q (.bool true) own):y7 c loc own .NotEq (.dct es) .none Q E:=by
 refine op2 hQ λF A μ s v u S r2 r1 P X kk=>?_
 cases r1
 obtain⟨a,o,rfl,e,hc⟩:=aX0 r2
 have ht:s.TypeIs (.ref a) "dict":=⟨o,e,hc⟩
 have hu:A.units<cLine:=aj6 S.ar
 exact rc_ne_decline_or (k:=false) ht rfl (by decide) PySem.F.sub_NoneType_dict PySem.F.slot_dict_ne PySem.F.slot_NoneType_ne_refl
  (λU hq=>ag6 ht hq) (λU hq=>call_gives PySem.F.slot_NoneType_ne rfl PySem.F.entry_NoneType_ne (PySem.F.args_NoneType_ne_2 _ _) (NoneType___ne___none_ref_0 a) hq)
  (λU hq=>wpAny_of_eq (rfl:isSame (.ref a) .none=pure false) hq) (.inr hu) (kk _ _ (λU=>.bool _) rfl rfl rfl)
end
section
variable {c:Cx} {loc:f8} {own:b9} {E:XP}
theorem ch5 (r:K6 h μ es vs):∀{i:Nat},vs[i]?=some (kk,x)->(es.map λp=>V.str p.1)[i]?=some (.str kk):=by
 refine r.ind (C:=λes vs=>∀{i:Nat},vs[i]?=some (kk,x)->(es.map λp=>V.str p.1)[i]?=some (.str kk)) (λh=>nomatch h) λU U ih i h=>?_
 cases i with
 | zero=>cases h;rfl
 | succ i=>exact ih h
theorem bz7:av1 c loc own tgt (.dct es) (es.map λp=>.str p.1) own E:=by
 intro v F A μ s S q1_
 obtain⟨a,vs,rfl,t,m,z,rr⟩:=q1_
 have PR:=rr.to
 have hmu:=af6 t
 rcases t.dictAt with⟨ep,at_⟩
 refine wpAny_pyIter_dict z at_ ?_
 have hlt:a<s.heap.objs.size:=by obtain⟨o,e,_⟩:=hmu;exact Heap.lt_size e
 have hne:a≠s.heap.objs.size:=cY4 hlt
 have len:vs.length=(es.map λp=>V.str p.1).length:=by rw[cV3,PR.length]
 refine am1 (ob:={cls:=.type "dict_keyiterator",data:=.fields #[.ref a,.int 0 0,.int vs.length 0,.int ep 0]}) (b:=⟨s.heap.objs.size,es.map λp=>.str p.1,[s.heap.objs.size],[s.heap.objs.size,a],λi h=>h.IsKeyIter s.heap.objs.size a i vs.length ep/\h.DictAt (PySem.strKind G.prog G.w) a vs ep,λU U=>True⟩) (V:=.none) (v:=.none) S rfl rfl rfl rfl
  (P6 (P:=λi v=>∃k x,vs[i]?=some (k,x)/\(PySem.strKind G.prog G.w).is k v=true) (λA hh=>by
   have W:=Walks.dictKeys (prog:=G.prog) (w:=G.w) (knd:=PySem.strKind G.prog G.w) hh s.heap.objs.size a hne vs ep
   show Walks G.prog G.w A _ _ _ (es.map λp=>V.str p.1).length _ _
   rw[<-len];exact W) (.head _) ?_ (λh μ i v pre hp=>?_) λi h st=>?_) B3
  ⟨⟨_,Heap.get?_push_size _ rfl,rfl,rfl⟩,at_.at' λo e=>Heap.get?_push_of_some _ e⟩ (λb hb hn=>?_) trivial
 ·intro i h q1_ b hb
  obtain⟨⟨o,e,_⟩,o',es',e',_⟩:=q1_
  simp only[cW1,cY8,or_false] at hb
  rcases hb with rfl | rfl
  ·exact⟨o,e⟩
  ·exact⟨o',e'⟩
 ·obtain⟨kk,x,hx,hk⟩:=hp
  rcases Value.isStrOf_shape hk with⟨t,rfl⟩
  exact⟨.str kk,ch5 PR hx,.str _ _⟩
 ·obtain⟨⟨o,e,hc,hd⟩,_⟩:=st
  exact⟨o,_,_,e,hc,hd,rfl⟩
 ·simp only[cW1,cY8,or_false] at hb
  rcases hb with rfl | rfl
  ·exact absurd rfl hn
  ·exact⟨m,hmu⟩
end
section
variable {c:Cx} {loc:f8} {own:b9} {E:XP}
noncomputable def aD6 (x:V):Prop:=∃i:Int,x=.int i/\0<=i/\i<1000000007
noncomputable def Q1 (xs:List V):Prop:=xs.length<=64/\∀x∈xs,aD6 x
abbrev B5 (d:Addr) (mx:Int):List (Str×V):=[(Str.ofString "cells",.ref d),(Str.ofString "mixed",.int mx)]
theorem bm2 (vs:List Value) (hv:∀v∈vs,∃i t,v=.int i t/\0<=i/\i<1000000007):∃xs:List V,q9 h μ xs vs/\∀x∈xs,aD6 x:=by
 induction vs with
 | nil=>exact⟨[],.nil,λU h=>nomatch h⟩
 | cons v vs ih=>
  obtain⟨i,t,rfl,a,b⟩:=hv v (.head _)
  obtain⟨xs,r,hx⟩:=ih λv h=>hv v (.tail _ h)
  exact⟨.int i::xs,.cons (.int _ _) r,cX1.mpr ⟨⟨i,rfl,a,b⟩,hx⟩⟩
theorem St.openDeck (S:St c loc own F A μ s) (ha:own a=some .deck):
  ∃d xs mx μ',own d=none/\d≠a/\0<=mx/\mx<2147483647/\Q1 xs/\St c loc (c7 (c7 own a (some (.dictS (B5 d mx)))) d (some (.list xs))) F A μ' s/\f6 μ s.heap μ' s.heap/\
   FK (f9 own F) (f9 (c7 (c7 own a (some (.dictS (B5 d mx)))) d (some (.list xs))) F):=by
 obtain⟨hm,_,d,vs,cs,mx,tm,t,ev,h1,h2,mc,hne,hl,hi⟩:=S.chunk ha
 have hod:r5 c loc (f9 own F) d=none:=by
  cases q:r5 c loc (f9 own F) d with
  | none=>rfl
  | some o=>have:=(S.sr.chunk d o q).1;rw[mc] at this;exact absurd (Option.some.inj this).symm hne
 obtain⟨d1,d2,d3⟩:=D0 S.ok hod
 rcases j6.mp d3 with⟨od,Fd⟩
 rcases S.dis.ne (o9 (F:=F) ha) with⟨n1,n2⟩
 have hF:F a=none:=S.dis.1.right ha
 obtain⟨xs,rx,hx⟩:=bm2 (h:=s.heap) (μ:=μ) cs.toList hi.2
 obtain⟨sr',P'⟩:=S.sr.step (own':=c7 (c7 (r5 c loc (f9 own F)) a (some (.dictS (B5 d mx)))) d (some (.list xs))) (μ':=c7 μ d (some d)) (s':=s) (λy=>y=a\/y=d) rfl rfl (λb o g U=>g)
  (λb o g q=>b7 λq'=>q a (q'▸mc) (.inl rfl)) (λy q=>by rw[b7 (λe=>q (.inr e)),b7 (λe=>q (.inl e))])
  (λy o q g=>by
   rcases q with rfl | rfl
   ·exact⟨by rw[b7 (Ne.symm hne)];exact hm,(S.chunk ha).2.1⟩
   ·obtain⟨n,g⟩:=hl;exact⟨b5 _ _ _,_,g⟩)
  (λP y o q g=>by
   rcases q with rfl | rfl
   ·rw[b7 (Ne.symm hne),b5] at g;cases g
    exact⟨vs,t,_,_,ev,rfl,_,_,rfl,⟨tm,rfl⟩,rfl⟩
   ·rw[b5] at g;cases g
    exact⟨cs,hl,rx.pres P⟩)
  (λb y g q=>by
   by_cases hb:b=d
   ·subst hb;rw[b5] at g;cases g;obtain⟨n,g⟩:=hl;exact⟨⟨_,b5 _ _ _⟩,_,g⟩
   ·rw[b7 hb] at g
    obtain⟨⟨o,g1⟩,ex⟩:=S.sr.dom b y g
    rcases q with rfl | rfl
    ·exact⟨⟨_,by rw[b7 (Ne.symm hne)];exact b5 _ _ _⟩,ex⟩
    ·rw[hod] at g1;cases g1)
  (λb y g q=>by
   by_cases hb:b=d
   ·subst hb;rw[b5] at g;cases g;exact absurd (.inr rfl) q
   ·rw[b7 hb] at g;exact g)
 rw[z0 n1 n2,p0 hF,z0 d1 d2,p0 Fd] at sr'
 have K1:FK (f9 own F) (f9 (c7 own a (some (.dictS (B5 d mx)))) F):=FK.put hF λe l q=>by rw[ha] at q;cases q
 have K2:FK (f9 (c7 own a (some (.dictS (B5 d mx)))) F) (f9 (c7 (c7 own a (some (.dictS (B5 d mx)))) d (some (.list xs))) F):=FK.put Fd λe l q=>by rw[b7 hne,od] at q;cases q
 exact⟨d,xs,mx,_,od,hne,h1,h2,⟨by rw[<-rx.length,db0];exact hi.1,hx⟩,⟨S.ok,S.ar,sr',S.out.fk (K1.trans K2),(S.dis.put hF ⟨n1,n2⟩).put Fd ⟨d1,d2⟩⟩,P',K1.trans K2⟩
end
section
variable {c:Cx} {loc:f8} {own:b9} {E:XP}
theorem bm3 (r:q9 h μ xs vs):(∀x∈xs,aD6 x)->∀v∈vs,∃i t,v=.int i t/\0<=i/\i<1000000007:=by
 refine r.ind (C:=λxs vs=>(∀x∈xs,aD6 x)->∀v∈vs,∃i t,v=.int i t/\0<=i/\i<1000000007) (λU U h=>nomatch h) λa U ih hx=>?_
 rw[cX1] at hx ⊢
 obtain⟨⟨i,rfl,h1,h2⟩,hx⟩:=hx
 rcases a with⟨t,rfl⟩
 exact⟨⟨i,t,rfl,h1,h2⟩,ih hx⟩
theorem St.closeDeck (S:St c loc own F A μ s) (ha:own a=some (.dictS (B5 d mx))) (hd:own d=some (.list xs)) (h1:0<=mx) (h2:mx<2147483647) (hx:Q1 xs):
  ∃μ',St c loc (c7 (c7 own d none) a (some .deck)) F A μ' s/\f6 μ s.heap μ' s.heap/\FK (f9 own F) (f9 (c7 (c7 own d none) a (some .deck)) F):=by
 obtain⟨hm,exa,vs,t,rr⟩:=S.chunk ha
 obtain⟨md,exd,us,tl,rl⟩:=S.chunk hd
 have hne:d≠a:=λq=>by rw[q,ha] at hd;cases hd
 rcases S.dis.ne (o9 (F:=F) ha) with⟨n1,n2⟩
 rcases S.dis.ne (o9 (F:=F) hd) with⟨d1,d2⟩
 have hF:F a=none:=S.dis.1.right ha
 have Fd:F d=none:=S.dis.1.right hd
 obtain⟨_,_,rfl,rfl,_,_,rfl,⟨tm,rfl⟩,rfl⟩:=rr
 obtain⟨sr',P'⟩:=S.sr.step (own':=c7 (c7 (r5 c loc (f9 own F)) d none) a (some .deck)) (μ':=λb=>if μ b=some d then some a else μ b) (s':=s) (λy=>y=a\/y=d) rfl rfl (λb o g U=>g)
  (λb o g q=>if_neg λe=>q d e (.inr rfl)) (λy q=>by rw[b7 (λe=>q (.inl e)),b7 (λe=>q (.inr e))])
  (λy o q g=>by
   rcases q with rfl | rfl
   ·exact⟨by show(if μ y=some d then some y else μ y)=some y;rw[hm];split<;>rfl,exa⟩
   ·rw[b7 hne,b5] at g;cases g)
  (λP y o q g=>by
   rcases q with rfl | rfl
   ·rw[b5] at g;cases g
    exact⟨d,_,us,mx,tm,t,rfl,h1,h2,if_pos md,hne,tl,by rw[<-db0,rl.length];exact hx.1,bm3 rl hx.2⟩
   ·rw[b7 hne,b5] at g;cases g)
  (λb y g q=>by
   have hb:∃z,μ b=some z:=by
    by_cases h:μ b=some d
    ·exact⟨d,h⟩
    ·exact⟨y,by simpa [h] using g⟩
   rcases hb with⟨z,hz⟩
   rcases q with rfl | rfl
   ·exact⟨⟨_,b5 _ _ _⟩,(S.sr.dom b z hz).2⟩
   ·exfalso
    by_cases h:μ b=some y
    ·rw[if_pos h] at g;exact hne (Option.some.inj g).symm
    ·rw[if_neg h] at g;exact h g)
  (λb y g q=>by
   by_cases h:μ b=some d
   ·rw[if_pos h] at g;exact absurd (.inl (Option.some.inj g).symm) q
   ·rw[if_neg h] at g;exact g)
 rw[z0 d1 d2,p0 Fd,z0 n1 n2,p0 hF] at sr'
 have K1:FK (f9 own F) (f9 (c7 own d none) F):=FK.put Fd λe l q=>by rw[hd] at q;cases q
 have K2:FK (f9 (c7 own d none) F) (f9 (c7 (c7 own d none) a (some .deck)) F):=FK.put hF λe l q=>by rw[b7 (Ne.symm hne),ha] at q;cases q
 exact⟨_,⟨S.ok,S.ar,sr',S.out.fk (K1.trans K2),(S.dis.put Fd ⟨d1,d2⟩).put hF ⟨n1,n2⟩⟩,P',K1.trans K2⟩
end
section
variable {c:Cx} {loc:f8} {own:b9} {E:XP}
theorem T3.openDeck {α β:Type} {Pre:Heap->Mu->Prop} {Rel:Heap->Mu->β->α->Prop} {t:Sem α} {Q:β->f8->b9->Prop} {a:Addr} (hP:Stable Pre) (ha:own a=some .deck)
  (h:∀d xs mx,own d=none->d≠a->0<=mx->mx<2147483647->Q1 xs->T3 Pre Rel c loc (c7 (c7 own a (some (.dictS (B5 d mx)))) d (some (.list xs))) t Q E):T3 Pre Rel c loc own t Q E:=by
 intro F A μ s S p
 obtain⟨d,xs,mx,μ',h1,h2,h3,h4,h5,S',P,K⟩:=S.openDeck ha
 exact wpAny_mono (h d xs mx h1 h2 h3 h4 h5 F A μ' s S' (hP.go P p)) (λU U y=>y.lift P K) λU U y=>y.lift P K
theorem aD7 (h:Ev c loc own e (λV o=>∃a d mx xs,o a=some (.dictS (B5 d mx))/\o d=some (.list xs)/\0<=mx/\mx<2147483647/\Q1 xs/\Q V (c7 (c7 o d none) a (some .deck))) E):Ev c loc own e Q E:=by
 intro F A μ s S p
 refine wpAny_mono (h F A μ s S p) (λv s' x=>?_) λU U y=>y
 refine i7.ghost (Rel':=z9) (Q':=λV l o=>l=loc/\Q V o) S.ok S.ar S.out x λV l o m q r S'=>?_
 obtain⟨rfl,a,d,mx,xs,h1,h2,h3,h4,h5,q⟩:=q
 obtain⟨μ',S'',P,K⟩:=S'.closeDeck h1 h2 h3 h4 h5
 exact⟨V,_,_,μ',⟨rfl,q⟩,r.pres P,S'',P,K⟩
end
section
variable {c:Cx} {loc:f8} {own:b9} {E:XP}
abbrev cu4:Heap->Mu->List (Str×V)->List (Value×Value)->Prop:=λh μ ps vs=>∃kvs,Carries (PySem.strKind G.prog G.w) vs kvs/\K6 h μ ps kvs
abbrev ac7 (c:Cx) (loc:f8) (own:b9) (keys:List (Option Expr)) (values:List Expr) (pos:Pos) (Q:List (Str×V)->b9->Prop) (E:XP):Prop:=
 T3 TT (cu4) c loc own (evalPairs (pairTrees keys values c.env pos)) (λps l o=>l=loc/\Q ps o) E
theorem aM2 (h:Q [] own):ac7 c loc own [] [] pos Q E:=
 T3.pure (b:=([]:List (Str×V))) (λU U U=>⟨[],trivial,.nil⟩) ⟨rfl,h⟩
theorem aD8
  (h:Ev c loc own k (λV o=>∃x,V=.str x/\Ev c loc o v (λW o=>ac7 c loc o ks vs pos (λps o=>Q ((x,W)::ps) o) E) E) E):ac7 c loc own (some k::ks) (v::vs) pos Q E:=by
 intro F A μ s S p
 refine pairTrees_cons_walk (h.runV S p (λU U y=>y) λkv s₁ V o₁ μ₁ q r₁ S₁ P₁ K₁=>?_)
 rcases q with⟨x,rfl,q⟩
 refine T3.runV q S₁ trivial (λU U y=>y.lift P₁ K₁) λvv s₂ W o₂ μ₂ q r₂ S₂ P₂ K₂=>?_
 refine T3.runV q S₂ trivial (λU U y=>(y.lift P₂ K₂).lift P₁ K₁) λrs s₃ ps o₃ μ₃ q₃ r₃ S₃ P₃ K₃=>?_
 obtain⟨kvs,hc,pr⟩:=r₃
 rcases r₁ with⟨_,rfl⟩
 exact⟨(x,W)::ps,_,o₃,μ₃,⟨rfl,q₃⟩,S₃.dis,⟨(x,vv)::kvs,⟨strKind_is _ _ _ _,rfl,hc⟩,.cons (r₂.pres P₃) pr⟩,S₃.sr,(P₁.trans P₂).trans P₃,(K₁.trans K₂).trans K₃⟩
end
section
variable {c:Cx} {loc:f8} {own:b9} {E:XP}
noncomputable def Sub (o' o:b9):Prop:=∀a,o' a=o a\/(o' a=none/\∀e l,o a≠some (.frame e l))
theorem Sub.refl (o:b9):Sub o o:=λU=>.inl rfl
theorem Sub.trans (x:Sub a b) (y:Sub b d):Sub a d:=λp=>by
 rcases x p with e | ⟨e,f⟩
 ·rw[e];exact y p
 ·rcases y p with e' | ⟨e',f'⟩
  ·rw[<-e'];exact .inr ⟨e,f⟩
  ·exact .inr ⟨e,f'⟩
theorem Sub.upd (h:Sub o' o) (ha:o' a=none) (nf:∀e l,x≠.frame e l):Sub o' (c7 o a (some x)):=λp=>by
 by_cases q:p=a
 ·subst q;rw[b5];exact .inr ⟨ha,λe l k=>nf e l (Option.some.inj k)⟩
 ·rw[b7 q];exact h p
theorem Sub.both (h:Sub o' o):Sub (Mine.c7 o' a x) (Mine.c7 o a x):=λp=>by
 by_cases q:p=a
 ·subst q;rw[b5,b5];exact .inl rfl
 ·rw[b7 q,b7 q];exact h p
theorem Sub.disj (h:Sub o' o) (D:F1 o F):F1 o' F:=λa=>by
 rcases D a with q | q
 ·rcases h a with e | e
  ·exact .inl (e.trans q)
  ·exact .inl e.1
 ·exact .inr q
theorem Sub.uni (h:Sub o' o) (D:F1 o F) (a:Addr):Mine.f9 o' F a=Mine.f9 o F a\/(Mine.f9 o' F a=Option.none/\∀e l,Mine.f9 o F a≠some (.frame e l)):=by
 rcases h a with e | ⟨e,f⟩
 ·left;unfold Mine.f9;rw[e]
 ·cases q:o a with
  | none=>left;unfold Mine.f9;rw[e,q]
  | some x=>
   right
   refine⟨j6.mpr ⟨e,D.right q⟩,λe' l k=>?_⟩
   rw[o9 q] at k
   exact f e' l (by rw[q];exact k)
noncomputable def ay1 (own':b9) (μ:Mu):Mu:=λb=>match μ b with | some a=>if own' a=none then none else some a | none=>none
theorem SR.cut (S:SR own μ s) (h:∀a,own' a=own a\/own' a=none):SR own' (ay1 own' μ) s/\f6 μ s.heap (ay1 own' μ) s.heap:=by
 have same:∀b a,ay1 own' μ b=some a->μ b=some a/\own' a≠none:=λb a e=>by
  unfold ay1 at e
  cases hx:μ b with
  | none=>rw[hx] at e;cases e
  | some x=>
   rw[hx] at e
   by_cases q:own' x=none
   ·exact absurd (e.symm.trans (if_pos q)) nofun
   ·cases e.symm.trans (if_neg q);exact⟨rfl,q⟩
 refine S.step (λa=>own' a=none) rfl rfl (λU U e U=>e) (λb U U q=>?_) (λa q=>(h a).resolve_right q) (λa o q e=>?_) (λU a o q e=>?_) (λb a e q=>?_) (λb a e q=>(same b a e).1)
 ·unfold ay1
  cases hx:μ b with
  | none=>rfl
  | some x=>exact if_neg (q x hx)
 ·rw[q] at e;cases e
 ·rw[q] at e;cases e
 ·exact absurd q (same b a e).2
theorem Sub.fk (h:Sub o' o) (D:F1 o F):FK (Mine.f9 o F) (Mine.f9 o' F):=λL e l q=>by
 rcases h.uni D L with k | ⟨_,k⟩
 ·rw[k];exact q
 ·exact absurd q (k e l)
theorem r9.clean (h:r9 hd k f Vs own (λV o=>∃o',Sub o' o/\Q V o') (λC t o=>∃o',Sub o' o/\EX C t o')):r9 hd k f Vs own Q EX:=by
 intro outer F A μ s vs h1 h2 h3 h4 h5 h6 h7 h8
 refine codeAny_mono (h outer F A μ s vs h1 h2 h3 h4 h5 h6 h7 h8) (B9.elim ?_ ?_)
 ·intro v s' q1_
  obtain⟨V,o,m,⟨o',f,q⟩,d,r,R⟩:=q1_
  rcases(R.sr.cut λa=>(f.uni d a).imp id (·.1)) with⟨sr',P'⟩
  exact⟨V,o',_,q,f.disj d,r.pres P',sr',R.P.trans P',R.K.trans (f.fk d)⟩
 ·intro v s' q1_
  obtain⟨C,t,o,m,tr,⟨o',f,q⟩,d,X,R⟩:=q1_
  rcases(R.sr.cut λa=>(f.uni d a).imp id (·.1)) with⟨sr',P'⟩
  refine⟨C,t,o',_,tr,q,f.disj d,X.pres P' λb o vs e hd hm=>⟨e,?_⟩,sr',R.P.trans P',R.K.trans (f.fk d)⟩
  unfold ay1;rw[hm]
end
section
variable {c:Cx} {loc:f8} {own:b9} {E:XP}
structure aD9 (f:Addr) (s:Stmt):Prop where
 ex:∃fd,bw0 f fd (T0 s) (A8 s)/\∀(s':Shared) (vs:List Value),(∀b o,G.base.get? b=some o->s'.heap.get? b=some o)->vs.length=(G8 s).length->BindsTo s' fd ⟨vs,[]⟩ ((G8 s).zip vs)
theorem aD9.is (h:aD9 f s):cf4 f:=by
 obtain⟨fd,F,_⟩:=h.ex
 obtain⟨o,g,d⟩:=F.at_
 exact⟨o,fd,g,d⟩
end
section
variable {c:Cx} {loc:f8} {own:b9} {E:XP}
theorem bf3 {c:Cx} {S:Scope} {x:Str} {k:Option NameKind} (h:c.env.scope=S) (e:S.names.lookup x=k):c.env.kindOf x=k:=by
 unfold Env.kindOf;rw[h];exact e
theorem r7 {b:Bool} {P Q:Prop} (h1:b=true->P) (h2:b=false->Q):if b=true then P else Q:=by
 cases b
 ·exact h2 rfl
 ·exact h1 rfl
theorem aE0 {p:Prop} {_:Decidable p} {P Q:Prop} (h1:p->P) (h2:¬p->Q):if decide p=true then P else Q:=
 r7 (λe=>h1 (of_decide_eq_true e)) λe=>h2 (of_decide_eq_false e)
theorem bz8 {p:Prop} {_:Decidable p} {P Q:Prop} (h1:¬p->P) (h2:p->Q):if(!decide p)=true then P else Q:=
 r7 (λe=>h1 (of_decide_eq_false (by simpa using e))) λe=>h2 (of_decide_eq_true (by simpa using e))
theorem cO0 {P Q:Prop} (h:Q):if(!true)=true then P else Q:=h
theorem cO1 {P Q:Prop} (h:P):if(!false)=true then P else Q:=h
theorem aM3 {p:Prop} {_:Decidable p} {P Q:Prop} (h:p) (h1:P):if decide p=true then P else Q:=by rw[if_pos (decide_eq_true h)];exact h1
theorem bf4 {p:Prop} {_:Decidable p} {P Q:Prop} (h:¬p) (h1:Q):if decide p=true then P else Q:=by rw[if_neg (by simpa using h)];exact h1
theorem aM4 {P Q:Prop} (h:P):if true=true then P else Q:=h
theorem aX1 {P Q:Prop} (h:Q):if false=true then P else Q:=h
structure Ok:Prop where
 ok:T6
 X:K0.In G.base
 gv:∀(k:Nat) (p:Str×V),(au9 fa)[k]?=some p->GV p.1 p.2
 fn:∀i,fns.contains i=true->aD9 (fa i) (st i)
 bad:∀i,i=7\/i=8->∃fI B newId initId bmB,T4 K0 (fa i) fI B newId initId bmB/\aD9 fI (mt 6 0)
 bset:∀i,i=7\/i=8->Z0 K0 (fa i)/\keepIn K0 (.ref (fa i))=true
 bcode:G.mg "BadCode"=some (.ref (fa 7))
 brow:G.mg "BadRow"=some (.ref (fa 8))
 bne:fa 7≠fa 8
 ch:G.ch (fa 8)
 nch:¬G.ch (fa 7)
 cls:∀i,i=39\/i=43->aw9 K0 (fa i)/\makesIn K0 (fa i)=true/\keepIn K0 (.ref (fa i))=true
 meth:∀p∈af4,findIn K0 (.ref (fa p.1)) p.2.2=some (some (.ref (fm p.1 p.2.1)))/\typeIn K0 (.ref (fm p.1 p.2.1))=some (.type "function")/\aD9 (fm p.1 p.2.1) (mt p.1 p.2.1)
 flds:∀p∈aT9,findIn K0 (.ref (fa p.1)) p.2=some none
theorem bm4 {f:Addr} {s:Stmt} {Vs:List V} {loc₀:f8} {k:Nat} {Q:V->b9->Prop} {EX:XC} {others:List Str} (K:T6) (FA:aD9 f s)
  (hn:am7 (A8 s) (G8 s) others=true) (hl:am6 (G8 s) Vs others=loc₀) (hlen:Vs.length=(G8 s).length)
  (h:∀c:Cx,c.comp=false->c.env.scope=A8 s->c.hd=none->c.k=k->own c.L=none->
   Exs c loc₀ own (T0 s) (λF U o=>match F with | .ret V=>∃o',Sub o' o/\Q V o' | .next=>∃o',Sub o' o/\Q .none o' | _=>False) (λC t U o=>∃o',Sub o' o/\EX C t o')):
  r9 none (k+1) (.ref f) Vs own Q EX:=by
 obtain⟨fd,FF,hb⟩:=FA.ex
 exact(X7 (hd:=none) K FF hn hl hlen hb (λq=>nomatch q) h).clean
theorem bQ2 {k:Nat} {f:Value} {Vs:List V} {Q:V->b9->Prop} (hh:c.hd=none) (hk:k<=c.k) (h:r9 none k f Vs own Q (λC t o=>E C t loc o)):u4 c loc own f Vs Q E:=aU9 hk (hh▸h)
section
variable {np pos:Pos} {x:Str} {args:List Expr} {Q:V->b9->Prop}
theorem bz9 (W:Ok) (hk:c.env.kindOf x=some .globalImplicit) (hd:(x == ("__debug__":Str))=false) (hp:A0 args c.env)
  (h:∃i,GV x (.val (.ref (fa i)))/\fns.contains i=true/\Evs c loc own pos args (λVs o=>u4 c loc o (.ref (fa i)) Vs Q E) E):Ev c loc own (.Call (.Name x np) args [] pos) Q E:=
 h.elim λU h=>bw2 (I3 W.ok h.1 hk ⟨_,rfl,(W.fn _ h.2.1).is,h.2.2⟩ hd) hp
theorem bm5 (W:Ok) (hk:c.env.kindOf x=some .globalImplicit) (hd:(x == ("__debug__":Str))=false) (hp:A0 args c.env)
  (h:∃id,GV x (.val (.builtin id))/\Evs c loc own pos args (λVs o=>u4 c loc o (.builtin id) Vs Q E) E):Ev c loc own (.Call (.Name x np) args [] pos) Q E:=
 h.elim λU h=>bw3 (I3 W.ok h.1 hk ⟨_,rfl,h.2⟩ hd) hp
theorem bm6 (W:Ok) (hk:c.env.kindOf x=some .globalImplicit) (hd:(x == ("__debug__":Str))=false) (hp:A0 args c.env)
  (h:∃id,GV x (.val (.type id))/\Evs c loc own pos args (λVs o=>u4 c loc o (.type id) Vs Q E) E):Ev c loc own (.Call (.Name x np) args [] pos) Q E:=
 h.elim λU h=>bw4 (I3 W.ok h.1 hk ⟨_,rfl,h.2⟩ hd) hp
theorem bm7 (W:Ok) (hk:c.env.kindOf x=some .globalImplicit) (hd:(x == ("__debug__":Str))=false) (hp:A0 args c.env)
  (h:∃i,GV x (.val (.ref (fa i)))/\((i=7\/i=8)\/i=39\/i=43)/\Evs c loc own pos args (λVs o=>u4 c loc o (.ref (fa i)) Vs Q E) E):Ev c loc own (.Call (.Name x np) args [] pos) Q E:=
 h.elim λU h=>ap8 W.X (I3 W.ok h.1 hk ⟨_,rfl,h.2.1.elim (λq=>(W.bset _ q).2) (λq=>(W.cls _ q).2.2),h.2.2⟩ hd) hp
end
theorem bA0 {e:Expr} {Q:Bool->b9->Prop} (b₀:Bool) (h:Tst c loc own e (λb o=>b=b₀/\o=own) E) (hQ:Q b₀ own):Tst c loc own e Q E:=
 h.mono (λU U x=>x) (λU U U e=>⟨e.1,e.2.1▸e.2.2▸hQ⟩) λU U U U x=>x
theorem bQ3 {e:Expr} {Q:V->b9->Prop} (b₀:V) (h:Ev c loc own e (λb o=>b=b₀/\o=own) E) (hQ:Q b₀ own):Ev c loc own e Q E:=
 h.mono (λU U x=>x) (λ_ _ _ ⟨e,e2,e3⟩=>⟨e,e2▸e3▸hQ⟩) λU U U U x=>x
noncomputable def al0 (own:b9) (V:V):Prop:=∃T id,typeLookup (.type T) "__getitem__"=pure (some (.builtin id))/\aC7 T own V
theorem bQ4 {value slice:Expr} {pos:Pos} {Q:V->b9->Prop}
  (h:Ev c loc own value (λV₁ o₁=>Ev c loc o₁ slice (λV₂ o₂=>al0 o₂ V₁/\ap0 c loc o₂ V₁ V₂ Q E) E) E)
  (hs:∀o i,subscripted slice false o i=operate [o,i] (getItem o i):=by intro _ _;rfl):Ev c loc own (.Subscript value slice pos) Q E:=by
 intro F A μ s S p
 refine Subscript_ (h.runV S p (λU U y=>y) λv s₁ V₁ o₁ m₁ q r₁ S₁ P₁ K₁=>?_)
 refine q.runV S₁ trivial (λU U y=>y.lift P₁ K₁) λi s₂ V₂ o₂ m₂ q r₂ S₂ P₂ K₂=>?_
 rcases q with⟨⟨T,id,hl,ht⟩,q₂⟩
 exact tail_any (ag0 S₂ ht (r₁.pres P₂)).1 hl (wpAny_mono (q₂ v i F A m₂ s₂ S₂ ⟨r₁.pres P₂,r₂⟩) (λU U y=>(y.lift P₂ K₂).lift P₁ K₁) λU U y=>(y.lift P₂ K₂).lift P₁ K₁) (hs v i)
theorem bm8 {value:Expr} {lo hi st:Option Expr} {p pos:Pos} {Q:V->b9->Prop}
  (h:Ev c loc own value (λV₁ o₁=>EvP c loc o₁ lo (λVl o₂=>EvP c loc o₂ hi (λVu o₃=>EvP c loc o₃ st (λVs o₄=>al0 o₄ V₁/\ag1 c loc o₄ V₁ Vl Vu Vs Q E) E) E) E) E):
  Ev c loc own (.Subscript value (.Slice lo hi st p) pos) Q E:=by
 intro F A μ s S _
 refine Subscript_ (h.runV S trivial (λU U y=>y) λv s₁ V₁ o₁ m₁ q r₁ S₁ P₁ K₁=>?_)
 refine wpAny_Slice (q.runV S₁ trivial (λU U y=>y.lift P₁ K₁) λvl s₂ Vl o₂ m₂ q r₂ S₂ P₂ K₂=>?_)
 have K12:=K₁.trans K₂
 have P12:=P₁.trans P₂
 refine q.runV S₂ trivial (λU U y=>y.lift P12 K12) λvu s₃ Vu o₃ m₃ q r₃ S₃ P₃ K₃=>?_
 have K13:=K12.trans K₃
 have P13:=P12.trans P₃
 refine q.runV S₃ trivial (λU U y=>y.lift P13 K13) λvs s₄ Vs o₄ m₄ q r₄ S₄ P₄ K₄=>?_
 rcases q with⟨⟨T,id,hl,ht⟩,q⟩
 have K14:=K13.trans K₄
 have P14:=P13.trans P₄
 have r1':=r₁.pres (P₂.trans (P₃.trans P₄))
 have tI:=(ag0 S₄ ht r1').1
 have fin:=wpAny_mono (q F A m₄ s₄ v vl vu vs S₄ r1' (r₂.pres (P₃.trans P₄)) (r₃.pres P₄) r₄) (λU U y=>y.lift P14 K14) (λU U y=>y.lift P14 K14)
 have tI':({s₄ with heap:=s₄.heap.push (ab5 vl vu vs)}:Shared).TypeIs v T:=by
  cases v<;>first | exact tI | skip
  obtain⟨o,e,hc⟩:=tI
  exact⟨o,Heap.get?_push_of_some _ e,hc⟩
 cases st with
 | none=>exact tail_any (ops:=[.ref s₄.heap.objs.size,v]) tI' hl fin rfl
 | some _=>exact tail_any (ops:=[v,.ref s₄.heap.objs.size]) tI' hl fin rfl
section
variable {V₁ V₂ Vl Vu x:V} {xs:List V} {Q:V->b9->Prop} {i:Int} {lo hi:Option Int}
theorem al0.l (L:j4 own V₁ xs):al0 own V₁:=⟨_,_,list_getitem_lookup,L.ty⟩
theorem al0.t:al0 own (.tup xs):=⟨_,_,F.slot_tuple_getitem.lookup,rfl⟩
theorem al0.b {b:List UInt8}:al0 own (.bytes b):=⟨_,_,FB.slot_bytes_getitem.lookup,rfl⟩
theorem al0.d {K:Type} [DecidableEq K] [DK K] {es:List (K×V)} (L:A1 own V₁ es):al0 own V₁:=⟨_,_,F.slot_dict_getitem.lookup,L.ty⟩
end
section
variable {o:Expr} {apos pos:Pos} {args:List Expr} {Q:V->b9->Prop}
end
theorem U1 {α:Type} (xs:List α) (k:Nat):cut xs (some (k:Int)) none=xs.drop k:=by
 show(xs.drop (clipAt xs.length k)).take (xs.length-clipAt xs.length k)=_
 rw[clipAt_nat,dd8 (by rw[dh9];exact cX5 _)]
 rcases Nat.le_total k xs.length with h | h
 ·rw[Nat.min_eq_left h]
 ·rw[Nat.min_eq_right h,dd7,List.drop_eq_nil_of_le h]
theorem Z6 {α:Type} (xs:List α) (k:Nat):cut xs none (some (k:Int))=xs.take k:=by
 show(xs.drop 0).take (clipAt xs.length k-0)=_
 rw[clipAt_nat,do2,Nat.sub_zero]
 rcases Nat.le_total k xs.length with h | h
 ·rw[Nat.min_eq_left h]
 ·rw[Nat.min_eq_right h,cY5,dd8 h]
end
section
abbrev e9:=List (Option V)
abbrev XQ:=Addr->V->e9->b9->Prop
abbrev SQ:=Fl->e9->b9->Prop
abbrev LQ:=e9->b9->Prop
structure o8 where
 k:Nat
 fv:e9
 E:XQ
abbrev x4:=List V->e9->b9->Prop
abbrev D7:=Bool->List V->e9->b9->Prop
abbrev WE:=o8->x4->List V->e9->b9->Prop
abbrev WT:=o8->D7->List V->e9->b9->Prop
abbrev WS:=o8->SQ->e9->b9->Prop
abbrev WA:=o8->LQ->V->e9->b9->Prop
abbrev NoE:XQ:=λU U U U=>False
inductive Ix | z | s (i:Ix)
noncomputable def X3:List Str->Ix->Option Str
 | [],_=>none
 | x::_,.z=>some x
 | _::r,.s i=>X3 r i
noncomputable def aw1:e9->Ix->Option V
 | [],_=>none
 | x::_,.z=>x
 | _::r,.s i=>aw1 r i
noncomputable def ac8:e9->Ix->V->e9
 | [],_,_=>[]
 | _::r,.z,v=>some v::r
 | x::r,.s i,v=>x::ac8 r i v
theorem F8:∀(l:e9) (i:Ix) (v:V),(ac8 l i v).length=l.length
 | [],_,_=>rfl
 | _::_,.z,_=>rfl
 | _::r,.s i,v=>congrArg (·+1) (F8 r i v)
theorem an2:∀{l:e9} {i:Ix},X3 ns i=some x->aw1 l i=some v->(x,some v)∈ns.zip l:=by
 induction ns with
 | nil=>exactλh=>nomatch h
 | cons y ns ih=>
  intro l i h1 h2
  cases l with
  | nil=>cases h2
  | cons w l=>cases i with
   | z=>cases h1;cases (show w=some v from h2);exact .head _
   | s i=>exact .tail _ (ih h1 h2)
theorem W1 (v:V):∀{l:e9} {i:Ix},X3 ns i=some x->l.length=ns.length->N0 x (some v) (ns.zip l) (ns.zip (ac8 l i v)):=by
 induction ns with
 | nil=>exactλh=>nomatch h
 | cons y ns ih=>
  intro l i h1 h2
  cases l with
  | nil=>cases h2
  | cons w l=>cases i with
   | z=>cases h1;exact .head
   | s i=>exact .tail (ih h1 (Nat.succ.inj h2))
theorem an3:∀{i:Ix},X3 ns i=some x->x∈ns:=by
 induction ns with
 | nil=>exactλh=>nomatch h
 | cons y ns ih=>
  intro i h
  cases i with
  | z=>cases h;exact .head _
  | s i=>exact .tail _ (ih h)
structure DC where
 sc:Scope
 ns:List Str
 os:List Str
 cs:List Str
 comp:Bool
noncomputable def ac9 (ns:List Str):Bool:=ns.all λx=>!(x == ("__debug__":Str))
structure H2 (c:Cx) (D:DC) (P:o8):Prop where
 ok:Ok
 sc:c.env.scope=D.sc
 hd:c.hd=none
 k:c.k=P.k+2
 comp:c.comp=D.comp
 dbg:ac9 D.ns=true
 dbo:ac9 D.os=true
 fl:D.comp=true->c.floc=D.os.zip P.fv
 cap:∀x∈D.cs,Cap c x
theorem aE1 (h:ac9 ns=true) (hx:x∈ns):(x == ("__debug__":Str))=false:=by
 have:=cX0.mp h x hx;simpa using this
structure Li (D:DC) (l:f8) (w:e9):Prop where
 e:l=D.ns.zip w
 n:w.length=D.ns.length
noncomputable def EL (D:DC) (E:XQ):XP:=λC t l o=>∃w,Li D l w/\E C t w o
noncomputable def QL (D:DC) (Q:SQ):Fl->f8->b9->Prop:=λF l o=>∃w,Li D l w/\Q F w o
noncomputable def AL (D:DC) (Q:LQ):f8->b9->Prop:=λl o=>∃w,Li D l w/\Q w o
noncomputable def U2 (K:x4) (stk:List V) (l:e9) (V:V) (o:b9):Prop:=K (V::stk) l o
noncomputable def aM5 (K:D7) (stk:List V) (l:e9) (b:Bool) (o:b9):Prop:=K b stk l o
noncomputable def kX (P:o8) (l:e9) (C:Addr) (t:V) (o:b9):Prop:=P.E C t l o
noncomputable def bf5:List V->List V->List V
 | [],stk=>stk
 | v::vs,stk=>bf5 vs (v::stk)
structure k6 (D:DC) (f:WE) (e:Expr):Prop where
 go:∀{P c l own stk K},H2 c D P->l.length=D.ns.length->f P K stk l own->Ev c (D.ns.zip l) own e (U2 K stk l) (EL D P.E)
structure H3 (D:DC) (f:WT) (e:Expr):Prop where
 go:∀{P c l own stk K},H2 c D P->l.length=D.ns.length->f P K stk l own->Tst c (D.ns.zip l) own e (aM5 K stk l) (EL D P.E)
structure aq1 (D:DC) (op:BoolOp) (f:WT) (es:List Expr):Prop where
 go:∀{P c l own stk K},H2 c D P->l.length=D.ns.length->f P K stk l own->Z1 c (D.ns.zip l) own op es (aM5 K stk l) (EL D P.E)
noncomputable def ay2:Ix->List V->Bool
 | .z,[]=>true
 | .s n,_::r=>ay2 n r
 | _,_=>false
structure al1 (D:DC) (n:Ix) (f:WE) (es:List Expr):Prop where
 go:∀{P c l own stk K} {pos:Pos},H2 c D P->l.length=D.ns.length->f P K stk l own->Evs c (D.ns.zip l) own pos es (λVs o=>ay2 n Vs=true/\K (bf5 Vs stk) l o) (EL D P.E)
 plain:∀env,A0 es env
structure S7 (D:DC) (f:WS) (s:Stmt):Prop where
 go:∀{P c l own Q},H2 c D P->l.length=D.ns.length->f P Q l own->Ex c (D.ns.zip l) own s (QL D Q) (EL D P.E)
structure B0 (D:DC) (f:WS) (s:List Stmt):Prop where
 go:∀{P c l own Q},H2 c D P->l.length=D.ns.length->f P Q l own->Exs c (D.ns.zip l) own s (QL D Q) (EL D P.E)
structure al2 (D:DC) (f:WA) (t:Expr):Prop where
 go:∀{P c l own V Q},H2 c D P->l.length=D.ns.length->f P Q V l own->Asg c (D.ns.zip l) own t V (AL D Q) (EL D P.E)
end
section
section
variable {c:Cx} {loc:f8} {own:b9} {E:XP} {D:DC} {P:o8} {l:e9}
theorem Ev.to {e:Expr} {Q Q':V->b9->Prop} (h:Ev c loc own e Q E) (f:∀V o,Q V o->Q' V o):Ev c loc own e Q' E:=T3.mono h (λU U x=>x) (λU U U q=>⟨q.1,f _ _ q.2⟩) λU U U U x=>x
theorem Tst.to {e:Expr} {Q Q':Bool->b9->Prop} (h:Tst c loc own e Q E) (f:∀V o,Q V o->Q' V o):Tst c loc own e Q' E:=T3.mono h (λU U x=>x) (λU U U q=>⟨q.1,f _ _ q.2⟩) λU U U U x=>x
theorem Evs.to {e:List Expr} {pos:Pos} {Q Q':List V->b9->Prop} (h:Evs c loc own pos e Q E) (f:∀V o,Q V o->Q' V o):Evs c loc own pos e Q' E:=T3.mono h (λU U x=>x) (λU U U q=>⟨q.1,f _ _ q.2⟩) λU U U U x=>x
theorem Ex.to {e:Stmt} {Q Q':Fl->f8->b9->Prop} (h:Ex c loc own e Q E) (f:∀F l o,Q F l o->Q' F l o):Ex c loc own e Q' E:=T3.mono h (λU U x=>x) f λU U U U x=>x
theorem Exs.to {e:List Stmt} {Q Q':Fl->f8->b9->Prop} (h:Exs c loc own e Q E) (f:∀F l o,Q F l o->Q' F l o):Exs c loc own e Q' E:=T3.mono h (λU U x=>x) f λU U U U x=>x
theorem Asg.to {t:Expr} {V:V} {Q Q':f8->b9->Prop} (h:Asg c loc own t V Q E) (f:∀l o,Q l o->Q' l o):Asg c loc own t V Q' E:=λv=>T3.mono (h v) (λU U x=>x) (λU=>f) λU U U U x=>x
theorem Li.mk' (h:l.length=D.ns.length):Li D (D.ns.zip l) l:=⟨rfl,h⟩
theorem Li.set {i:Ix} {v:V} (h:l.length=D.ns.length):Li D (D.ns.zip (ac8 l i v)) (ac8 l i v):=⟨rfl,(F8 l i v).trans h⟩
theorem B0.at {r:List Stmt} {f:WS} (h:B0 D f r) (g:H2 c D P) {loc:f8} {w:e9} (a:Li D loc w) {Q:SQ} (x:f P Q w own):Exs c loc own r (QL D Q) (EL D P.E):=a.e▸h.go g a.n x
theorem al2.at {t:Expr} {f:WA} (h:al2 D f t) (g:H2 c D P) {loc:f8} {w:e9} (a:Li D loc w) {V:V} {Q:LQ} (x:f P Q V w own):Asg c loc own t V (AL D Q) (EL D P.E):=a.e▸h.go g a.n x
theorem H3.at {t:Expr} {f:WT} (h:H3 D f t) (g:H2 c D P) {loc:f8} {w:e9} (a:Li D loc w) {K:D7} {stk:List V} (x:f P K stk w own):Tst c loc own t (aM5 K stk w) (EL D P.E):=a.e▸h.go g a.n x
theorem k6.at {t:Expr} {f:WE} (h:k6 D f t) (g:H2 c D P) {loc:f8} {w:e9} (a:Li D loc w) {K:x4} {stk:List V} (x:f P K stk w own):Ev c loc own t (U2 K stk w) (EL D P.E):=a.e▸h.go g a.n x
end
noncomputable def wK (v:V) (_P:o8) (K:x4) (stk:List Mine.V) (l:e9) (o:b9):Prop:=K (v::stk) l o
noncomputable def wV (i:Ix) (_P:o8) (K:x4) (stk:List Mine.V) (l:e9) (o:b9):Prop:=match aw1 l i with | some v=>K (v::stk) l o | none=>False
noncomputable def wC (i:Ix) (P:o8) (K:x4) (stk:List Mine.V) (l:e9) (o:b9):Prop:=match aw1 P.fv i with | some v=>K (v::stk) l o | none=>False
section
variable {D:DC} {pos:Pos} {k:Nat}
theorem w6:k6 D (wK .none) (.Constant .none k pos):=.mk λU U h=>bN0 h
theorem s5 {b:Bool}:k6 D (wK (.bool b)) (.Constant (.bool b) k pos):=.mk λU U h=>bN1 h
theorem b8 {i:Int}:k6 D (wK (.int i)) (.Constant (.int i) k pos):=.mk λU U h=>cf0 h
theorem d0 {x:Str}:k6 D (wK (.str x)) (.Constant (.str x) k pos):=.mk λU U h=>bt9 h
theorem c9 {b:List UInt8}:k6 D (wK (.bytes b)) (.Constant (.bytes b) k pos):=.mk λU U h=>bu0 h
theorem a9 (i:Ix) {x:Str} (hi:X3 D.ns i=some x):k6 D (wV i) (.Name x pos):=.mk λ{_ _ l _ _ _} g _ h=>by
 unfold wV at h
 cases e:aw1 l i with
 | none=>rw[e] at h;exact h.elim
 | some v=>rw[e] at h;exact ab1 (an2 hi e) h (aE1 g.dbg (an3 hi))
theorem B1 (i:Ix) {x:Str} (hi:X3 D.os i=some x) (hf:D.cs.contains x=true):k6 D (wC i) (.Name x pos):=.mk λ{P _ _ _ _ _} g _ h=>by
 unfold wC at h
 have hc:=g.cap x (dc0.mp hf)
 cases e:aw1 P.fv i with
 | none=>rw[e] at h;exact h.elim
 | some v=>rw[e] at h;exact aW5 hc (by rw[g.fl (g.comp.symm.trans hc.1)];exact an2 hi e) h (aE1 g.dbo (an3 hi))
noncomputable def isG (D:DC) (x:Str):Bool:=D.sc.names.lookup x == some .globalImplicit&&!(x == ("__debug__":Str))
theorem J0 {c:Cx} {P:o8} {x:Str} (g:H2 c D P) (h:isG D x=true):c.env.kindOf x=some .globalImplicit/\(x == ("__debug__":Str))=false:=by
 rcases cX6.mp h with⟨a,b⟩
 exact⟨bf3 g.sc (by simpa using a),by simpa using b⟩
theorem x6 (j:Nat) {x:Str} {v:V} (hj:(au9 fa)[j]?=some (x,v)) (h:isG D x=true):k6 D (wK v) (.Name x pos):=.mk λg U q=>
 I3 g.ok.ok (g.ok.gv j (x,v) hj) (J0 g h).1 q (J0 g h).2
end
noncomputable def s8 (op:Operator) (V₁ V₂:V) (o:b9) (Q:V->b9->Prop):Prop:=∀c loc E,af8 c loc o op V₁ V₂ Q E
noncomputable def f7 (op:CmpOp) (V₁ V₂:V) (o:b9) (Q:V->b9->Prop):Prop:=∀c loc E,y7 c loc o op V₁ V₂ Q E
noncomputable def l0 (f:Value) (Vs:List V) (o:b9) (Q:V->b9->Prop):Prop:=∀c loc E,c.hd=none->u4 c loc o f Vs Q E
noncomputable def L8 (op:Operator) (V₁ V₂:V) (o:b9) (Q:V->b9->Prop):Prop:=match V₁ with
 | .int a=>(match V₂ with
  | .int b=>(match op with
   | .Add=>Q (.int (a+b)) o
   | .Sub=>Q (.int (a-b)) o
   | _=>s8 op (.int a) (.int b) o Q)
  | V₂=>s8 op (.int a) V₂ o Q)
 | V₁=>s8 op V₁ V₂ o Q
theorem bA1 {op:Operator} {V₁ V₂:V} {o:b9} {Q:V->b9->Prop} (h:L8 op V₁ V₂ o Q):s8 op V₁ V₂ o Q:=by
 cases V₁ with
 | int a=>cases V₂ with
  | int b=>cases op with
   | Add=>exactλU U U=>cr1 h
   | Sub=>exactλU U U=>cr2 h
   | _=>exact h
  | _=>exact h
 | _=>exact h
noncomputable def p9 (op:CmpOp) (V₁ V₂:V) (o:b9) (Q:V->b9->Prop):Prop:=match V₁ with
 | .int a=>(match V₂ with
  | .int b=>(match op with
   | .Eq=>Q (.bool (decide (a=b))) o
   | .NotEq=>Q (.bool (!decide (a=b))) o
   | .Lt=>Q (.bool (decide (a<b))) o
   | .LtE=>Q (.bool (decide (a<=b))) o
   | .Gt=>Q (.bool (decide (b<a))) o
   | .GtE=>Q (.bool (decide (b<=a))) o
   | _=>f7 op (.int a) (.int b) o Q)
  | V₂=>f7 op (.int a) V₂ o Q)
 | .bytes a=>(match V₂ with
  | .bytes b=>(match op with
   | .Eq=>Q (.bool (decide (a=b))) o
   | .NotEq=>Q (.bool (!decide (a=b))) o
   | _=>f7 op (.bytes a) (.bytes b) o Q)
  | V₂=>f7 op (.bytes a) V₂ o Q)
 | .str a=>(match V₂ with
  | .str b=>(match op with
   | .Eq=>Q (.bool (decide (a=b))) o
   | .NotEq=>Q (.bool (!decide (a=b))) o
   | _=>f7 op (.str a) (.str b) o Q)
  | V₂=>f7 op (.str a) V₂ o Q)
 | V₁=>f7 op V₁ V₂ o Q
theorem cu5 (a b:List UInt8):(a == b)=decide (a=b):=by
 by_cases h:a=b
 ·rw[decide_eq_true h];exact beq_iff_eq.mpr h
 ·rw[decide_eq_false h];exact beq_eq_false_iff_ne.mpr h
theorem cu6 (a b:Str):(a == b)=decide (a=b):=by
 by_cases h:a=b
 ·rw[decide_eq_true h];exact beq_iff_eq.mpr h
 ·rw[decide_eq_false h];exact beq_eq_false_iff_ne.mpr h
theorem ad0 {op:CmpOp} {V₁ V₂:V} {o:b9} {Q:V->b9->Prop} (h:p9 op V₁ V₂ o Q):f7 op V₁ V₂ o Q:=by
 cases V₁ with
 | int a=>cases V₂ with
  | int b=>cases op with
   | Eq=>exactλU U U=>cD3 h
   | NotEq=>exactλU U U=>cD4 h
   | Lt=>exactλU U U=>cD5 h
   | LtE=>exactλU U U=>cD6 h
   | Gt=>exactλU U U=>cD7 h
   | GtE=>exactλU U U=>cD8 h
   | _=>exact h
  | _=>exact h
 | bytes a=>cases V₂ with
  | bytes b=>cases op with
   | Eq=>exactλU U U=>cE8 ((cu5 a b).symm▸h)
   | NotEq=>exactλU U U=>cE9 ((cu5 a b).symm▸h)
   | _=>exact h
  | _=>exact h
 | str a=>cases V₂ with
  | str b=>cases op with
   | Eq=>exactλU U U=>cF0 ((cu6 a b).symm▸h)
   | NotEq=>exactλU U U=>cF1 ((cu6 a b).symm▸h)
   | _=>exact h
  | _=>exact h
 | _=>exact h
noncomputable def cF5 (op:Operator) (P:o8) (K:x4):x4:=λstk l o=>match stk with | W::V::stk=>L8 op V W o (U2 K stk l) | _=>False
noncomputable def cF6 (op:Operator) (a b:WE) (P:o8) (K:x4) (stk:List V) (l:e9) (o:b9):Prop:=a P (b P (cF5 op P K)) stk l o
noncomputable def cF7 (K:x4):x4:=λstk l o=>match stk with | .int i::stk=>K (.int (-i)::stk) l o | _=>False
noncomputable def cF8 (a:WE) (P:o8) (K:x4) (stk:List V) (l:e9) (o:b9):Prop:=a P (cF7 K) stk l o
noncomputable def cu7 (op:CmpOp) (P:o8) (K:x4):x4:=λstk l o=>match stk with | W::V::stk=>p9 op V W o (U2 K stk l) | _=>False
noncomputable def cu8 (op:CmpOp) (a b:WE) (P:o8) (K:x4) (stk:List V) (l:e9) (o:b9):Prop:=a P (b P (cu7 op P K)) stk l o
noncomputable def kTB (K:D7):x4:=λstk l o=>match stk with | .bool b::stk=>K b stk l o | _=>False
noncomputable def cF9 (op:CmpOp) (a b:WE) (P:o8) (K:D7) (stk:List V) (l:e9) (o:b9):Prop:=cu8 op a b P (kTB K) stk l o
noncomputable def cG0 (op':CmpOp) (d:WE) (P:o8) (K:D7) (X:V):D7:=λt stk l o=>if t=true then d P (cu7 op' P (kTB K)) (X::stk) l o else K false stk l o
noncomputable def cu9 (op op':CmpOp) (d:WE) (P:o8) (K:D7):x4:=λstk l o=>match stk with | W::V::stk=>p9 op V W o (U2 (kTB (cG0 op' d P K W)) stk l) | _=>False
noncomputable def cv0 (op op':CmpOp) (a b d:WE) (P:o8) (K:D7) (stk:List V) (l:e9) (o:b9):Prop:=a P (b P (cu9 op op' d P K)) stk l o
noncomputable def ch6 (a:WE) (P:o8) (K:D7) (stk:List V) (l:e9) (o:b9):Prop:=a P (kTB K) stk l o
noncomputable def cG1 (K:D7):D7:=λb stk l o=>K (!b) stk l o
noncomputable def cG2 (a:WT) (P:o8) (K:D7) (stk:List V) (l:e9) (o:b9):Prop:=a P (cG1 K) stk l o
noncomputable def cG3 (b:Bool) (_P:o8) (K:D7) (stk:List V) (l:e9) (o:b9):Prop:=K b stk l o
noncomputable def cG4 (r:WT) (P:o8) (K:D7):D7:=λb stk l o=>if b=true then r P K stk l o else K false stk l o
noncomputable def cG5 (a r:WT) (P:o8) (K:D7) (stk:List V) (l:e9) (o:b9):Prop:=a P (cG4 r P K) stk l o
noncomputable def kOr (r:WT) (P:o8) (K:D7):D7:=λb stk l o=>if b=true then K true stk l o else r P K stk l o
noncomputable def tOr (a r:WT) (P:o8) (K:D7) (stk:List V) (l:e9) (o:b9):Prop:=a P (kOr r P K) stk l o
noncomputable def cG6 (a b:WE) (P:o8) (K:x4):D7:=λt stk l o=>if t=true then a P K stk l o else b P K stk l o
noncomputable def cv1 (t:WT) (a b:WE) (P:o8) (K:x4) (stk:List V) (l:e9) (o:b9):Prop:=t P (cG6 a b P K) stk l o
noncomputable def cv2 (a b:WT) (P:o8) (K:D7):D7:=λt stk l o=>if t=true then a P K stk l o else b P K stk l o
noncomputable def cG7 (t a b:WT) (P:o8) (K:D7) (stk:List V) (l:e9) (o:b9):Prop:=t P (cv2 a b P K) stk l o
noncomputable def kEq (v:V) (o₀:b9):x4:=λstk U o=>match stk with | [V]=>V=v/\o=o₀ | _=>False
noncomputable def cG8 (v:Bool) (o₀:b9):D7:=λb U U o=>b=v/\o=o₀
inductive ca2 (a:WE) (P:o8) (K:x4) (stk:List V) (l:e9) (o:b9):Prop
 | mk (v:V) (h:a P (kEq v o) [] l o) (q:K (v::stk) l o)
inductive cv3 (a:WT) (P:o8) (K:D7) (stk:List V) (l:e9) (o:b9):Prop
 | mk (b:Bool) (h:a P (cG8 b o) [] l o) (q:K b stk l o)
noncomputable def cv4 (b:WE) (P:o8) (K:x4):D7:=λt stk l o=>if t=true then b P K stk l o else K (.bool false::stk) l o
noncomputable def cv5 (a b:WE) (P:o8) (K:x4) (stk:List V) (l:e9) (o:b9):Prop:=a P (kTB (cv4 b P K)) stk l o
theorem aq2 {K:D7} {stk:List V} {l:e9} {V:V} {o:b9} (h:U2 (kTB K) stk l V o):∃b,V=.bool b/\aM5 K stk l b o:=by
 cases V with
 | bool b=>exact⟨b,rfl,h⟩
 | _=>exact h.elim
section
variable {D:DC} {pos:Pos} {x y z:Expr}
theorem d6 {op:Operator} {a b:WE} (ha:k6 D a x) (hb:k6 D b y):k6 D (cF6 op a b) (.BinOp x op y pos):=.mk λg n h=>
 bt7 ((ha.go g n h).to λU U h=>(hb.go g n h).to λU U h=>bA1 h _ _ _)
theorem an4 {a:WE} (ha:k6 D a x):k6 D (cF8 a) (.UnaryOp .USub x pos):=.mk λg n h=>
 bu1 ((ha.go g n h).to λV U h=>by
  cases V with
  | int i=>exact cr8 h
  | _=>exact h.elim)
theorem H4 {op:CmpOp} {a b:WE} (ha:k6 D a x) (hb:k6 D b y) (hm:behindInMarks op y=false):k6 D (cu8 op a b) (.Compare x [op] [y] pos):=.mk λg n h=>
 cf1 ((ha.go g n h).to λU U h=>(hb.go g n h).to λU U h=>ad0 h _ _ _) hm
theorem y7.to {op:CmpOp} {V₁ V₂:V} {c:Cx} {loc:f8} {own:b9} {E:XP} {Q Q':V->b9->Prop} (h:y7 c loc own op V₁ V₂ Q E) (f:∀V o,Q V o->Q' V o):y7 c loc own op V₁ V₂ Q' E:=λv₁ v₂=>T3.mono (h v₁ v₂) (λU U x=>x) (λU U U q=>⟨q.1,f _ _ q.2⟩) λU U U U x=>x
theorem c6 {op:CmpOp} {a b:WE} (ha:k6 D a x) (hb:k6 D b y) (hm:behindInMarks op y=false):H3 D (cF9 op a b) (.Compare x [op] [y] pos):=.mk λg n h=>
 bN5 ((ha.go g n h).to λU U h=>(hb.go g n h).to λU U h=>y7.to (ad0 h _ _ _) λU U=>aq2) hm
theorem F4 {op op':CmpOp} {a b d:WE} (ha:k6 D a x) (hb:k6 D b y) (hd:k6 D d z) (hm:behindInMarks op' z=false):H3 D (cv0 op op' a b d) (.Compare x [op,op'] [y,z] pos):=.mk λg n h=>
 bu4 ((ha.go g n h).to λU U h=>(hb.go g n h).to λU U h=>y7.to (ad0 h _ _ _) λU U h=>(aq2 h).imp λb h=>⟨h.1,by
  cases b with
  | false=>exact h.2
  | true=>exact(hd.go g n h.2).to λU U h=>y7.to (ad0 h _ _ _) λU U=>aq2⟩) hm
theorem g9 {a:WE} (ha:k6 D a x) (he:∀env whole,isTrue x env whole=(do let v <-whole;standAt x.pos;holding [v] (truthy v))):H3 D (ch6 a) x:=.mk λg n h=>
 bi9 ((ha.go g n h).to λU U=>aq2) (he _)
theorem C0 {a:WT} (ha:H3 D a x):H3 D (cG2 a) (.UnaryOp .Not x pos):=.mk λg n h=>bN3 (ha.go g n h)
theorem m7 {op:BoolOp} {es:List Expr} {f:WT} (h:aq1 D op f es):H3 D f (.BoolOp op es pos):=.mk λg n q=>bu2 (h.go g n q)
theorem y2 (ha:H3 D a x) (hr:aq1 D .And r es):aq1 D .And (cG5 a r) (x::es):=.mk λg n h=>ao6 ((ha.go g n h).to λb U h=>by
 cases b with
 | false=>exact h
 | true=>exact hr.go g n h)
theorem H5 (ha:H3 D a x) (hr:aq1 D .Or r es):aq1 D .Or (tOr a r) (x::es):=.mk λg n h=>ax1 ((ha.go g n h).to λb U h=>by
 cases b with
 | false=>exact hr.go g n h
 | true=>exact h)
theorem w7 (ha:H3 D a x):aq1 D .And a [x]:=.mk λ{_ _ _ _ _ _} g n h=>ao6 ((ha.go g n h).to λb U h=>by
 cases b with
 | false=>exact h
 | true=>exact ao5 h)
theorem J1 (ha:H3 D a x):aq1 D .Or a [x]:=.mk λ{_ _ _ _ _ _} g n h=>ax1 ((ha.go g n h).to λb U h=>by
 cases b with
 | false=>exact ao5 h
 | true=>exact h)
theorem C3 (ht:H3 D t x) (ha:k6 D a y) (hb:k6 D b z):k6 D (cv1 t a b) (.IfExp x y z pos):=.mk λg n h=>bu5 ((ht.go g n h).to λt U h=>by
 cases t with
 | false=>exact hb.go g n h
 | true=>exact ha.go g n h)
theorem bA2 (ht:H3 D t x) (ha:H3 D a y) (hb:H3 D b z):H3 D (cG7 t a b) (.IfExp x y z pos):=.mk λg n h=>bj0 ((ht.go g n h).to λt U h=>by
 cases t with
 | false=>exact hb.go g n h
 | true=>exact ha.go g n h)
theorem bA3 (ha:k6 D a x):k6 D (ca2 a) x:=.mk λg n ⟨v,h,q⟩=>bQ3 v (ha.go g n h) q
theorem j3 (ha:H3 D a x):H3 D (cv3 a) x:=.mk λg n ⟨v,h,q⟩=>bA0 v (ha.go g n h) q
theorem N3 {t:WT} {a b:WE} (ht:H3 D t x) (ha:k6 D a y) (hb:k6 D b z):k6 D (ca2 (cv1 t a b)) (.IfExp x y z pos):=bA3 (C3 ht ha hb)
theorem aM6 (ha:k6 D a x) (hb:k6 D b y):k6 D (cv5 a b) (.BoolOp .And [x,y] pos):=.mk λg n h=>bN4 (aU2 ((ha.go g n h).to λU U h=>(aq2 h).imp λb h=>⟨h.1,by
 cases b with
 | false=>exact h.2
 | true=>exact aU1 (hb.go g n h.2)⟩))
end
end
section
noncomputable def cG9 (_P:o8) (K:x4) (stk:List V) (l:e9) (o:b9):Prop:=K stk l o
noncomputable def cv6 (a r:WE) (P:o8) (K:x4) (stk:List V) (l:e9) (o:b9):Prop:=a P (r P K) stk l o
noncomputable def eK:Expr->Nat
 | .Starred ..=>1
 | .Slice ..=>2
 | .Call ..=>3
 | _=>0
noncomputable def ag7 (e:Expr):Bool:=eK e != 1
theorem J2 {x:Expr} {es:List Expr} {env:Env} (h:ag7 x=true):starEach (x::es) env=(false,eval x env)::starEach es env:=by
 cases x<;>first | rfl | cases h
theorem bm9 {es:List Expr} {env:Env} {pos:Pos} (hp:A0 es env):(backTo pos (starEach es env)).any (·.1)=false:=hp.any pos
theorem ag8 (env:Env):A0 [] env:=.inl rfl
theorem Z7 {x:Expr} {es:List Expr} {env:Env} (hx:ag7 x=true) (h:A0 es env):A0 (x::es) env:=.inr ⟨_,_,J2 hx,λpos=>h.any pos⟩
section
variable {D:DC} {pos:Pos} {x:Expr} {es:List Expr}
theorem a8:al1 D .z cG9 []:=⟨λU U h=>aC6 ⟨rfl,h⟩,ag8⟩
theorem a6 {n:Ix} {a r:WE} (ha:k6 D a x) (hr:al1 D n r es) (hx:ag7 x=true):al1 D (.s n) (cv6 a r) (x::es):=
 ⟨λg n h=>ao9 ((ha.go g n h).to λU U h=>(hr.go g n h).to λU U h=>h) (J2 hx),λenv=>Z7 hx (hr.plain env)⟩
end
noncomputable def aw2:Ix->List V->List V->(List V->List V->Prop)->Prop
 | .z,stk,acc,k=>k acc stk
 | .s n,v::stk,acc,k=>aw2 n stk (v::acc) k
 | .s _,[],_,_=>False
theorem bn0 (Vs:List V):∀stk:List V,bf5 Vs stk=Vs.reverse++stk:=by
 induction Vs with
 | nil=>exactλU=>rfl
 | cons v Vs ih=>exactλstk=>(ih _).trans (by rw[de0,cW2];rfl)
theorem bA4 (n:Ix):∀{Vs stk acc:List V} {k:List V->List V->Prop},ay2 n Vs=true->aw2 n (Vs++stk) acc k->k (Vs.reverse++acc) stk:=by
 induction n with
 | z=>
  intro Vs _ _ _ hl h
  cases Vs with
  | nil=>exact h
  | cons=>cases hl
 | s n ih=>
  intro Vs _ _ _ hl h
  cases Vs with
  | nil=>cases hl
  | cons v Vs=>
   have:=ih (Vs:=Vs) hl h
   rwa [de0,cW2]
theorem bA5 {n:Ix}:∀{Vs Us:List V},Vs.length=Us.length->ay2 n Vs=true->ay2 n Us=true:=by
 induction n with
 | z=>
  intro Vs Us e h
  cases Us with
  | nil=>rfl
  | cons=>cases Vs with
   | nil=>cases e
   | cons=>cases h
 | s n ih=>
  intro Vs Us e h
  cases Vs with
  | nil=>cases h
  | cons=>cases Us with
   | nil=>cases e
   | cons=>exact ih (Nat.succ.inj e) h
theorem Q2 {n:Ix} {Vs stk:List V} {k:List V->List V->Prop} (hl:ay2 n Vs=true) (h:aw2 n (bf5 Vs stk) [] k):k Vs stk:=by
 rw[bn0] at h
 have:=bA4 n (bA5 (cZ0).symm hl) h
 rwa [dj7,cW6] at this
noncomputable def szL:List V->Prop:=λVs=>Vs.length<=sizeLine
noncomputable def cH1 (n:Ix) (K:x4):x4:=λstk l o=>aw2 n stk [] λVs stk=>szL Vs/\K (.tup Vs::stk) l o
noncomputable def cH2 (n:Ix) (a:WE) (P:o8) (K:x4) (stk:List V) (l:e9) (o:b9):Prop:=a P (cH1 n K) stk l o
noncomputable def cH3 (n:Ix) (K:x4):x4:=λstk l o=>aw2 n stk [] λVs stk=>szL Vs/\K (.lst Vs::stk) l o
noncomputable def cH4 (n:Ix) (a:WE) (P:o8) (K:x4) (stk:List V) (l:e9) (o:b9):Prop:=a P (cH3 n K) stk l o
noncomputable def cv7 (n:Ix) (K:x4):x4:=λstk l o=>aw2 n stk [] λVs stk=>szL Vs/\∀ad,o ad=none->K (.ref ad::stk) l (c7 o ad (some (.list Vs)))
noncomputable def cv8 (n:Ix) (a:WE) (P:o8) (K:x4) (stk:List V) (l:e9) (o:b9):Prop:=a P (cv7 n K) stk l o
noncomputable def cv9 (T:Type) [DecidableEq T] [DK T] (_P:o8) (K:x4) (stk:List V) (l:e9) (o:b9):Prop:=∀ad,o ad=none->K (.ref ad::stk) l (c7 o ad (some (DK.mkO ([]:List (T×V)))))
section
variable {D:DC} {pos:Pos} {es:List Expr} {k:Nat} {n:Ix}
theorem d7 {a:WE} (ha:al1 D n a es):k6 D (cH2 n a) (.Tuple es k pos):=.mk λg m h=>bv9 ((ha.go g m h).to λU U h=>Q2 h.1 h.2)
theorem w5 {a:WE} (ha:al1 D n a es):k6 D (cH4 n a) (.List es pos):=.mk λg m h=>bN7 ((ha.go g m h).to λU U h=>Q2 h.1 h.2)
theorem p6 {a:WE} (ha:al1 D n a es):k6 D (cv8 n a) (.List es pos):=.mk λg m h=>aU6 ((ha.go g m h).to λU U h=>Q2 h.1 h.2)
theorem N4 (T:Type) [DecidableEq T] [DK T]:k6 D (cv9 T) (.Dict [] [] pos):=.mk λU U h=>ac6 h
theorem aq3:k6 D (wK (.dct [])) (.Dict [] [] pos):=.mk λg U h=>aL8 g.ok.ok h
end
noncomputable def A7 (k i:Nat) (Vs:List V) (o:b9) (Q:V->b9->Prop) (EX:XC):Prop:=r9 none (k+2) (.ref (fa i)) Vs o Q EX
noncomputable def aw3 (k i j:Nat) (Vs:List V) (o:b9) (Q:V->b9->Prop) (EX:XC):Prop:=r9 none (k+2) (.ref (fm i j)) Vs o Q EX
inductive ch7 (P:o8) (f:Addr) (Vs:List V) (o:b9) (Q:V->b9->Prop) (EX:XC):Prop
 | mk (j:Nat) (h:Nat.ble j P.k=true) (c:r9 none (j+2) (.ref f) Vs o Q EX)
noncomputable def cH5 (i:Nat) (n:Ix) (P:o8) (K:x4):x4:=λstk l o=>aw2 n stk [] λVs stk=>ch7 P (fa i) Vs o (U2 K stk l) (kX P l)
noncomputable def cw0 (i:Nat) (n:Ix) (a:WE) (P:o8) (K:x4) (stk:List V) (l:e9) (o:b9):Prop:=a P (cH5 i n P K) stk l o
noncomputable def cH6 (f:Value) (n:Ix) (P:o8) (K:x4):x4:=λstk l o=>aw2 n stk [] λVs stk=>l0 f Vs o (U2 K stk l)
noncomputable def cw1 (f:Value) (n:Ix) (a:WE) (P:o8) (K:x4) (stk:List V) (l:e9) (o:b9):Prop:=a P (cH6 f n P K) stk l o
noncomputable def cH7 (id:String) (n:Ix) (P:o8) (K:x4):x4:=λstk l o=>aw2 (.s n) stk [] λVs stk=>l0 (.builtin id) Vs o (U2 K stk l)
noncomputable def kTy (T:String) (a:WE) (P:o8) (K:x4):x4:=λstk l o=>match stk with | V::stk=>aC7 T o V/\a P K (V::stk) l o | _=>False
noncomputable def cH8 (T id:String) (n:Ix) (ob a:WE) (P:o8) (K:x4) (stk:List V) (l:e9) (o:b9):Prop:=ob P (kTy T a P (cH7 id n P K)) stk l o
section
variable {D:DC} {pos np apos:Pos} {x:Str} {es:List Expr} {n:Ix}
theorem aE2 {c:Cx} {P:o8} {l:e9} {o:b9} {f:Addr} {Vs:List V} {Q:V->b9->Prop} (g:H2 c D P) (m:l.length=D.ns.length) (h:ch7 P f Vs o Q (kX P l)):u4 c (D.ns.zip l) o (.ref f) Vs Q (EL D P.E):=
 h.rec λU hj h=>bQ2 g.hd (g.k.symm▸cY7 (dd9 hj) 2) (h.mono (λU U q=>q) λU U U q=>⟨l,Li.mk' m,q⟩)
theorem c4 (j i:Nat) {a:WE} (hj:(au9 fa)[j]?=some (x,.val (.ref (fa i)))) (hi:fns.contains i=true) (hx:isG D x=true) (ha:al1 D n a es):k6 D (cw0 i n a) (.Call (.Name x np) es [] pos):=.mk λg m h=>
 bz9 g.ok (J0 g hx).1 (J0 g hx).2 (ha.plain _) ⟨i,g.ok.gv j (x,_) hj,hi,(ha.go g m h).to λU U h=>aE2 g m (Q2 h.1 h.2)⟩
theorem ad1 (j i:Nat) {a:WE} (hj:(au9 fa)[j]?=some (x,.val (.ref (fa i)))) (hi:(i=7\/i=8)\/i=39\/i=43) (hx:isG D x=true) (ha:al1 D n a es):k6 D (cw0 i n a) (.Call (.Name x np) es [] pos):=.mk λg m h=>
 bm7 g.ok (J0 g hx).1 (J0 g hx).2 (ha.plain _) ⟨i,g.ok.gv j (x,_) hj,hi,(ha.go g m h).to λU U h=>aE2 g m (Q2 h.1 h.2)⟩
theorem j5 (j:Nat) {a:WE} {id:String} (hj:(au9 fa)[j]?=some (x,.val (.builtin id))) (hx:isG D x=true) (ha:al1 D n a es):k6 D (cw1 (.builtin id) n a) (.Call (.Name x np) es [] pos):=.mk λg m h=>
 bm5 g.ok (J0 g hx).1 (J0 g hx).2 (ha.plain _) ⟨id,g.ok.gv j (x,_) hj,(ha.go g m h).to λU U h=>Q2 h.1 h.2 _ _ _ g.hd⟩
theorem p8 (j:Nat) {a:WE} {id:String} (hj:(au9 fa)[j]?=some (x,.val (.type id))) (hx:isG D x=true) (ha:al1 D n a es):k6 D (cw1 (.type id) n a) (.Call (.Name x np) es [] pos):=.mk λg m h=>
 bm6 g.ok (J0 g hx).1 (J0 g hx).2 (ha.plain _) ⟨id,g.ok.gv j (x,_) hj,(ha.go g m h).to λU U h=>Q2 h.1 h.2 _ _ _ g.hd⟩
abbrev aX2 (o:Expr):Prop:=(λ(a:Str) (env:Env) (w:Sem Value)=>attributeBase o a env w)=λU U w=>w
theorem N5 {o:Expr} {a:Str} {env:Env} {w:Sem Value} (h:aX2 o):attributeBase o a env w=w:=congrFun (congrFun (congrFun h a) env) w
theorem bA6 {es:List Expr} {env:Env} {pos:Pos} (hp:A0 es env) (hn:es.length<30):((backTo pos (starEach es env)).all (λx=>!x.1)&&(backToKw pos (keywordEach [] env)).all (λx=>x.1.isSome)&&decide (es.length+([]:List Keyword).length+(if([]:List Keyword).isEmpty then 0 else 1)<30))=true:=by
 rw[cY6,cY6]
 refine⟨⟨?_,rfl⟩,decide_eq_true hn⟩
 have:=bm9 (pos:=pos) hp
 rw[dm7] at this
 exact cX0.mpr λx hx=>by simpa using this x hx
theorem e7 {T id:String} {o:Expr} {name:Str} {ob a:WE} (pa:PlainAttrs T) (slot:Slot T name id) (hty:typeOf (.builtin id)=pure (.type "method_descriptor")) (hb:aX2 o) (hl:(apos.endLine == pos.line)=true) (hn:Nat.blt es.length 30=true)
  (ho:k6 D ob o) (ha:al1 D n a es):k6 D (cH8 T id n ob a) (.Call (.Attribute o name apos) es [] pos):=.mk λ{_ _ _ _ stk _} g m h=>
 bO0 pa slot hty ((ho.go g m h).to λV U h=>⟨h.1,(ha.go g m h.2).to λVs U h=>Q2 (Vs:=V::Vs) (stk:=stk) (n:=.s n) h.1 h.2 _ _ _ g.hd⟩) (ha.plain _) (N5 hb) (bA6 (ha.plain _) (Nat.blt_eq.mp hn)) hl
noncomputable def cH9 (i j:Nat) (n:Ix) (P:o8) (K:x4):x4:=λstk l o=>aw2 (.s n) stk [] λVs stk=>ch7 P (fm i j) Vs o (U2 K stk l) (kX P l)
inductive cI0 (C:Addr) (name:Str) (V:V) (o:b9) (R:Prop):Prop
 | mk (ad:Addr) (fs:List (Str×Mine.V)) (e:V=.ref ad) (h:o ad=some (.inst C fs)) (n:(fs.map (·.1)).contains name=false) (r:R)
noncomputable def cI1 (i:Nat) (name:Str) (a:WE) (P:o8) (K:x4):x4:=λstk l o=>match stk with | V::stk=>cI0 (fa i) name V o (a P K (V::stk) l o) | _=>False
noncomputable def cI2 (i j:Nat) (name:Str) (n:Ix) (ob a:WE) (P:o8) (K:x4) (stk:List V) (l:e9) (o:b9):Prop:=ob P (cI1 i name a P (cH9 i j n P K)) stk l o
theorem F7 (i j:Nat) {o:Expr} {name:Str} {ob a:WE} (hi:i=39\/i=43) (hm:(i,j,name)∈af4) (hb:aX2 o) (hl:(apos.endLine == pos.line)=true) (hn:Nat.blt es.length 30=true)
  (ho:k6 D ob o) (ha:al1 D n a es):k6 D (cI2 i j name n ob a) (.Call (.Attribute o name apos) es [] pos):=.mk λ{_ _ _ _ stk _} g m h=>
 bz3 g.ok.X ((ho.go g m h).to λU U h=>h.rec λad fs e ho hk h=>⟨ad,_,fs,_,e,ho,(g.ok.cls _ hi).1,(g.ok.meth _ hm).1,(g.ok.meth _ hm).2.1,(g.ok.meth _ hm).2.2.is,(λq=>dc2 (hk.symm.trans (dc0.mpr q))),(ha.go g m h).to λVs U h=>aE2 g m (Q2 (Vs:=.ref ad::Vs) (stk:=stk) (n:=.s n) h.1 (e▸h.2))⟩) (ha.plain _) (N5 hb) (bA6 (ha.plain _) (Nat.blt_eq.mp hn)) hl
end
noncomputable def Q3 (V₁ V₂:V) (o:b9) (Q:V->b9->Prop):Prop:=al0 o V₁/\∀c loc E,ap0 c loc o V₁ V₂ Q E
noncomputable def aq4 (V₁ Vl Vu Vs:V) (o:b9) (Q:V->b9->Prop):Prop:=al0 o V₁/\∀c loc E,ag1 c loc o V₁ Vl Vu Vs Q E
noncomputable def cI3 (P:o8) (K:x4):x4:=λstk l o=>match stk with | W::V::stk=>Q3 V W o (U2 K stk l) | _=>False
noncomputable def cI4 (a b:WE) (P:o8) (K:x4) (stk:List V) (l:e9) (o:b9):Prop:=a P (b P (cI3 P K)) stk l o
noncomputable def cI5 (P:o8) (K:x4):x4:=λstk l o=>match stk with | Vs::Vu::Vl::V::stk=>aq4 V Vl Vu Vs o (U2 K stk l) | _=>False
noncomputable def cI6 (a lo hi st:WE) (P:o8) (K:x4) (stk:List V) (l:e9) (o:b9):Prop:=a P (lo P (hi P (st P (cI5 P K)))) stk l o
structure bA7 (D:DC) (f:WE) (e:Option Expr):Prop where
 go:∀{P c l own stk K},H2 c D P->l.length=D.ns.length->f P K stk l own->EvP c (D.ns.zip l) own e (U2 K stk l) (EL D P.E)
inductive cI7 (C:Addr) (name:Str) (V:V) (K:x4) (stk:List Mine.V) (l:e9) (o:b9):Prop
 | mk (ad:Addr) (fs:List (Str×Mine.V)) (x:Mine.V) (e:V=.ref ad) (h:o ad=some (.inst C fs)) (m:(name,x)∈fs) (n:nOk x=true) (r:K (x::stk) l o)
noncomputable def cI8 (i:Nat) (name:Str) (P:o8) (K:x4):x4:=λstk l o=>match stk with | V::stk=>cI7 (fa i) name V K stk l o | _=>False
noncomputable def cI9 (i:Nat) (name:Str) (ob:WE) (P:o8) (K:x4) (stk:List V) (l:e9) (o:b9):Prop:=ob P (cI8 i name P K) stk l o
section
variable {D:DC} {pos sp:Pos} {x y:Expr}
noncomputable def ca3 (e:Expr):Bool:=eK e != 2
theorem aq5 {y:Expr} (h:ca3 y=true) (o i:Value):subscripted y false o i=operate [o,i] (getItem o i):=by
 cases y<;>first | rfl | cases h
theorem d5 {a b:WE} (ha:k6 D a x) (hb:k6 D b y) (hy:ca3 y=true):k6 D (cI4 a b) (.Subscript x y pos):=.mk λg n h=>
 bQ4 ((ha.go g n h).to λU U h=>(hb.go g n h).to λU U h=>⟨h.1,h.2 _ _ _⟩) (aq5 hy)
theorem f5:bA7 D (wK .none) none:=.mk λU U h=>bw5 h
theorem m8 {a:WE} (ha:k6 D a x):bA7 D a (some x):=.mk λg n h=>bw6 (ha.go g n h)
theorem EvP.to {c:Cx} {loc:f8} {own:b9} {E:XP} {e:Option Expr} {Q Q':V->b9->Prop} (h:EvP c loc own e Q E) (f:∀V o,Q V o->Q' V o):EvP c loc own e Q' E:=T3.mono h (λU U x=>x) (λU U U q=>⟨q.1,f _ _ q.2⟩) λU U U U x=>x
theorem u5 {a lo hi st:WE} {l u s:Option Expr} (ha:k6 D a x) (hl:bA7 D lo l) (hu:bA7 D hi u) (hs:bA7 D st s):k6 D (cI6 a lo hi st) (.Subscript x (.Slice l u s sp) pos):=.mk λg n h=>
 bm8 ((ha.go g n h).to λU U h=>(hl.go g n h).to λU U h=>(hu.go g n h).to λU U h=>(hs.go g n h).to λU U h=>⟨h.1,h.2 _ _ _⟩)
noncomputable def cw2 (e:Expr):Bool:=eK e != 3
theorem o7 (i:Nat) (hi:i=39\/i=43) (hf:(i,name)∈aT9) (hx:cw2 x=true) (ho:k6 D ob x):k6 D (cI9 i name ob) (.Attribute x name pos):=.mk λg n h=>
 bP6 g.ok.X ((ho.go g n h).to λU U h=>h.rec λad fs v e h1 h2 h3 q=>⟨ad,_,fs,v,e,h1,(g.ok.cls _ hi).1,g.ok.flds _ hf,h2,h3,q⟩) (by
  cases x<;>first | rfl | cases hx)
end
end
section
noncomputable def bQ5 (r:WS) (P:o8) (Q:SQ):SQ:=λF l o=>match F with
 | .next=>r P Q l o
 | .brk=>Q .brk l o
 | .cont=>Q .cont l o
 | .ret V=>Q (.ret V) l o
noncomputable def ch8 (_P:o8) (Q:SQ) (l:e9) (o:b9):Prop:=Q .next l o
noncomputable def ca4 (s r:WS) (P:o8) (Q:SQ) (l:e9) (o:b9):Prop:=s P (bQ5 r P Q) l o
noncomputable def cJ0 (Q:SQ):x4:=λstk l o=>match stk with | V::_=>Q (.ret V) l o | _=>False
noncomputable def cw3 (a:WE) (P:o8) (Q:SQ) (l:e9) (o:b9):Prop:=a P (cJ0 Q) [] l o
noncomputable def cw4 (_P:o8) (Q:SQ) (l:e9) (o:b9):Prop:=Q (.ret .none) l o
noncomputable def cJ1 (Q:SQ):x4:=λU l o=>Q .next l o
noncomputable def cJ2 (a:WE) (P:o8) (Q:SQ) (l:e9) (o:b9):Prop:=a P (cJ1 Q) [] l o
noncomputable def cJ3 (i:Ix) (Q:SQ):x4:=λstk l o=>match stk with | V::_=>Q .next (ac8 l i V) o | _=>False
noncomputable def cw5 (i:Ix) (a:WE) (P:o8) (Q:SQ) (l:e9) (o:b9):Prop:=a P (cJ3 i Q) [] l o
noncomputable def cw6 (t:WA) (P:o8) (Q:SQ):x4:=λstk l o=>match stk with | V::_=>t P (Q .next) V l o | _=>False
noncomputable def ca5 (t:WA) (a:WE) (P:o8) (Q:SQ) (l:e9) (o:b9):Prop:=a P (cw6 t P Q) [] l o
noncomputable def kIf (a b:WS) (P:o8) (Q:SQ):D7:=λt U l o=>if t=true then a P Q l o else b P Q l o
noncomputable def sIf (t:WT) (a b:WS) (P:o8) (Q:SQ) (l:e9) (o:b9):Prop:=t P (kIf a b P Q) [] l o
noncomputable def ca6 (J:LQ) (Q:SQ):SQ:=λF l o=>match F with
 | .next=>J l o
 | .brk=>Q .brk l o
 | .cont=>Q .cont l o
 | .ret V=>Q (.ret V) l o
inductive bA8 (s:WS) (P:o8) (Q:SQ) (l:e9) (o:b9):Prop
 | mk (J:LQ) (h:s P (ca6 J Q) l o) (q:∀l o,J l o->Q .next l o)
noncomputable def ay3:e9->List Ix->List V->e9
 | l,i::is,v::vs=>ay3 (ac8 l i v) is vs
 | l,_,_=>l
noncomputable def bA9:e9->List Ix->List V->e9
 | l,i::is,v::vs=>ac8 (bA9 l is vs) i v
 | l,_,_=>l
theorem aX3 (is:List Ix):∀(vs:List V) (l:e9) (i:Ix) (v:V),vs.length=is.length->ay3 l (is++[i]) (vs++[v])=ac8 (ay3 l is vs) i v:=by
 induction is with
 | nil=>intro vs l i v h;cases cZ8 h;rfl
 | cons _ is ih=>
  intro vs l i v h
  cases vs with
  | nil=>cases h
  | cons _ vs=>exact ih vs _ i v (Nat.succ.inj h)
theorem bB0 (is:List Ix):∀(vs:List V) (l:e9),vs.length=is.length->ay3 l is.reverse vs.reverse=bA9 l is vs:=by
 induction is with
 | nil=>intro vs l h;cases cZ8 h;rfl
 | cons i is ih=>
  intro vs l h
  cases vs with
  | nil=>cases h
  | cons v vs=>
   rw[de0,de0,aX3 _ _ _ _ _ (by rw[cZ0,cZ0];exact Nat.succ.inj h),ih vs l (Nat.succ.inj h)];rfl
noncomputable def cw7 (is:List Ix) (Q:SQ):x4:=λstk l o=>match stk with | .tup xs::_=>xs.length=is.length/\Q .next (bA9 l is xs) o | _=>False
noncomputable def cw8 (is:List Ix) (a:WE) (P:o8) (Q:SQ) (l:e9) (o:b9):Prop:=a P (cw7 is Q) [] l o
noncomputable def ca7 (i:Ix) (_P:o8) (Q:LQ) (V:V) (l:e9) (o:b9):Prop:=Q (ac8 l i V) o
abbrev bQ6:=o8->LQ->List V->e9->b9->Prop
noncomputable def cw9 (_P:o8) (Q:LQ) (xs:List V) (l:e9) (o:b9):Prop:=match xs with | []=>Q l o | _=>False
noncomputable def ch9 (t:WA) (r:bQ6) (P:o8) (Q:LQ) (xs:List V) (l:e9) (o:b9):Prop:=match xs with | x::xs=>t P (r P Q xs) x l o | []=>False
inductive cJ4 (n:Nat) (r:bQ6) (P:o8) (Q:LQ) (V:V) (l:e9) (o:b9):Prop
 | mk (xs:List Mine.V) (L:j4 o V xs) (e:xs.length=n) (h:r P Q xs l o)
noncomputable def cx0 (n:Nat) (r:bQ6) (P:o8) (Q:LQ) (V:V) (l:e9) (o:b9):Prop:=match V with
 | .tup xs=>xs.length=n/\r P Q xs l o
 | V=>cJ4 n r P Q V l o
noncomputable def bB1 (V₁ V₂ V:V) (o:b9) (Q:b9->Prop):Prop:=∀c loc E ov iv v,T3 (λh μ=>VR h μ V₁ ov/\VR h μ V₂ iv/\VR h μ V v) D6 c loc o (setItem ov iv v) (λ(_:Unit) l' o'=>l'=loc/\Q o') E
noncomputable def cJ5 (P:o8) (Q:LQ):x4:=λstk l o=>match stk with | V₂::V₁::V::_=>bB1 V₁ V₂ V o (Q l) | _=>False
noncomputable def cx1 (d i:WE) (P:o8) (Q:LQ) (V:V) (l:e9) (o:b9):Prop:=d P (i P (cJ5 P Q)) [V] l o
inductive cJ6 (C:Addr) (name:Str) (V₁ V:V) (Q:LQ) (l:e9) (o:b9):Prop
 | mk (ad:Addr) (fs:List (Str×Mine.V)) (e:V₁=.ref ad) (h:o ad=some (.inst C fs)) (n:(name::fs.map (·.1)).length<=sizeLine) (r:Q l (c7 o ad (some (.inst C (put fs name V)))))
noncomputable def cJ7 (i:Nat) (name:Str) (P:o8) (Q:LQ):x4:=λstk l o=>match stk with | V₁::V::_=>cJ6 (fa i) name V₁ V Q l o | _=>False
noncomputable def cJ8 (i:Nat) (name:Str) (ob:WE) (P:o8) (Q:LQ) (V:V) (l:e9) (o:b9):Prop:=ob P (cJ7 i name P Q) [V] l o
structure bf6 (D:DC) (f:bQ6) (ts:List Expr) (n:Nat):Prop where
 len:ts.length=n
 plain:∀env,(assignEach ts env).length=n/\(assignEach ts env).findIdx? (·.1)=none
 go:∀{P c l own xs Q},H2 c D P->l.length=D.ns.length->f P Q xs l own->ag2 c (D.ns.zip l) own ts xs (AL D Q) (EL D P.E)
section
variable {D:DC} {pos p':Pos} {x:Str} {e:Expr}
theorem b6:B0 D ch8 []:=.mk λ{_ _ l _ _} _ n h=>am0 ⟨l,Li.mk' n,h⟩
theorem Den_cons (ha:S7 D a s) (hb:B0 D b r):B0 D (ca4 a b) (s::r):=.mk λg n h=>ab2 ((ha.go g n h).to λF U U h=>h.elim λw h=>by
 cases F with
 | next=>exact hb.at g h.1 h.2
 | _=>exact⟨w,h⟩)
theorem d4 (ha:k6 D a e):S7 D (cw3 a) (.Return (some e) pos):=.mk λ{_ _ l _ _} g n h=>bi8 ((ha.go g n h).to λU U h=>⟨l,Li.mk' n,h⟩)
theorem bB2:S7 D cw4 (.Return none pos):=.mk λ{_ _ l _ _} _ n h=>av0 ⟨l,Li.mk' n,h⟩
theorem l9 (ha:k6 D a e) (hs:swapsWith e none pos.line (H0 D.sc)=pure false):S7 D (cJ2 a) (.Expr e pos):=.mk λ{_ _ l _ _} g n h=>bN2 ((ha.go g n h).to λU U h=>⟨l,Li.mk' n,h⟩) ((r8 g.sc _ _ _).trans hs)
theorem Den_asg (i:Ix) (hi:X3 D.ns i=some x) (ha:k6 D a e) (hs:swapsWith e (some (.Name x p')) pos.line (H0 D.sc)=pure false):S7 D (cw5 i a) (.Assign [.Name x p'] e pos):=.mk λg n h=>
 X6 ((ha.go g n h).to λV U h=>⟨_,W1 V hi n,_,Li.set n,h⟩) ((r8 g.sc _ _ _).trans hs)
theorem m5 (hw:swappedStores [t] e (H0 D.sc)=pure none) (hs:swapsWith e (some t) pos.line (H0 D.sc)=pure false) (ht:∀env v,assignAll v ((assignEach [t] env).map (·.2))=assign t env v) (hf:al2 D f t) (ha:k6 D a e):
  S7 D (ca5 f a) (.Assign [t] e pos):=.mk λg n h=>
 ax6 ((ha.go g n h).to λV U h=>(hf.go g n h).to λU U h=>h) ((B4 g.sc _ _).trans hw) ((r8 g.sc _ _ _).trans hs) (ht _)
theorem i8 (ht:H3 D t e) (ha:B0 D a s₁) (hb:B0 D b s₂):S7 D (sIf t a b) (.If e s₁ s₂ pos):=.mk λg n h=>cs0 ((ht.go g n h).to λt U h=>by
 cases t with
 | true=>exact ha.go g n h
 | false=>exact hb.go g n h)
theorem N6 (ha:S7 D a s):S7 D (bA8 a) s:=.mk λg n h=>h.rec λJ h q=>(ha.go g n h).to λF U U h=>h.imp λw h=>⟨h.1,by
 cases F with
 | next=>exact q _ _ h.2
 | _=>exact h.2⟩
theorem W2 (ht:H3 D t e) (ha:B0 D a s₁) (hb:B0 D b s₂):S7 D (bA8 (sIf t a b)) (.If e s₁ s₂ pos):=N6 (i8 ht ha hb)
noncomputable def ixs (ns:List Str):List Ix->Option (List Str)
 | []=>some []
 | i::is=>(X3 ns i).bind λx=>(ixs ns is).map (x::·)
theorem aM7 (h:ixs ns (i::is)=some xs):∃x r,X3 ns i=some x/\ixs ns is=some r/\xs=x::r:=by
 exact(dd1.mp h).imp λx q=>(cY2.mp q.2).imp λr p=>⟨q.1,p.1,p.2.symm⟩
theorem bB3:∀{xs:List Str} {vs:List V} {l:e9},ixs D.ns is=some xs->vs.length=is.length->l.length=D.ns.length->bj7 (xs.zip vs) (D.ns.zip l) (D.ns.zip (ay3 l is vs))/\(ay3 l is vs).length=D.ns.length:=by
 induction is with
 | nil=>
  intro xs vs l h hv hl
  cases h;cases cZ8 hv
  exact⟨.nil,hl⟩
 | cons i is ih=>
  intro xs vs l h hv hl
  obtain⟨x,r,e1,e2,rfl⟩:=aM7 h
  cases vs with
  | nil=>cases hv
  | cons v vs=>
   have u:=ih (l:=ac8 l i v) e2 (Nat.succ.inj hv) ((F8 _ _ _).trans hl)
   exact⟨.cons (W1 v e1 hl) u.1,u.2⟩
theorem aX4:∀{xs:List Str},ixs D.ns is=some xs->xs.length=is.length:=by
 induction is with
 | nil=>intro xs h;cases h;rfl
 | cons i is ih=>
  intro xs h
  obtain⟨x,r,-,e,rfl⟩:=aM7 h
  exact congrArg (·+1) (ih e)
theorem Den_swap (is:List Ix) (hi:ixs D.ns is.reverse=some names.reverse) (hw:swappedStores [t] e (H0 D.sc)=pure (some names)) (hs:swapsWith e (some t) pos.line (H0 D.sc)=pure false) (ha:k6 D a e):
  S7 D (cw8 is a) (.Assign [t] e pos):=.mk λg n h=>
 av3 g.hd ((ha.go g n h).to λV U h=>by
  cases V with
  | tup xs=>
   rcases h with⟨hl,h⟩
   have hn:names.length=is.length:=by have:=aX4 hi;rwa [cZ0,cZ0] at this
   obtain⟨u,m⟩:=bB3 (vs:=xs.reverse) hi (by rw[cZ0,cZ0];exact hl) n
   rw[<-bB0 _ _ _ hl] at h
   exact⟨xs,_,rfl,hl.trans hn.symm,u,_,⟨rfl,m⟩,h⟩
  | _=>exact h.elim) ((B4 g.sc _ _).trans hw) ((r8 g.sc _ _ _).trans hs)
theorem c0 (i:Ix) (hi:X3 D.ns i=some x):al2 D (ca7 i) (.Name x pos):=.mk λ{_ _ _ _ V _} _ n h=>aJ3 (W1 V hi n) ⟨_,Li.set n,h⟩
theorem k8:bf6 D cw9 [] 0:=⟨rfl,λU=>⟨rfl,rfl⟩,λ{_ _ l _ xs _} _ n h=>match xs,h with
 | [],h=>aV3 ⟨l,Li.mk' n,h⟩⟩
theorem N7 (h:ag7 t=true):assignEach (t::ts) env=(false,assign t env)::assignEach ts env:=by
 cases t<;>first | rfl | cases h
theorem c8 (hf:al2 D f t) (hr:bf6 D r ts n) (ht:ag7 t=true):bf6 D (ch9 f r) (t::ts) (n+1):=
 ⟨congrArg (·+1) hr.len,λenv=>by
  rw[N7 ht]
  exact⟨congrArg (·+1) (hr.plain env).1,by rw[dl9,(hr.plain env).2];rfl⟩,λ{_ _ _ _ xs _} g m h=>match xs,h with
  | x::xs,h=>aK2 ((hf.go g m h).to λ_ _ ⟨w,hw,q⟩=>hw.e▸hr.go g hw.n q) (N7 ht)⟩
theorem bQ7 {P:o8} {V:V} (h:cx0 n r P Q V l o):∃xs,(V=.tup xs\/j4 o V xs)/\xs.length=n/\r P Q xs l o:=by
 cases V with
 | tup xs=>exact⟨xs,.inl rfl,h⟩
 | _=>obtain⟨xs,a,b,c⟩:=h;exact⟨xs,.inr a,b,c⟩
theorem o6 (hr:bf6 D r ts n):al2 D (cx0 n r) (.Tuple ts k pos):=.mk λg m h=>by
 obtain⟨xs,hV,hn,h⟩:=bQ7 h
 exact bj8 g.hd hV (hr.len.trans hn.symm) (hr.go g m h) ((hr.plain _).1.trans hr.len.symm) (hr.plain _).2
theorem E2 (ha:k6 D a d) (hb:k6 D b i):al2 D (cx1 a b) (.Subscript d i pos):=.mk λ{_ _ l _ _ _} g n h=>
 bO7 ((ha.go g n h).to λU U h=>(hb.go g n h).to λU U h ov iv v=>(h _ _ _ ov iv v).mono (λU U x=>x) (λU U U q=>⟨l,q.1▸Li.mk' n,q.2⟩) λU U U U x=>x)
theorem E3 (i:Nat) (hi:i=39\/i=43) (hf:(i,name)∈aT9) (ho:k6 D ob e):al2 D (cJ8 i name ob) (.Attribute e name pos):=.mk λ{_ _ l _ _ _} g n h=>
 bz1 g.ok.X ((ho.go g n h).to λU U h=>h.rec λad fs e h1 h2 q=>⟨ad,_,fs,e,h1,(g.ok.cls _ hi).1,g.ok.flds _ hf,h2,l,Li.mk' n,q⟩)
noncomputable def ItS (tup:Bool) (o:b9) (V:V) (xs:List Mine.V) (ownr:b9):Prop:=∀c loc E tgt,(tup=true->∃elts k pos,tgt=.Tuple elts k pos)->av1 c loc o tgt V xs ownr E
noncomputable def aq6:Expr->Bool
 | .Tuple ..=>true
 | _=>false
theorem aM8 (h:aq6 t=true):∃elts k pos,t=.Tuple elts k pos:=by
 cases t with
 | Tuple a b c=>exact⟨a,b,c,rfl⟩
 | _=>cases h
noncomputable def bf7 (J:e9->b9->Prop) (Q:SQ):SQ:=λF l o=>match F with
 | .next=>J l o
 | .cont=>J l o
 | .brk=>Q .next l o
 | .ret V=>Q (.ret V) l o
noncomputable def ci0 (b:WS) (P:o8) (Q:SQ):LQ:=λl o=>b P Q l o
inductive bQ8 (tup:Bool) (n:Nat) (t:WA) (body orelse:WS) (P:o8) (Q:SQ) (l:e9) (V:V) (o:b9):Prop
 | mk (xs:List Mine.V) (ownr:b9) (J:Nat->LQ) (hi:ItS tup o V xs ownr) (j0:J 0 l ownr) (ht:∀i l o x,l.length=n->J i l o->xs[i]?=some x->t P (ci0 body P (bf7 (J (i+1)) Q)) x l o) (he:∀l o,J xs.length l o->orelse P Q l o)
noncomputable def cJ9 (tup:Bool) (n:Nat) (t:WA) (body orelse:WS) (P:o8) (Q:SQ):x4:=λstk l o=>match stk with | V::_=>bQ8 tup n t body orelse P Q l V o | _=>False
noncomputable def cK0 (tup:Bool) (n:Nat) (it:WE) (t:WA) (body orelse:WS) (P:o8) (Q:SQ) (l:e9) (o:b9):Prop:=it P (cJ9 tup n t body orelse P Q) [] l o
theorem i6 (hi:k6 D f it) (ht:al2 D t tgt) (hb:B0 D b body) (hr:B0 D r orelse) (hs:∀env x,foldedSetIterable it env x=pure x):
  S7 D (cK0 (aq6 tgt) D.ns.length f t b r) (.For tgt it body orelse pos):=.mk λg n h=>by
 refine cf2 g.hd ((hi.go g n h).to λV o h=>h.rec λxs ownr J hit j0 ht' he=>⟨xs,ownr,hit _ _ _ _ aM8,λi l o=>∃w,Li D l w/\J i w o,⟨_,Li.mk' n,j0⟩,λi l o x j hx=>?_,λl o j=>j.elim λw j=>hr.at g j.1 (he w o j.2)⟩) (hs _)
 refine j.elim λw j=>(ht.at g j.1 (ht' i w o x j.1.n j.2 hx)).to λl o q=>q.elim λw q=>(hb.at g q.1 q.2).to λF l o q=>?_
 cases F<;>exact q
noncomputable def WhJ (J:Nat->LQ) (m:Nat):LQ:=λl o=>∃k,k<m/\J k l o
inductive ci1 (n:Nat) (t:WT) (body orelse:WS) (P:o8) (Q:SQ) (l:e9) (o:b9):Prop
 | mk (J:Nat->LQ) (m:Nat) (j0:J m l o) (h:∀m l o,l.length=n->J m l o->t P (λb U l o=>if b=true then body P (bf7 (WhJ J m) Q) l o else orelse P Q l o) [] l o)
theorem ag9 (ht:H3 D t te) (hb:B0 D b body) (hr:B0 D r orelse):S7 D (ci1 D.ns.length t b r) (.While te body orelse pos):=.mk λg n h=>h.rec λJ m j0 h=>by
 refine by3 (λm l o=>∃w,Li D l w/\J m w o) m ⟨_,Li.mk' n,j0⟩ λm l o j=>j.elim λw j=>?_
 refine(ht.at g j.1 (h m w o j.1.n j.2)).to λb o q=>?_
 cases b with
 | false=>exact hr.at g j.1 q
 | true=>
  refine(hb.at g j.1 q).to λF l o q=>q.elim λw q=>?_
  cases F with
  | next=>exact q.2.imp λk j=>⟨j.1,w,q.1,j.2⟩
  | cont=>exact q.2.imp λk j=>⟨j.1,w,q.1,j.2⟩
  | brk=>exact⟨w,q⟩
  | ret V=>exact⟨w,q⟩
end
end
section
section
variable {D:DC} {pos p':Pos} {x:Str} {e:Expr}
noncomputable def aj8:List (Str×NameKind)->List Str
 | []=>[]
 | (x,k)::r=>if k=.free then x::aj8 r else aj8 r
theorem bQ9 {p:Str×NameKind} {r:List (Str×NameKind)}:aj8 (p::r)=if p.2=.free then p.1::aj8 r else aj8 r:=rfl
theorem bn1 {x:Str} {l:List (Str×NameKind)}:x∈aj8 l->(x,NameKind.free)∈l:=by
 induction l with
 | nil=>exactλh=>nomatch h
 | cons p r ih=>
  intro h
  rcases p with⟨y,k⟩
  rw[bQ9] at h
  by_cases e:k=.free
  ·rw[if_pos e] at h
   rcases cW1.mp h with q | q
   ·rw[q,<-e];exact .head _
   ·exact .tail _ (ih q)
  ·rw[if_neg e] at h;exact .tail _ (ih h)
noncomputable def DC.sub (D:DC) (scope:Scope) (names:List Str):DC:={sc:=relabel scope (H0 D.sc),ns:=names,os:=if D.comp then D.os else D.ns,cs:=if D.comp then[] else aj8 scope.names,comp:=true}
noncomputable def ay4:List Str->e9
 | []=>[]
 | _::r=>none::ay4 r
theorem ay5 (ns:List Str):(ns.map λx=>(x,(none:Option V)))=ns.zip (ay4 ns):=by
 induction ns with
 | nil=>rfl
 | cons x r ih=>exact congrArg ((x,none)::·) ih
theorem ad2 (ns:List Str):(ay4 ns).length=ns.length:=by
 induction ns with
 | nil=>rfl
 | cons x r ih=>exact congrArg (·+1) ih
structure aM9 (D:DC) (f:WT) (es:List Expr):Prop where
 go:∀{P c l own stk K},H2 c D P->l.length=D.ns.length->f P K stk l own->bl0 c (D.ns.zip l) own es (aM5 K stk l) (EL D P.E)
theorem n7:aM9 D (cG3 true) []:=.mk λU U h=>by4 h
theorem L9 {a:WT} (ha:H3 D a e):aM9 D a [e]:=.mk λg n h=>by5 (ha.go g n h)
theorem bB4 {c:Cx} {loc:f8} {own:b9} {α β:Type} {Pre:Heap->Mu->Prop} {Rel:Heap->Mu->β->α->Prop} {t:Sem α} {Q:β->f8->b9->Prop} (h:T3 Pre Rel c loc own t Q (EL D NoE)):T3 Pre Rel c loc own t Q NoX:=h.mono (λU U x=>x) (λU U U x=>x) λU U U U x=>x.elim λU x=>x.2
noncomputable def o8.sub (P:o8) (comp:Bool) (l:e9):o8:=⟨P.k,if comp then P.fv else l,NoE⟩
noncomputable def cK1 (J:List V->LQ) (acc:List V):x4:=λstk w o=>match stk with | V::_=>J (acc++[V]) w o | _=>False
noncomputable def cK2 (elt:WE) (P:o8) (J:List V->LQ) (acc:List V):D7:=λb U w o=>if b=true then elt P (cK1 J acc) [] w o else J acc w o
noncomputable def aN0 (ifs:WT) (elt:WE) (P:o8) (J:List V->LQ) (acc:List V):LQ:=λw o=>ifs P (cK2 elt P J acc) [] w o
noncomputable def ItC (tup:Bool) (o:b9) (V:V) (xs:List Mine.V) (ownr:b9) (S5:b9->Prop):Prop:=∀c loc E tgt,(tup=true->∃elts k pos,tgt=.Tuple elts k pos)->ax3 c loc o tgt V xs ownr S5 E
theorem ItS.c {tup:Bool} {o:b9} {V:V} {xs:List Mine.V} {ownr:b9} (h:ItS tup o V xs ownr):ItC tup o V xs ownr λU=>True:=λc loc E tgt ht=>ax3.of (h c loc E tgt ht)
theorem bB5 {tup:Bool} {o:b9} {a:Addr} {xs:List Mine.V} (h:o a=some (.list xs)):ItC tup o (.ref a) xs o λo=>o a=some (.list xs):=λU U U U U=>by1 h
inductive Y2 (tup:Bool) (names:List Str) (comp:Bool) (t:WA) (ifs:WT) (elt:WE) (P:o8) (l:e9) (Q:V->b9->Prop) (V:V) (o:b9):Prop
 | mk (xs:List Mine.V) (ownr:b9) (S5:b9->Prop) (J:Nat->List Mine.V->LQ) (hJ:∀i acc w o,J i acc w o->S5 o) (hi:ItC tup o V xs ownr S5) (hz:xs.length<=sizeLine) (j0:J 0 [] (ay4 names) ownr)
  (ht:∀i acc w o x,w.length=names.length->J i acc w o->xs[i]?=some x->t (P.sub comp l) (aN0 ifs elt (P.sub comp l) (J (i+1)) acc) x w o)
  (hq:∀acc w o,J xs.length acc w o->acc.length<=xs.length->Q (.lst acc) o)
noncomputable def cK4 (tup:Bool) (names:List Str) (comp:Bool) (t:WA) (ifs:WT) (elt:WE) (P:o8) (K:x4):x4:=λstk l o=>match stk with | V::stk=>Y2 tup names comp t ifs elt P l (U2 K stk l) V o | _=>False
noncomputable def ci2 (tup:Bool) (names:List Str) (comp:Bool) (it:WE) (t:WA) (ifs:WT) (elt:WE) (P:o8) (K:x4) (stk:List V) (l:e9) (o:b9):Prop:=it P (cK4 tup names comp t ifs elt P K) stk l o
noncomputable def aX5 (D:DC) (scope:Scope) (names:List Str):Bool:=cOk scope names D.sc&&(scope.names.all (λy=>y.2 != .free || (!D.comp&&D.ns.contains y.1))&&ac9 names)
theorem bB6 {c c':Cx} {P:o8} {l:e9} {scope:Scope} {names:List Str} (g:H2 c D P) (n:l.length=D.ns.length) (h:ac9 names=true) (S:be9 c (D.ns.zip l) scope c'):H2 c' (D.sub scope names) (P.sub D.comp l):=by
 refine⟨g.ok,S.sc.trans (Y0 g.sc _),S.hd.trans g.hd,S.k.trans g.k,S.comp,h,?_,λU=>?_,λx hx=>?_⟩
 ·show ac9 (if D.comp then D.os else D.ns)=true
  split
  ·exact g.dbo
  ·exact g.dbg
 ·rw[S.floc,g.comp]
  show _=(if D.comp then D.os else D.ns).zip (if D.comp then P.fv else l)
  by_cases hc:D.comp=true
  ·rw[if_pos hc,if_pos hc,if_pos hc];exact g.fl hc
  ·rw[if_neg hc,if_neg hc,if_neg hc]
 ·replace hx:x∈(if D.comp then[] else aj8 scope.names):=hx
  by_cases hc:D.comp=true
  ·rw[if_pos hc] at hx;cases hx
  ·rw[if_neg hc] at hx;exact S.cap (g.comp.trans (Bool.not_eq_true _▸hc)) x (bn1 hx)
theorem aN1 {tgt it elt:Expr} {ifs:List Expr} {scope:Scope} {names:List Str} {f a:WE} {t:WA} {p:WT} (hok:ac9 names=true) (hi:k6 D f it) (ht:al2 (D.sub scope names) t tgt) (hp:aM9 (D.sub scope names) p ifs) (ha:k6 (D.sub scope names) a elt)
  {c:Cx} {P:o8} {l:e9} {own:b9} {stk:List V} {K:x4} (g:H2 c D P) (n:l.length=D.ns.length) (h:ci2 (aq6 tgt) names D.comp f t p a P K stk l own):bf0 c (D.ns.zip l) scope names tgt elt ifs it own (U2 K stk l) (EL D P.E):=by
 refine(hi.go g n h).to λV o h=>h.rec λxs ownr S5 J hJ hit hz j0 ht' hq=>⟨xs,ownr,S5,hit _ _ _ _ aM8,hz,λi acc lo o=>∃w,Li (D.sub scope names) lo w/\J i acc w o,λU U U U j=>j.elim λU j=>hJ _ _ _ _ j.2,⟨ay4 names,⟨ay5 _,ad2 _⟩,j0⟩,?_,λacc lo o j hl=>j.elim λw j=>hq acc w o j.2 hl⟩
 intro c' S i acc lo o x j hx v
 have g':=bB6 g n hok S
 refine j.elim λw j=>bB4 (((ht.at g' j.1 (ht' i acc w o x j.1.n j.2 hx)).to λlo o q=>q.elim λw q=>bB4 (D:=D.sub scope names) ?_) v)
 refine T3.mono (q.1.e▸hp.go g' q.1.n q.2) (λU U x=>x) (λb U o h=>⟨h.1,?_⟩) λU U U U x=>x
 cases b with
 | true=>exact bB4 ((ha.at g' q.1 h.2).to λU U h=>⟨w,q.1,h⟩)
 | false=>exact⟨w,q.1,h.2⟩
theorem ay6 {scope:Scope} {names:List Str} {c:Cx} {P:o8} {l:e9} (g:H2 c D P) (n:l.length=D.ns.length) (hok:aX5 D scope names=true):cOk scope names D.sc=true/\ac9 names=true/\∀x,(x,NameKind.free)∈scope.names->c.comp=false/\x∈(D.ns.zip l).map (·.1):=by
 rcases cX6.mp hok with⟨h1,h2⟩
 rcases cX6.mp h2 with⟨h2,h3⟩
 refine⟨h1,h3,λx hx=>?_⟩
 have:=cX0.mp h2 _ hx
 simp only[bne_self_eq_false,Bool.false_or,cY6,da4,dc0] at this
 rw[ab4 n,g.comp];exact this
theorem j8 {tgt it elt:Expr} {ifs:List Expr} {scope:Scope} (names:List Str) {f a:WE} {t:WA} {p:WT} (hok:aX5 D scope names=true) (hs:∀env x,foldedSetIterable it env x=pure x) (hi:k6 D f it) (ht:al2 (D.sub scope names) t tgt) (hp:aM9 (D.sub scope names) p ifs) (ha:k6 (D.sub scope names) a elt):
  k6 D (ci2 (aq6 tgt) names D.comp f t p a) (.ListComp elt [⟨tgt,it,ifs,0⟩] scope pos):=.mk λg n h=>
 have q:=ay6 g n hok
 aL2 g.hd g.sc q.1 q.2.2 (aN1 q.2.1 hi ht hp ha g n h) (hs _)
theorem J5 (i:Ix) {tgt it elt:Expr} {ifs:List Expr} {scope:Scope} {cp:Pos} (names:List Str) {f a:WE} {t:WA} {p:WT} (hx:X3 D.ns i=some x) (hok:aX5 D scope names=true) (hs:∀env x,foldedSetIterable it env x=pure x)
  (hsw:swapsWith (.ListComp elt [⟨tgt,it,ifs,0⟩] scope cp) (some (.Name x p')) pos.line (H0 D.sc)=pure true) (hi:k6 D f it) (ht:al2 (D.sub scope names) t tgt) (hp:aM9 (D.sub scope names) p ifs) (ha:k6 (D.sub scope names) a elt):
  S7 D (cw5 i (ci2 (aq6 tgt) names D.comp f t p a)) (.Assign [.Name x p'] (.ListComp elt [⟨tgt,it,ifs,0⟩] scope cp) pos):=.mk λ{_ _ l _ _} g n h=>by
 have q:=ay6 g n hok
 refine av6 g.hd g.sc q.1 q.2.2 ((aN1 q.2.1 hi ht hp ha g n h).to λU U h=>?_) ((r8 g.sc _ _ _).trans hsw) (hs _)
 obtain⟨xs,ownr,S5,a1,a2,J,aJ,a3,a4,a5⟩:=h
 exact⟨xs,ownr,S5,a1,a2,J,aJ,a3,a4,λacc lo o j hl=>⟨_,W1 _ hx n,_,Li.set n,a5 acc lo o j hl⟩⟩
theorem g6 {α:Type} {xs:List α} {i:Nat} {x:α} (h:xs[i]?=some x):xs.take (i+1)=xs.take i++[x]:=by rw[dm6,h];rfl
noncomputable def bB7 (g:V->V) (xs:List V) (ownr:b9) (i:Nat) (acc:List V):LQ:=λU o=>o=ownr/\acc=(xs.take i).map g
theorem al3 {g:V->V} {xs:List V} {ownr:b9} {i:Nat} {x:V} (hx:xs[i]?=some x):bB7 g xs ownr (i+1) ((xs.take i).map g++[g x]) [] ownr:=⟨rfl,by rw[g6 hx,cV5];rfl⟩
variable {tup comp:Bool} {names:List Str} {t:WA} {ifs:WT} {elt:WE} {P:o8} {l:e9} {own:b9} {Q:V->b9->Prop} {V:V}
theorem A2 {xs:List Mine.V} {ownr:b9} (g:Mine.V->Mine.V) (hi:ItS tup own V xs ownr) (hz:xs.length<=sizeLine)
  (ht:∀i w x,w.length=names.length->xs[i]?=some x->x∈xs->t (P.sub comp l) (aN0 ifs elt (P.sub comp l) (bB7 g xs ownr (i+1)) ((xs.take i).map g)) x w ownr) (hQ:Q (.lst (xs.map g)) ownr):Y2 tup names comp t ifs elt P l Q V own:=
 ⟨xs,ownr,_,bB7 g xs ownr,λU U U U U=>trivial,hi.c,hz,⟨rfl,rfl⟩,λi acc w o x hw e hx=>by obtain⟨rfl,rfl⟩:=e;exact ht i w x hw hx (cW7 hx),λacc w o e U=>by rw[e.1,e.2,cY5];exact hQ⟩
noncomputable def bR0 (p:Mine.V->Bool) (xs:List Mine.V) (ownr:b9) (i:Nat) (acc:List Mine.V):LQ:=λU o=>o=ownr/\acc=(xs.take i).filter p
theorem cx2 {p:Mine.V->Bool} {xs:List Mine.V} {ownr:b9} {i:Nat} {x:Mine.V} (hx:xs[i]?=some x) (h:p x=true):bR0 p xs ownr (i+1) ((xs.take i).filter p++[x]) [] ownr:=⟨rfl,by rw[g6 hx,dm0,df8 h];rfl⟩
theorem cx3 {p:Mine.V->Bool} {xs:List Mine.V} {ownr:b9} {i:Nat} {x:Mine.V} (hx:xs[i]?=some x) (h:p x=false):bR0 p xs ownr (i+1) ((xs.take i).filter p) [] ownr:=⟨rfl,by rw[g6 hx,dm0,df9 (by rw[h];exact cV7)];exact(cW6 _).symm⟩
theorem aN2 (p:Mine.V->Bool) (hi:ItS tup own V xs ownr) (hz:xs.length<=sizeLine)
  (ht:∀i w x,w.length=names.length->xs[i]?=some x->x∈xs->t (P.sub comp l) (aN0 ifs elt (P.sub comp l) (bR0 p xs ownr (i+1)) ((xs.take i).filter p)) x w ownr) (hQ:Q (.lst (xs.filter p)) ownr):Y2 tup names comp t ifs elt P l Q V own:=
 ⟨xs,ownr,_,bR0 p xs ownr,λU U U U U=>trivial,hi.c,hz,⟨rfl,rfl⟩,λi acc w o x hw e hx=>by obtain⟨rfl,rfl⟩:=e;exact ht i w x hw hx (cW7 hx),λacc w o e U=>by rw[e.1,e.2,cY5];exact hQ⟩
theorem bn2 (g:Mine.V->Mine.V) (ho:own a=some (.list xs)) (hz:xs.length<=sizeLine)
  (ht:∀i w x,w.length=names.length->xs[i]?=some x->x∈xs->t (P.sub comp l) (aN0 ifs elt (P.sub comp l) (bB7 g xs own (i+1)) ((xs.take i).map g)) x w own) (hQ:Q (.lst (xs.map g)) own):Y2 tup names comp t ifs elt P l Q (.ref a) own:=
 ⟨xs,own,_,bB7 g xs own,λU U U U e=>e.1▸ho,bB5 ho,hz,⟨rfl,rfl⟩,λi acc w o x hw e hx=>by obtain⟨rfl,rfl⟩:=e;exact ht i w x hw hx (cW7 hx),λacc w o e U=>by rw[e.1,e.2,cY5];exact hQ⟩
end
end
section
section
variable {c:Cx} {loc:f8} {own:b9} {E:XP} {K:Frag}
theorem bB8 {o:Expr} {pos:Pos} {V:V} {Q:f8->b9->Prop} (X:K.In G.base)
  (h:Ev c loc own o (λV₁ o₁=>∃a C,V₁=.ref a/\o₁ a=some (.exn C none)/\Z0 K C/\Q loc (c7 o₁ a (some (.exn C (some V))))) E):
  Asg c loc own (.Attribute o (Str.ofString "told") pos) V Q E:=by
 intro v
 rw[assign_Attribute]
 refine Ev.bindP E0 (h.mono (λU U x=>x) (λV₁ l o q=>⟨q.1,λov=>?_⟩) λU U U U x=>x)
 obtain⟨-,a,C,rfl,ha,CO,q⟩:=q
 intro F A μ s S p
 cases (show ov=.ref a from p.2)
 exact T3.standAt (T3.bind E0 (T3.holding (β:=Unit) (Rel:=D6) (T3.setTold_ (x:=V) X ha CO λu=>T3.release (b:=()) (λU U U=>rfl) q))) F A μ s S p.1
noncomputable def fnD (s:Stmt) (ns:List Str):DC:={sc:=A8 s,ns:=ns,os:=[],cs:=[],comp:=false}
noncomputable def aq7:List V->List Str->e9
 | V::Vs,os=>some V::aq7 Vs os
 | [],os=>ay4 os
theorem bB9 {ps:List Str} (others:List Str):∀{Vs:List V},Vs.length=ps.length->am6 ps Vs others=(ps++others).zip (aq7 Vs others):=by
 induction ps with
 | nil=>intro Vs h;cases cZ8 h;exact ay5 others
 | cons p ps ih=>
  intro Vs h
  cases Vs with
  | nil=>cases h
  | cons V Vs=>exact congrArg ((p,some V)::·) (ih (Nat.succ.inj h))
theorem aE3 (Vs:List V) (others:List Str):(aq7 Vs others).length=Vs.length+others.length:=by
 induction Vs with
 | nil=>exact(ad2 others).trans (db2 _).symm
 | cons _ Vs ih=>exact(congrArg (·+1) ih).trans (Nat.succ_add _ _).symm
noncomputable def aX6 (Q:V->b9->Prop):SQ:=λF U o=>match F with
 | .ret V=>∃o',Sub o' o/\Q V o'
 | .next=>∃o',Sub o' o/\Q .none o'
 | _=>False
noncomputable def aN3 (EX:XC):XQ:=λC t U o=>∃o',Sub o' o/\EX C t o'
noncomputable def ci3 (s:Stmt) (ns others:List Str):Bool:=decide (ns=G8 s++others)&&(am7 (A8 s) (G8 s) others&&ac9 ns)
theorem ay7 {f:Addr} {s:Stmt} {Vs:List V} {k:Nat} {Q:V->b9->Prop} {EX:XC} {ns others:List Str} {p:WS} (W:Ok) (FA:aD9 f s) (hn:ci3 s ns others=true) (hl:Vs.length+others.length=ns.length)
  (hf:B0 (fnD s ns) p (T0 s)) (h:p ⟨k,[],aN3 EX⟩ (aX6 Q) (aq7 Vs others) own):r9 none (k+3) (.ref f) Vs own Q EX:=by
 rcases cX6.mp hn with⟨h1,h2⟩
 rcases cX6.mp h2 with⟨h2,h3⟩
 have e:ns=G8 s++others:=of_decide_eq_true h1
 have hV:Vs.length=(G8 s).length:=by rw[e,cV4] at hl;lia
 refine bm4 W.ok FA h2 (bB9 others hV) hV λc hc hsc hh hk hL=>?_
 have g:H2 c (fnD s ns) ⟨k,[],aN3 EX⟩:=⟨W,hsc,hh,hk,hc,h3,rfl,(λq=>nomatch q),λU q=>nomatch q⟩
 have hlen:(aq7 Vs others).length=ns.length:=(aE3 _ _).trans hl
 have:=hf.go g hlen h
 rw[show(fnD s ns).ns=G8 s++others from e] at this
 refine T3.mono this (λU U x=>x) (λF l o q=>q.elim λw q=>?_) λC t l o q=>q.elim λw q=>q.2
 cases F<;>exact q.2
theorem e8 {i:Nat} {Vs:List V} {k:Nat} {Q:V->b9->Prop} {EX:XC} {ns others:List Str} {p:WS} (W:Ok) (hi:fns.contains i=true) (hn:ci3 (st i) ns others=true) (hl:Vs.length+others.length=ns.length)
  (hf:B0 (fnD (st i) ns) p (T0 (st i))) (h:p ⟨k,[],aN3 EX⟩ (aX6 Q) (aq7 Vs others) own):A7 (k+1) i Vs own Q EX:=ay7 W (W.fn i hi) hn hl hf h
theorem E4 {i j:Nat} {x:Str} {Vs:List V} {k:Nat} {Q:V->b9->Prop} {EX:XC} {ns others:List Str} {p:WS} (W:Ok) (hi:(i,j,x)∈af4) (hn:ci3 (mt i j) ns others=true) (hl:Vs.length+others.length=ns.length)
  (hf:B0 (fnD (mt i j) ns) p (T0 (mt i j))) (h:p ⟨k,[],aN3 EX⟩ (aX6 Q) (aq7 Vs others) own):aw3 (k+1) i j Vs own Q EX:=ay7 W (W.meth _ hi).2.2 hn hl hf h
theorem bC0 (W:Ok) {i:Nat} (hi:i=7\/i=8) {fI x:Addr} (FA:aD9 fI (mt 6 0)) {hd:Option Value} (hhd:hd≠some byPass) {v:V} {Q:V->b9->Prop} {EX:XC}
  (ho:own x=some (.exn (fa i) none)) (hQ:Q .none (c7 own x (some (.exn (fa i) (some v))))):r9 hd 1 (.ref fI) [.ref x,v] own Q EX:=by
 obtain⟨fd,FF,hb⟩:=FA.ex
 refine X7 (others:=[]) W.ok FF rfl (loc₀:=[("self",some (.ref x)),("told",some v)]) rfl rfl hb hhd λc hc hsc hh hk hL=>?_
 refine ab2 (ax6 (ab1 (.tail _ (.head _)) (bB8 W.X (ab1 (.head _) ⟨x,_,rfl,ho,(W.bset i hi).1,am0 hQ⟩))) ((B4 hsc _ _).trans (by with_unfolding_all rfl)) ((r8 hsc _ _ _).trans (by with_unfolding_all rfl)) (by with_unfolding_all exactλU=>rfl))
theorem cx5 (W:Ok) {i:Nat} (hi:i=7\/i=8) {hd:Option Value} (hhd:hd≠some byPass) {v:V} {Q:V->b9->Prop} {EX:XC}
  (hQ:∀x,own x=none->Q (.ref x) (c7 own x (some (.exn (fa i) (some v))))):r9 hd 2 (.ref (fa i)) [v] own Q EX:=by
 obtain⟨fI,B,newId,initId,bmB,O,FA⟩:=W.bad i hi
 refine bl7 W.X O (by show 1<=sizeLine;decide) λx hx=>bC0 W hi FA hhd (b5 _ _ _) ⟨rfl,?_⟩
 rw[c5];exact hQ x hx
theorem aN4 (W:Ok) {x:Str} {np pos cp:Pos} {args:List Expr} {Q:Fl->f8->b9->Prop} (hh:c.hd=none) (hk2:2<=c.k) (hk:c.env.kindOf x=some .globalImplicit) (hd:(x == ("__debug__":Str))=false) (hp:A0 args c.env)
  (h:∃i,GV x (.val (.ref (fa i)))/\(i=7\/i=8)/\Evs c loc own cp args (λVs o=>∃v,Vs=[v]/\E (fa i) v loc o) E):Ex c loc own (.Raise (some (.Call (.Name x np) args [] cp)) none pos) Q E:=by
 obtain⟨i,hv,hi,h⟩:=h
 obtain⟨fI,B,newId,initId,bmB,O,FA⟩:=W.bad i hi
 refine bz4 W.X O hh (ap8 W.X (I3 W.ok hv hk ⟨_,rfl,(W.bset _ hi).2,?_⟩ hd) hp)
 refine h.mono (λU U x=>x) (λVs l o q=>⟨q.1,?_⟩) λU U U U x=>x
 rcases q with⟨rfl,v,rfl,q⟩
 refine aU9 (k:=2) hk2 (cx5 W hi (by rw[hh];exactλq=>nomatch q) λx hx=>⟨x,v,rfl,b5 _ _ _,?_⟩)
 rw[c5,d9 hx];exact q
theorem aE4 (W:Ok) {x:Str} {np pos cp:Pos} {args:List Expr} {Q:Fl->f8->b9->Prop} {b:Addr} (hok:c.hd≠some byPass) (hh:c.hd=some (.ref b)) (hk2:2<=c.k) (hk:c.env.kindOf x=some .globalImplicit) (hd:(x == ("__debug__":Str))=false) (hp:A0 args c.env)
  (h:GV x (.val (.ref (fa 8)))/\Evs c loc own cp args (λVs o=>∃v tb,Vs=[v]/\o b=some (.held (fa 7) tb)/\E (fa 8) v loc o) E):Ex c loc own (.Raise (some (.Call (.Name x np) args [] cp)) none pos) Q E:=by
 rcases h with⟨hv,h⟩
 have hi:8=7\/8=8:=.inr rfl
 obtain⟨fI,B,newId,initId,bmB,O,FA⟩:=W.bad 8 hi
 refine bm0 W.X O hh W.ch (ap8 W.X (I3 W.ok hv hk ⟨_,rfl,(W.bset _ hi).2,?_⟩ hd) hp)
 refine h.mono (λU U x=>x) (λVs l o q=>⟨q.1,?_⟩) λU U U U x=>x
 obtain⟨rfl,v,tb,rfl,hb,q⟩:=q
 refine aU9 (k:=2) hk2 (cx5 W hi hok λx hx=>⟨x,v,_,tb,rfl,b5 _ _ _,?_,W.nch,?_⟩)
 ·rw[b7 (λq=>by subst q;rw[hx] at hb;cases hb)];exact hb
 ·rw[c5,d9 hx];exact q
theorem bn3 (W:Ok) {body:List Stmt} {n:Str} {np np2 ap rp cp hpos pos:Pos} {Q:Fl->f8->b9->Prop} (hh:c.hd=none) (hk2:2<=c.k)
  (hk:c.env.kindOf "BadCode"=some .globalImplicit) (hk':c.env.kindOf "BadRow"=some .globalImplicit) (hd:(n == ("__debug__":Str))=false)
  (hp:A0 [.Name n ap] c.env) (hst:starEach [.Name n ap] c.env=(false,eval (.Name n ap) c.env)::starEach [] c.env)
  (h:Exs c loc own body Q (λC' told l o=>C'=fa 7/\∃v,(n,some v)∈l/\E (fa 8) v l o) ):
  Ex c loc own (.Try body [.ExceptHandler (some (.Name "BadCode" np)) none [.Raise (some (.Call (.Name "BadRow" np2) [.Name n ap] [] cp)) none rp] hpos] [] [] pos) Q E:=by
 obtain⟨fI,B,newId,initId,bmB,O,FA⟩:=W.bad 7 (.inl rfl)
 refine ch3 W.ok W.X O W.bcode hk (h.mono (λU U x=>x) (λU U U x=>x) λC' told l o q=>⟨q.1,λea hea=>?_⟩) rfl
 obtain⟨rfl,v,hm,hE⟩:=q
 refine ab2 (aE4 W (c:=c.held ea) (b:=ea) ?_ rfl hk2 hk' rfl hp ⟨W.gv 5 ("BadRow",_) rfl,ao9 (ab1 hm (aC6 ⟨v,told,rfl,b5 _ _ _,b5 _ _ _,?_⟩) hd) hst⟩)
 ·show some (Value.ref ea)≠some byPass
  intro q
  injection q with q
  exact absurd q (by unfold byPass;exact nofun)
 ·rw[c5,d9 hea];exact hE
end
noncomputable def ci4 (i:Nat) (P:o8):x4:=λstk l o=>match stk with | V::_=>P.E (fa i) V l o | _=>False
noncomputable def ci5 (i:Nat) (a:WE) (P:o8) (_Q:SQ) (l:e9) (o:b9):Prop:=a P (ci4 i P) [] l o
noncomputable def ci6 (i:Ix) (P:o8):XQ:=λC U l o=>C=fa 7/\match aw1 l i with | some v=>P.E (fa 8) v l o | none=>False
noncomputable def bR1 (i:Ix) (b:WS) (P:o8) (Q:SQ) (l:e9) (o:b9):Prop:=b ⟨P.k,P.fv,ci6 i P⟩ Q l o
section
variable {D:DC} {pos np np2 cp ap rp hpos:Pos} {x:Str} {e:Expr}
theorem w8 (j i:Nat) {a:WE} (hj:(au9 fa)[j]?=some (x,.val (.ref (fa i)))) (hi:i=7\/i=8) (hx:isG D x=true) (hs:ag7 e=true) (ha:k6 D a e):S7 D (ci5 i a) (.Raise (some (.Call (.Name x np) [e] [] cp)) none pos):=.mk λ{_ _ l _ _} g n h=>
 aN4 g.ok g.hd (g.k.symm▸dd6 2 _) (J0 g hx).1 (J0 g hx).2 (Z7 hs (ag8 _)) ⟨i,g.ok.gv j (x,_) hj,hi,ao9 ((ha.go g n h).to λV o q=>aC6 ⟨V,rfl,l,Li.mk' n,q⟩) (J2 hs)⟩
theorem aq8 (i:Ix) {n:Str} {b:WS} {body:List Stmt} (hi:X3 D.ns i=some n) (h1:isG D "BadCode"=true) (h2:isG D "BadRow"=true) (hb:B0 D b body):
  S7 D (bR1 i b) (.Try body [.ExceptHandler (some (.Name "BadCode" np)) none [.Raise (some (.Call (.Name "BadRow" np2) [.Name n ap] [] cp)) none rp] hpos] [] [] pos):=.mk λ{P _ _ _ _} g m h=>by
 have g':H2 _ D ⟨P.k,P.fv,ci6 i P⟩:=⟨g.ok,g.sc,g.hd,g.k,g.comp,g.dbg,g.dbo,g.fl,g.cap⟩
 exact bn3 g.ok g.hd (g.k.symm▸dd6 2 _) (J0 g h1).1 (J0 g h2).1 (aE1 g.dbg (an3 hi)) (Z7 rfl (ag8 _)) rfl (T3.mono (hb.go (P:=⟨P.k,P.fv,ci6 i P⟩) g' m h) (λU U x=>x) (λU U U q=>q) λC t l o q=>q.elim λw q=>⟨q.2.1,by
  obtain⟨hw,-,q⟩:=q
  cases e2:aw1 w i with
  | none=>rw[e2] at q;exact q.elim
  | some v=>rw[e2] at q;exact⟨v,hw.e▸an2 hi e2,w,hw,q⟩⟩)
end
section
variable {op:Operator} {o:b9} {Q:V->b9->Prop} {W:V} {R:Bool->b9->Prop}
theorem oB1 {a b:Int}:L8 .Add (.int a) (.int b) o Q=Q (.int (a+b)) o:=rfl
theorem oB2 {a b:Int}:L8 .Sub (.int a) (.int b) o Q=Q (.int (a-b)) o:=rfl
theorem oB3 {a b:Int}:L8 .Mult (.int a) (.int b) o Q=s8 .Mult (.int a) (.int b) o Q:=rfl
theorem oB4 {a b:Int}:L8 .Mod (.int a) (.int b) o Q=s8 .Mod (.int a) (.int b) o Q:=rfl
theorem oB5 {a b:Int}:L8 .FloorDiv (.int a) (.int b) o Q=s8 .FloorDiv (.int a) (.int b) o Q:=rfl
theorem oB6 {a b:Int}:L8 .BitAnd (.int a) (.int b) o Q=s8 .BitAnd (.int a) (.int b) o Q:=rfl
theorem oB7 {a b:Int}:L8 .RShift (.int a) (.int b) o Q=s8 .RShift (.int a) (.int b) o Q:=rfl
theorem oB8 {p:List UInt8}:L8 op (.bytes p) W o Q=s8 op (.bytes p) W o Q:=rfl
theorem oB9 {p:Str}:L8 op (.str p) W o Q=s8 op (.str p) W o Q:=rfl
theorem cP8 {p:List V}:L8 op (.tup p) W o Q=s8 op (.tup p) W o Q:=rfl
theorem cP9 {p:List V}:L8 op (.lst p) W o Q=s8 op (.lst p) W o Q:=rfl
theorem cQ0 {p:Addr}:L8 op (.ref p) W o Q=s8 op (.ref p) W o Q:=rfl
end
section
variable {op:CmpOp} {o:b9} {Q:V->b9->Prop} {W:V}
theorem oC1 {a b:Int}:p9 .Eq (.int a) (.int b) o Q=Q (.bool (decide (a=b))) o:=rfl
theorem oC2 {a b:Int}:p9 .NotEq (.int a) (.int b) o Q=Q (.bool (!decide (a=b))) o:=rfl
theorem oC3 {a b:Int}:p9 .Lt (.int a) (.int b) o Q=Q (.bool (decide (a<b))) o:=rfl
theorem oC4 {a b:Int}:p9 .LtE (.int a) (.int b) o Q=Q (.bool (decide (a<=b))) o:=rfl
theorem oC5 {a b:Int}:p9 .Gt (.int a) (.int b) o Q=Q (.bool (decide (b<a))) o:=rfl
theorem oC6 {a b:Int}:p9 .GtE (.int a) (.int b) o Q=Q (.bool (decide (b<=a))) o:=rfl
theorem oC7 {a b:List UInt8}:p9 .Eq (.bytes a) (.bytes b) o Q=Q (.bool (decide (a=b))) o:=rfl
theorem oC8 {a b:Str}:p9 .Eq (.str a) (.str b) o Q=Q (.bool (decide (a=b))) o:=rfl
theorem oC9 {a b:List UInt8}:p9 .NotEq (.bytes a) (.bytes b) o Q=Q (.bool (!decide (a=b))) o:=rfl
theorem cQ1 {a b:Str}:p9 .NotEq (.str a) (.str b) o Q=Q (.bool (!decide (a=b))) o:=rfl
theorem cQ2 {a b:Str}:p9 .LtE (.str a) (.str b) o Q=f7 .LtE (.str a) (.str b) o Q:=rfl
theorem cQ3  : p9 op (.none) W o Q=f7 op (.none) W o Q:=rfl
theorem cQ4 {p:Bool}:p9 op (.bool p) W o Q=f7 op (.bool p) W o Q:=rfl
theorem cQ5 {p:List V}:p9 op (.tup p) W o Q=f7 op (.tup p) W o Q:=rfl
theorem cQ6 {p:List V}:p9 op (.lst p) W o Q=f7 op (.lst p) W o Q:=rfl
theorem cQ7 {p:List (Str×V)}:p9 op (.dct p) W o Q=f7 op (.dct p) W o Q:=rfl
theorem cQ8 {p:Addr}:p9 op (.ref p) W o Q=f7 op (.ref p) W o Q:=rfl
theorem cQ9 {a:Str} {p:List V}:p9 op (.str a) (.tup p) o Q=f7 op (.str a) (.tup p) o Q:=rfl
theorem cR0 {a:Int} {p:List V}:p9 op (.int a) (.tup p) o Q=f7 op (.int a) (.tup p) o Q:=rfl
theorem cR1 {a:Str} {p:List V}:p9 op (.str a) (.lst p) o Q=f7 op (.str a) (.lst p) o Q:=rfl
theorem cR2 {a:Int} {p:List V}:p9 op (.int a) (.lst p) o Q=f7 op (.int a) (.lst p) o Q:=rfl
theorem cR3 {a:Str} {p:List (Str×V)}:p9 op (.str a) (.dct p) o Q=f7 op (.str a) (.dct p) o Q:=rfl
theorem cR4 {a:Int} {p:List (Str×V)}:p9 op (.int a) (.dct p) o Q=f7 op (.int a) (.dct p) o Q:=rfl
theorem cR5 {a:Str} {p:Addr}:p9 op (.str a) (.ref p) o Q=f7 op (.str a) (.ref p) o Q:=rfl
theorem cR6 {a:Int} {p:Addr}:p9 op (.int a) (.ref p) o Q=f7 op (.int a) (.ref p) o Q:=rfl
theorem cR7 {a:Str}  : p9 op (.str a) (.none) o Q=f7 op (.str a) (.none) o Q:=rfl
theorem cR8 {a:Int}  : p9 op (.int a) (.none) o Q=f7 op (.int a) (.none) o Q:=rfl
end
section
variable {own:b9} {P A B:Prop} {p q:Prop} [Decidable p] [Decidable q]
theorem ay8:if decide p=true then decide q=(decide p&&decide q)/\own=own else false=(decide p&&decide q)/\own=own:=by
 by_cases h:p
 ·rw[decide_eq_true h];exact⟨rfl,rfl⟩
 ·rw[decide_eq_false h];exact⟨rfl,rfl⟩
theorem ci7 (h1:p->q->A) (h2:¬(p/\q)->B):if(decide p&&decide q)=true then A else B:=r7 (λh=>h1 (of_decide_eq_true (cX6.mp h).1) (of_decide_eq_true (cX6.mp h).2)) λh=>h2 λ⟨a,b⟩=>by
 rw[decide_eq_true a,decide_eq_true b] at h;cases h
theorem cx6 (h1:p\/q->A) (h2:¬p->¬q->B):if(decide p || decide q)=true then A else B:=r7 (λh=>h1 ((Bool.or_eq_true_iff.mp h).imp of_decide_eq_true of_decide_eq_true)) λh=>by
 rw[dj8] at h;exact h2 (of_decide_eq_false h.1) (of_decide_eq_false h.2)
end
section
variable {r:WS} {P:o8} {l:e9} {o own:b9} {Q:SQ} {V:V} {QV:Mine.V->b9->Prop} {EX:XC} {C:Addr}
theorem cK5 (h:r P Q l o):bQ5 r P Q .next l o:=h
theorem bn4 (h:Q (.ret V) l o):bQ5 r P Q (.ret V) l o:=h
theorem cK6 (h:QV V o):aX6 QV (.ret V) l o:=⟨_,Sub.refl _,h⟩
theorem bR2 {o':b9} (s:Sub o' o) (h:QV V o'):aX6 QV (.ret V) l o:=⟨_,s,h⟩
theorem bC1 (h:QV .none o):aX6 QV .next l o:=⟨_,Sub.refl _,h⟩
theorem bC2 {o':b9} (s:Sub o' o) (h:QV .none o'):aX6 QV .next l o:=⟨_,s,h⟩
theorem aX7 (h:EX C V o):aN3 EX C V [] o:=⟨_,Sub.refl _,h⟩
theorem aj9 {o':b9} (s:Sub o' o) (h:EX C V o'):aN3 EX C V [] o:=⟨_,s,h⟩
theorem sz {α:Type} {xs:List α} (h:Nat.ble xs.length 16777216=true):xs.length<=sizeLine:=dd9 h
end
theorem bC3 {α:Type} {n:Nat} {w:List α} (h:w.length=n+1):∃a r,w=a::r/\r.length=n:=by
 cases w with
 | nil=>cases h
 | cons a r=>exact⟨a,r,rfl,Nat.succ.inj h⟩
theorem F9 {α:Type} {w:List α} (h:w.length=1):∃a,w=[a]:=by
 obtain⟨a,r,rfl,q⟩:=bC3 h;exact⟨a,congrArg _ (cZ8 q)⟩
theorem bR3 {α:Type} {w:List α} (h:w.length=2):∃a b,w=[a,b]:=by
 obtain⟨a,r,rfl,q⟩:=bC3 h;exact⟨a,(F9 q).imp λb e=>congrArg _ e⟩
theorem bR4 {α:Type} {w:List α} (h:w.length=3):∃a b d,w=[a,b,d]:=by
 obtain⟨a,r,rfl,q⟩:=bC3 h;exact⟨a,(bR3 q).imp λb e=>e.imp λd e=>congrArg _ e⟩
section
variable {tup:Bool} {own:b9}
theorem m9 {xs:List Mine.V}:ItS tup own (.lst xs) xs own:=λU U U U U=>bv4
theorem F5 {xs:List Mine.V}:ItS tup own (.tup xs) xs own:=λU U U U U=>bv5
theorem U3 {b:List UInt8}:ItS tup own (.bytes b) (ao7 b) own:=λU U U U U=>aU5
theorem aX8:ItS tup own (.str x) (I6 x) own:=λU U U U U=>bv6
theorem ci8:ItS tup own (.dct es) (es.map λp=>.str p.1) own:=λU U U U U=>bz7
theorem It_range (ho:own r=some (aK9 r a b)) (ha:-(2 ^ 62)<=a) (ha':a<2 ^ 62) (hb:-(2 ^ 62)<=b) (hb':b<2 ^ 62):ItS tup own (.ref r) (P9 a b) (c7 own r none):=λU U U U U=>aW4 ho ha ha' hb hb'
theorem bf8 (ho:own e=some (.enum it l xs)):ItS true own (.ref e) (o5 xs) (c7 own e none):=λU U U U h=>by
 obtain⟨_,_,_,rfl⟩:=h rfl;exact bm1 ho
end
end
section
section
variable {own:b9} {V₁ V₂ x:V} {xs ys:List V} {Q:V->b9->Prop} {a b i:Int}
theorem bf9 (h:IntMulOk a b) (hQ:Q (.int (a*b)) own):s8 .Mult (.int a) (.int b) own Q:=λU U U=>cr3 h hQ
theorem aq9 (h:b≠0) (hQ:Q (.int (a.fmod b)) own):s8 .Mod (.int a) (.int b) own Q:=λU U U=>cr4 h hQ
theorem bC4 (h:b≠0) (hp:Builtin.divisionGoesByPylong a b=false) (hQ:Q (.int (a.fdiv b)) own):s8 .FloorDiv (.int a) (.int b) own Q:=λU U U=>cr5 h hp hQ
theorem cx7 (hQ:Q (.int (Builtin.bitAnd a b)) own):s8 .BitAnd (.int a) (.int b) own Q:=λU U U=>cr6 hQ
theorem cx8 (h:0<=b) (hQ:Q (.int (a.fdiv (2 ^ b.toNat))) own):s8 .RShift (.int a) (.int b) own Q:=λU U U=>cr7 h hQ
theorem ah0 (L:j4 own V₁ xs) (L2:j4 own V₂ ys) (hz:xs.length+ys.length<=sizeLine) (hQ:Q (.lst (xs++ys)) own):s8 .Add V₁ V₂ own Q:=λU U U=>cs6 L L2 hz hQ
theorem bR5 (L:j4 own V₁ xs) (L2:j4 own V₂ ys) (hz:xs.length+ys.length<=sizeLine) (hQ:∀ad,own ad=none->Q (.ref ad) (c7 own ad (some (.list (xs++ys))))):s8 .Add V₁ V₂ own Q:=λU U U=>bz6 L L2 hz hQ
theorem ah1 {p q:List UInt8} (hz:p.length+q.length<=16777216) (hQ:Q (.bytes (p++q)) own):s8 .Add (.bytes p) (.bytes q) own Q:=λU U U=>cs7 hz hQ
theorem aX9 (h1:xs≠[]) (h2:ys≠[]) (hz:xs.length+ys.length<=sizeLine) (hQ:Q (.tup (xs++ys)) own):s8 .Add (.tup xs) (.tup ys) own Q:=λU U U=>cs8 h1 h2 hz hQ
theorem ca8 (h:nOk V₁=true) (hQ:Q (.bool (isN V₁)) own):f7 .Is V₁ .none own Q:=λU U U=>cF3 h hQ
theorem ah2 (h:nOk V₁=true) (hQ:Q (.bool (!isN V₁)) own):f7 .IsNot V₁ .none own Q:=λU U U=>bP3 h hQ
theorem R4 (L:j4 own V₁ xs) (hz:xs.length<2 ^ 63) (hQ:Q (.int xs.length) own):l0 (.builtin "len") [V₁] own Q:=λU U U U=>cs2 L hz hQ
theorem bC5 (hz:xs.length<2 ^ 63) (hQ:Q (.int xs.length) own):l0 (.builtin "len") [.tup xs] own Q:=λU U U U=>cs3 hz hQ
theorem aE5 {b:List UInt8} (hz:b.length<=1099511627776) (hQ:Q (.int b.length) own):l0 (.builtin "len") [.bytes b] own Q:=λU U U U=>cs4 hz hQ
theorem ci9 {x:Str} (hz:x.length<2 ^ 63) (hQ:Q (.int x.length) own):l0 (.builtin "len") [.str x] own Q:=λU U U U=>cs5 hz hQ
theorem ca9 {n:Nat} (hQ:Q (.int n) own):l0 (.builtin "ord") [.str ⟨#[n]⟩] own Q:=λU U U U=>cE2 hQ
theorem cb0 {i:Int} (h0:0<=i) (h1:i<=1114111) (hQ:Q (.str ⟨#[i.toNat]⟩) own):l0 (.builtin "chr") [.int i] own Q:=λU U U U=>cE3 h0 h1 hQ
theorem ad3 (L:j4 own V₁ xs) (hz:xs.length<=sizeLine) (hQ:Q (.tup xs) own):l0 (.type "tuple") [V₁] own Q:=λU U U U=>cf9 L hz hQ
theorem bC6 (h:V₁=.tup xs\/j4 own V₁ xs) (hz:xs.length<=sizeLine) (hQ:Q (.lst xs) own):l0 (.type "list") [V₁] own Q:=λU U U U=>ct3 h hz hQ
theorem cx9 {i:Int} (hQ:Q (.int i) own):l0 (.type "int") [.int i] own Q:=λU U U U=>cE4 hQ
theorem cj0 {es:List (Str×V)} (hQ:Q (.bool true) own):l0 (.builtin "isinstance") [.dct es,.val (.type "dict")] own Q:=λU U U U=>av4 hQ
theorem bC7 (h:bOk V₁=true) (hQ:Q (.bool (isB V₁)) own):l0 (.builtin "isinstance") [V₁,.val (.type "bool")] own Q:=λU U U U=>bx0 h hQ
theorem bC8 (hQ:∀e it l,own e=none->Q (.ref e) (c7 own e (some (.enum it l xs)))):l0 (.type "enumerate") [.lst xs] own Q:=λU U U U=>ch4 hQ
theorem Q4 (hQ:∀r,own r=none->Q (.ref r) (c7 own r (some (aK9 r 0 a)))):l0 (.type "range") [.int a] own Q:=λU U U U=>bP4 hQ
theorem bC9 (hQ:∀r,own r=none->Q (.ref r) (c7 own r (some (aK9 r a b)))):l0 (.type "range") [.int a,.int b] own Q:=λU U U U=>bP5 hQ
theorem K9 {ad:Addr} (ha:own ad=some (.list xs)):aC7 "list" own (.ref ad):=.inl ⟨rfl,_,ha⟩
theorem n5 {ad:Addr} (ha:own ad=some (.list xs)) (hz:xs.length<=sizeLine) (hQ:Q .none (c7 own ad (some (.list (xs++[x]))))):l0 (.builtin "list.append") [.ref ad,x] own Q:=λU U U U=>aK1 ha hz hQ
theorem cy0 {ad:Addr} (ha:own ad=some (.list (xs++[x]))) (hz:xs.length<sizeLine) (hQ:Q x (c7 own ad (some (.list xs)))):l0 (.builtin "list.pop") [.ref ad] own Q:=λU U U U=>cs9 ha hz hQ
theorem bD0 {ad:Addr} (ha:own ad=some (.list xs)) (hz:xs.length+ys.length<=sizeLine) (hQ:Q .none (c7 own ad (some (.list (xs++ys))))):l0 (.builtin "list.extend") [.ref ad,.lst ys] own Q:=λU U U U=>bw8 ha rfl hz hQ
theorem bD1 {b:List UInt8} {x:UInt8} (hQ:Q (.int (ac1 x b)) own):l0 (.builtin "bytes.find") [.bytes b,.bytes [x]] own Q:=λU U U U=>cg1 hQ
theorem bD2 {b d:List UInt8} (hQ:Q (.bool (d.isPrefixOf b)) own):l0 (.builtin "bytes.startswith") [.bytes b,.bytes d] own Q:=λU U U U=>bx2 hQ
theorem aE6 {b set:List UInt8} (hz:b.length<=sizeLine) (hQ:Q (.bytes (I7 set b)) own):l0 (.builtin "bytes.strip") [.bytes b,.bytes set] own Q:=λU U U U=>bO9 hz hQ
theorem M0 {b:List UInt8} {x:UInt8} (hz:b.length<sizeLine) (hQ:Q (.lst ((i5 x b).map .bytes)) own):l0 (.builtin "bytes.split") [.bytes b,.bytes [x]] own Q:=λU U U U=>bP1 hz hQ
theorem Q5 {sep:List UInt8} {ns:List (List UInt8)} (h:V₁=.tup (ns.map .bytes)\/j4 own V₁ (ns.map .bytes)) (hz:(g8 sep ns).length<=sizeLine) (hQ:Q (.bytes (g8 sep ns)) own):l0 (.builtin "bytes.join") [.bytes sep,V₁] own Q:=λU U U U=>cg2 h hz hQ
theorem aE7 {sep:Str} {ns:List Str} (h:V₁=.tup (ns.map .str)\/j4 own V₁ (ns.map .str)) (hf:ns.toArray.foldl (·+·.length+sep.length) 0<=sizeLine) (hQ:Q (.str (Str.join sep ns)) own):l0 (.builtin "str.join") [.str sep,V₁] own Q:=λU U U U=>cg0 h hf hQ
theorem W3 (L:j4 own V₁ xs) (h0:0<=i) (h1:i<2 ^ 63) (hx:xs[i.toNat]?=some x) (hQ:Q x own):Q3 V₁ (.int i) own Q:=⟨.l L,λU U U=>cf5 L h0 h1 hx hQ⟩
theorem cj1 (L:j4 own V₁ xs) (h0:i<0) (h1:-(xs.length:Int)<=i) (h2:-(2 ^ 63)<=i) (hx:xs[(i+xs.length).toNat]?=some x) (hQ:Q x own):Q3 V₁ (.int i) own Q:=⟨.l L,λU U U=>bj6 L h0 h1 h2 hx hQ⟩
theorem i_t (h0:0<=i) (h1:i<2 ^ 63) (hx:xs[i.toNat]?=some x) (hQ:Q x own):Q3 (.tup xs) (.int i) own Q:=⟨.t,λU U U=>cf6 h0 h1 hx hQ⟩
theorem i_b {b:List UInt8} (hz:b.length<=1099511627776) (h0:0<=i) (h1:i<b.length) (hQ:Q (.int ((b.getD i.toNat 0).toNat:Int)) own):Q3 (.bytes b) (.int i) own Q:=⟨.b,λU U U=>cf7 hz h0 h1 hQ⟩
theorem aE8 (K0:T6) {k:Str} {es:List (Str×V)} (L:A1 own V₁ es) (hx:k7 es k=some x) (hQ:Q x own):Q3 V₁ (.str k) own Q:=⟨.d L,λU U U=>bw9 (k:=k) K0 L hx hQ⟩
theorem cy1 (K0:T6) {k:Int} {es:List (Int×V)} (L:A1 own V₁ es) (hx:k7 es k=some x) (hQ:Q x own):Q3 V₁ (.int k) own Q:=⟨.d L,λU U U=>bw9 (k:=k) K0 L hx hQ⟩
theorem u_l {lo hi:Option Int} {Vl Vu:V} (L:j4 own V₁ xs) (hz:xs.length<=sizeLine) (pl:M5 Vl lo) (pu:M5 Vu hi) (hQ:Q (.lst (cut xs lo hi)) own):aq4 V₁ Vl Vu .none own Q:=⟨.l L,λU U U=>bO3 L hz pl pu hQ⟩
theorem cj2 (L:j4 own V₁ xs) (hz:xs.length<=sizeLine) (hQ:Q (.lst xs.reverse) own):aq4 V₁ .none .none (.int (-1)) own Q:=⟨.l L,λU U U=>aV1 L hz hQ⟩
theorem u_b {b:List UInt8} {lo hi:Option Int} {Vl Vu:V} (hz:b.length<=16777216) (pl:M5 Vl lo) (pu:M5 Vu hi) (hQ:Q (.bytes (cut b lo hi)) own):aq4 (.bytes b) Vl Vu .none own Q:=⟨.b,λU U U=>bO4 hz pl pu hQ⟩
end
abbrev LP:=LQ->Prop
noncomputable def S5 (Φ:LP):LQ:=λl o=>∀X:LQ,Φ X->X l o
theorem S5.at (e:o=o') (h:S5 Φ l o'):S5 Φ l o:=e▸h
theorem S5.at2 (e:l=l') (h:S5 Φ l' o):S5 Φ l o:=e▸h
theorem aw4 {tup:Bool} {n:Nat} {t:WA} {body orelse:WS} {P:o8} {Q:SQ} {l:e9} {V:V} {o:b9} {xs:List Mine.V} {ownr:b9} (Φ:Nat->LP) (hi:ItS tup o V xs ownr) (j0:S5 (Φ 0) l ownr)
  (ht:∀i x,xs[i]?=some x->Φ i λl o=>l.length=n->t P (ci0 body P (bf7 (S5 (Φ (i+1))) Q)) x l o) (he:Φ xs.length λl o=>orelse P Q l o):bQ8 tup n t body orelse P Q l V o:=
 ⟨xs,ownr,λi=>S5 (Φ i),hi,j0,λi U U x hl j hx=>j _ (ht i x hx) hl,λU U j=>j _ he⟩
theorem ad4 {α:Type} {f:α->Mine.V} {tup:Bool} {n:Nat} {t:WA} {body orelse:WS} {P:o8} {Q:SQ} {l:e9} {V:V} {o:b9} {ys:List α} {ownr:b9} (Φ:Nat->LP) (hi:ItS tup o V (ys.map f) ownr) (j0:S5 (Φ 0) l ownr)
  (ht:∀i x,ys[i]?=some x->Φ i λl o=>l.length=n->t P (ci0 body P (bf7 (S5 (Φ (i+1))) Q)) (f x) l o) (he:Φ ys.length λl o=>orelse P Q l o):bQ8 tup n t body orelse P Q l V o:=
 aw4 Φ hi j0 (λi x hx=>by
  rw[cX9] at hx
  rcases cY2.mp hx with⟨y,hy,rfl⟩
  exact ht i y hy) (cV3 f▸he)
noncomputable def MJ {α:Type} (g:α->V) (ys:List α) (ownr:b9) (i:Nat) (acc:List V):LQ:=λU o=>o=ownr/\acc=(ys.take i).map g
theorem mjE {α:Type} {g:α->V} {ys:List α} {ownr:b9} {i:Nat} {x:α} (hx:ys[i]?=some x):MJ g ys ownr (i+1) ((ys.take i).map g++[g x]) [] ownr:=⟨rfl,by rw[g6 hx,cV5];rfl⟩
section
variable {α:Type} {f:α->V} {tup comp:Bool} {nm:Str} {t:WA} {ifs:WT} {elt:WE} {P:o8} {l:e9} {own:b9} {Q:V->b9->Prop} {V:V} {ys:List α} {ownr:b9}
theorem ah3 (g:α->Mine.V) (hi:ItS tup own V (ys.map f) ownr) (hz:ys.length<=sizeLine)
  (ht:∀i a x,ys[i]?=some x->x∈ys->t (P.sub comp l) (aN0 ifs elt (P.sub comp l) (MJ g ys ownr (i+1)) ((ys.take i).map g)) (f x) [a] ownr) (hQ:Q (.lst (ys.map g)) ownr):Y2 tup [nm] comp t ifs elt P l Q V own:=
 ⟨ys.map f,ownr,_,MJ g ys ownr,λU U U U U=>trivial,hi.c,(by rw[cV3];exact hz),⟨rfl,rfl⟩,λi acc w o x hw ⟨e1,e2⟩ hx=>by
  subst e1 e2;obtain⟨a,rfl⟩:=F9 hw
  rw[cX9] at hx
  rcases cY2.mp hx with⟨y,hy,rfl⟩
  exact ht i a y hy (cW7 hy),λacc w o ⟨e1,e2⟩ _=>by rw[e1,e2,cV3,cY5];exact hQ⟩
end
theorem ar0 {P:o8} (Φ:LP) (h:s P (ca6 (S5 Φ) Q) l o) (q:Φ λl o=>Q .next l o):bA8 s P Q l o:=⟨S5 Φ,h,λU U j=>j _ q⟩
end
section
noncomputable def bD3 (i:Ix) (f:WS) (P:o8) (Q:SQ) (l:e9) (o:b9):Prop:=match aw1 l i with
 | some (.ref a)=>o a=some .deck/\∀d xs mx,o d=none->d≠a->0<=mx->mx<2147483647->Q1 xs->f P Q l (c7 (c7 o a (some (.dictS (B5 d mx)))) d (some (.list xs)))
 | _=>False
noncomputable def aE9 (K:x4):x4:=λstk l o=>∃a d mx xs,o a=some (.dictS (B5 d mx))/\o d=some (.list xs)/\0<=mx/\mx<2147483647/\Q1 xs/\K stk l (c7 (c7 o d none) a (some .deck))
noncomputable def aF0 (a:WE) (P:o8) (K:x4) (stk:List V) (l:e9) (o:b9):Prop:=a P (aE9 K) stk l o
section
variable {D:DC} {pos:Pos} {e:Expr}
theorem bD4 (i:Ix) (h:B0 D f ss):B0 D (bD3 i f) ss:=.mk λ{_ _ l _ _} g n q=>by
 unfold bD3 at q
 split at q
 ·exact T3.openDeck B3 q.1 λd xs mx h1 h2 h3 h4 h5=>h.go g n (q.2 d xs mx h1 h2 h3 h4 h5)
 ·exact q.elim
theorem ar1 (ha:k6 D a e):S7 D (cw3 (aF0 a)) (.Return (some e) pos):=d4 (.mk λg n h=>aD7 (ha.go g n h))
end
end
section
section
variable {prog:Program} {w:World} {A:Around} {E:Value->Shared->Prop} {s:Shared}
theorem ad5 {it t:Addr} {i:Nat} {items:Array Value} {P:Value->Shared->Prop} (hit:s.heap.IsTupleIter it t i) (ht:s.heap.IsTuple t items)
  (h:wpAny (model prog w) A.in1 (Builtin.«tuple_iterator.__next__» ⟨[.ref it],[]⟩) (λfin s'=>∃v,fin=.done (.ret v)/\P v s') E s):
  wpAny (model prog w) A (Builtin.SmallTypes.nextOf (.ref it)) P E s:=by
 unfold Builtin.SmallTypes.nextOf
 refine wpAny_bind (wpAny_callSpecial?_slot (name:=Str.ofString "__next__") hit.typeIs PySem.F.slot_tuple_iterator_next
  (wpAny_call_entry PySem.F.slot_tuple_iterator_next hit.typeIs PySem.F.entry_tuple_iterator_next (wpAny_mono h (λfin s' ⟨v,e,q⟩=>⟨v,e,wpAny_pure q⟩) λU U e=>e) (PySem.F.args_tuple_iterator_next_1 _)))
theorem aN5 (hh:A.handled=none) (it l:Addr) (hne:l≠it) (items:Array Value):
  Draws prog w A it [it,l] items.size (λi v=>items[i]?=some v) (λi h=>h.IsTupleIter it l i/\h.IsTuple l items) where
 live:=λU U st=>st.1.elim λo h=>⟨o,h.1⟩
 frame:=λU U U st hk=>⟨st.1.at λo e=>hk it (by simp) o e,st.2.at λo e=>hk l (by simp) o e⟩
 item:=λi s Q E hi st hQ=>by
  rcases st with⟨st,st2⟩
  refine ad5 st st2 ?_
  obtain⟨o,ho,hc,hd⟩:=id st
  obtain⟨ol,hol,_,nl,hdl⟩:=id st2
  show wpAny _ _ (field (.ref it) 0 >>= _) _ _ s
  refine wpAny_bind (wpAny_field ho hd (x:=.ref l) rfl ?_)
  show wpAny _ _ (if(Value.ref l == Value.none)=true then _ else _) _ _ s
  rw[if_neg (show¬((Value.ref l == Value.none)=true) from cV7)]
  show wpAny _ _ (field (.ref it) 1 >>= _) _ _ s
  refine wpAny_bind (wpAny_field ho hd (x:=.int i 0) rfl ?_)
  show wpAny _ _ (seqItems? (.ref l) >>= _) _ _ s
  refine wpAny_bind (wpAny_seqItems hol hdl ?_)
  dsimp only
  rw[db8,df5 hi]
  dsimp only
  have hs:=Heap.SameBut.update s.heap it (Obj.mapFields λfs=>fs.set! 1 (rawInt ((i:Int)+1)))
  refine wpAny_bind (wpAny_setField ho hd (by simp) (wpAny_pure ⟨_,rfl,hQ _ _ _ (df5 hi) ⟨?_,st2.extBut hs.extBut hne⟩ hs⟩))
  exact⟨_,Heap.get?_update_self _ ho (Obj.isFreed_of_fields (Obj.data_mapFields hd _)),(Obj.cls_mapFields ..).trans hc,by rw[Obj.data_mapFields hd];simp [rawInt]⟩
 done:=λs Q E st hE=>by
  rcases st with⟨st,st2⟩
  refine ad5 st st2 ?_
  obtain⟨o,ho,hc,hd⟩:=id st
  obtain⟨ol,hol,_,nl,hdl⟩:=id st2
  show wpAny _ _ (field (.ref it) 0 >>= _) _ _ s
  refine wpAny_bind (wpAny_field ho hd (x:=.ref l) rfl ?_)
  show wpAny _ _ (if(Value.ref l == Value.none)=true then _ else _) _ _ s
  rw[if_neg (show¬((Value.ref l == Value.none)=true) from cV7)]
  show wpAny _ _ (field (.ref it) 1 >>= _) _ _ s
  refine wpAny_bind (wpAny_field ho hd (x:=.int items.size 0) rfl ?_)
  show wpAny _ _ (seqItems? (.ref l) >>= _) _ _ s
  refine wpAny_bind (wpAny_seqItems hol hdl ?_)
  dsimp only
  rw[db8,Array.getElem?_eq_none (cX5 _)]
  dsimp only
  refine wpAny_bind (wpAny_rule (wpAny_bind (wpAny_setField ho hd (by simp) ?_)))
  show wpAny _ _ (newExc (.type "StopIteration") [] >>= _) _ _ _
  refine wpAny_bind ?_
  unfold newExc newTuple
  refine wpAny_bind (wpAny_newObj_type ?_ (by size_fits))
  refine wpAny_bind (m:=firstArgMember _ _) (wpAny_of_eq (a:=Value.none) (by first | rfl | (simp only[firstArgMember];rfl)) ?_)
  refine wpAny_newObj_type ?_ (by size_fits)
  unfold raiseNew
  refine wpAny_bind (wpAny_handled ?_)
  rw[show A.in1.handled=none from hh]
  refine wpAny_bind (wpAny_pure (wpAny_throw ?_))
  exact hE _ _ (((Heap.SameBut.update ..).extBut.push _).push _) ⟨_,Heap.get?_push_size _ rfl,rfl⟩
theorem aY0 {M:Model} {f:List (Code×Pos)->Bool} {Q:Bool->Shared->Prop} {E':Value->Shared->Prop} (h:∀b,Q b s):wpAny M A stack (λa s'=>wpAny M A (Pure.pure (f a)) Q E s') E' s:=wpAny_stack_any λU=>wpAny_pure (h _)
set_option tactic.hygienic true in
theorem al4 (l:Addr) (items:Array Value) (n:Nat):
  Meets (Builtin.«enumerate.__new__» ⟨[.type "enumerate",.ref l],[]⟩) (λU R s=>s.heap.get? l=some {cls:=.type "tuple",data:=.seq items n}/\
   R (.ok (.ret (.ref (s.heap.push {cls:=.type "tuple_iterator",data:=.fields #[.ref l,.int 0 0]}).objs.size)))
    {s with heap:=(s.heap.push {cls:=.type "tuple_iterator",data:=.fields #[.ref l,.int 0 0]}).push {cls:=.type "enumerate",data:=.fields #[.none,.bool false,.ref s.heap.objs.size,rawInt 0,.none,.none]}}):=
 .of_wp λprog w A R s h=>by
  obtain⟨hp,g,d,tk,os⟩:=s;obtain⟨hl,h⟩:=h
  have hsub:=sub_enumerate
  have hL:Heap.IsTuple (Shared.heap ⟨hp,g,d,tk,os⟩) l items:=⟨_,hl,rfl,n,rfl⟩
  wp_walk using AutoSeq1.wpAny_loadPart' hl
  refine aY0 λb=>?_
  cases b<;>(wp_walk using AutoSeq1.wpAny_loadPart' hl,wpAny_pyIter_tuple hL;exact⟨_,rfl,h⟩)
end
end
section
section
variable {c:Cx} {loc:f8} {own:b9} {E:XP} {V₁ x y:V} {xs:List V} {Q:V->b9->Prop}
theorem cj3 (K0:T6) {T:Type} [DecidableEq T] [DK T] {es:List (T×V)} (L:A1 own V₁ es) (hz:es.length<1000) (hQ:Q (.int es.length) own):l0 (.builtin "len") [V₁] own Q:=λc loc E U=>by
 intro vs F A μ s S r
 rcases r.one with⟨_,rfl,r1⟩
 obtain⟨a,rfl,hn,vs,hd,rr⟩:=L.at_ K0 S r1
 have e:=rr.length
 refine call_len_dict hn hd (by lia) ?_
 rw[e]
 exact leaf (s':={s with toks:=s.toks+1+1}) S hQ rfl rfl rfl (.int _ _)
theorem cj4 (K0:T6) {es:List (Str×V)} (L:A1 own V₁ es) (hQ:Q (.bool (!es.isEmpty)) own):f7 .NotEq V₁ (.dct []) own Q:=λc loc E=>op2 hQ λU U U s U U S r1 r2 U U k=>by
 obtain⟨a,rfl,hn,vs,hd,rr⟩:=L.at_ K0 S r1
 obtain⟨b,rfl,hn2,us,hd2,rr2⟩:=(A1.dct (es:=[])).at_ K0 S r2
 cases (show us=[] from rr2)
 refine keq_ne (r:=true) hn hn2 hd hd2 (aj6 S.ar) (λe=>?_) (k _ _ (λU=>?_) rfl rfl rfl)
 ·cases vs with
  | nil=>exact .nil
  | cons=>cases e
 ·rw[rr.length]
  cases es<;>exact .bool _
theorem bR7:∀{es:List (Int×Value)},vs.length=es.length->(∀(j:Nat) (v:Value),vs[j]?=some v->∃k x,es[j]?=some (k,x)/\(intKind G.prog G.w).is k v=true)->IntsAre vs (es.map (·.1)):=by
 induction vs with
 | nil=>intro es e _;cases es with
  | nil=>exact .nil
  | cons=>cases e
 | cons v vs ih=>intro es e h;cases es with
  | nil=>cases e
  | cons p es=>
   obtain⟨k,x,h1,h2⟩:=h 0 v rfl
   cases h1
   rcases Value.isInt_shape h2 with⟨t,rfl⟩
   exact .cons _ _ (ih (Nat.succ.inj e) λj u hj=>h (j+1) u hj)
theorem bR8 {h:Heap} {μ:Mu} {vs:List Value} {ns:List Int} (x:IntsAre vs ns):q9 h μ (ns.map .int) vs:=by
 induction x with
 | nil=>exact .nil
 | cons _ _ _ ih=>exact .cons (.int _ _) ih
theorem K6.keys {K:Type} {h:Heap} {μ:Mu} {xs:List (K×V)}:∀{vs:List (K×Value)},K6 h μ xs vs->vs.map (·.1)=xs.map (·.1):=by
 induction xs with
 | nil=>exactλe=>congrArg (do4 (·.1)) e
 | cons x xs ih=>rintro vs ⟨_,_,rfl,_,b⟩;exact congrArg (_::·) (ih b)
theorem ay9 (K0:T6) (ha:own a=some (.dictI es)) (hz:es.length<64) (hQ:∀ns:List Int,ns.Perm (es.map (·.1))->ns.Pairwise (·<=·)->Q (.lst (ns.map .int)) own):
  l0 (.builtin "sorted") [.ref a] own Q:=λc loc E hh=>by
 intro vs F A μ s S r
 rcases r.one with⟨_,rfl,rfl⟩
 obtain⟨hm,_,us,hd,rr⟩:=S.chunk ha
 rcases hd.dictAt with⟨ep,hat⟩
 have ul:us.length=es.length:=rr.length
 refine call_function_entry kind_sorted plain_sorted entry_sorted (args_sorted1 _) ?_
 unfold Builtin.«sorted»
 refine wpAny_bind (m:=checkCount "sorted" 1 1 _) (wpAny_pure ?_)
 refine wpAny_bind (kdu_collect (A:=A.in1) (kdl_dict (knd:=intKind G.prog G.w) (kvs:=us) (ep:=ep) (S.ne_sys K0 ha)) (S.ar.handled.trans hh) hat (by rw[ul,sizeLine_eq];lia) λh' tk acc hk hacc=>?_)
 have al:acc.toList.length=es.length:=by rw[db0];exact hacc.1.trans ul
 have hI:IntsAre acc.toList (us.map (·.1)):=bR7 (al.trans ul.symm) λj v e=>hacc.2 j v (by rw[<-dj6];exact e)
 rw[rr.keys] at hI
 refine wpAny_bind (wpAny_newList ?_ (by rw[al,sizeLine_eq];lia))
 have hoL:(h'.push (seqObj "list" acc.toList.toArray 0)).get? h'.objs.size=some (seqObj "list" acc.toList.toArray 0):=Heap.get?_push_size _ rfl
 refine wpAny_bind (wpAny_holding (wpAny_call_entry slot_list_sort ⟨_,hoL,rfl⟩ entry_list_sort (list_sort_tree hoL hI (by rw[al];exact hz) λout ns' a1 a2 a3=>⟨_,rfl,wpAny_pure ⟨_,rfl,?_⟩⟩) (args_list_sort _)))
 rcases sortedHeap_at (vs:=acc.toList) (out:=out) hoL with⟨e,hat2⟩
 refine ap1 (tk:=tk) S (λb o g=>?_) (hQ ns' a2 a3) λsr P=>?_
 ·have hlt:=Heap.lt_size (hk b o g)
  rw[sortedHeap_old (cY4 hlt) (by rw[size_push'];exact df3 hlt),Heap.get?_push_ne _ _ _ (cY4 hlt)]
  exact hk b o g
 ·refine .lst ⟨e,hat2⟩ ?_ (bR8 a1)
  cases q:μ h'.objs.size with
  | none=>rfl
  | some y=>obtain⟨ob,g⟩:=(S.sr.dom _ y q).2;exact absurd (Heap.lt_size (hk _ _ g)) (de6 _)
end
end
section
section
variable {prog:Program} {w:World} {A:Around} {E:Value->Shared->Prop} {s:Shared}
abbrev NoV:Value->Shared->Prop:=λU U=>False
noncomputable def aF1 (prog:Program) (w:World) (A:Around) (x y:Value) (s:Shared):Prop:=
 wpAny (model prog w) A (keyKind' [x,y].toArray) (λκ s'=>s'=s/\wpAny (model prog w) A (keyLt' κ y x) (λr s''=>r=false/\s''=s) NoV s) NoV s
theorem bD5 {Q:SortSt->Shared->Prop} {κ:SortKind} (h:wpAny (model prog w) A (keyLt' κ y x) (λr s''=>r=false/\s''=s) NoV s)
  (hQ:∀st',(arrOf st').map (·.2)=[x,y].toArray->failedOf st'=none->Q st' s):
  wpAny (model prog w) A ((sortRuns').run (SortSt.mk' κ ([x,y].toArray.zip [x,y].toArray) #[] 7 none)) (λr s'=>Q r.2 s') E s:=by
 refine kat_run (G:=λp s'=>p=#[0,1]/\s'=s) (vs:=[x,y]) rfl (cX5 _) (by show 2<64;decide) (λp st' s' _ a2 a3 ⟨e1,e2⟩=>?_) (wpAny_mono h (λr s'' ⟨e1,e2⟩=>?_) λU U e=>e)
 ·subst e1 e2
  exact hQ st' (kat_snds (vs:=[x,y]) rfl a2) a3
 ·subst e1 e2
  exact⟨rfl,rfl⟩
theorem bD6 {P:Fin->Shared->Prop} (ho:s.heap.get? a=some (seqObj "list" vs.toArray n)) (hl:vs.length<2\/∃x y,vs=[x,y]/\∀h1,(∀b o,b≠a->s.heap.get? b=some o->h1.get? b=some o)->aF1 prog w A x y {s with heap:=h1})
  (h:P (.done (.ret .none)) {s with heap:=sortedHeap s.heap a vs vs.toArray}):wpAny (model prog w) A (Builtin.«list.sort» ⟨[.ref a],[]⟩) P E s:=by
 rw[list_sort_plain]
 have ha:a<s.heap.objs.size:=Heap.lt_size ho
 have hz:vs.length<=sizeLine:=by
  rcases hl with q | ⟨_,_,rfl,-⟩
  ·exact cV2 (cY0 q) (by decide)
  ·exact(by show 2<=sizeLine;decide)
 have hz':vs.toArray.size<=sizeLine:=by rwa [dc3]
 refine wpAny_bind (listItems_at ho rfl ?_)
 refine wpAny_bind (listUpdate_at ho rfl ?_ hz' (cZ2 _))
 obtain⟨e1,ho1⟩:∃e1,(s.heap.update a (Obj.mapSeq λU=>#[])).get? a=some (seqObj "list" #[] e1):=⟨_,get?_update_seq ho (λU=>#[])⟩
 refine wpAny_bind (seqEpoch_at ho1 rfl ?_)
 refine wpAny_bind (wpAny_newTuple ?_ hz)
 refine wpAny_bind (wpAny_newList ?_ (cZ2 _))
 refine wpAny_holding ?_
 have keep:∀b o,b≠a->s.heap.get? b=some o->(((s.heap.update a (Obj.mapSeq λU=>#[])).push (seqObj "tuple" vs.toArray 0)).push (seqObj "list" #[] 0)).get? b=some o:=λb o hb g=>
  Heap.get?_push_of_some _ (Heap.get?_push_of_some _ ((Heap.get?_update_ne _ _ _ _ hb).trans g))
 have ho6:(((s.heap.update a (Obj.mapSeq λU=>#[])).push (seqObj "tuple" vs.toArray 0)).push (seqObj "list" #[] 0)).get? a=some (seqObj "list" #[] e1):=Heap.get?_push_of_some _ (Heap.get?_push_of_some _ ho1)
 show wpAny (model prog w) A _ P E {s with heap:=((s.heap.update a (Obj.mapSeq λU=>#[])).push (seqObj "tuple" vs.toArray 0)).push (seqObj "list" #[] 0)}
 dsimp only
 have fin:∀st':SortSt,(arrOf st').map (·.2)=vs.toArray->failedOf st'=none->wpAny (model prog w) A (do
   let touched:=(<-seqEpoch a) != e1
   Builtin.List.listUpdate (.ref a) λU=>(arrOf st').map (·.2)
   if let some e:=failedOf st' then rule "list.sort.comparison-raised";throw e
   if touched then rule "list.sort.modified";raiseError "ValueError" "list modified during sort"
   ret .none) P E {s with heap:=((s.heap.update a (Obj.mapSeq λU=>#[])).push (seqObj "tuple" vs.toArray 0)).push (seqObj "list" #[] 0)}:=λst' he hf=>by
  refine wpAny_bind (seqEpoch_at ho6 rfl ?_)
  rw[he,hf]
  refine wpAny_bind (listUpdate_at ho6 rfl ?_ (cZ2 _) (cZ6 hz'))
  simp only[bne_self_eq_false,dg9,if_false]
  exact wpAny_pure h
 rcases hl with h2 | ⟨x,y,rfl,ask⟩
 ·have h2:vs.toArray.size<2:=by rwa [dc3]
  rw[if_pos h2,if_pos h2]
  refine wpAny_bind (wpAny_pure ?_)
  rw[StateT.run_pure]
  refine wpAny_bind (wpAny_pure (fin (SortSt.mk' general' (vs.toArray.zip vs.toArray) #[] 7 none) ?_ rfl))
  exact Array.map_snd_zip (cX5 _)
 ·have h2:¬[x,y].toArray.size<2:=by simp
  rw[if_neg h2,if_neg h2]
  refine wpAny_bind (wpAny_mono (ask _ keep) (λκ s0 q=>?_) λU U x=>x.elim)
  rcases q with⟨rfl,hk⟩
  exact wpAny_bind (bD5 hk λst'=>fin st')
theorem aY1 (hl:s.heap.IsList l vs.toArray) (hf:vs.length<2\/∃x y,vs=[x,y]/\∀A h1,(∀b o,s.heap.get? b=some o->h1.get? b=some o)->aF1 prog w A x y {s with heap:=h1})
  (h:Q (.ref (s.heap.objs.size+1)) {s with heap:=sortedAll s.heap vs vs.toArray}):
  wpAny (model prog w) A (call (.builtin "sorted") [.ref l]) Q E s:=by
 have hz:vs.length<=sizeLine:=by
  rcases hf with q | ⟨_,_,rfl,-⟩
  ·exact cV2 (cY0 q) (by decide)
  ·exact(by show 2<=sizeLine;decide)
 refine Calls.call_function_entry kind_sorted plain_sorted entry_sorted (args_sorted1 _) ?_
 unfold Builtin.«sorted»
 refine wpAny_bind (m:=checkCount "sorted" 1 1 _) (wpAny_pure ?_)
 refine wpAny_bind (collect_list hl ?_ hz)
 refine wpAny_bind (wpAny_newList ?_ hz)
 have hsz:((s.heap.push (seqObj "list" #[] 0)).update s.heap.objs.size (Obj.mapSeq (·++vs.toArray))).objs.size=s.heap.objs.size+1:=by
  rw[Heap.size_update,size_push']
 have hoL:(((s.heap.push (seqObj "list" #[] 0)).update s.heap.objs.size (Obj.mapSeq (·++vs.toArray))).push (seqObj "list" vs.toArray 0)).get? (s.heap.objs.size+1)=some (seqObj "list" vs.toArray 0):=by
  rw[<-hsz];exact Heap.get?_push_size _ rfl
 have keep:∀b o,s.heap.get? b=some o->b≠s.heap.objs.size+1/\(((s.heap.push (seqObj "list" #[] 0)).update s.heap.objs.size (Obj.mapSeq (·++vs.toArray))).push (seqObj "list" vs.toArray 0)).get? b=some o:=λb o g=>by
  have hlt:=Heap.lt_size g
  exact⟨cY4 (df3 hlt),Heap.get?_push_of_some _ ((Heap.get?_update_ne _ _ _ _ (cY4 hlt)).trans (Heap.get?_push_of_some _ g))⟩
 show wpAny _ _ _ _ _ {s with heap:=((s.heap.push (seqObj "list" #[] 0)).update s.heap.objs.size (Obj.mapSeq (·++vs.toArray))).push (seqObj "list" vs.toArray 0)}
 rw[hsz]
 refine wpAny_bind (wpAny_holding (wpAny_call_entry slot_list_sort ⟨_,hoL,rfl⟩ entry_list_sort (bD6 hoL (hf.imp _root_.id λq=>q.imp λx q=>q.imp λy q=>⟨q.1,λh1 hk=>q.2 _ h1 λb o g=>hk b o (keep b o g).1 (keep b o g).2⟩) ⟨_,rfl,wpAny_pure ⟨_,rfl,h⟩⟩) (args_list_sort _)))
end
section
variable {own:b9} {Q:V->b9->Prop}
noncomputable def aL4 (w1 w2:Str):Bool:=!decide (w2=w1)&&!decide (w2.cps.toList<w1.cps.toList)
noncomputable def cb1 (xs:List V):Prop:=xs.length<2\/∃w1 r1 w2 r2,xs=[.tup (.str w1::r1),.tup (.str w2::r2)]/\aL4 w1 w2=true
theorem bn5 (h1:aB9 s.heap a (Value.str w1 t1::us).toArray) (h2:aB9 s.heap b (Value.str w2 t2::ws).toArray) (hb:aL4 w1 w2=true):aF1 prog w A (.ref a) (.ref b) s:=by
 rcases h1 with⟨n1,g1⟩
 rcases h2 with⟨n2,g2⟩
 rcases cX6.mp hb with⟨e1,e2⟩
 have e1:decide (w2=w1)=false:=by simpa using e1
 have e2:decide (w2.cps.toList<w1.cps.toList)=false:=by simpa using e2
 refine kat_kind (fs:=[.str w1 t1,.str w2 t2]) (T:=.type "str") (.cons g1 rfl rfl rfl (.cons g2 rfl rfl rfl .nil)) (dl3 _) ?_ rfl ⟨rfl,?_⟩
 ·intro v hv
  simp only[cW1,cY8,or_false] at hv
  rcases hv with rfl | rfl<;>exact Looks.now
 ·refine kat_lt g2 rfl g1 rfl (kat_cons (wpAny_eqBool_str ?_))
  rw[e1]
  refine kat_no (oneLt_str ?_)
  rw[e2]
  exact⟨rfl,rfl⟩
theorem az0 (L:j4 own V₁ xs) (hr:cb1 xs) (hQ:Q (.lst xs) own):l0 (.builtin "sorted") [V₁] own Q:=λc loc E hh=>by
 intro vs F A μ s S r
 rcases r.one with⟨_,rfl,r1⟩
 obtain⟨a,us,rfl,t,rr⟩:=L.at_ S r1
 rcases sortedAll_at s.heap us.toList us.toList.toArray with⟨e,hat⟩
 have keep:∀b o,s.heap.get? b=some o->(sortedAll s.heap us.toList us.toList.toArray).get? b=some o:=λU U=>sortedAll_old
 refine aY1 (vs:=us.toList) (by simpa using t.isList) ?_ (ap1 (tk:=s.toks) S keep hQ λsr P=>.lst ⟨e,hat⟩ (S.sr.far (db7 _)).2.1 (by simpa using rr.pres P))
 rcases hr with h | ⟨w1,x1,w2,x2,rfl,hr⟩
 ·exact .inl (rr.length▸h)
 ·obtain⟨v,u,e,r1,r2⟩:=rr.two
  obtain⟨a1,us1,rfl,⟨n1,g1⟩,-,q1⟩:=r1
  obtain⟨a2,us2,rfl,⟨n2,g2⟩,-,q2⟩:=r2
  obtain⟨_,us1',e1,⟨t1,rfl⟩,-⟩:=q1
  obtain⟨_,us2',e2,⟨t2,rfl⟩,-⟩:=q2
  refine .inr ⟨_,_,e,λA h1 hk=>bn5 (us:=us1') (ws:=us2') (t1:=t1) (t2:=t2) ⟨n1,?_⟩ ⟨n2,?_⟩ hr⟩
  ·rw[<-e1];exact hk _ _ g1
  ·rw[<-e2];exact hk _ _ g2
end
end
section
section
variable {c:Cx} {loc:f8} {own:b9} {E:XP}
noncomputable def cb2 (us:Array Value) (ns:List Str):Prop:=us.size=ns.length/\∀(i:Nat) (x:Value),us[i]?=some x->∃n t,ns[i]?=some n/\x=.str n t
noncomputable def ah4 (e it l:Addr) (ns:List Str) (i:Nat) (h:Heap):Prop:=(∃old,IsEnum h e it (i:Nat) old)/\h.IsTupleIter it l i/\∃us,h.IsTuple l us/\cb2 us ns
theorem cy2 {h:Heap} {μ:Mu} {ns:List Str}:∀{us:List Value},q9 h μ (ns.map .str) us->us.length=ns.length/\∀(i:Nat) (x:Value),us[i]?=some x->∃n t,ns[i]?=some n/\x=.str n t:=by
 induction ns with
 | nil=>rintro _ rfl;exact⟨rfl,λU U h=>nomatch h⟩
 | cons n ns ih=>
  intro _ q1_
  obtain⟨_,us,rfl,⟨t,rfl⟩,b⟩:=q1_
  refine⟨congrArg (·+1) (ih b).1,λi x hx=>?_⟩
  cases i with
  | zero=>cases hx;exact⟨n,t,rfl,rfl⟩
  | succ i=>exact(ih b).2 i x hx
theorem ah4.frame (i:Nat) (h h':Heap) (st:ah4 e it l ns i h) (k:∀b∈[e,it,l],∀o,h.get? b=some o->h'.get? b=some o):ah4 e it l ns i h':=by
 obtain⟨⟨old,a⟩,b,us,t,su⟩:=st
 exact⟨⟨old,k e (.head _) _ a⟩,b.at λo g=>k it (.tail _ (.head _)) o g,us,t.at λo g=>k l (.tail _ (.tail _ (.head _))) o g,su⟩
theorem ah4.there (i:Nat) (h:Heap) (st:ah4 e it l ns i h):∀b∈[e,it,l],∃o,h.get? b=some o:=λy hy=>by
 obtain⟨⟨old,a⟩,⟨o,b,_⟩,us,⟨o2,t,_⟩,_⟩:=st
 simp only[cW1,cY8,or_false] at hy
 rcases hy with rfl | rfl | rfl
 ·exact⟨_,a⟩
 ·exact⟨_,b⟩
 ·exact⟨_,t⟩
abbrev EnO (e it l:Addr) (ns:List Str):O:=.it [e,it] [e,it,l] (ah4 e it l ns 0)
structure bR9 (e it l:Addr):Prop where
 a:it≠e
 b:l≠e
 c:l≠it
theorem bS0 {ns:List Str} {Q:V->b9->Prop} (hQ:∀e it l,own e=none->bR9 e it l->Q (.ref e) (c7 own e (some (EnO e it l ns)))):l0 (.type "enumerate") [.tup (ns.map .str)] own Q:=λc loc E U=>by
 intro vs F A μ s S r
 obtain⟨_,rfl,l,us,rfl,⟨n,gl⟩,m,rr⟩:=r.one
 refine callType_new PySem.F.called_enumerate (by decide) (PySem.F.typeCall_enumerate_1 _) (PySem.F.newCall_enumerate_1 _) (λobj=>PySem.F.args_object_init_2 obj _) PySem.F.entry_enumerate_new (al4 l us n) ⟨gl,?_⟩
 have hz:(s.heap.push {cls:=.type "tuple_iterator",data:=.fields #[.ref l,.int 0 0]}).objs.size=s.heap.objs.size+1:=Heap.size_push ..
 show _/\_
 rw[hz]
 have he:IsEnum ((s.heap.push {cls:=.type "tuple_iterator",data:=.fields #[.ref l,.int 0 0]}).push
   {cls:=.type "enumerate",data:=.fields #[.none,.bool false,.ref s.heap.objs.size,rawInt 0,.none,.none]}) (s.heap.objs.size+1) s.heap.objs.size 0 .none:=by
  have:=Heap.get?_push_size (s.heap.push {cls:=.type "tuple_iterator",data:=.fields #[.ref l,.int 0 0]})
   (o:={cls:=.type "enumerate",data:=.fields #[.none,.bool false,.ref s.heap.objs.size,rawInt 0,.none,.none]}) rfl
  rw[hz] at this;exact this
 have gi:((s.heap.push {cls:=.type "tuple_iterator",data:=.fields #[.ref l,.int 0 0]}).push
   {cls:=.type "enumerate",data:=.fields #[.none,.bool false,.ref s.heap.objs.size,rawInt 0,.none,.none]}).get? s.heap.objs.size=_:=Heap.get?_push_of_some _ (Heap.get?_push_size _ rfl)
 have hk:∀b o,s.heap.get? b=some o->((s.heap.push {cls:=.type "tuple_iterator",data:=.fields #[.ref l,.int 0 0]}).push
   {cls:=.type "enumerate",data:=.fields #[.none,.bool false,.ref s.heap.objs.size,rawInt 0,.none,.none]}).get? b=some o:=λb o x=>Heap.get?_push_of_some _ (Heap.get?_push_of_some _ x)
 refine⟨⟨_,he,rfl⟩,?_⟩
 generalize ((s.heap.push {cls:=.type "tuple_iterator",data:=.fields #[.ref l,.int 0 0]}).push
   {cls:=.type "enumerate",data:=.fields #[.none,.bool false,.ref s.heap.objs.size,rawInt 0,.none,.none]})=h' at he gi hk ⊢
 have hit:h'.IsTupleIter s.heap.objs.size l 0:=⟨_,gi,rfl,rfl⟩
 have hlt:=Heap.lt_size gl
 have ok:bR9 (s.heap.objs.size+1) s.heap.objs.size l:=⟨cY4 (db4 _),cY4 (df3 hlt),cY4 hlt⟩
 have st:ah4 (s.heap.objs.size+1) s.heap.objs.size l ns 0 h':=⟨⟨_,he⟩,hit,us,⟨_,hk _ _ gl,rfl,n,rfl⟩,by simpa [cb2] using cy2 rr⟩
 obtain⟨ho,S',P',K⟩:=S.add2 (y:=EnO (s.heap.objs.size+1) s.heap.objs.size l ns) (tk:=s.toks) (db7 _) (cX5 _) ⟨_,he⟩ ⟨_,gi⟩ hk λP=>by
  refine⟨.head _,st,λb hb=>?_,ah4.frame 0,ah4.there 0 _ st,λb hb=>?_,λb hb hn=>?_⟩
  ·rcases cW1.mp hb with q | q
   ·exact q▸.head _
   ·rw[cV8.mp q];exact .tail _ (.head _)
  ·rcases cW1.mp hb with q | q
   ·rw[q];exact b5 _ _ _
   ·rw[cV8.mp q,b7 ok.a];exact b5 _ _ _
  ·simp only[cW1,cY8,or_false,not_or] at hb hn
   rcases hb with h | h | rfl
   ·exact absurd h hn.1
   ·exact absurd h hn.2
   ·exact⟨by rw[b7 ok.b,b7 ok.c];exact m,_,hk _ _ gl,λU=>nofun⟩
 exact⟨.ref _,loc,_,_,⟨rfl,hQ _ _ _ ho ok⟩,S'.dis,.ref _,S'.sr,P',K⟩
theorem cj5 {x1} (ok:bR9 e it l):Src (.Tuple elts x1 pos) ⟨e,o5 (ns.map .str),[e,it],[e,it,l],ah4 e it l ns,λU U=>True⟩ where
 sub:=λb hb=>by
  rcases cW1.mp hb with q | q
  ·exact q▸.head _
  ·rw[cV8.mp q];exact .tail _ (.head _)
 self:=.head _
 frame:=ah4.frame
 there:=ah4.there
 again:=λA i s Q EE hh st q=>st.1.elim λU a=>wpAny_pyIter_enum a q
 item:=λA i s R EE EE' hh hi st U k=>by
  obtain⟨⟨old,a⟩,b,us,t,su⟩:=st
  have hi:i<us.size:=by rw[su.1];simpa [o5] using hi
  refine wpAny_pyNext_enum_itemD (aN5 (prog:=G.prog) (w:=G.w) (A:=A.in1) hh it l ok.c us) a ⟨b,t⟩ hi (Ne.symm ok.a) (by simp [Ne.symm ok.a,Ne.symm ok.b]) λx h' tk hx ho st' htup hsz keep=>?_
  refine⟨_,rfl,wpAny_letOwnedTupleGo_enum (s:={s with heap:=h',toks:=tk+1}) ho λh'' he hs=>?_⟩
  obtain⟨n,u,hn,rfl⟩:=su.2 i x hx
  have hee:s.heap.objs.size≠e:=(cY4 (Heap.lt_size a)).symm
  have hi1:((i+1:Nat):Int)=(i:Int)+1:=by lia
  refine k _ h'' _ (λμ pre fr=>⟨_,Q0 (x:=.str n) (by rw[cX9,hn];rfl),.tup ⟨0,(hs.2 _ hee).trans htup⟩ (fr _ (Heap.get?_none_of_le (cX5 _))) (.cons (.int _ _) (.cons (.str _ _) .nil))⟩)
   ⟨⟨_,by rw[hi1];exact he⟩,st'.1.at λo g=>(hs.2 it ok.a).trans g,us,st'.2.at λo g=>(hs.2 l ok.b).trans g,su⟩ (λy o hy g=>?_)
  exact(hs.2 y λq=>hy (by simp [q])).trans (keep y o (λq=>hy (by simp [q])) (λq=>hy (by simp [q])) g)
 done:=λA s Q EE hh st U k=>by
  obtain⟨⟨old,a⟩,b,us,t,su⟩:=st
  have hn:(o5 (ns.map V.str)).length=us.size:=by simp [o5,su.1]
  exact wpAny_pyNext_enum_endD (aN5 (prog:=G.prog) (w:=G.w) (A:=A.in1) hh it l ok.c us) a ⟨hn▸b,t⟩ λh' hk=>k h' s.toks λy o hy g=>hk y o (λq=>hy (by simp [q])) g
theorem bD7 (ok:bR9 e it l) (ho:own e=some (EnO e it l ns)):ItS true own (.ref e) (o5 (ns.map .str)) (c7 own e none):=λc loc E tgt ht=>by
 obtain⟨elts,k,pos,rfl⟩:=ht rfl
 rintro _ F A μ s S rfl
 obtain⟨_,_,_,⟨⟨old,he⟩,_⟩,_⟩:=S.chunk ho
 exact wpAny_pyIter_enum he ⟨⟨e,o5 (ns.map .str),[e,it],[e,it,l],ah4 e it l ns,λU U=>True⟩,loc,own,μ,⟨rfl,rfl,ho,rfl,cj5 ok,B3⟩,S.dis,⟨rfl,trivial⟩,S.sr,f6.refl _ _,FK.refl _⟩
end
end
section
section
variable {c:Cx} {loc:f8} {own:b9} {E:XP}
theorem bS1 (hall:keys.all (·.isSome)=true) (hl:keys.length=values.length) (h0:keys≠[]) (hlen:keys.length<=15)
  (h:ac7 c loc own keys values pos (λps o=>(ps.map (·.1)).Nodup/\∀a,o a=none->Q (.ref a) (c7 o a (some (.dictS ps)))) E):Ev c loc own (.Dict keys values pos) Q E:=by
 intro F A μ s S p
 have q:=S.push (ob:={cls:=.type "dict",data:=.dict #[]}) (o:=.dictS []) (tk:=s.toks) rfl λU=>⟨[],Heap.DictOf.new _,.nil⟩
 have S₁:St c loc (c7 own s.heap.objs.size (some (.dictS []))) F A _ {s with heap:=s.heap.push {cls:=.type "dict",data:=.dict #[]}}:=⟨S.ok,S.ar,q.sr,S.out.fk q.fk,q.dj⟩
 have S₂:=S₁.give (b5 _ _ _)
 have hu:=ac5 (y:=.dictS []) q.own_ q.f
 rw[c5,d9 q.own_] at S₂
 refine wpAny_Dict_walk (knd:=PySem.strKind G.prog G.w) hall hl h0 hlen (T3.runV h S₂ trivial (λe s₁ y=>y.go S₂ λC told tr l o m hE r S₃ P K=>?_) λvs s₁ ps o m hq hr S₃ P₃ K₃=>?_)
 rotate_left
 ·rcases hq with⟨hn,hQ⟩
  obtain⟨kvs,hc,pr⟩:=hr
  have S₄:=S₃.pull q.f
  have oD:o s.heap.objs.size=none:=S₃.dis.1.left (b5 _ _ _)
  obtain⟨hm,_,us,hd,rr⟩:=S₄.chunk (b5 _ _ _)
  cases (show us=[] from rr)
  refine⟨kvs,hc,hd,λh' hd' hs=>?_⟩
  rw[merged_nil_of_nodup _ (by rw[pr.keys];exact hn)] at hd'
  have fin:=Z2 (Q:=Q) (V:=.ref s.heap.objs.size) (v:=.ref s.heap.objs.size) (o':=.dictS ps) (tk:=s₁.toks+vs.length) S₄ (b5 _ _ _) (λU U=>nofun) hm hs (bt6 hd') (λP=>⟨kvs,hd',pr.pres P⟩) (by rw[c5];exact hQ _ oD) (λU=>.ref _)
  exact fin.lift (q.pres.trans P₃) (q.fk.trans (by rw[hu,ac5 oD q.f];exact K₃))
 ·have oD:o s.heap.objs.size=none:=S₃.dis.1.left (b5 _ _ _)
  obtain⟨S₄,P₄,K₄⟩:=(S₃.pull q.f).dropped (b5 _ _ _) λU U=>nofun
  rw[c5,d9 oD] at S₄ K₄
  exact⟨C,told,l,o,_,tr,hE,S₄.dis,r.pres P₄ (λb ob vs g U m=>⟨g,by unfold t0;rw[m];rfl⟩),S₄.sr,(q.pres.trans P).trans P₄,(q.fk.trans (by rw[hu,ac5 oD q.f];exact K)).trans K₄⟩
theorem aY2 (L:j4 own V₁ xs) (hz:xs.length<=sizeLine) (hQ:∀a,own a=none->Q (.ref a) (c7 own a (some (.list xs.reverse)))):ag1 c loc own V₁ .none .none (.int (-1)) Q E:=by
 rintro F A μ s v vl vu vs S r rfl rfl ⟨_,rfl⟩
 obtain⟨a,us,rfl,t,rr⟩:=L.at_ S r
 rcases(S.sr.grow (s':={s with heap:=s.heap.push (ab5 .none .none (.int (-1) _))}) rfl rfl λb o e=>Heap.get?_push_of_some _ e) with⟨sr',P'⟩
 have S':St c loc own F A μ {s with heap:=s.heap.push (ab5 .none .none (.int (-1) _))}:=⟨S.ok,S.ar,sr',S.out,S.dis⟩
 refine wpAny_getItem_list_slice (t.at λo e=>Heap.get?_push_of_some _ e).isList (Heap.IsSliceOf.new _ _ _ _) .none .none (.int _ _) (by decide) ?_ ((j9 rr).symm▸hz)
 rw[krv_pick]
 exact(aq0 (tk:=s.toks) (o:=.list xs.reverse) S' rfl (λP=>⟨_,⟨0,Heap.get?_push_size _ rfl⟩,q9.pres (P'.trans P) (by simpa using rr.reverse)⟩) hQ).lift P' (FK.refl _)
theorem SR.re (S:SR own μ s) (h:own a=some o) (hr:K7 s.heap μ a o->K7 s.heap μ a o'):SR (c7 own a (some o')) μ s:=
 ⟨S.gens,S.os,S.base,S.baseMu,λb x e=>by
  by_cases q:b=a
  ·subst q;rw[b5] at e;cases e;exact⟨(S.chunk b o h).1,(S.chunk b o h).2.1,hr (S.chunk b o h).2.2⟩
  ·rw[b7 q] at e;exact S.chunk b x e,λb x e=>by
  obtain⟨⟨y,hy⟩,hx⟩:=S.dom b x e
  by_cases q:x=a
  ·subst q;exact⟨⟨_,b5 _ _ _⟩,hx⟩
  ·exact⟨⟨y,(b7 q).trans hy⟩,hx⟩⟩
noncomputable def Gho (o o':b9):Prop:=∀c loc,aK8 c loc o loc o'
theorem Gho.refl (o:b9):Gho o o:=λU U U U μ U S=>⟨μ,S,f6.refl _ _,FK.refl _⟩
theorem Gho.trans (x:Gho a b) (y:Gho b d):Gho a d:=λc loc F A μ s S=>by
 obtain⟨m1,S1,P1,K1⟩:=x c loc F A μ s S
 obtain⟨m2,S2,P2,K2⟩:=y c loc F A m1 s S1
 exact⟨m2,S2,P1.trans P2,K1.trans K2⟩
noncomputable def S8 (d:Addr) (W:V):V->V
 | .ref a=>if a=d then W else .ref a
 | v=>v
theorem bS2 {h:Heap} {μ:Mu} {d:Addr} {W:V} (hw:VR h μ W (.ref d)) {V:V} {v:Value} (r:VR h μ V v):VR h μ (S8 d W V) v:=by
 cases V with
 | ref a=>
  cases r
  by_cases e:a=d
  ·subst e;rw[S8,if_pos rfl];exact hw
  ·rw[S8,if_neg e];rfl
 | _=>exact r
theorem bD8 {K:Type} {h:Heap} {μ:Mu} {d:Addr} {W:V} (hw:VR h μ W (.ref d)) {es:List (K×V)} {vs:List (K×Value)} (r:K6 h μ es vs):K6 h μ (es.map λp=>(p.1,S8 d W p.2)) vs:=
 r.ind (C:=λes vs=>K6 h μ (es.map λp=>(p.1,S8 d W p.2)) vs) .nil λa U=>.cons (bS2 hw a)
theorem Gho.frz (K0:T6) {o o':b9} {a d:Addr} {W:V} {es:List (Int×V)} (f:Frz o (.ref d) W o') (ha:o a=some (.dictI es)) (ne:d≠a):Gho o (c7 o' a (some (.dictI (es.map λp=>(p.1,S8 d W p.2))))):=λc loc F A μ s S=>by
 have ho':o' a=some (.dictI es):=by
  rcases f with⟨_,_,e,_,_,rfl⟩ | ⟨_,_,e,_,_,rfl⟩<;>(cases e;exact(b7 (Ne.symm ne)).trans ha)
 obtain⟨μ',r,S',P,K⟩:=f.go K0 S (.ref d)
 rcases S'.dis.ne (o9 (F:=F) ho') with⟨n1,n2⟩
 have hF:F a=none:=S'.dis.1.right ho'
 have sr:=SR.re (o:=.dictI es) (o':=.dictI (es.map λp=>(p.1,S8 d W p.2))) S'.sr ((k9 n1 n2).trans (o9 (F:=F) ho')) λq=>q.imp λvs q=>⟨q.1,bD8 r q.2⟩
 rw[z0 n1 n2,p0 hF] at sr
 have K':=FK.put (o:=o') (F:=F) (x:=some (.dictI (es.map λp=>(p.1,S8 d W p.2)))) hF λe l q=>by rw[ho'] at q;cases q
 exact⟨μ',⟨S'.ok,S'.ar,sr,S'.out.fk K',S'.dis.put hF ⟨n1,n2⟩⟩,P,K.trans K'⟩
end
inductive cK9 (f:WS) (P:o8) (Q:SQ) (l:e9) (o:b9):Prop
 | mk (o':b9) (g:Gho o o') (h:f P Q l o')
theorem Q6 (h:B0 D f ss):B0 D (cK9 f) ss:=.mk λ{_ c l _ _} g n ⟨_,gh,q⟩=>T3.ghost (gh c _) B3 (h.go g n q)
abbrev WP:=o8->(List (Str×V)->b9->Prop)->List V->e9->b9->Prop
structure bg0 (D:DC) (f:WP) (ks:List (Option Expr)) (vs:List Expr):Prop where
 go:∀{P c l own stk K} {pos:Pos},H2 c D P->l.length=D.ns.length->f P K stk l own->ac7 c (D.ns.zip l) own ks vs pos K (EL D P.E)
noncomputable def cL0 (_P:o8) (K:List (Str×V)->b9->Prop) (_:List V) (_:e9) (o:b9):Prop:=K [] o
noncomputable def cy3 (k:Str) (r:WP) (P:o8) (K:List (Str×V)->b9->Prop):x4:=λstk l o=>match stk with | V::stk=>r P (λps o=>K ((k,V)::ps) o) stk l o | _=>False
noncomputable def cy4 (k:Str) (a:WE) (r:WP) (P:o8) (K:List (Str×V)->b9->Prop) (stk:List V) (l:e9) (o:b9):Prop:=a P (cy3 k r P K) stk l o
noncomputable def cL1 (f:WP) (P:o8) (K:x4) (stk:List V) (l:e9) (o:b9):Prop:=f P (λps o=>(ps.map (·.1)).Nodup/\∀ad,o ad=none->K (.ref ad::stk) l (c7 o ad (some (.dictS ps)))) stk l o
section
variable {D:DC} {pos p':Pos} {x:Str} {e:Expr} {k:Nat}
theorem aN6:bg0 D cL0 [] []:=.mk λU U h=>aM2 h
theorem y4 (ha:k6 D a v) (hr:bg0 D r ks vs):bg0 D (cy4 y a r) (some (.Constant (.str y) k p')::ks) (v::vs):=.mk λg n h=>
 aD8 (bt9 ⟨y,rfl,(ha.go g n h).to λU U h=>hr.go g n h⟩)
theorem bg1 (hall:ks.all (·.isSome)=true) (hl:ks.length=vs.length) (h0:ks.isEmpty=false) (hlen:Nat.ble ks.length 15=true) (h:bg0 D f ks vs):k6 D (cL1 f) (.Dict ks vs pos):=.mk λg n q=>
 bS1 hall hl (λe=>by rw[e] at h0;cases h0) (dd9 hlen) (h.go (stk:=_) g n q)
end
section
variable {own:b9} {V₁:V} {xs:List V} {Q:V->b9->Prop}
theorem bS3 (L:j4 own V₁ xs) (hz:xs.length<=sizeLine) (hQ:∀a,own a=none->Q (.ref a) (c7 own a (some (.list xs.reverse)))):aq4 V₁ .none .none (.int (-1)) own Q:=⟨.l L,λU U U=>aY2 L hz hQ⟩
end
end
section
noncomputable def bS4:e9->Ix->e9
 | [],_=>[]
 | _::r,.z=>none::r
 | x::r,.s i=>x::bS4 r i
theorem ak0:∀(l:e9) (i:Ix),(bS4 l i).length=l.length
 | [],_=>rfl
 | _::_,.z=>rfl
 | _::r,.s i=>congrArg (·+1) (ak0 r i)
theorem bS5:∀{l:e9} {i:Ix},X3 ns i=some x->l.length=ns.length->N0 x none (ns.zip l) (ns.zip (bS4 l i)):=by
 induction ns with
 | nil=>exactλh=>nomatch h
 | cons y ns ih=>
  intro l i h1 h2
  cases l with
  | nil=>cases h2
  | cons w l=>cases i with
   | z=>cases h1;exact .head
   | s i=>exact .tail (ih h1 (Nat.succ.inj h2))
noncomputable def aY3 (i j:Ix) (P:o8) (Q:SQ):XQ:=λC t l o=>C=fa 8/\nOk t=true/\∀ea,Q .next (bS4 (ac8 (ac8 l i (.ref ea)) j t) i) o
noncomputable def bD9 (i j:Ix) (b:WS) (P:o8) (Q:SQ) (l:e9) (o:b9):Prop:=b ⟨P.k,P.fv,aY3 i j P Q⟩ Q l o
section
variable {D:DC} {pos np np2 ap mp hpos apos:Pos} {n m:Str}
theorem bS6 (v:V):∀{i:Ix} {l:e9},X3 ns i=some x->l.length=ns.length->aw1 (ac8 l i v) i=some v:=by
 induction ns with
 | nil=>exactλh=>nomatch h
 | cons y ns ih=>
  intro i l h1 h2
  cases l with
  | nil=>cases h2
  | cons w l=>cases i with
   | z=>rfl
   | s i=>exact ih (i:=i) (l:=l) h1 (Nat.succ.inj h2)
theorem aN7 (i j:Ix) (hi:X3 D.ns i=some n) (hj:X3 D.ns j=some m) (h2:isG D "BadRow"=true) (hn:(D.sc.names.lookup n == some .local)=true)
  (hs:swapsWith (.Attribute (.Name n np2) "told" ap) (some (.Name m mp)) apos.line (H0 D.sc)=pure false) (hb:B0 D b body):
  S7 D (bD9 i j b) (.Try body [.ExceptHandler (some (.Name "BadRow" np)) (some n) [.Assign [.Name m mp] (.Attribute (.Name n np2) "told" ap) apos] hpos] [] [] pos):=.mk λ{P c l own Q} g k h=>by
 obtain⟨fI,B,newId,initId,bmB,O,-⟩:=g.ok.bad 8 (.inr rfl)
 have b1:=(g.ok.bset 8 (.inr rfl)).1
 have g':H2 c D ⟨P.k,P.fv,aY3 i j P Q⟩:=⟨g.ok,g.sc,g.hd,g.k,g.comp,g.dbg,g.dbo,g.fl,g.cap⟩
 refine bz5 g.ok.ok g.ok.X O g.ok.brow (J0 g h2).1 (bf3 g.sc (by simpa using hn)) (T3.mono (hb.go (P:=⟨P.k,P.fv,aY3 i j P Q⟩) g' k h) (λU U x=>x) (λU U U q=>q) λC t l o q=>q.elim λw q=>⟨q.2.1,λea hea=>?_⟩) rfl
 obtain⟨⟨rfl,hl⟩,rfl,ht,q⟩:=q
 have hl1:=(F8 w i (.ref ea)).trans hl
 have hl2:=(F8 _ j t).trans hl1
 refine⟨_,W1 (.ref ea) hi hl,ab2 (X6 (bQ0 g.ok.X (ab1 (an2 hi (bS6 _ hi hl)) ⟨ea,_,t,rfl,b5 _ _ _,b1,ht,?_⟩ (aE1 g.dbg (an3 hi)))) ((r8 g.sc _ _ _).trans hs))⟩
 refine⟨_,W1 t hj hl1,am0 ⟨_,bS5 hi hl2,b5 _ _ _,_,⟨rfl,(ak0 _ _).trans hl2⟩,?_⟩⟩
 rw[c5,d9 hea]
 exact q ea
end
end
end
set_option hygiene false in
local macro_rules | `(tactic| walk_at "d")=>do
 let ls <-("wK wV wC cF6 cF5 cF8 cF7 cu8 cu7 kTB cF9 cG0 cu9 cv0 ch6 cG1 cG2 cG3 cG4 cG5 kOr tOr cG6 cv1 cv2 cG7 kEq cG8 ca2 cv3 cv4 cv5 cG9 cv6 aw2 cH1 cH2 cH3 cH4 cv7 cv8 cv9 cH5 cw0 cH6 cw1 cH7 kTy cH8 cH9 cI1 cI2 cI3 cI4 cI5 cI6 cI8 cI9 U2 aM5 kX ch8 ca4 cJ0 cw3 cw4 cJ1 cJ2 cJ3 cw5 cw6 ca5 kIf sIf bA8 ca6 bA9 cw7 cw8 ca7 cw9 ch9 cx0 cJ5 cx1 cJ7 cJ8 cJ9 cK0 bf7 ci0 WhJ o8.sub cK1 cK2 aN0 cK4 ci2 ci4 ci5 ci6 bR1 cL0 cy3 cy4 cL1 cK9 aY3 bD9 bS4 aw1 ac8 ay4 aq7 isN oB1 oB2 oB3 oB4 oB5 oB6 oB7 oB8 oB9 cP8 cP9 cQ0 oC1 oC2 oC3 oC4 oC5 oC6 oC7 oC8 oC9 cQ1 cQ2 cQ3 cQ4 cQ5 cQ6 cQ7 cQ8 cQ9 cR0 cR1 cR2 cR3 cR4 cR5 cR6 cR7 cR8".splitOn " ").toArray.mapM λs=>`(Lean.Parser.Tactic.simpLemma| $(Lean.mkIdent s.toName):ident)
 `(tactic| try dsimp only[$ls,*])
set_option hygiene false in
local macro_rules
 | `(tactic| walk_at "n")=>`(tactic| (walk_at "d";repeat (with_reducible apply cK5;walk_at "d")))
 | `(tactic| walk_at "r")=>`(tactic| (walk_at "d";(repeat with_reducible apply bn4);with_reducible apply cK6))
noncomputable section
section
variable {own:b9}
noncomputable def bE0 (n:Int):V:=if 48<=n/\n<=57 then .int (n-48) else if 65<=n/\n<=70 then .int (n-55) else if 97<=n/\n<=102 then .int (n-87) else .none
theorem aY4 (W:Ok) (hQ:Q (bE0 n) own):A7 1 13 [.int n] own Q EX:=by
 unfold bE0 at hQ
 refine e8 (ns:=["octet"]) (others:=[]) W rfl rfl rfl
  (Den_cons (i8 (j3 (F4 b8 (a9 .z rfl) b8 rfl)) (Den_cons (d4 (d6 (a9 .z rfl) b8))
  b6) b6)
  (Den_cons (i8 (j3 (F4 b8 (a9 .z rfl) b8 rfl)) (Den_cons (d4 (d6 (a9 .z rfl) b8))
  b6) b6)
  (Den_cons (i8 (j3 (F4 b8 (a9 .z rfl) b8 rfl)) (Den_cons (d4 (d6 (a9 .z rfl) b8))
  b6) b6)
  (Den_cons (d4 w6)
  b6)))) ?_
 walk_at "d"
 refine⟨_,ay8,ci7 (λh1 h2=>?_) λh=>?_⟩
 ·walk_at "r";rwa [if_pos ⟨h1,h2⟩] at hQ
 rw[if_neg h] at hQ
 walk_at "n"
 refine⟨_,ay8,ci7 (λh1 h2=>?_) λh=>?_⟩
 ·walk_at "r";rwa [if_pos ⟨h1,h2⟩] at hQ
 rw[if_neg h] at hQ
 walk_at "n"
 refine⟨_,ay8,ci7 (λh1 h2=>?_) λh=>?_⟩
 ·walk_at "r";rwa [if_pos ⟨h1,h2⟩] at hQ
 rw[if_neg h] at hQ
 walk_at "n"
 walk_at "r";exact hQ
noncomputable def cy5:V->V
 | .str x=>.int ((x.cps.getD 0 0:Nat):Int)
 | _=>.none
theorem ah5 (h:x.cps.size<=sizeLine):(I6 x).length<=sizeLine:=by rwa [I6,cV3,db0]
theorem bn6 (W:Ok) {x:Str} {Q:V->b9->Prop} {EX:XC} (hz:x.cps.size<=sizeLine) (hQ:Q (.lst (x.cps.toList.map λ(n:Nat)=>.int (n:Int))) own):A7 1 9 [.str x] own Q EX:=by
 refine e8 (ns:=["signs"]) (others:=[]) W rfl rfl rfl
  (Den_cons (d4 (j8 ["sign"] rfl (λU U=>rfl) (a9 .z rfl) (c0 .z rfl) n7 (j5 68 rfl rfl (a6 (a9 .z rfl) a8 rfl))))
  b6) ?_
 walk_at "d"
 refine A2 cy5 aX8 (ah5 hz) (λi w y hw hx hy=>?_) ?_
 ·rcases F9 hw with⟨o,rfl⟩
  rcases cV6.mp hy with⟨n,-,rfl⟩
  walk_at "d"
  exact ca9 (al3 hx)
 ·walk_at "r";rw[I6,cW0];exact hQ
noncomputable def m4 (x:Str):List UInt8:=x.cps.toList.map λn=>n.toUInt8
theorem ar2 {V:V} {ns:List Nat} {Q:Mine.V->b9->Prop} (L:j4 own V (ns.map λ(n:Nat)=>.int (n:Int))) (hr:∀n∈ns,n<256) (hz:ns.length<=sizeLine) (hQ:Q (.bytes (ns.map λn=>n.toUInt8)) own):l0 (.type "bytes") [V] own Q:=λc loc E hh=>by
 rw[show(ns.map λ(n:Nat)=>Mine.V.int (n:Int))=(ns.map λ(n:Nat)=>(n:Int)).map .int by rw[cW0];rfl] at L
 refine cf8 hh L ?_ (by rwa [cV3]) ?_
 ·intro n hn
  rcases cV6.mp hn with⟨m,hm,rfl⟩
  exact⟨cX8 m,cY1.mpr (hr m hm)⟩
 ·rw[cW0];exact hQ
theorem N8 (W:Ok) {x:Str} {Q:V->b9->Prop} {EX:XC} (hz:x.cps.size<=sizeLine) (ha:∀n∈x.cps.toList,n<128) (hQ:Q (.bytes (m4 x)) own):A7 3 10 [.str x] own Q EX:=by
 refine e8 (ns:=["signs","numbers","number"]) (others:=["numbers","number"]) W rfl rfl rfl
  (Den_cons (Den_asg (.s .z) rfl (c4 6 9 rfl rfl rfl (a6 (a9 .z rfl) a8 rfl)) rfl)
  (Den_cons (i6 (a9 (.s .z) rfl) (c0 (.s (.s .z)) rfl) (Den_cons (i8 (c6 (a9 (.s (.s .z)) rfl) b8 rfl) (Den_cons (w8 4 7 rfl (by decide) rfl rfl (a9 (.s (.s .z)) rfl))
  b6) b6)
  b6) b6 (λU U=>rfl))
  (Den_cons (d4 (p8 72 rfl rfl (a6 (a9 (.s .z) rfl) a8 rfl)))
  b6))) ?_
 walk_at "d"
 refine⟨1,rfl,bn6 W hz ?_⟩
 walk_at "n"
 refine⟨_,_,λi l o=>o=own/\∃ov,l=[some (.str x),some (.lst (x.cps.toList.map λ(n:Nat)=>.int (n:Int))),ov],m9,⟨rfl,_,rfl⟩,?_,?_⟩
 ·rintro i l o y - ⟨rfl,ov,rfl⟩ hy
  rcases cV6.mp (cW7 hy) with⟨n,hn,rfl⟩
  walk_at "d"
  refine bf4 (dg5.mpr (Int.le_of_lt_add_one (cY1.mpr (ha n hn)))) ?_
  walk_at "n"
  exact⟨rfl,_,rfl⟩
 ·rintro l o ⟨rfl,ov,rfl⟩
  walk_at "d"
  walk_at "n"
  refine ar2 .lst (λn hn=>cZ9 (ha n hn) (by decide)) (by rwa [db0]) ?_
  walk_at "r";exact hQ
noncomputable def cj6:V->V
 | .int i=>.str ⟨#[i.toNat]⟩
 | _=>.none
noncomputable def x5 (b:List UInt8):Str:=⟨(b.map UInt8.toNat).toArray⟩
theorem az1 (b:List UInt8):∀(a:Nat),(b.map λx=>(⟨#[x.toNat]⟩:Str)).foldl (λa x=>a+x.length+(Str.ofString "").length) a=a+b.length:=by
 induction b with
 | nil=>exactλU=>rfl
 | cons x r ih=>exactλa=>(ih _).trans (by show a+1+0+r.length=a+(r.length+1);rw[Nat.add_zero,de7,dd0 1])
theorem ah6:∀b:List UInt8,Str.join (Str.ofString "") (b.map λx=>(⟨#[x.toNat]⟩:Str))=x5 b
 | []=>rfl
 | [x]=>rfl
 | x::y::r=>by
  have:=ah6 (y::r)
  simp only[cX3] at this ⊢
  rw[Str.join,this]
  ·show(⟨#[x.toNat]++#[]++(x5 (y::r)).cps⟩:Str)=_
   unfold x5
   simp
  ·exactλq=>nomatch q
theorem G0 (b:List UInt8):(ao7 b).length=b.length:=cV3 ..
theorem aF2 {b:List UInt8} {i:Nat} {y:V} (h:(ao7 b)[i]?=some y):∃x,b[i]?=some x/\y=.int (x.toNat:Int):=by
 unfold ao7 at h
 rw[cX9] at h
 rcases cY2.mp h with⟨x,hx,rfl⟩
 exact⟨x,hx,rfl⟩
theorem aN8 (b:List UInt8):(ao7 b).map cj6=(b.map λx=>(⟨#[x.toNat]⟩:Str)).map .str:=by rw[ao7,cW0,cW0];rfl
theorem bn7 (W:Ok) {b:List UInt8} {Q:V->b9->Prop} {EX:XC} (hz:b.length<=sizeLine) (hQ:(∀x∈b,x.toNat<128)->Q (.str (x5 b)) own) (hE:(∃x∈b,¬x.toNat<128)->∀v,EX (fa 7) v own):A7 3 11 [.bytes b] own Q EX:=by
 refine e8 (ns:=["octets","octet"]) (others:=["octet"]) W rfl rfl rfl
  (Den_cons (i6 (a9 .z rfl) (c0 (.s .z) rfl) (Den_cons (i8 (c6 (a9 (.s .z) rfl) b8 rfl) (Den_cons (w8 4 7 rfl (by decide) rfl rfl (a9 (.s .z) rfl))
  b6) b6)
  b6) b6 (λU U=>rfl))
  (Den_cons (d4 (e7 F.plainAttrs_str F.slot_str_join F.type_str_join rfl rfl rfl d0 (a6 (j8 ["octet"] rfl (λU U=>rfl) (a9 .z rfl) (c0 .z rfl) n7 (j5 69 rfl rfl (a6 (a9 .z rfl) a8 rfl))) a8 rfl)))
  b6)) ?_
 walk_at "d"
 refine⟨_,_,λi l o=>o=own/\(∀x∈b.take i,x.toNat<128)/\∃ov,l=[some (.bytes b),ov],U3,⟨rfl,(λU h=>nomatch h),_,rfl⟩,?_,?_⟩
 ·rintro i l o y - ⟨rfl,hi,ov,rfl⟩ hy
  rcases aF2 hy with⟨x,hx,rfl⟩
  walk_at "d"
  refine aE0 (λh=>aX7 (hE ⟨x,cW7 hx,λq=>absurd h (dg5.mpr (Int.le_of_lt_add_one (cY1.mpr q)))⟩ _)) λh=>?_
  walk_at "n"
  refine⟨rfl,λz hz=>?_,_,rfl⟩
  rw[g6 hx] at hz
  rcases cW9.mp hz with q | q
  ·exact hi z q
  ·cases cV8.mp q;exact cY1.mp (Int.lt_add_one_of_le (dg5.mp h))
 ·rintro l o ⟨rfl,hi,ov,rfl⟩
  rw[G0,cY5] at hi
  walk_at "d"
  walk_at "n"
  refine⟨rfl,A2 cj6 U3 ((G0 b).symm▸hz) (λi w y hw hx hy=>?_) ?_⟩
  ·rcases F9 hw with⟨o,rfl⟩
   rcases cV6.mp hy with⟨x,hx,rfl⟩
   walk_at "d"
   exact cb0 (cX8 _) (da7.mpr (cV2 (cY0 x.toNat_lt) (by decide))) (al3 hx)
  ·rw[aN8]
   refine aE7 (.inr .lst) ?_ ?_
   ·rw[<-di7,dg1,az1,db2];exact hz
   ·rw[ah6];walk_at "r";exact hQ hi
noncomputable def aY5 (d:Nat):UInt8:=if d<10 then(48+d).toUInt8 else(55+d).toUInt8
noncomputable def dgt (n i:Nat):UInt8:=aY5 (n / 16 ^ i % 16)
noncomputable def ar3 (n k:Nat):List UInt8:=(dh4 k).map (dgt n)
noncomputable def aF3 (n:Nat):Nat:=if n<65536 then 4 else if n<1048576 then 5 else 6
noncomputable def y3 (n:Nat):List UInt8:=(ar3 n (aF3 n)).reverse
theorem aF4:∀d:Nat,d<16->([48,49,50,51,52,53,54,55,56,57,65,66,67,68,69,70]:List UInt8).getD d 0=aY5 d:=by decide
theorem az2 (n k:Nat):ar3 n (k+1)=ar3 n k++[dgt n k]:=by unfold ar3;rw[List.range_succ,cV5];rfl
theorem M1 (n k:Nat):(ar3 n k).length=k:=by unfold ar3;rw[cV3,dd2]
theorem bE1 (hn:n<=1114111) (hi:i<=6) (hge:4<=i->i=4\/16 ^ (i-1)<=n) (h1:¬0<n / 16 ^ i) (h4:¬i<4):i=aF3 n:=by
 have h3:n<16 ^ i:=Nat.lt_of_not_le λq=>h1 (Nat.div_pos q (Nat.pow_pos (by decide)))
 have h5:=hge (de3 h4)
 unfold aF3
 have h:i=4\/i=5\/i=6:=by lia
 rcases h with rfl | rfl | rfl
 ·exact(if_pos h3).symm
 ·rw[if_neg (dg4.mpr (h5.resolve_left (by decide))),if_pos h3]
 ·have:1048576<=n:=h5.resolve_left (by decide)
  rw[if_neg (dg4.mpr (cV2 (by decide) this)),if_neg (dg4.mpr this)]
noncomputable def dV (b:UInt8):V:=.int (b.toNat:Int)
theorem aN9 {V:V} {bs:List UInt8} {Q:Mine.V->b9->Prop} (L:j4 own V (bs.map dV)) (hz:bs.length<=sizeLine) (hQ:Q (.bytes bs) own):l0 (.type "bytes") [V] own Q:=by
 rw[show bs.map dV=(bs.map UInt8.toNat).map λ(n:Nat)=>.int (n:Int) by rw[cW0];rfl] at L
 refine ar2 L (λn hn=>?_) (by rwa [cV3]) ?_
 ·obtain⟨b,-,rfl⟩:=cV6.mp hn;exact b.toNat_lt
 ·rw[cW0,cZ1 (g:=_root_.id) (λb U=>show b.toNat.toUInt8=b from UInt8.ofNat_toNat),de1];exact hQ
theorem bS7 (m:Nat):bitAnd (m:Int) 15=((m % 16:Nat):Int):=by rw[bitAnd_m4];rfl
theorem bS8 (n i:Nat):((n / 16 ^ i:Nat):Int).fdiv (2 ^ (4:Int).toNat)=((n / 16 ^ (i+1):Nat):Int):=by
 rw[Nat.pow_succ,<-Nat.div_div_eq_div_mul,dg7 _ (by decide)];rfl
theorem ah7 (W:Ok) (hn:n<=1114111) {Q:V->b9->Prop} (hQ:Q (.bytes (y3 n)) own):A7 1 12 [.int n] own Q EX:=by
 refine e8 (ns:=["code","found","rest"]) (others:=["found","rest"]) W rfl rfl rfl
  (Den_cons (Den_asg (.s .z) rfl (p6 a8) rfl)
  (Den_cons (Den_asg (.s (.s .z)) rfl (a9 .z rfl) rfl)
  (Den_cons (ag9 (j3 (m7 (H5 (c6 (a9 (.s (.s .z)) rfl) b8 rfl) (J1 (c6 (j5 67 rfl rfl (a6 (a9 (.s .z) rfl) a8 rfl)) (x6 2 rfl rfl) rfl))))) (Den_cons (l9 (e7 F.plainAttrs_list F.slot_list_append F.type_list_append rfl rfl rfl (a9 (.s .z) rfl) (a6 (d5 (x6 1 rfl rfl) (d6 (a9 (.s (.s .z)) rfl) b8) rfl) a8 rfl)) rfl)
  (Den_cons (Den_asg (.s (.s .z)) rfl (d6 (a9 (.s (.s .z)) rfl) b8) rfl)
  b6)) b6)
  (Den_cons (d4 (p8 72 rfl rfl (a6 (u5 (a9 (.s .z) rfl) f5 f5 (m8 (an4 b8))) a8 rfl)))
  b6)))) ?_
 walk_at "d"
 refine⟨sz rfl,λa ha=>?_⟩
 walk_at "n"
 refine⟨λm l o=>∃i,m+i=6/\(4<=i->i=4\/16 ^ (i-1)<=n)/\l=[some (.int n),some (.ref a),some (.int ((n / 16 ^ i:Nat):Int))]/\o=c7 own a (some (.list ((ar3 n i).map dV))),6,⟨0,rfl,λq=>absurd q (by decide),by rw[Nat.pow_zero,Nat.div_one],rfl⟩,?_⟩
 rintro m l o - ⟨i,hi,hge,rfl,rfl⟩
 have hi6:i<=6:=hi▸dd6 _ _
 have hlen:((ar3 n i).map dV).length=i:=by rw[cV3,M1]
 walk_at "d"
 refine⟨decide ((0:Int)<((n / 16 ^ i:Nat):Int)) || decide ((i:Int)<4),?_,cx6 (λhlt=>?_) λh1 h2=>?_⟩
 ·refine r7 (λh=>⟨by rw[h];rfl,rfl⟩) λh=>R4 (.at_own (b5 _ _ _)) (by rw[hlen];exact cV9 hi6 (by decide)) ?_
  rw[hlen,h];exact⟨rfl,rfl⟩
 ·have hi5:i<6:=dh7 hi6 λe=>by
   subst e
   rw[di9 (cV9 hn (by decide))] at hlt
   exact hlt.elim (λq=>absurd q (by decide)) λq=>absurd q (by decide)
  refine⟨K9 (b5 _ _ _),cx7 ?_⟩
  rw[bS7]
  refine i_b (by decide) (cX8 _) (cY1.mpr (Nat.mod_lt _ (by decide))) ?_
  refine n5 (b5 _ _ _) (by rw[hlen];exact cV2 hi6 (by decide)) ?_
  walk_at "n"
  refine cx8 (by decide) ?_
  walk_at "n"
  refine⟨m-1,Nat.sub_lt (Nat.pos_of_ne_zero λe=>by rw[e,db2] at hi;exact absurd hi (cY4 hi5)) (by decide),i+1,by lia,λq=>?_,by rw[bS8],?_⟩
  ·rcases hlt with h | h
   ·exact .inr (de3 λq=>absurd h (by rw[di9 (show n<16 ^ i from q)];decide))
   ·exact .inl (congrArg (·+1) (dg6 (da5 (cY1.mp h)) (Nat.le_of_succ_le_succ q)))
  ·rw[c5,az2,cV5]
   refine congrArg (λz=>c7 own a (some (.list (do4 dV (ar3 n i)++[.int z])))) ?_
   show((UInt8.toNat (List.getD _ (n / 16 ^ i % 16) 0):Nat):Int)=_
   rw[aF4 _ (Nat.mod_lt _ (by decide))];rfl
 ·have he:=bE1 hn hi6 hge (λq=>h1 (cY1.mpr q)) (λq=>h2 (cY1.mpr q))
  subst he
  walk_at "n"
  refine cj2 (.at_own (b5 _ _ _)) (by rw[hlen];exact cV2 hi6 (by decide)) ?_
  rw[<-List.map_reverse]
  refine aN9 .lst (by rw[cZ0,M1];exact cV2 hi6 (by decide)) ?_
  exact⟨_,(Sub.refl _).upd ha (λU U=>nofun),hQ⟩
end
section
variable {own:b9}
noncomputable def bS9 (n:Nat):Option Nat:=if 48<=n/\n<=57 then some (n-48) else if 65<=n/\n<=70 then some (n-55) else if 97<=n/\n<=102 then some (n-87) else none
theorem btw {a b n:Nat}:((a:Int)<=n/\(n:Int)<=b)=(a<=n/\n<=b):=by rw[da7,da7]
theorem bT0 (n:Nat):bE0 n=match bS9 n with | some d=>.int d | none=>.none:=by
 have e:bE0 n=if 48<=n/\n<=57 then .int ((n:Int)-48) else if 65<=n/\n<=70 then .int ((n:Int)-55) else if 97<=n/\n<=102 then .int ((n:Int)-87) else .none:=by
  unfold bE0
  simp only[show((48:Int)<=n/\(n:Int)<=57)=(48<=n/\n<=57) from btw,show((65:Int)<=n/\(n:Int)<=70)=(65<=n/\n<=70) from btw,show((97:Int)<=n/\(n:Int)<=102)=(97<=n/\n<=102) from btw]
 rw[e];unfold bS9
 by_cases h1:48<=n/\n<=57
 ·rw[if_pos h1,if_pos h1];exact congrArg V.int (Int.ofNat_sub h1.1).symm
 rw[if_neg h1,if_neg h1]
 by_cases h2:65<=n/\n<=70
 ·rw[if_pos h2,if_pos h2];exact congrArg V.int (Int.ofNat_sub (cV2 (by decide) h2.1)).symm
 rw[if_neg h2,if_neg h2]
 by_cases h3:97<=n/\n<=102
 ·rw[if_pos h3,if_pos h3];exact congrArg V.int (Int.ofNat_sub (cV2 (by decide) h3.1)).symm
 rw[if_neg h3,if_neg h3]
theorem I0 {α:Type} {b:List α} {i:Nat} {x:α} (h:b[i]?=some x):b.drop i=x::b.drop (i+1):=by
 rcases cX4.mp h with⟨hi,rfl⟩
 exact dl0 hi
noncomputable def ah8:List UInt8->Nat->Option Nat
 | [],acc=>some acc
 | x::r,acc=>match bS9 x.toNat with | none=>none | some d=>ah8 r (16*acc+d)
noncomputable def aF5 (b:List UInt8):Option Nat:=if 1<=b.length/\b.length<=6 then match ah8 b 0 with | some n=>if n<=1114111 then some n else none | none=>none else none
theorem aF6 (W:Ok) {b:List UInt8} {Q:V->b9->Prop} {EX:XC} (hz:b.length<=sizeLine) (hQ:∀n,aF5 b=some n->Q (.int n) own) (hE:aF5 b=none->∀v,EX (fa 7) v own):A7 3 14 [.bytes b] own Q EX:=by
 unfold aF5 at hQ hE
 have cast:((1:Int)<=b.length/\(b.length:Int)<=6)<->(1<=b.length/\b.length<=6):=by rw[show((1:Int)<=b.length/\(b.length:Int)<=6)=(1<=b.length/\b.length<=6) from btw]
 refine e8 (ns:=["octets","number","octet","digit"]) (others:=["number","octet","digit"]) W rfl rfl rfl
  (Den_cons (i8 (C0 (j3 (F4 b8 (j5 67 rfl rfl (a6 (a9 .z rfl) a8 rfl)) (x6 3 rfl rfl) rfl))) (Den_cons (w8 4 7 rfl (by decide) rfl rfl (a9 .z rfl))
  b6) b6)
  (Den_cons (Den_asg (.s .z) rfl b8 rfl)
  (Den_cons (i6 (a9 .z rfl) (c0 (.s (.s .z)) rfl) (Den_cons (Den_asg (.s (.s (.s .z))) rfl (c4 10 13 rfl rfl rfl (a6 (a9 (.s (.s .z)) rfl) a8 rfl)) rfl)
  (Den_cons (i8 (c6 (a9 (.s (.s (.s .z))) rfl) w6 rfl) (Den_cons (w8 4 7 rfl (by decide) rfl rfl (a9 .z rfl))
  b6) b6)
  (Den_cons (Den_asg (.s .z) rfl (d6 (d6 b8 (a9 (.s .z) rfl)) (a9 (.s (.s (.s .z))) rfl)) rfl)
  b6))) b6 (λU U=>rfl))
  (Den_cons (i8 (c6 (a9 (.s .z) rfl) (x6 0 rfl rfl) rfl) (Den_cons (w8 4 7 rfl (by decide) rfl rfl (a9 .z rfl))
  b6) b6)
  (Den_cons (d4 (a9 (.s .z) rfl))
  b6))))) ?_
 walk_at "d"
 refine⟨_,aE5 (cV2 hz (by decide)) ay8,?_⟩
 refine r7 (λh=>?_) λh=>?_
 ·refine aX7 (hE (if_neg λq=>?_) _)
  rw[decide_eq_true (cast.mpr q).1,decide_eq_true (cast.mpr q).2] at h;cases h
 have h1:1<=b.length/\b.length<=6:=by
  rw[dm1,cY6] at h
  exact cast.mp ⟨of_decide_eq_true h.1,of_decide_eq_true h.2⟩
 rw[if_pos h1] at hE
 rw[if_pos h1] at hQ
 walk_at "n"
 refine⟨_,_,λi l o=>o=own/\∃n:Nat,ah8 (b.drop i) n=ah8 b 0/\∃ov dv,l=[some (.bytes b),some (.int n),ov,dv],U3,⟨rfl,0,rfl,_,_,rfl⟩,?_,?_⟩
 ·rintro i l o y - ⟨rfl,n,hi,ov,dv,rfl⟩ hy
  rcases aF2 hy with⟨x,hx,rfl⟩
  rw[I0 hx,ah8] at hi
  walk_at "d"
  refine⟨1,rfl,aY4 W ?_⟩
  rw[bT0]
  walk_at "n"
  cases hN:bS9 x.toNat with
  | none=>
   rw[hN] at hi
   refine ca8 rfl ?_
   walk_at "d"
   refine aM4 (aX7 (hE (by rw[<-hi]) _))
  | some d=>
   rw[hN] at hi
   refine ca8 rfl ?_
   walk_at "d"
   refine aX1 ?_
   walk_at "n"
   refine bf9 (IntMulOk.of_left (by decide)) ?_
   walk_at "n"
   exact⟨rfl,16*n+d,hi,_,_,rfl⟩
 ·intro l o q1_
  obtain⟨rfl,n,hi,ov,dv,rfl⟩:=q1_
  rw[G0,dd7,ah8] at hi
  walk_at "d"
  walk_at "n"
  rw[<-hi] at hE hQ
  refine aE0 (λh=>?_) λh=>?_<;>rw[aB8] at h
  ·exact aX7 (hE (if_neg (Nat.not_le.mpr (cY1.mp h))) _)
  ·walk_at "n";walk_at "r"
   exact hQ n (if_pos (da7.mp (dg5.mp h)))
theorem bE2 (lo hi:Nat):((lo:Int)+hi).fdiv 2=(((lo+hi) / 2:Nat):Int):=by rw[dg7 _ (by decide)];rfl
theorem bE3 {lo hi:Nat} (h:lo<hi):(lo+hi) / 2<hi:=Nat.div_lt_of_lt_mul (by rw[Nat.two_mul];exact Nat.add_lt_add_right h hi)
theorem bE4 {lo hi:Nat} (h:lo<hi):lo<=(lo+hi) / 2:=(Nat.le_div_iff_mul_le (by decide)).mpr (by rw[Nat.mul_two];exact da0 (cY0 h) lo)
theorem cj7 {lo hi:Nat} (h:lo<hi):hi-((lo+hi) / 2+1)<hi-lo:=Nat.sub_lt_sub_left h (Nat.lt_succ_of_le (bE4 h))
theorem cj8 {lo hi:Nat} (h:lo<hi):(lo+hi) / 2-lo<hi-lo:=Nat.sub_lt_sub_right (bE4 h) (bE3 h)
theorem U4 (W:Ok) {Vl:V} {as bs:List Int} {m:Int} {Q:V->b9->Prop} {EX:XC} (L:j4 own Vl ((as++bs).map .int)) (hz:(as++bs).length<=sizeLine)
  (ha:∀x∈as,x<=m) (hb:∀x∈bs,m<x) (hQ:Q (.int ((as.length:Int)-1)) own):A7 1 15 [Vl,.int m] own Q EX:=by
 have hlen:((as++bs).map V.int).length=as.length+bs.length:=by rw[cV3,cV4]
 have hz':as.length+bs.length<=16777216:=by rw[<-cV4];exact hz
 refine e8 (ns:=["firsts","number","low","high","middle"]) (others:=["low","high","middle"]) W rfl rfl rfl
  (Den_cons (Den_asg (.s (.s .z)) rfl b8 rfl)
  (Den_cons (Den_asg (.s (.s (.s .z))) rfl (j5 67 rfl rfl (a6 (a9 .z rfl) a8 rfl)) rfl)
  (Den_cons (ag9 (c6 (a9 (.s (.s .z)) rfl) (a9 (.s (.s (.s .z))) rfl) rfl) (Den_cons (Den_asg (.s (.s (.s (.s .z)))) rfl (d6 (d6 (a9 (.s (.s .z)) rfl) (a9 (.s (.s (.s .z))) rfl)) b8) rfl)
  (Den_cons (i8 (c6 (d5 (a9 .z rfl) (a9 (.s (.s (.s (.s .z)))) rfl) rfl) (a9 (.s .z) rfl) rfl) (Den_cons (Den_asg (.s (.s .z)) rfl (d6 (a9 (.s (.s (.s (.s .z)))) rfl) b8) rfl)
  b6) (Den_cons (Den_asg (.s (.s (.s .z))) rfl (a9 (.s (.s (.s (.s .z)))) rfl) rfl)
  b6))
  b6)) b6)
  (Den_cons (d4 (d6 (a9 (.s (.s .z)) rfl) b8))
  b6)))) ?_
 walk_at "d"
 walk_at "n"
 refine R4 L (by rw[hlen];exact cV9 hz' (by decide)) ?_
 rw[hlen]
 walk_at "n"
 refine⟨λn l o=>o=own/\∃lo hi:Nat,lo<=as.length/\as.length<=hi/\hi<=as.length+bs.length/\n=hi-lo/\∃mv,l=[some Vl,some (.int m),some (.int lo),some (.int hi),mv],as.length+bs.length,⟨rfl,0,_,cZ2 _,dc4 _ _,cX5 _,rfl,_,rfl⟩,?_⟩
 rintro n l o - ⟨rfl,lo,hi,h1,h2,h3,rfl,mv,rfl⟩
 walk_at "d"
 refine aE0 (λhlt=>?_) λhlt=>?_
 ·have hlt:lo<hi:=cY1.mp hlt
  refine bC4 (by decide) (PyProof.noPylong_small (by decide)) ?_
  rw[bE2]
  walk_at "n"
  have hmid:=bE3 hlt
  have hm:(lo+hi) / 2<(as++bs).length:=by rw[cV4];exact cX7 hmid h3
  refine W3 (x:=.int ((as++bs)[(lo+hi) / 2])) L (cX8 _) (cY1.mpr (cZ9 hm (cV9 hz (by decide)))) (by rw[cX9];exact congrArg _ (cW8 hm)) ?_
  walk_at "d"
  refine aE0 (λhle=>?_) λhle=>?_
  ·walk_at "n"
   have:(lo+hi) / 2<as.length:=Nat.lt_of_not_le λq=>by
    rw[List.getElem_append_right q] at hle
    exact absurd (hb _ (dk3 _)) (dg5.mpr hle)
   exact⟨hi-((lo+hi) / 2+1),cj7 hlt,rfl,(lo+hi) / 2+1,hi,this,h2,h3,rfl,_,rfl⟩
  ·walk_at "n"
   have:as.length<=(lo+hi) / 2:=de3 λq=>by
    rw[List.getElem_append_left q] at hle
    exact hle (ha _ (dk3 q))
   exact⟨(lo+hi) / 2-lo,cj8 hlt,rfl,lo,(lo+hi) / 2,h1,this,cV2 (cY0 hmid) h3,rfl,_,rfl⟩
 ·obtain rfl:lo=as.length:=dg6 h1 (cV2 h2 (da7.mp (dg5.mp hlt)))
  walk_at "n";walk_at "r";exact hQ
end
section
variable {own:b9}
noncomputable def G1 (b:List UInt8):List (List UInt8):=i5 10 (if[239,187,191].isPrefixOf b then b.drop 3 else b)
theorem r4 (x:UInt8) (b:List UInt8):(i5 x b).length<=b.length+1:=aj5 x b []
theorem u9 (x:UInt8) (b y:List UInt8) (h:y∈i5 x b):y.length<=b.length:=by
 have:=aj4 x b [] y h
 simpa using this
theorem Q7 (b:List UInt8):(if[239,187,191].isPrefixOf b=true then List.drop 3 b else b).length<=b.length:=by
 split
 ·rw[dh9];exact dn7 _ _
 ·exact cX5 _
theorem aY6 (W:Ok) {b:List UInt8} {Q:V->b9->Prop} {EX:XC} (hz:b.length<sizeLine) (hQ:Q (.lst ((G1 b).map .bytes)) own):A7 1 19 [.bytes b] own Q EX:=by
 refine e8 (ns:=["octets","bare"]) (others:=["bare"]) W rfl rfl rfl
  (Den_cons (Den_asg (.s .z) rfl (N3 (g9 (e7 FB.plainAttrs_bytes FB.slot_bytes_startswith FB.type_bytes_startswith rfl rfl rfl (a9 .z rfl) (a6 (x6 14 rfl rfl) a8 rfl)) (λU U=>rfl)) (u5 (a9 .z rfl) (m8 (j5 67 rfl rfl (a6 (x6 14 rfl rfl) a8 rfl))) f5 f5) (a9 .z rfl)) rfl)
  (Den_cons (d4 (e7 FB.plainAttrs_bytes l8 o0 rfl rfl rfl (a9 (.s .z) rfl) (a6 c9 a8 rfl)))
  b6)) ?_
 walk_at "d"
 refine⟨.bytes (if[239,187,191].isPrefixOf b then b.drop 3 else b),⟨rfl,bD2 (r7 (λh=>aE5 (by decide) (u_b (lo:=some 3) (hi:=none) (cY0 hz) rfl rfl ⟨?_,rfl⟩)) λh=>⟨?_,rfl⟩)⟩,?_⟩
 ·rw[if_pos h];exact congrArg _ (U1 b 3)
 ·rw[h];rfl
 walk_at "n"
 refine⟨rfl,M0 (cV9 (Q7 b) hz) ?_⟩
 walk_at "r";exact hQ
noncomputable def t9 (b:List UInt8):List UInt8:=b.takeWhile (· != 35)
noncomputable def A3 (b:List UInt8):List UInt8:=(b.dropWhile (· != 35)).drop 1
noncomputable def u0 (b:List UInt8):List UInt8:=I7 [32,9,13] b
abbrev Row:=Nat×List (List UInt8)×List UInt8
noncomputable def R5 (p:List UInt8×Nat):Option Row:=if u0 (t9 p.1)=[] then none else some (p.2+1,(i5 59 (t9 p.1)).map u0,u0 (A3 p.1))
noncomputable def ah9 (b:List UInt8):List Row:=(G1 b).zipIdx.filterMap R5
noncomputable def bT1 (r:Row):V:=.tup [.int r.1,.lst (r.2.1.map .bytes),.bytes r.2.2]
theorem an6:∀(b:List UInt8),(ac1 35 b<0/\t9 b=b/\A3 b=[])\/∃k:Nat,ac1 35 b=k/\k<b.length/\t9 b=b.take k/\A3 b=b.drop (k+1):=by
 intro b
 have main:∀b:List UInt8,(b.findIdx? (· == 35)=none/\t9 b=b/\A3 b=[])\/∃k:Nat,b.findIdx? (· == 35)=some k/\k<b.length/\t9 b=b.take k/\A3 b=b.drop (k+1):=by
  intro b
  induction b with
  | nil=>exact .inl ⟨rfl,rfl,rfl⟩
  | cons x r ih=>
   by_cases hx:x=35
   ·subst hx
    exact .inr ⟨0,rfl,dl3 _,rfl,rfl⟩
   ·have h1:(x == 35)=false:=beq_eq_false_iff_ne.mpr hx
    have h2:(x != 35)=true:=bne_iff_ne.mpr hx
    have e1:t9 (x::r)=x::t9 r:=by unfold t9;rw[List.takeWhile_cons,if_pos h2]
    have e2:A3 (x::r)=A3 r:=by unfold A3;rw[List.dropWhile_cons,if_pos h2]
    rw[dl9,h1,e1,e2]
    rcases ih with⟨i1,i2,i3⟩ | ⟨k,i1,i2,i3,i4⟩
    ·rw[i1,i2,i3];exact .inl ⟨rfl,rfl,rfl⟩
    ·rw[i1];exact .inr ⟨k+1,rfl,dm4 i2,by rw[i3];rfl,by rw[i4];rfl⟩
 unfold ac1
 rcases main b with⟨h,h2,h3⟩ | ⟨k,h,h2,h3,h4⟩
 ·rw[h];exact .inl ⟨by decide,h2,h3⟩
 ·rw[h];exact .inr ⟨k,rfl,h2,h3,h4⟩
theorem ad6 {α:Type} (f:α->V) (xs:List α):o5 (xs.map f)=xs.zipIdx.map λp=>.tup [.int (p.2:Nat),f p.1]:=by
 unfold o5
 rw[List.zipIdx_map,cW0];rfl
noncomputable def cL2:V->V
 | .bytes b=>.bytes (u0 b)
 | _=>.none
theorem Y3 (b:List UInt8):(G1 b).length<=b.length+1:=cV2 (r4 10 _) (cW3 (Q7 b))
theorem ad7 {b ln:List UInt8} (h:ln∈G1 b):ln.length<=b.length:=cV2 (u9 _ _ _ h) (Q7 b)
theorem aO0 (b:List UInt8):(t9 b).length<=b.length:=by
 rcases an6 b with⟨h0,h1,h2⟩ | ⟨k,h0,hkl,h1,h2⟩
 ·rw[h1];exact cX5 _
 ·rw[h1,dg8];exact de4 _ _
theorem aY7 (b:List UInt8):(A3 b).length<=b.length:=by
 rcases an6 b with⟨h0,h1,h2⟩ | ⟨k,h0,hkl,h1,h2⟩
 ·rw[h2];exact cZ2 _
 ·rw[h2,dh9];exact dn7 _ _
theorem aY8 {α:Type} {xs:List α} {i n:Nat} {x:α} (h:xs.zipIdx[i]?=some (x,n)):x∈xs:=(do0 (cW7 (dl5▸h))).1
noncomputable def J3 (b:List UInt8) (a:Addr) (own:b9) (i:Nat):LP:=λX=>∀v1 v2 v3 v4 v5 v6,X [some (.bytes b),some (.ref a),v1,v2,v3,v4,v5,v6] (c7 own a (some (.list ((((G1 b).zipIdx.take i).filterMap R5).map bT1))))
theorem bE5 (W:Ok) {b:List UInt8} {Q:V->b9->Prop} {EX:XC} (hz:b.length<sizeLine) (hQ:Q (.lst ((ah9 b).map bT1)) own):A7 2 20 [.bytes b] own Q EX:=by
 refine r9.freeze W.ok ?_
 refine e8 (ns:=["octets","found","at","line","cut","body","remark","fields"]) (others:=["found","at","line","cut","body","remark","fields"]) W rfl rfl rfl
  (Den_cons (Den_asg (.s .z) rfl (p6 a8) rfl)
  (Den_cons (i6 (p8 78 rfl rfl (a6 (c4 15 19 rfl rfl rfl (a6 (a9 .z rfl) a8 rfl)) a8 rfl)) (o6 (c8 (c0 (.s (.s .z)) rfl) (c8 (c0 (.s (.s (.s .z))) rfl) k8 rfl) rfl)) (Den_cons (Den_asg (.s (.s (.s (.s .z)))) rfl (e7 FB.plainAttrs_bytes G9 R3 rfl rfl rfl (a9 (.s (.s (.s .z))) rfl) (a6 c9 a8 rfl)) rfl)
  (Den_cons (Den_asg (.s (.s (.s (.s (.s .z))))) rfl (N3 (c6 (a9 (.s (.s (.s (.s .z)))) rfl) b8 rfl) (a9 (.s (.s (.s .z))) rfl) (u5 (a9 (.s (.s (.s .z))) rfl) f5 (m8 (a9 (.s (.s (.s (.s .z)))) rfl)) f5)) rfl)
  (Den_cons (Den_asg (.s (.s (.s (.s (.s (.s .z)))))) rfl (N3 (c6 (a9 (.s (.s (.s (.s .z)))) rfl) b8 rfl) c9 (u5 (a9 (.s (.s (.s .z))) rfl) (m8 (d6 (a9 (.s (.s (.s (.s .z)))) rfl) b8)) f5 f5)) rfl)
  (Den_cons (i8 (c6 (e7 FB.plainAttrs_bytes A9 F2 rfl rfl rfl (a9 (.s (.s (.s (.s (.s .z))))) rfl) (a6 (x6 13 rfl rfl) a8 rfl)) c9 rfl) (Den_cons (J5 (.s (.s (.s (.s (.s (.s (.s .z))))))) ["field"] rfl rfl (λU U=>rfl) (by with_unfolding_all rfl) (e7 FB.plainAttrs_bytes l8 o0 rfl rfl rfl (a9 (.s (.s (.s (.s (.s .z))))) rfl) (a6 c9 a8 rfl)) (c0 .z rfl) n7 (e7 FB.plainAttrs_bytes A9 F2 rfl rfl rfl (a9 .z rfl) (a6 (x6 13 rfl rfl) a8 rfl)))
  (Den_cons (l9 (e7 F.plainAttrs_list F.slot_list_append F.type_list_append rfl rfl rfl (a9 (.s .z) rfl) (a6 (d7 (a6 (d6 (a9 (.s (.s .z)) rfl) b8) (a6 (a9 (.s (.s (.s (.s (.s (.s (.s .z))))))) rfl) (a6 (e7 FB.plainAttrs_bytes A9 F2 rfl rfl rfl (a9 (.s (.s (.s (.s (.s (.s .z)))))) rfl) (a6 (x6 13 rfl rfl) a8 rfl)) a8 rfl) rfl) rfl)) a8 rfl)) rfl)
  b6)) b6)
  b6)))) b6 (λU U=>rfl))
  (Den_cons (d4 (a9 (.s .z) rfl))
  b6))) ?_
 walk_at "d"
 refine⟨sz rfl,λa ha=>?_⟩
 walk_at "n"
 refine⟨1,rfl,aY6 W hz (bC8 λe it l he=>?_)⟩
 refine aw4 (J3 b a own) (bf8 (b5 _ _ _)) (.at (by rw[c5,d9 he];rfl) λU k=>k _ _ _ _ _ _) ?_ ?_
 ·intro i y hy v1 v2 v3 v4 v5 v6 _
  rw[ad6,cX9] at hy
  obtain⟨⟨ln,n⟩,hp,rfl⟩:=cY2.mp hy
  have hln:ln.length<16777216:=cV9 (ad7 (aY8 hp)) hz
  have hbl:=cV9 (aO0 ln) hln
  have hrl:=cV9 (aY7 ln) hln
  have htk:=g6 hp
  walk_at "d"
  refine⟨rfl,?_⟩
  refine⟨rfl,bD1 ?_⟩
  walk_at "n"
  refine⟨.bytes (t9 ln),?_,?_⟩
  ·walk_at "d"
   rcases an6 ln with⟨h0,h1,h2⟩ | ⟨k,h0,hkl,h1,h2⟩
   ·exact aM3 h0 ⟨by rw[h1],rfl⟩
   ·rw[h0]
    exact bf4 (dg5.mpr (cX8 _)) (u_b (lo:=none) (hi:=some k) (cY0 hln) rfl rfl ⟨by rw[Z6,h1],rfl⟩)
  walk_at "n"
  refine⟨.bytes (A3 ln),?_,?_⟩
  ·walk_at "d"
   rcases an6 ln with⟨h0,h1,h2⟩ | ⟨k,h0,hkl,h1,h2⟩
   ·exact aM3 h0 ⟨by rw[h2],rfl⟩
   ·rw[h0]
    exact bf4 (dg5.mpr (cX8 _)) (u_b (lo:=some (k+1:Nat)) (hi:=none) (cY0 hln) rfl rfl ⟨by rw[U1,h2],rfl⟩)
  walk_at "n"
  refine⟨rfl,aE6 (cY0 hbl) ?_⟩
  walk_at "d"
  refine bz8 (λhne=>?_) λhe=>?_
  ·refine⟨rfl,M0 hbl (ah3 (λx=>.bytes (u0 x)) m9 (cV2 (r4 59 _) hbl) (λj w x hat hx=>?_) ?_)⟩
   ·walk_at "d"
    exact⟨rfl,aE6 (cV2 (u9 _ _ _ hx) (cY0 hbl)) (mjE hat)⟩
   walk_at "n"
   refine⟨K9 (b5 _ _ _),rfl,aE6 (cY0 hrl) ⟨sz rfl,?_⟩⟩
   refine n5 (b5 _ _ _) ?_ ?_
   ·rw[cV3]
    exact cV2 (dd3 _ _) (cV2 (da9 _ _) (cV2 (de8 List.length_zipIdx) (cV2 (Y3 b) hz)))
   walk_at "n"
   refine .at ?_ λU k=>k _ _ _ _ _ _
   rw[c5,htk,cZ4,cV5,dh6 (b:=(n+1,(i5 59 (t9 ln)).map u0,u0 (A3 ln))) (by unfold R5;exact if_neg hne),dh0]
   simp only[cX3,dc9,bT1,cW0]
   rfl
  ·walk_at "n"
   refine .at ?_ λU k=>k _ _ _ _ _ _
   rw[htk,cZ4,dm3 (by unfold R5;exact if_pos he),dh0,cW6]
 ·intro v1 v2 v3 v4 v5 v6
  rw[show(o5 ((G1 b).map V.bytes)).length=(G1 b).zipIdx.length by rw[ad6,cV3],cY5]
  walk_at "d"
  walk_at "n"
  walk_at "r"
  exact⟨_,_,.inl ⟨a,_,rfl,b5 _ _ _,rfl,rfl⟩,by rw[c5,d9 ha];exact hQ⟩
end
section
variable {own:b9}
noncomputable def z7 (b:List UInt8):Option Nat:=if b.length<4 then none else aF5 b
theorem J7 (W:Ok) (hz:b.length<=sizeLine) (hQ:∀n,z7 b=some n->Q (.int n) own) (hE:z7 b=none->EX (fa 8) v own):A7 4 21 [.bytes b,v] own Q EX:=by
 unfold z7 at hQ hE
 refine e8 (ns:=["field","number"]) (others:=[]) W rfl rfl rfl
  (Den_cons (i8 (c6 (j5 67 rfl rfl (a6 (a9 .z rfl) a8 rfl)) b8 rfl) (Den_cons (w8 5 8 rfl (by decide) rfl rfl (a9 (.s .z) rfl))
  b6) b6)
  (Den_cons (aq8 (.s .z) rfl rfl rfl (Den_cons (d4 (c4 11 14 rfl rfl rfl (a6 (a9 .z rfl) a8 rfl)))
  b6))
  b6)) ?_
 walk_at "d"
 refine aE5 (cV2 hz (by decide)) ?_
 walk_at "d"
 refine aE0 (λh=>aX7 (hE (if_pos (cY1.mp h)))) λh=>?_
 have h:¬b.length<4:=λq=>h (cY1.mpr q)
 rw[if_neg h] at hE hQ
 walk_at "n"
 refine⟨3,rfl,aF6 W hz (λn hn=>?_) λhn U=>⟨rfl,aX7 (hE hn)⟩⟩
 walk_at "r";exact hQ n hn
theorem U5 (W:Ok) (hz:b.length<=sizeLine) (hQ:(∀x∈b,x.toNat<128)->Q (.str (x5 b)) own) (hE:(∃x∈b,¬x.toNat<128)->EX (fa 8) v own):A7 4 23 [.bytes b,v] own Q EX:=by
 refine e8 (ns:=["field","number"]) (others:=[]) W rfl rfl rfl
  (Den_cons (aq8 (.s .z) rfl rfl rfl (Den_cons (d4 (c4 8 11 rfl rfl rfl (a6 (a9 .z rfl) a8 rfl)))
  b6))
  b6) ?_
 walk_at "d"
 refine⟨3,rfl,bn7 W hz (λhn=>?_) λhn U=>⟨rfl,aX7 (hE hn)⟩⟩
 walk_at "r";exact hQ hn
noncomputable def C4:List (List UInt8)->List Nat->Option (List Nat)
 | [],acc=>some acc
 | p::r,acc=>if p=[] then C4 r acc else match z7 p with | none=>none | some n=>C4 r (acc++[n])
theorem bn8:C4 (p::r) acc=if p=[] then C4 r acc else(z7 p).bind λn=>C4 r (acc++[n]):=by
 show(if p=[] then C4 r acc else match z7 p with | none=>none | some n=>C4 r (acc++[n]))=_
 cases z7 p<;>rfl
noncomputable def u6 (b:List UInt8):Option (List Nat):=C4 (i5 32 b) []
noncomputable def nV (n:Nat):V:=.int (n:Int)
noncomputable def J4 (b:List UInt8) (v:V) (a:Addr) (own:b9) (i:Nat):LP:=λX=>∀ns,C4 ((i5 32 b).drop i) ns=u6 b->ns.length<=i->∀pv,X [some (.bytes b),some v,some (.ref a),pv] (c7 own a (some (.list (ns.map nV))))
theorem R6 (W:Ok) (hz:b.length<sizeLine) (hQ:∀ns,u6 b=some ns->Q (.tup (ns.map nV)) own) (hE:u6 b=none->EX (fa 8) v own):A7 5 22 [.bytes b,v] own Q EX:=by
 refine e8 (ns:=["field","number","found","part"]) (others:=["found","part"]) W rfl rfl rfl
  (Den_cons (Den_asg (.s (.s .z)) rfl (p6 a8) rfl)
  (Den_cons (i6 (e7 FB.plainAttrs_bytes l8 o0 rfl rfl rfl (a9 .z rfl) (a6 c9 a8 rfl)) (c0 (.s (.s (.s .z))) rfl) (Den_cons (i8 (c6 (a9 (.s (.s (.s .z))) rfl) c9 rfl) (Den_cons (l9 (e7 F.plainAttrs_list F.slot_list_append F.type_list_append rfl rfl rfl (a9 (.s (.s .z)) rfl) (a6 (c4 17 21 rfl rfl rfl (a6 (a9 (.s (.s (.s .z))) rfl) (a6 (a9 (.s .z) rfl) a8 rfl) rfl)) a8 rfl)) rfl)
  b6) b6)
  b6) b6 (λU U=>rfl))
  (Den_cons (d4 (p8 73 rfl rfl (a6 (a9 (.s (.s .z)) rfl) a8 rfl)))
  b6))) ?_
 walk_at "d"
 refine⟨sz rfl,λa ha=>?_⟩
 walk_at "n"
 refine⟨rfl,M0 hz ?_⟩
 refine ad4 (J4 b v a own) m9 (λU k=>k [] rfl (cX5 _) _) ?_ ?_
 ·intro i p hp ns hn hnl pv _
  rw[I0 hp,C4] at hn
  have hi:i<sizeLine:=cX7 (cX4.mp hp).1 (cV2 (r4 32 b) hz)
  walk_at "d"
  refine bz8 (λh=>?_) λh=>?_
  ·rw[if_neg h] at hn
   refine⟨K9 (b5 _ _ _),4,rfl,J7 W (cV2 (u9 _ _ _ (cW7 hp)) (cY0 hz)) (λn hN=>?_) λhN=>?_⟩
   ·rw[hN] at hn
    refine n5 (b5 _ _ _) (by rw[cV3];exact cV2 hnl (cY0 hi)) ?_
    walk_at "n"
    exact .at (by rw[c5,cV5];rfl) λU k=>k _ hn (by rw[cV4];exact cW3 hnl) _
   ·rw[hN] at hn
    exact aj9 ((Sub.refl _).upd ha (λU U=>nofun)) (hE hn.symm)
  ·rw[if_pos h] at hn
   walk_at "n"
   exactλU k=>k ns hn (cZ6 hnl) _
 ·intro ns hn hnl pv
  rw[dd7,C4] at hn
  walk_at "d"
  walk_at "n"
  refine ad3 (.at_own (b5 _ _ _)) (by rw[cV3];exact cV2 hnl (cV2 (r4 32 b) hz)) ?_
  walk_at "d";repeat with_reducible apply bn4
  exact bR2 ((Sub.refl _).upd ha (λU U=>nofun)) (hQ _ hn.symm)
abbrev s6:=List (List UInt8)
noncomputable def w9 (least:Nat) (f:s6):s6:=if least<f.length/\f.getLast?=some [] then f.dropLast else f
noncomputable def J8 (least most:Nat):List Row->List (Nat×s6)->Except Nat (List (Nat×s6))
 | [],acc=>.ok acc
 | r::rs,acc=>if least<=(w9 least r.2.1).length/\(w9 least r.2.1).length<=most then J8 least most rs (acc++[(r.1,w9 least r.2.1)]) else .error r.1
theorem ar4:J8 least most (r::rs) acc=if least<=(w9 least r.2.1).length/\(w9 least r.2.1).length<=most then J8 least most rs (acc++[(r.1,w9 least r.2.1)]) else .error r.1:=rfl
noncomputable def q7 (least most:Nat) (b:List UInt8):Except Nat (List (Nat×s6)):=J8 least most (ah9 b) []
noncomputable def bE6 (r:Nat×s6):V:=.tup [.int r.1,.lst (r.2.map .bytes)]
theorem bE7 (b:List UInt8):(ah9 b).length<=b.length+1:=cV2 (dd3 _ _) (cV2 (de8 List.length_zipIdx) (Y3 b))
theorem bg2 (h:r∈ah9 b):r.2.1.length<=b.length+1/\∀f∈r.2.1,f.length<=b.length:=by
 obtain⟨⟨ln,n⟩,hp,e⟩:=dl8.mp h
 unfold R5 at e
 split at e
 ·cases e
 ·cases e
  have h1:=(do0 (dl5▸hp)).1
  have h2:=cV2 (aO0 ln) (ad7 h1)
  refine⟨by rw[cV3];exact cV2 (r4 59 _) (cW3 h2),λf hf=>?_⟩
  rcases cV6.mp hf with⟨g,hg,rfl⟩
  exact cV2 aK4 (cV2 (u9 _ _ _ hg) h2)
theorem bn9 (least:Nat) (f:s6):(w9 least f).length<=f.length:=by
 unfold w9;split
 ·rw[List.length_dropLast];exact dn7 _ _
 ·exact cX5 _
theorem bE8 {α:Type} (xs:List α):cut xs none (some (-1))=xs.dropLast:=by
 unfold cut
 rw[List.dropLast_eq_take]
 show(xs.drop 0).take (clipAt xs.length (-1)-0)=_
 rw[do2,Nat.sub_zero,show clipAt xs.length (-1)=xs.length-1 from clipAt_neg _ 1 (cX5 1)]
noncomputable def J4f (b:List UInt8) (least most:Nat) (a:Addr) (own:b9) (i:Nat):LP:=λX=>∀acc,J8 least most ((ah9 b).drop i) acc=q7 least most b->acc.length<=i->∀v1 v2 v3,X [some (.bytes b),some (.int least),some (.int most),some (.ref a),v1,v2,v3] (c7 own a (some (.list (acc.map bE6))))
noncomputable def J4t (b:List UInt8) (least most:Nat) (a:Addr) (o:b9) (n:Nat) (f:s6) (rm:List UInt8):LP:=λX=>X [some (.bytes b),some (.int least),some (.int most),some (.ref a),some (.int n),some (.lst ((w9 least f).map .bytes)),some (.bytes rm)] o
theorem aY9 (n:Nat):((-1:Int)+(n:Int)).toNat=n-1:=by lia
theorem R7 (W:Ok) (hz:b.length<sizeLine) (hQ:∀fs,q7 least most b=.ok fs->Q (.lst (fs.map bE6)) own) (hE:∀n,q7 least most b=.error n->EX (fa 8) (.int n) own):
  A7 3 27 [.bytes b,.int least,.int most] own Q EX:=by
 refine r9.freeze W.ok ?_
 refine e8 (ns:=["octets","least","most","found","number","fields","remark"]) (others:=["found","number","fields","remark"]) W rfl rfl rfl
  (Den_cons (Den_asg (.s (.s (.s .z))) rfl (p6 a8) rfl)
  (Den_cons (i6 (c4 16 20 rfl rfl rfl (a6 (a9 .z rfl) a8 rfl)) (o6 (c8 (c0 (.s (.s (.s (.s .z)))) rfl) (c8 (c0 (.s (.s (.s (.s (.s .z))))) rfl) (c8 (c0 (.s (.s (.s (.s (.s (.s .z)))))) rfl) k8 rfl) rfl) rfl)) (Den_cons (W2 (j3 (m7 (y2 (c6 (j5 67 rfl rfl (a6 (a9 (.s (.s (.s (.s (.s .z))))) rfl) a8 rfl)) (a9 (.s .z) rfl) rfl) (w7 (c6 (d5 (a9 (.s (.s (.s (.s (.s .z))))) rfl) (an4 b8) rfl) c9 rfl))))) (Den_cons (Den_asg (.s (.s (.s (.s (.s .z))))) rfl (u5 (a9 (.s (.s (.s (.s (.s .z))))) rfl) f5 (m8 (an4 b8)) f5) rfl)
  b6) b6)
  (Den_cons (i8 (C0 (j3 (F4 (a9 (.s .z) rfl) (j5 67 rfl rfl (a6 (a9 (.s (.s (.s (.s (.s .z))))) rfl) a8 rfl)) (a9 (.s (.s .z)) rfl) rfl))) (Den_cons (w8 5 8 rfl (by decide) rfl rfl (a9 (.s (.s (.s (.s .z)))) rfl))
  b6) b6)
  (Den_cons (l9 (e7 F.plainAttrs_list F.slot_list_append F.type_list_append rfl rfl rfl (a9 (.s (.s (.s .z))) rfl) (a6 (d7 (a6 (a9 (.s (.s (.s (.s .z)))) rfl) (a6 (a9 (.s (.s (.s (.s (.s .z))))) rfl) a8 rfl) rfl)) a8 rfl)) rfl)
  b6))) b6 (λU U=>rfl))
  (Den_cons (d4 (a9 (.s (.s (.s .z))) rfl))
  b6))) ?_
 walk_at "d"
 refine⟨sz rfl,λa ha=>?_⟩
 walk_at "n"
 refine⟨2,rfl,bE5 W hz ?_⟩
 refine ad4 (J4f b least most a own) m9 (λU k=>k [] rfl (cX5 _) _ _ _) ?_ ?_
 ·rintro i ⟨n,f,rm⟩ hp acc hn hnl v1 v2 v3 -
  rw[I0 hp,ar4] at hn
  have hf:=(bg2 (cW7 hp)).1
  have hi:i<sizeLine:=cX7 (cX4.mp hp).1 (cV2 (bE7 b) hz)
  have hfz:(f.map V.bytes).length<=16777216:=by rw[cV3];exact cV2 hf hz
  unfold bT1
  walk_at "d"
  refine⟨rfl,?_⟩
  refine ar0 (J4t b least most a (c7 own a (some (.list (acc.map bE6)))) n f rm) ?_ ?_
  ·refine⟨decide (least<f.length/\f.getLast?=some []),R4 .lst (cV9 hfz (by decide)) ?_,?_⟩
   ·walk_at "d"
    rw[cV3]
    refine aE0 (λh=>?_) λh=>⟨(decide_eq_false λq=>h (cY1.mpr q.1)).symm,rfl⟩
    have h:least<f.length:=cY1.mp h
    have hne:f≠[]:=λq=>by rw[q] at h;cases h
    refine cj1 (x:=.bytes (f.getLast hne)) .lst (by decide) (by rw[cV3];exact Int.neg_le_neg (da7.mpr (cV9 (cZ2 _) h))) (by decide) ?_ ?_
    ·rw[cV3,cX9,aY9,List.getLast_eq_getElem,cW8];rfl
    ·walk_at "d"
     refine⟨?_,rfl⟩
     rw[List.getLast?_eq_getLast hne,decide_eq_decide]
     exact⟨λq=>⟨h,congrArg some q⟩,λq=>Option.some.inj q.2⟩
   ·refine aE0 (λh=>?_) λh=>?_
    ·refine u_l (lo:=none) (hi:=some (-1)) .lst hfz rfl rfl ?_
     walk_at "n"
     rw[bE8,<-List.map_dropLast,show f.dropLast=w9 least f from(if_pos h).symm]
     exactλU k=>k
    ·walk_at "n"
     rw[show f.map V.bytes=(w9 least f).map V.bytes from congrArg _ (if_neg h).symm]
     exactλU k=>k
  unfold J4t
  have htz:((w9 least f).map V.bytes).length<2 ^ 63:=by
   rw[cV3];exact cV9 (bn9 least f) (cV9 hf (cV9 hz (by decide)))
  walk_at "n"
  refine⟨_,R4 .lst htz ay8,?_⟩
  rw[cV3]
  refine r7 (λh=>?_) λh=>?_
  ·rw[if_neg λq=>by rw[decide_eq_true (da7.mpr q.1),decide_eq_true (da7.mpr q.2)] at h;cases h] at hn
   exact aj9 ((Sub.refl _).upd ha (λU U=>nofun)) (hE n hn.symm)
  ·rw[dm1,cY6] at h
   rw[if_pos ⟨da7.mp (of_decide_eq_true h.1),da7.mp (of_decide_eq_true h.2)⟩] at hn
   walk_at "n"
   refine⟨K9 (b5 _ _ _),sz rfl,n5 (b5 _ _ _) (by rw[cV3];exact cV2 hnl (cY0 hi)) ?_⟩
   walk_at "n"
   exact .at (by rw[c5,cV5];rfl) λU k=>k _ hn (by rw[cV4];exact cW3 hnl) _ _ _
 ·intro acc hn hnl v1 v2 v3
  rw[dd7] at hn
  have hn:Except.ok acc=_:=hn
  walk_at "d"
  walk_at "n"
  walk_at "r"
  exact⟨_,_,.inl ⟨a,_,rfl,b5 _ _ _,rfl,rfl⟩,by rw[c5,d9 ha];exact hQ _ hn.symm⟩
end
section
variable {own:b9}
theorem N9 (ws:List Str):X1 (ws.map .str)=ws.map .str:=by rw[N1,cW0];rfl
theorem bg3 (x:Str) (ws:List Str):((ws.map PyData.str).any λd=>PyData.eqv d (.str x))=ws.contains x:=by
 induction ws with
 | nil=>rfl
 | cons w r ih=>
  rw[cX3,dl1,ih,dc6,Bool.beq_comm];rfl
theorem bg4 {x:Str} (hx:PyData.strOk x=true) {ws:List Str} (hw:ws.all PyData.strOk=true):∀d∈ws.map PyData.str,d.canLay0=true/\min d.depth (PyData.str x).depth<=1000:=λd h=>by
 rcases cV6.mp h with⟨w,hm,rfl⟩
 simp only[PyData.canLay0,PyData.depth]
 exact⟨cX0.mp hw w hm,by decide⟩
theorem aO1 {x:Str} (hx:PyData.strOk x=true):(PyData.str x).canLay0=true:=by rw[PyData.canLay0];exact hx
theorem cb3 {x:Str} {ws:List Str} {Q:V->b9->Prop} (hx:PyData.strOk x=true) (hw:ws.all PyData.strOk=true) (hQ:Q (.bool (ws.contains x)) own):f7 .In (.str x) (.tup (ws.map .str)) own Q:=λU U U=>by
 rw[<-N9 ws]
 exact cE6 (x:=.str x) (aO1 hx) (bg4 hx hw) (by rw[bg3];exact hQ)
theorem bE9 {x:Str} {ws:List Str} {Q:V->b9->Prop} (hx:PyData.strOk x=true) (hw:ws.all PyData.strOk=true) (hQ:Q (.bool (!ws.contains x)) own):f7 .NotIn (.str x) (.tup (ws.map .str)) own Q:=λU U U=>by
 rw[<-N9 ws]
 exact bP2 (x:=.str x) (aO1 hx) (bg4 hx hw) (by rw[bg3];exact hQ)
theorem cb4 {n m:Nat} {Q:V->b9->Prop} (hQ:Q (.bool (decide (n<=m))) own):f7 .LtE (.str ⟨#[n]⟩) (.str ⟨#[m]⟩) own Q:=λU U U=>cF2 (by
 rw[show(!decide ((#[m]:Array Nat).toList<(#[n]:Array Nat).toList))=decide (n<=m) by
  rw[dl2,da4,decide_eq_false_iff_not,decide_eq_true_iff,<-dg4,not_congr]
  constructor
  ·intro h
   cases h with
   | cons h=>cases h
   | rel h=>exact h
  ·exactλh=>.rel h]
 exact hQ)
theorem aF7 {V₁:V} {xs:List V} {Q:V->b9->Prop} (L:j4 own V₁ xs) (hQ:Q (.bool xs.isEmpty) own):f7 .Eq V₁ (.lst []) own Q:=λU U U=>bx8 L .lst hQ
theorem aZ0 {V₁:V} {xs:List V} {Q:V->b9->Prop} (L:j4 own V₁ xs) (hQ:Q (.bool (!xs.isEmpty)) own):f7 .NotEq V₁ (.lst []) own Q:=λU U U=>bx9 L .lst hQ
noncomputable def aF8 (x:Str):Bool:=x.cps.toList.all λn=>decide (97<=n)&&decide (n<=122)
noncomputable def sgn:V->Nat
 | .str x=>x.cps.getD 0 0
 | _=>0
theorem aZ1 {α:Type} (p:α->Bool) (l:List α):(l.filter λv=>!p v).isEmpty=l.all p:=by
 induction l with
 | nil=>rfl
 | cons x r ih=>rw[List.filter_cons,dc1,<-ih];cases p x<;>rfl
theorem bo0 (W:Ok) (hz:x.cps.size<=sizeLine) (hQ:Q (.bool (aF8 x)) own):A7 1 31 [.str x] own Q EX:=by
 refine e8 (ns:=["word"]) (others:=[]) W rfl rfl rfl
  (Den_cons (d4 (H4 (j8 ["sign"] rfl (λU U=>rfl) (a9 .z rfl) (c0 .z rfl) (L9 (C0 (j3 (F4 d0 (a9 .z rfl) d0 rfl)))) (a9 .z rfl)) (w5 a8) rfl))
  b6) ?_
 walk_at "d"
 refine aN2 (λv=>!(decide (97<=sgn v)&&decide (sgn v<=122))) aX8 (ah5 hz) (λj w y hw hat hy=>?_) ?_
 ·rcases F9 hw with⟨o,rfl⟩
  rcases cV6.mp hy with⟨n,-,rfl⟩
  walk_at "d"
  refine⟨decide (97<=n)&&decide (n<=122),cb4 (n:=97) (m:=n) ?_,r7 (λh=>cx2 hat h) λh=>cx3 hat h⟩
  walk_at "d"
  exact r7 (λh=>cb4 (n:=n) (m:=122) (by walk_at "d";rw[h];exact⟨rfl,rfl⟩)) λh=>⟨by rw[h];rfl,rfl⟩
 ·walk_at "d"
  refine⟨sz rfl,aF7 .lst ?_⟩
  rw[aZ1,I6,List.all_map]
  walk_at "r";exact hQ
theorem Q8:(y3 n).length<=6:=by
 unfold y3 aF3;rw[cZ0,M1]
 split
 ·decide
 ·split<;>decide
theorem y5:(∀x∈ns,x.length<=k)->(g8 sep ns).length<=ns.length*(k+sep.length):=by
 induction ns with
 | nil=>exactλU=>cZ2 _
 | cons x r ih=>
  intro h
  have h1:=h x (.head _)
  rw[db1,di8,dd0]
  cases r with
  | nil=>exact cV2 h1 (cV2 (dc4 _ _) (dc4 _ _))
  | cons y r=>
   show(x++sep++g8 sep (y::r)).length<=_
   rw[cV4,cV4]
   exact cZ5 (cY7 h1 _) (ih λz hz=>h z (.tail _ hz))
noncomputable def j7 (ns:List Nat):List UInt8:=g8 [32] (ns.map y3)
noncomputable def aZ2:V->V
 | .int i=>.bytes (y3 i.toNat)
 | _=>.none
theorem bF0 (ns:List Nat):(ns.map nV).map aZ2=(ns.map y3).map .bytes:=by rw[cW0,cW0];rfl
theorem A4 (ns:List Nat):(j7 ns).length<=ns.length*7:=by
 have:=y5 (sep:=[32]) (k:=6) (ns:=ns.map y3) λx hx=>by
  obtain⟨n,-,rfl⟩:=cV6.mp hx;exact Q8
 rwa [cV3] at this
theorem E9 (W:Ok) {V:V} (hi:V=.tup (ns.map nV)\/V=.lst (ns.map nV)) (hn:∀n∈ns,n<=1114111) (hz:ns.length<=1000) (hQ:Q (.bytes (j7 ns)) own):A7 2 33 [V] own Q EX:=by
 refine e8 (ns:=["codes"]) (others:=[]) W rfl rfl rfl
  (Den_cons (d4 (e7 FB.plainAttrs_bytes l5 n6 rfl rfl rfl c9 (a6 (j8 ["code"] rfl (λU U=>rfl) (a9 .z rfl) (c0 .z rfl) n7 (c4 9 12 rfl rfl rfl (a6 (a9 .z rfl) a8 rfl))) a8 rfl)))
  b6) ?_
 walk_at "d"
 refine⟨rfl,A2 (xs:=ns.map nV) aZ2 (hi.elim (λe=>e▸F5) λe=>e▸m9) (by rw[cV3];exact cV2 hz (by decide)) (λj w y hw hat hy=>?_) ?_⟩
 ·rcases F9 hw with⟨o,rfl⟩
  rcases cV6.mp hy with⟨n,hm,rfl⟩
  unfold nV
  walk_at "d"
  exact⟨1,rfl,ah7 W (hn n hm) (al3 hat)⟩
 ·rw[bF0]
  refine Q5 (.inr .lst) (cV2 (A4 ns) (cV2 (cY3 7 hz) (by decide))) ?_
  walk_at "r";exact hQ
end
section
variable {own:b9}
noncomputable def cy6:List Str:=["Final_Sigma","After_Soft_Dotted","More_Above","Before_Dot","Not_Before_Dot","After_I"]
noncomputable def ar5 (w:Str):Bool:=cy6.contains w || ((decide (2<=w.length)&&decide (w.length<=3))&&aF8 w)
instance (p:List UInt8):Decidable (∀x∈p,x.toNat<128):=List.decidableBAll _ p
noncomputable def U6:List (List UInt8)->List Str->Option (List Str)
 | [],acc=>some acc
 | p::r,acc=>if∀x∈p,x.toNat<128 then if ar5 (x5 p)=true then U6 r (acc++[x5 p]) else if x5 p="" then U6 r acc else none else none
theorem aO2:U6 (p::r) acc=if∀x∈p,x.toNat<128 then if ar5 (x5 p)=true then U6 r (acc++[x5 p]) else if x5 p="" then U6 r acc else none else none:=rfl
noncomputable def Z8 (b:List UInt8):Option (List Str):=U6 (i5 32 b) []
theorem aF9:PyData.strOk (x5 b)=true:=by
 unfold PyData.strOk x5
 rw[<-Array.all_toList,cX0]
 intro x hx
 rcases cV6.mp hx with⟨y,-,rfl⟩
 exact decide_eq_true (cZ9 y.toNat_lt (by decide))
theorem aO3 (b:List UInt8):(x5 b).cps.size=b.length:=by unfold x5;rw[dc3,cV3]
noncomputable def J6 (b:List UInt8) (v:V) (a:Addr) (own:b9) (i:Nat):LP:=λX=>∀ws,U6 ((i5 32 b).drop i) ws=Z8 b->ws.length<=i->∀v1 v2,X [some (.bytes b),some v,some (.ref a),v1,v2] (c7 own a (some (.list (ws.map .str))))
theorem aO4 (W:Ok) (hz:b.length<sizeLine) (hQ:∀ws,Z8 b=some ws->Q (.tup (ws.map .str)) own) (hE:Z8 b=none->EX (fa 8) v own):A7 5 30 [.bytes b,v] own Q EX:=by
 refine e8 (ns:=["field","number","found","part","word"]) (others:=["found","part","word"]) W rfl rfl rfl
  (Den_cons (Den_asg (.s (.s .z)) rfl (p6 a8) rfl)
  (Den_cons (i6 (e7 FB.plainAttrs_bytes l8 o0 rfl rfl rfl (a9 .z rfl) (a6 c9 a8 rfl)) (c0 (.s (.s (.s .z))) rfl) (Den_cons (Den_asg (.s (.s (.s (.s .z)))) rfl (c4 19 23 rfl rfl rfl (a6 (a9 (.s (.s (.s .z))) rfl) (a6 (a9 (.s .z) rfl) a8 rfl) rfl)) rfl)
  (Den_cons (i8 (j3 (m7 (H5 (c6 (a9 (.s (.s (.s (.s .z)))) rfl) (x6 21 rfl rfl) rfl) (J1 (j3 (m7 (y2 (j3 (F4 b8 (j5 67 rfl rfl (a6 (a9 (.s (.s (.s (.s .z)))) rfl) a8 rfl)) b8 rfl)) (w7 (g9 (c4 26 31 rfl rfl rfl (a6 (a9 (.s (.s (.s (.s .z)))) rfl) a8 rfl)) (λU U=>rfl)))))))))) (Den_cons (l9 (e7 F.plainAttrs_list F.slot_list_append F.type_list_append rfl rfl rfl (a9 (.s (.s .z)) rfl) (a6 (a9 (.s (.s (.s (.s .z)))) rfl) a8 rfl)) rfl)
  b6) (Den_cons (i8 (c6 (a9 (.s (.s (.s (.s .z)))) rfl) d0 rfl) (Den_cons (w8 5 8 rfl (by decide) rfl rfl (a9 (.s .z) rfl))
  b6) b6)
  b6))
  b6)) b6 (λU U=>rfl))
  (Den_cons (d4 (p8 73 rfl rfl (a6 (a9 (.s (.s .z)) rfl) a8 rfl)))
  b6))) ?_
 walk_at "d"
 refine⟨sz rfl,λa ha=>?_⟩
 walk_at "n"
 refine⟨rfl,M0 hz ?_⟩
 refine ad4 (J6 b v a own) m9 (λU k=>k [] rfl (cX5 _) _ _) ?_ ?_
 ·intro i p hp ws hn hnl v1 v2 _
  rw[I0 hp,aO2] at hn
  have hi:i<sizeLine:=cX7 (cX4.mp hp).1 (cV2 (r4 32 b) hz)
  have hpz:p.length<=sizeLine:=cV2 (u9 _ _ _ (cW7 hp)) (cY0 hz)
  have hsz:(x5 p).length<2 ^ 63:=cV9 (cV2 (de8 (aO3 p)) hpz) (by decide)
  have h2:(decide (2<=(x5 p).length)&&decide ((x5 p).length<=3))=(decide ((2:Int)<=((x5 p).length:Int))&&decide (((x5 p).length:Int)<=3)):=congr (congrArg and (decide_eq_decide.mpr da7.symm)) (decide_eq_decide.mpr da7.symm)
  walk_at "d"
  refine⟨4,rfl,U5 W hpz (λhA=>?_) λhx=>?_⟩
  ·rw[if_pos hA] at hn
   walk_at "n"
   refine⟨ar5 (x5 p),cb3 (ws:=cy6) aF9 (by decide +kernel) ?_,r7 (λh=>?_) λh=>?_⟩
   ·walk_at "d"
    refine r7 (λh=>⟨by rw[ar5,h];rfl,rfl⟩) λh=>⟨(decide (2<=(x5 p).length)&&decide ((x5 p).length<=3))&&aF8 (x5 p),⟨decide (2<=(x5 p).length)&&decide ((x5 p).length<=3),?_,?_⟩,by rw[ar5,h];rfl,rfl⟩
    ·refine ci9 hsz ?_
     rw[h2];exact ay8
    ·exact r7 (λh=>⟨1,rfl,bo0 W (cV2 (de8 (aO3 p)) hpz) ⟨by rw[h];rfl,rfl⟩⟩) λh=>⟨by rw[h];rfl,rfl⟩
   ·rw[if_pos h] at hn
    refine⟨K9 (b5 _ _ _),n5 (b5 _ _ _) (by rw[cV3];exact cV2 hnl (cY0 hi)) ?_⟩
    walk_at "n"
    exact .at (by rw[c5,cV5];rfl) λU k=>k _ hn (by rw[cV4];exact cW3 hnl) _ _
   ·rw[if_neg (by rw[h];exact cV7)] at hn
    refine bz8 (λh=>?_) λh=>?_
    ·rw[if_neg h] at hn
     exact aj9 ((Sub.refl _).upd ha (λU U=>nofun)) (hE hn.symm)
    ·rw[if_pos h] at hn
     walk_at "n"
     exactλU k=>k ws hn (cZ6 hnl) _ _
  ·rw[if_neg λh=>hx.elim λx hx=>hx.2 (h x hx.1)] at hn
   exact aj9 ((Sub.refl _).upd ha (λU U=>nofun)) (hE hn.symm)
 ·intro ws hn hnl v1 v2
  rw[dd7] at hn
  have hn:some _=_:=hn
  walk_at "d"
  walk_at "n"
  refine ad3 (.at_own (b5 _ _ _)) (by rw[cV3];exact cV2 hnl (cV2 (r4 32 b) hz)) ?_
  walk_at "d";repeat with_reducible apply bn4
  exact bR2 ((Sub.refl _).upd ha (λU U=>nofun)) (hQ _ hn.symm)
end
section
variable {own:b9}
theorem aw5:∀d:Nat,d<16->cut ([48,49,50,51,52,53,54,55,56,57,65,66,67,68,69,70]:List UInt8) (some (d:Int)) (some ((d:Int)+1))=[aY5 d]:=by decide
theorem bT2 (n i:Nat):((n / 16 ^ i:Nat):Int).fmod 16=((n / 16 ^ i % 16:Nat):Int):=by
 rw[Int.fmod_eq_emod_of_nonneg _ (by decide)];rfl
theorem bT3 (n i:Nat):((n / 16 ^ i:Nat):Int).fdiv 16=((n / 16 ^ (i+1):Nat):Int):=by
 rw[Nat.pow_succ,<-Nat.div_div_eq_div_mul,dg7 _ (by decide)];rfl
theorem ar6 (W:Ok) (hn:n<=1114111) {Q:V->b9->Prop} (hQ:Q (.bytes (y3 n)) own):A7 1 53 [.int n] own Q EX:=by
 refine e8 (ns:=["code","found"]) (others:=["found"]) W rfl rfl rfl
  (Den_cons (Den_asg (.s .z) rfl c9 rfl)
  (Den_cons (ag9 (j3 (m7 (H5 (c6 (a9 .z rfl) b8 rfl) (J1 (c6 (j5 67 rfl rfl (a6 (a9 (.s .z) rfl) a8 rfl)) b8 rfl))))) (Den_cons (Den_asg (.s .z) rfl (d6 (u5 c9 (m8 (d6 (a9 .z rfl) b8)) (m8 (d6 (d6 (a9 .z rfl) b8) b8)) f5) (a9 (.s .z) rfl)) rfl)
  (Den_cons (Den_asg .z rfl (d6 (a9 .z rfl) b8) rfl)
  b6)) b6)
  (Den_cons (d4 (a9 (.s .z) rfl))
  b6))) ?_
 walk_at "d"
 walk_at "n"
 refine⟨λm l o=>∃i,m+i=6/\(4<=i->i=4\/16 ^ (i-1)<=n)/\l=[some (.int ((n / 16 ^ i:Nat):Int)),some (.bytes (ar3 n i).reverse)]/\o=own,6,⟨0,rfl,λq=>absurd q (by decide),by rw[Nat.pow_zero,Nat.div_one];rfl,rfl⟩,?_⟩
 rintro m l o - ⟨i,hi,hge,rfl,rfl⟩
 have hi6:i<=6:=hi▸dd6 _ _
 have hlen:(ar3 n i).reverse.length=i:=by rw[cZ0,M1]
 walk_at "d"
 refine⟨decide ((0:Int)<((n / 16 ^ i:Nat):Int)) || decide ((i:Int)<4),?_,cx6 (λhlt=>?_) λh1 h2=>?_⟩
 ·refine r7 (λh=>⟨by rw[h];rfl,rfl⟩) λh=>aE5 (by rw[hlen];exact cV2 hi6 (by decide)) ?_
  rw[hlen,h];exact⟨rfl,rfl⟩
 ·have hi5:i<6:=dh7 hi6 λe=>by
   subst e
   rw[di9 (cV9 hn (by decide))] at hlt
   exact hlt.elim (λq=>absurd q (by decide)) λq=>absurd q (by decide)
  refine aq9 (by decide) (aq9 (by decide) ?_)
  rw[bT2]
  walk_at "d"
  refine u_b (lo:=some _) (hi:=some _) (by decide) rfl rfl ?_
  rw[aw5 _ (Nat.mod_lt _ (by decide))]
  refine ah1 (by rw[hlen];exact cV2 (da0 hi6 1) (by decide)) ?_
  walk_at "n"
  refine bC4 (by decide) rfl ?_
  rw[bT3]
  walk_at "n"
  refine⟨m-1,Nat.sub_lt (Nat.pos_of_ne_zero λe=>by rw[e,db2] at hi;exact absurd hi (cY4 hi5)) (by decide),i+1,by lia,λq=>?_,?_,rfl⟩
  ·rcases hlt with h | h
   ·exact .inr (de3 λq=>absurd h (by rw[di9 (show n<16 ^ i from q)];decide))
   ·exact .inl (congrArg (·+1) (dg6 (da5 (cY1.mp h)) (Nat.le_of_succ_le_succ q)))
  ·rw[az2,dk7];rfl
 ·have he:=bE1 hn hi6 hge (λq=>h1 (cY1.mpr q)) (λq=>h2 (cY1.mpr q))
  subst he
  walk_at "n"
  walk_at "r";exact hQ
theorem Q9 (W:Ok) {V:V} {Q:Mine.V->b9->Prop} (hi:V=.tup (ns.map nV)) (hn:∀n∈ns,n<=1114111) (hz:ns.length<=1000) (hQ:Q (.bytes (j7 ns)) own):A7 2 54 [V] own Q EX:=by
 refine e8 (ns:=["codes"]) (others:=[]) W rfl rfl rfl
  (Den_cons (d4 (e7 FB.plainAttrs_bytes l5 n6 rfl rfl rfl c9 (a6 (j8 ["code"] rfl (λU U=>rfl) (a9 .z rfl) (c0 .z rfl) n7 (c4 45 53 rfl rfl rfl (a6 (a9 .z rfl) a8 rfl))) a8 rfl)))
  b6) ?_
 walk_at "d"
 refine⟨rfl,A2 (xs:=ns.map nV) aZ2 (hi▸F5) (by rw[cV3];exact cV2 hz (by decide)) (λj w y hw hat hy=>?_) ?_⟩
 ·rcases F9 hw with⟨o,rfl⟩
  rcases cV6.mp hy with⟨n,hm,rfl⟩
  unfold nV
  walk_at "d"
  exact⟨1,rfl,ar6 W (hn n hm) (al3 hat)⟩
 ·rw[bF0]
  refine Q5 (.inr .lst) (cV2 (A4 ns) (cV2 (cY3 7 hz) (by decide))) ?_
  walk_at "r";exact hQ
theorem ar7 (W:Ok) (hz:x.cps.size<=sizeLine) (ha:∀n∈x.cps.toList,n<128) (hQ:Q (.bytes (m4 x)) own):A7 1 55 [.str x] own Q EX:=by
 refine e8 (ns:=["word"]) (others:=[]) W rfl rfl rfl
  (Den_cons (d4 (p8 72 rfl rfl (a6 (j8 ["sign"] rfl (λU U=>rfl) (a9 .z rfl) (c0 .z rfl) n7 (j5 68 rfl rfl (a6 (a9 .z rfl) a8 rfl))) a8 rfl)))
  b6) ?_
 walk_at "d"
 refine A2 cy5 aX8 (ah5 hz) (λj w y hw hat hy=>?_) ?_
 ·rcases F9 hw with⟨o,rfl⟩
  rcases cV6.mp hy with⟨n,-,rfl⟩
  walk_at "d"
  exact ca9 (al3 hat)
 ·rw[I6,cW0]
  refine ar2 .lst (λn hn=>cZ9 (ha n hn) (by decide)) (by rwa [db0]) ?_
  walk_at "r";exact hQ
noncomputable def i9 (b:List UInt8):List (List UInt8):=(i5 32 b).filter λp=>!decide (p=[])
noncomputable def isE:V->Bool
 | .bytes b=>decide (b=[])
 | _=>true
theorem aZ3 (W:Ok) (hz:b.length<sizeLine) (hQ:Q (.lst ((i9 b).map .bytes)) own):A7 1 65 [.bytes b] own Q EX:=by
 refine e8 (ns:=["field"]) (others:=[]) W rfl rfl rfl
  (Den_cons (d4 (j8 ["word"] rfl (λU U=>rfl) (e7 FB.plainAttrs_bytes l8 o0 rfl rfl rfl (a9 .z rfl) (a6 c9 a8 rfl)) (c0 .z rfl) (L9 (c6 (a9 .z rfl) c9 rfl)) (a9 .z rfl)))
  b6) ?_
 walk_at "d"
 refine⟨rfl,M0 hz (aN2 (λv=>!isE v) m9 (by rw[cV3];exact cV2 (r4 32 b) hz) (λj w y hw hat hy=>?_) ?_)⟩
 ·rcases F9 hw with⟨o,rfl⟩
  rcases cV6.mp hy with⟨x,-,rfl⟩
  walk_at "d"
  exact r7 (λh=>cx2 hat h) λh=>cx3 hat h
 ·rw[List.filter_map]
  walk_at "r";exact hQ
end
section
variable {own:b9}
noncomputable def plc (x:UInt8):Int:=if ac1 x [48,49,50,51,52,53,54,55,56,57,65,66,67,68,69,70,97,98,99,100,101,102]<16 then ac1 x [48,49,50,51,52,53,54,55,56,57,65,66,67,68,69,70,97,98,99,100,101,102] else ac1 x [48,49,50,51,52,53,54,55,56,57,65,66,67,68,69,70,97,98,99,100,101,102]-6
noncomputable def x9 (b:List UInt8):Int:=b.foldl (λa x=>16*a+plc x) 0
theorem ak1 (W:Ok) {b:List UInt8} {Q:V->b9->Prop} {EX:XC} (hQ:Q (.int (x9 b)) own):A7 1 66 [.bytes b] own Q EX:=by
 refine e8 (ns:=["word","found","sign","place"]) (others:=["found","sign","place"]) W rfl rfl rfl
  (Den_cons (Den_asg (.s .z) rfl b8 rfl)
  (Den_cons (i6 (a9 .z rfl) (c0 (.s (.s .z)) rfl) (Den_cons (Den_asg (.s (.s (.s .z))) rfl (e7 FB.plainAttrs_bytes G9 R3 rfl rfl rfl c9 (a6 (p8 72 rfl rfl (a6 (w5 (a6 (a9 (.s (.s .z)) rfl) a8 rfl)) a8 rfl)) a8 rfl)) rfl)
  (Den_cons (Den_asg (.s .z) rfl (d6 (d6 b8 (a9 (.s .z) rfl)) (N3 (c6 (a9 (.s (.s (.s .z))) rfl) b8 rfl) (a9 (.s (.s (.s .z))) rfl) (d6 (a9 (.s (.s (.s .z))) rfl) b8))) rfl)
  b6)) b6 (λU U=>rfl))
  (Den_cons (d4 (a9 (.s .z) rfl))
  b6))) ?_
 walk_at "d"
 walk_at "n"
 refine⟨_,_,λi l o=>o=own/\∃v1 v2,l=[some (.bytes b),some (.int (x9 (b.take i))),v1,v2],U3,⟨rfl,_,_,rfl⟩,?_,?_⟩
 ·rintro i l o y - ⟨rfl,v1,v2,rfl⟩ hy
  rcases aF2 hy with⟨x,hx,rfl⟩
  walk_at "d"
  refine⟨rfl,sz rfl,aN9 (bs:=[x]) .lst (sz rfl) (bD1 ?_)⟩
  walk_at "n"
  refine bf9 (IntMulOk.of_left (by decide)) ⟨.int (plc x),?_,?_⟩
  ·exact aE0 (λh=>⟨congrArg V.int (if_pos h).symm,rfl⟩) λh=>⟨congrArg V.int (if_neg h).symm,rfl⟩
  walk_at "n"
  rw[show x9 (b.take (i+1))=16*x9 (b.take i)+plc x by rw[g6 hx,x9,x9,List.foldl_append];rfl]
  exact⟨rfl,_,_,rfl⟩
 ·rintro l o ⟨rfl,v1,v2,rfl⟩
  rw[G0,cY5]
  walk_at "d"
  walk_at "n"
  walk_at "r";exact hQ
noncomputable def cj9:V->V
 | .bytes b=>.int (x9 b)
 | _=>.none
theorem ad8 (W:Ok) {bs:List (List UInt8)} {Q:V->b9->Prop} {EX:XC} (hz:bs.length<=sizeLine) (hQ:Q (.tup (bs.map λb=>.int (x9 b))) own):A7 2 67 [.lst (bs.map .bytes)] own Q EX:=by
 refine e8 (ns:=["marked"]) (others:=[]) W rfl rfl rfl
  (Den_cons (d4 (p8 73 rfl rfl (a6 (j8 ["word"] rfl (λU U=>rfl) (a9 .z rfl) (c0 .z rfl) n7 (c4 58 66 rfl rfl rfl (a6 (a9 .z rfl) a8 rfl))) a8 rfl)))
  b6) ?_
 walk_at "d"
 refine A2 cj9 m9 (by rwa [cV3]) (λj w y hw hat hy=>?_) ?_
 ·rcases F9 hw with⟨o,rfl⟩
  rcases cV6.mp hy with⟨b,-,rfl⟩
  walk_at "d"
  exact⟨1,rfl,ak1 W (al3 hat)⟩
 ·rw[cW0]
  refine ad3 .lst (by rwa [cV3]) ?_
  walk_at "r";exact hQ
noncomputable def bT4:V->V
 | .bytes b=>.str (x5 b)
 | _=>.none
theorem ar8 (W:Ok) {bs:List (List UInt8)} {Q:V->b9->Prop} {EX:XC} (hz:bs.length<=sizeLine) (hb:∀b∈bs,b.length<=sizeLine) (hQ:Q (.tup ((bs.map x5).map .str)) own):A7 1 68 [.lst (bs.map .bytes)] own Q EX:=by
 refine e8 (ns:=["marked"]) (others:=[]) W rfl rfl rfl
  (Den_cons (d4 (p8 73 rfl rfl (a6 (j8 ["word"] rfl (λU U=>rfl) (a9 .z rfl) (c0 .z rfl) n7 (e7 F.plainAttrs_str F.slot_str_join F.type_str_join rfl rfl rfl d0 (a6 (j8 ["sign"] rfl (λU U=>rfl) (a9 .z rfl) (c0 .z rfl) n7 (j5 69 rfl rfl (a6 (a9 .z rfl) a8 rfl))) a8 rfl))) a8 rfl)))
  b6) ?_
 walk_at "d"
 refine A2 bT4 m9 (by rwa [cV3]) (λj w y hw hat hy=>?_) ?_
 ·rcases F9 hw with⟨o,rfl⟩
  rcases cV6.mp hy with⟨b,hm,rfl⟩
  walk_at "d"
  refine⟨rfl,A2 cj6 U3 ((G0 b).symm▸hb b hm) (λj w y hw hat hy=>?_) ?_⟩
  ·rcases F9 hw with⟨o,rfl⟩
   rcases cV6.mp hy with⟨x,hx,rfl⟩
   walk_at "d"
   exact cb0 (cX8 _) (da7.mpr (cV2 (cY0 x.toNat_lt) (by decide))) (al3 hat)
  ·rw[aN8]
   refine aE7 (.inr .lst) ?_ ?_
   ·rw[<-di7,dg1,az1,db2];exact hb b hm
   ·rw[ah6];exact al3 hat
 ·rw[cW0]
  refine ad3 .lst (by rwa [cV3]) ?_
  walk_at "r";rw[cW0] at hQ;exact hQ
end
section
variable {own:b9}
abbrev Wds:=List (List (List UInt8))
noncomputable def x0 (ln:List UInt8):Wds:=(i5 59 ((i5 35 ln).headD [])).map i9
noncomputable def F0 (bs:List (List UInt8)):V:=.tup (bs.map λb=>.int (x9 b))
noncomputable def aZ4 (bs:List (List UInt8)):V:=.tup ((bs.map x5).map .str)
noncomputable def cb5:Wds->V
 | []=>.tup []
 | x::_=>aZ4 x
noncomputable def C6 (isf:Bool) (fs:Wds):Option (Option V):=match fs with
 | []::_=>some none
 | (a::_)::r=>if isf=true then(match r with
  | (b::_)::c::_=>some (some (.tup [.int (x9 a),.str (x5 b),F0 c]))
  | _=>none) else(match r with
  | p1::p2::p3::w=>some (some (.tup [.int (x9 a),F0 p1,F0 p2,F0 p3,cb5 w]))
  | _=>none)
 | []=>none
noncomputable def W4 (isf:Bool) (b:List UInt8):List V:=(i5 10 b).filterMap λln=>(C6 isf (x0 ln)).join
noncomputable def wdV (f:List (List UInt8)):V:=.lst (f.map .bytes)
theorem bo2 (b:List UInt8):(i9 b).length<=b.length+1:=cV2 (dj0 _ _) (r4 32 b)
theorem bo3 (h:p∈i9 b):p.length<=b.length:=u9 32 b p (df1.mp h).1
theorem aZ5 (x:UInt8) (b:List UInt8):∀cur:List UInt8,z6 x b cur≠[]:=by
 induction b with
 | nil=>exactλU h=>nomatch h
 | cons y r ih=>
  intro cur
  rw[D3]
  by_cases q:y=x
  ·rw[if_pos q];exactλh=>nomatch h
  ·rw[if_neg q];exact ih _
theorem aZ6 (x:UInt8) (b:List UInt8):(i5 x b)[0]?=some ((i5 x b).headD [])/\((i5 x b).headD []).length<=b.length:=by
 cases h:i5 x b with
 | nil=>exact absurd h (aZ5 x b [])
 | cons y r=>exact⟨rfl,u9 x b y (h▸.head _)⟩
theorem bF1 (hQ:Q (.bool false) own):f7 .NotEq (.lst []) (.lst []) own Q:=aZ0 .lst hQ
theorem bF2 (hQ:Q (.bool true) own):f7 .NotEq (.lst (x::xs)) (.lst []) own Q:=aZ0 .lst hQ
noncomputable def bo4 (b:List UInt8) (isf:Bool) (i:Nat):List V:=((i5 10 b).take i).filterMap λln=>(C6 isf (x0 ln)).join
noncomputable def J9 (b:List UInt8) (isf:Bool) (a:Addr) (own:b9) (i:Nat):LP:=λX=>∀acc v1 v2 v3,acc=bo4 b isf i->X [some (.bytes b),some (.bool isf),some (.ref a),v1,v2,v3] (c7 own a (some (.list acc)))
theorem bF3 (hp:(i5 10 b)[i]?=some ln) (h:C6 isf (x0 ln)=some o) (e:acc=bo4 b isf i):acc++o.toList=bo4 b isf (i+1):=by
 rw[e,bo4,bo4,g6 hp,cZ4]
 refine congrArg _ ?_
 rw[cZ7,h]
 cases o<;>rfl
theorem bo5 (W:Ok) (hz:b.length+1<sizeLine) (hr:∀ln∈i5 10 b,(C6 isf (x0 ln)).isSome=true) (hQ:Q (.lst (W4 isf b)) own):A7 3 69 [.bytes b,.bool isf] own Q EX:=by
 refine r9.freeze W.ok ?_
 refine e8 (ns:=["octets","is_fold","found","line","fields","parts"]) (others:=["found","line","fields","parts"]) W rfl rfl rfl
  (Den_cons (Den_asg (.s (.s .z)) rfl (p6 a8) rfl)
  (Den_cons (i6 (e7 FB.plainAttrs_bytes l8 o0 rfl rfl rfl (a9 .z rfl) (a6 c9 a8 rfl)) (c0 (.s (.s (.s .z))) rfl) (Den_cons (J5 (.s (.s (.s (.s .z)))) ["part"] rfl rfl (λU U=>rfl) (by with_unfolding_all rfl) (e7 FB.plainAttrs_bytes l8 o0 rfl rfl rfl (d5 (e7 FB.plainAttrs_bytes l8 o0 rfl rfl rfl (a9 (.s (.s (.s .z))) rfl) (a6 c9 a8 rfl)) b8 rfl) (a6 c9 a8 rfl)) (c0 .z rfl) n7 (c4 57 65 rfl rfl rfl (a6 (a9 .z rfl) a8 rfl)))
  (Den_cons (i8 (j3 (m7 (y2 (c6 (d5 (a9 (.s (.s (.s (.s .z)))) rfl) b8 rfl) (w5 a8) rfl) (w7 (g9 (a9 (.s .z) rfl) (λU U=>rfl)))))) (Den_cons (l9 (e7 F.plainAttrs_list F.slot_list_append F.type_list_append rfl rfl rfl (a9 (.s (.s .z)) rfl) (a6 (d7 (a6 (c4 58 66 rfl rfl rfl (a6 (d5 (d5 (a9 (.s (.s (.s (.s .z)))) rfl) b8 rfl) b8 rfl) a8 rfl)) (a6 (d5 (c4 60 68 rfl rfl rfl (a6 (d5 (a9 (.s (.s (.s (.s .z)))) rfl) b8 rfl) a8 rfl)) b8 rfl) (a6 (c4 59 67 rfl rfl rfl (a6 (d5 (a9 (.s (.s (.s (.s .z)))) rfl) b8 rfl) a8 rfl)) a8 rfl) rfl) rfl)) a8 rfl)) rfl)
  b6) (Den_cons (i8 (c6 (d5 (a9 (.s (.s (.s (.s .z)))) rfl) b8 rfl) (w5 a8) rfl) (Den_cons (J5 (.s (.s (.s (.s (.s .z))))) ["field"] rfl rfl (λU U=>rfl) (by with_unfolding_all rfl) (u5 (a9 (.s (.s (.s (.s .z)))) rfl) f5 (m8 b8) f5) (c0 .z rfl) n7 (c4 59 67 rfl rfl rfl (a6 (a9 .z rfl) a8 rfl)))
  (Den_cons (l9 (e7 F.plainAttrs_list F.slot_list_append F.type_list_append rfl rfl rfl (a9 (.s (.s .z)) rfl) (a6 (d7 (a6 (d5 (d5 (a9 (.s (.s (.s (.s (.s .z))))) rfl) b8 rfl) b8 rfl) (a6 (d5 (a9 (.s (.s (.s (.s (.s .z))))) rfl) b8 rfl) (a6 (d5 (a9 (.s (.s (.s (.s (.s .z))))) rfl) b8 rfl) (a6 (d5 (a9 (.s (.s (.s (.s (.s .z))))) rfl) b8 rfl) (a6 (N3 (c6 (j5 67 rfl rfl (a6 (a9 (.s (.s (.s (.s .z)))) rfl) a8 rfl)) b8 rfl) (c4 60 68 rfl rfl rfl (a6 (d5 (a9 (.s (.s (.s (.s .z)))) rfl) b8 rfl) a8 rfl)) (d7 a8)) a8 rfl) rfl) rfl) rfl) rfl)) a8 rfl)) rfl)
  b6)) b6)
  b6))
  b6)) b6 (λU U=>rfl))
  (Den_cons (d4 (a9 (.s (.s .z)) rfl))
  b6))) ?_
 walk_at "d"
 refine⟨sz rfl,λa ha=>?_⟩
 walk_at "n"
 refine⟨rfl,M0 (db9 hz) ?_⟩
 refine ad4 (J9 b isf a own) m9 (λU k=>k _ _ _ _ rfl) ?_ ?_
 ·intro i ln hp acc v1 v2 v3 e _
  have hm:=cW7 hp
  have hl:=cV9 (cW3 (u9 _ _ _ hm)) hz
  rcases aZ6 35 ln with⟨hs,hh⟩
  replace hr:=hr ln hm
  walk_at "d"
  refine⟨rfl,M0 (db9 hl) (W3 (x:=.bytes ((i5 35 ln).headD [])) .lst (by decide) (by decide) (by rw[cX9];exact congrArg (Option.map V.bytes) hs) ⟨rfl,M0 (cV9 hh (db9 hl)) (ah3 (λw=>wdV (i9 w)) m9 (cV2 (r4 59 _) (cY0 (cV9 (cW3 hh) hl))) (λj w f hat hf=>?_) ?_)⟩)⟩
  ·walk_at "d"
   exact⟨1,rfl,aZ3 W (cV9 (cV2 (u9 _ _ _ hf) hh) (db9 hl)) (mjE hat)⟩
  rw[show(i5 59 ((i5 35 ln).headD [])).map (λw=>wdV (i9 w))=(x0 ln).map wdV by rw[x0,cW0];rfl]
  walk_at "n"
  have haz:acc.length<=sizeLine:=by rw[e];exact cV2 (dd3 _ _) (cV2 (da9 _ _) (cV2 (r4 10 b) (cY0 hz)))
  have nxt:=λo h=>bF3 (o:=o) hp h e
  have hfl:∀f∈x0 ln,f.length<=sizeLine/\∀p∈f,p.length<=sizeLine:=λf hf=>by
   rcases cV6.mp hf with⟨g,hg,rfl⟩
   have:=cV2 (u9 _ _ _ hg) hh
   exact⟨cV2 (bo2 g) (cV2 (cW3 this) (cY0 hl)),λp hp=>cV2 (bo3 hp) (cV2 this (cY0 (db9 hl)))⟩
  have hfz:(x0 ln).length<=sizeLine:=by
   rw[x0,cV3];exact cV2 (r4 59 _) (cY0 (cV9 (cW3 hh) hl))
  generalize x0 ln=fs at hr hfl hfz nxt ⊢
  obtain _ | ⟨w0,r⟩:=fs
  ·cases hr
  obtain _ | ⟨w0,ra⟩:=w0
  ·refine⟨false,W3 (x:=wdV []) .lst (by decide) (by decide) rfl ⟨sz rfl,bF1 ⟨rfl,rfl⟩⟩,aX1 ?_⟩
   refine W3 (x:=wdV []) .lst (by decide) (by decide) rfl ⟨sz rfl,bF1 ?_⟩
   walk_at "d"
   refine aX1 ?_
   walk_at "n"
   exactλU k=>k _ _ _ _ ((cW6 acc).symm.trans (nxt none rfl))
  refine⟨isf,W3 (x:=wdV (w0::ra)) .lst (by decide) (by decide) rfl ⟨sz rfl,bF2 ⟨rfl,rfl⟩⟩,?_⟩
  cases isf with
  | true=>
   obtain _ | ⟨w1,r⟩:=r
   ·cases hr
   obtain _ | ⟨w1,rb⟩:=w1
   ·cases hr
   obtain _ | ⟨c,m⟩:=r
   ·cases hr
   have h1:=hfl _ (.tail _ (.head _))
   have h3:=(hfl _ (.tail _ (.tail _ (.head _)))).1
   refine aM4 ⟨K9 (b5 _ _ _),W3 (x:=wdV (w0::ra)) .lst (by decide) (by decide) rfl (W3 (x:=.bytes w0) .lst (by decide) (by decide) rfl ⟨1,rfl,ak1 W ?_⟩)⟩
   refine W3 (x:=wdV (w1::rb)) .lst (by decide) (by decide) rfl ⟨1,rfl,ar8 W h1.1 h1.2 ?_⟩
   refine i_t (x:=.str (x5 w1)) (by decide) (by decide) rfl (W3 (x:=wdV c) .lst (by decide) (by decide) rfl ⟨2,rfl,ad8 W h3 ⟨sz rfl,?_⟩⟩)
   refine n5 (b5 _ _ _) haz ?_
   walk_at "n"
   rw[c5]
   exactλU k=>k _ _ _ _ (nxt _ rfl)
  | false=>
   refine aX1 (W3 (x:=wdV (w0::ra)) .lst (by decide) (by decide) rfl ⟨sz rfl,bF2 ?_⟩)
   walk_at "d"
   refine aM4 ?_
   obtain _ | ⟨p1,r⟩:=r
   ·cases hr
   obtain _ | ⟨p2,r⟩:=r
   ·cases hr
   obtain _ | ⟨p3,w⟩:=r
   ·cases hr
   refine u_l (lo:=none) (hi:=some 4) .lst (by rw[cV3];exact hfz) rfl rfl ?_
   rw[show cut (((w0::ra)::p1::p2::p3::w).map wdV) none (some 4)=[w0::ra,p1,p2,p3].map wdV from Z6 _ 4]
   refine ah3 F0 m9 (sz rfl) (λj v f hat hf=>?_) ?_
   ·walk_at "d"
    exact⟨2,rfl,ad8 W (hfl f (cX2 w hf)).1 (mjE hat)⟩
   walk_at "n"
   refine⟨K9 (b5 _ _ _),W3 (x:=F0 (w0::ra)) .lst (by decide) (by decide) rfl (i_t (x:=.int (x9 w0)) (by decide) (by decide) rfl (W3 (x:=F0 p1) .lst (by decide) (by decide) rfl (W3 (x:=F0 p2) .lst (by decide) (by decide) rfl (W3 (x:=F0 p3) .lst (by decide) (by decide) rfl ⟨cb5 w,R4 .lst (by rw[cV3];exact cV9 hfz (by decide)) ?_,sz rfl,?_⟩))))⟩
   ·cases w with
    | nil=>exact⟨sz rfl,rfl,rfl⟩
    | cons x w'=>
     have h4:=hfl x (.tail _ (.tail _ (.tail _ (.tail _ (.head _)))))
     refine aM3 (cY1.mpr (by rw[cV3];exact dd6 5 _)) (W3 (x:=wdV x) .lst (by decide) (by decide) rfl ⟨1,rfl,ar8 W h4.1 h4.2 ⟨rfl,rfl⟩⟩)
   refine n5 (b5 _ _ _) haz ?_
   walk_at "n"
   rw[c5]
   exactλU k=>k _ _ _ _ (nxt _ rfl)
 ·intro acc v1 v2 v3 e
  rw[bo4,cY5] at e
  walk_at "d"
  walk_at "n"
  walk_at "r"
  exact⟨_,_,.inl ⟨a,_,rfl,b5 _ _ _,rfl,rfl⟩,by rw[c5,d9 ha,e];exact hQ⟩
end
section
variable {own:b9}
theorem aO5 {T:Type} [DecidableEq T] [DK T] (K0:T6) {k:T} {x:V} {es:List (T×V)} {a:Addr} {Q:b9->Prop} (ha:own a=some (DK.mkO es)) (hz:es.length<=sizeLine) (hQ:Q (c7 own a (some (DK.mkO (put es k x))))):bB1 (.ref a) (DK.mkV k) x own Q:=λU U U ov U U F A μ s S p=>by
 cases (show ov=.ref a from p.1)
 exact ct2 (k:=k) K0 ha hz (Q:=λU l o=>l=_/\Q o) ⟨rfl,hQ⟩ F A μ s S p.2
theorem az3 (ha:own a=some .deck) (hd:own d=none) (hn:d≠a):c7 (c7 (c7 (c7 own a X) d Y) d none) a (some .deck)=own:=by
 rw[c5,n9 _ _ _ hn,c5,d9 (a:=d) (by rw[b7 hn];exact hd),d9 ha]
theorem aZ7 (ha:own a=some .deck) (hd:own d=none) (hn:d≠a):c7 (c7 (c7 (c7 (c7 own a X) d Y) a Z) d none) a (some .deck)=own:=by
 rw[n9 (c7 own a X) Y Z hn,c5 own a X Z];exact az3 ha hd hn
theorem U7 (W:Ok) {a:Addr} {m:Int} {Q:V->b9->Prop} {EX:XC} (ha:own a=some .deck) (hm:0<m) (hQ:∀r:Int,0<=r->r<m->Q (.int r) own):A7 1 51 [.ref a,.int m] own Q EX:=by
 refine e8 (ns:=["deck","many"]) (others:=[]) W rfl rfl rfl
  (bD4 .z (Den_cons (i8 (c6 (d5 (a9 .z rfl) d0 rfl) (w5 a8) rfl) (Den_cons (ar1 (d6 (e7 F.plainAttrs_list F.slot_list_pop F.type_list_pop rfl rfl rfl (d5 (a9 .z rfl) d0 rfl) a8) (a9 (.s .z) rfl)))
  b6) b6)
  (Den_cons (m5 (by with_unfolding_all rfl) rfl (λU U=>rfl) (E2 (a9 .z rfl) d0) (d6 (d6 (d6 (d5 (a9 .z rfl) d0 rfl) b8) b8) b8))
  (Den_cons (ar1 (d6 (d6 (d5 (a9 .z rfl) d0 rfl) b8) (a9 (.s .z) rfl)))
  b6)))) ?_
 unfold bD3
 walk_at "d"
 refine⟨ha,λd xs mx hd hda h0 h1 hx=>?_⟩
 have hA:∀Y,c7 (c7 own a (some (.dictS (B5 d mx)))) d Y a=some (.dictS (B5 d mx)):=λY=>(b7 (Ne.symm hda)).trans (b5 _ _ _)
 have hz:(B5 d mx).length<=sizeLine:=by show 2<=sizeLine;decide
 walk_at "d"
 refine aE8 W.ok (.at_own (hA _)) rfl ?_
 walk_at "d"
 refine⟨sz rfl,aZ0 (.at_own (b5 _ _ _)) ?_⟩
 walk_at "d"
 refine r7 (λh=>?_) λh=>?_
 ·obtain⟨ys,y,rfl⟩:∃ys y,xs=ys++[y]:=by
   rcases List.eq_nil_or_concat xs with e | ⟨ys,y,e⟩
   ·rw[e] at h;cases h
   ·exact⟨ys,y,e.trans List.concat_eq_append⟩
  obtain⟨v,rfl,v0,v1⟩:=hx.2 y (cW5 _ (.head _))
  unfold aF0
  walk_at "d"
  refine aE8 W.ok (.at_own (hA _)) rfl ?_
  walk_at "d"
  refine⟨K9 (b5 _ _ _),cy0 (b5 _ _ _) ?_ ?_⟩
  ·exact cX7 (cX7 (by rw[cV4];exact db4 _) hx.1) (by decide)
  walk_at "d"
  refine aq9 (Int.ne_of_gt hm) ?_
  unfold U2 aE9
  refine⟨a,d,mx,ys,?_,b5 _ _ _,h0,h1,⟨cV2 (by rw[cV4];exact dc4 _ _) hx.1,λx hx'=>hx.2 x (cX2 _ hx')⟩,?_⟩
  ·rw[c5];exact hA _
  rw[c5 (a:=d),az3 ha hd hda]
  walk_at "r"
  exact hQ _ (dd4 _ hm) (dg2 _ hm)
 ·walk_at "n"
  refine aE8 W.ok (.at_own (hA _)) rfl ?_
  walk_at "d"
  refine bf9 (IntMulOk.of_right (by decide)) ?_
  walk_at "d"
  refine aq9 (by decide) ?_
  walk_at "d"
  refine aO5 (k:=("mixed":Str)) W.ok (hA _) hz ?_
  have hput:put (B5 d mx) ("mixed":Str) (V.int ((mx*16807+29).fmod 2147483647))=B5 d ((mx*16807+29).fmod 2147483647):=rfl
  rw[hput]
  have g0:0<=(mx*16807+29).fmod 2147483647:=dd4 _ (by decide)
  have g1:(mx*16807+29).fmod 2147483647<2147483647:=dg2 _ (by decide)
  generalize (mx*16807+29).fmod 2147483647=nx at g0 g1 ⊢
  walk_at "n"
  unfold aF0
  walk_at "d"
  refine aE8 W.ok (.at_own (b5 _ _ _)) rfl ?_
  walk_at "d"
  refine bC4 (by decide) (PyProof.noPylong_small (by decide)) ?_
  walk_at "d"
  refine aq9 (Int.ne_of_gt hm) ?_
  unfold U2 aE9
  refine⟨a,d,nx,xs,b5 _ _ _,(b7 hda).trans (b5 _ _ _),g0,g1,hx,?_⟩
  rw[aZ7 ha hd hda]
  walk_at "r"
  exact hQ _ (dd4 _ hm) (dg2 _ hm)
theorem ad9 (W:Ok) (ha:own a=some .deck) (hx:xs≠[]) (hz:xs.length<=1000) (hQ:∀x∈xs,Q x own):A7 2 52 [.ref a,.tup xs] own Q EX:=by
 have hp:0<xs.length:=List.length_pos_iff.mpr hx
 refine e8 (ns:=["deck","some"]) (others:=[]) W rfl rfl rfl
  (Den_cons (d4 (d5 (a9 (.s .z) rfl) (c4 43 51 rfl rfl rfl (a6 (a9 .z rfl) (a6 (j5 67 rfl rfl (a6 (a9 (.s .z) rfl) a8 rfl)) a8 rfl) rfl)) rfl))
  b6) ?_
 walk_at "d"
 refine bC5 (cV9 hz (by decide)) ?_
 walk_at "d"
 refine⟨1,rfl,U7 W ha (cY1.mpr hp) λr h0 h1=>?_⟩
 walk_at "d"
 rcases da8 h0 with⟨n,rfl⟩
 have hn:n<xs.length:=cY1.mp h1
 refine i_t (x:=xs[n]) h0 (dh8 h1 (dd5 (da7.mpr hz) (by decide))) (cW8 hn) ?_
 walk_at "r"
 exact hQ _ (dk3 hn)
noncomputable def E1:List Nat:=[97,105,115,775,223,66600]
theorem cb6 (W:Ok) (ha:own a=some .deck) (hn:n<=1000) (hQ:∀ns:List Nat,ns.length=n->(∀x∈ns,x∈E1)->Q (.tup (ns.map nV)) own):A7 3 56 [.ref a,.int n] own Q EX:=by
 have hs:(P9 0 (n:Int)).length=n:=by rw[P9,cV3,dd2,dn2];rfl
 refine e8 (ns:=["deck","many"]) (others:=[]) W rfl rfl rfl
  (Den_cons (d4 (p8 73 rfl rfl (a6 (j8 ["k"] rfl (λU U=>rfl) (p8 79 rfl rfl (a6 (a9 (.s .z) rfl) a8 rfl)) (c0 .z rfl) n7 (c4 44 52 rfl rfl rfl (a6 (B1 .z rfl rfl) (a6 (x6 38 rfl rfl) a8 rfl) rfl))) a8 rfl)))
  b6) ?_
 walk_at "d"
 refine Q4 λr hr=>?_
 refine⟨_,_,_,λi acc w o=>o=own/\∃ns:List Nat,ns.length=i/\(∀x∈ns,x∈E1)/\acc=ns.map nV,λU U U U U=>trivial,ItS.c<|It_range (b5 _ _ _) (by decide) (by decide) (dd5 (by decide) (cX8 n)) (dg3 (da7.mpr hn) (by decide)),?_,?_,?_,?_⟩
 ·rw[hs];exact cV2 hn (by decide)
 ·exact⟨by rw[c5,d9 hr],[],rfl,(λU h=>nomatch h),rfl⟩
 ·intro i acc w o x hw q1_ hx
  obtain⟨rfl,ns,hl,hp,rfl⟩:=q1_
  rcases F9 hw with⟨v,rfl⟩
  walk_at "d"
  refine⟨2,rfl,ad9 W ha (λh=>nomatch h) (by decide) λy hy=>?_⟩
  rcases(cV6.mp (show y∈E1.map nV from hy)) with⟨m,hm,rfl⟩
  refine⟨rfl,ns++[m],by rw[cV4,hl];rfl,λz hz=>?_,by rw[cV5];rfl⟩
  rcases cW9.mp hz with q | q
  ·exact hp z q
  ·cases cV8.mp q;exact hm
 ·rintro acc w o ⟨rfl,ns,hl,hp,rfl⟩ -
  rw[hs] at hl
  refine ad3 .lst (by rw[cV3,hl];exact cV2 hn (by decide)) ?_
  walk_at "r"
  exact hQ ns hl hp
end
section
variable {own:b9}
noncomputable def aG0:List (List UInt8):=[[59,32],[59],[32,59,32]]
noncomputable def aO6:List (List UInt8):=[[],[32,35,32,76,65,84,73,78],[35,120,59,32,121]]
theorem cb7 (W:Ok) {V:V} (ha:own a=some .deck) (L:V=.tup (fs.map .bytes)\/j4 own V (fs.map .bytes)) (hz:∀sep∈aG0,(g8 sep fs).length<=100000)
  (hQ:∀sep∈aG0,∀e:List UInt8,(e=[59]\/(e=[]/\must=false))->∀rem∈aO6,Q (.bytes (g8 sep fs++e++rem)) own):A7 3 57 [.ref a,V,.bool must] own Q EX:=by
 refine e8 (ns:=["deck","fields","must_end","line"]) (others:=["line"]) W rfl rfl rfl
  (Den_cons (Den_asg (.s (.s (.s .z))) rfl (e7 FB.plainAttrs_bytes l5 n6 rfl rfl rfl (c4 44 52 rfl rfl rfl (a6 (a9 .z rfl) (a6 (d7 (a6 c9 (a6 c9 (a6 c9 a8 rfl) rfl) rfl)) a8 rfl) rfl)) (a6 (a9 (.s .z) rfl) a8 rfl)) rfl)
  (Den_cons (W2 (id (m7 (H5 (c6 (c4 43 51 rfl rfl rfl (a6 (a9 .z rfl) (a6 b8 a8 rfl) rfl)) b8 rfl) (J1 (g9 (a9 (.s (.s .z)) rfl) (λU U=>rfl)))))) (Den_cons (Den_asg (.s (.s (.s .z))) rfl (d6 (a9 (.s (.s (.s .z))) rfl) c9) rfl)
  b6) b6)
  (Den_cons (d4 (d6 (a9 (.s (.s (.s .z))) rfl) (c4 44 52 rfl rfl rfl (a6 (a9 .z rfl) (a6 (d7 (a6 c9 (a6 c9 (a6 c9 a8 rfl) rfl) rfl)) a8 rfl) rfl))))
  b6))) ?_
 walk_at "d"
 refine⟨sz rfl,2,rfl,ad9 W ha (λh=>nomatch h) (by decide) λy hy=>?_⟩
 rcases(cV6.mp (show y∈aG0.map Mine.V.bytes from hy)) with⟨sep,hs,rfl⟩
 replace hz:=hz sep hs
 replace hQ:=hQ sep hs
 walk_at "d"
 refine⟨rfl,Q5 L (cV2 hz (by decide)) ?_⟩
 walk_at "n"
 refine⟨λl o=>o=own/\∃e:List UInt8,(e=[59]\/(e=[]/\must=false))/\l=[some (.ref a),some V,some (.bool must),some (.bytes (g8 sep fs++e))],⟨1,rfl,U7 W ha (by decide) λr h0 h1=>?_⟩,?_⟩
 ·have add:∀K:Mine.V->b9->Prop,K (.bytes (g8 sep fs++[59])) own->s8 .Add (.bytes (g8 sep fs)) (.bytes [59]) own K:=λK h=>ah1 (cV2 (cY7 hz 1) (by decide)) h
  walk_at "d"
  refine r7 (λU=>add _ ?_) λU=>?_
  ·walk_at "n"
   exact⟨rfl,_,.inl rfl,rfl⟩
  ·refine r7 (λU=>add _ ?_) λh=>?_
   ·walk_at "n"
    exact⟨rfl,_,.inl rfl,rfl⟩
   ·walk_at "n"
    exact⟨rfl,[],.inr ⟨rfl,h⟩,by rw[cW6]⟩
 ·rintro l o ⟨rfl,e,he,rfl⟩
  walk_at "n"
  refine⟨sz rfl,2,rfl,ad9 W ha (λh=>nomatch h) (by decide) λy hy=>?_⟩
  rcases(cV6.mp (show y∈aO6.map Mine.V.bytes from hy)) with⟨rem,hr,rfl⟩
  walk_at "d"
  refine ah1 ?_ ?_
  ·have h1:e.length<=1:=by
    rcases he with rfl | ⟨rfl,-⟩
    ·exact cX5 _
    ·exact cZ2 _
   have h2:rem.length<=8:=(show∀x∈aO6,x.length<=8 by decide) rem hr
   rw[cV4]
   exact cV2 (cZ5 (cZ5 hz h1) h2) (by decide)
  walk_at "r"
  exact hQ e he rem hr
end
section
variable {own:b9}
theorem ck0 (hQ:Q (.bool true) own):f7 .Eq (.bool false) (.bool false) own Q:=λU U U=>
 aW2 (d:=.bool false) (d':=.bool false) (by simp only[PyData.canLay0]) (by simp only[PyData.canLay0]) (by simp only[PyData.depth];decide) (by simp only[PyData.eqv];exact hQ)
theorem bg5 (W:Ok) (h1:bOk x=true) (h2:bOk y=true) (n1:isB x=false) (n2:isB y=false) (he:∀K,K (.bool b) own->f7 .Eq x y own K) (hc:∀K,p9 .Eq x y own K=f7 .Eq x y own K) (hQ:Q (.bool b) own):A7 1 38 [x,y] own Q EX:=by
 refine e8 (ns:=["one","other"]) (others:=[]) W rfl rfl rfl
  (Den_cons (d4 (aM6 (H4 (a9 .z rfl) (a9 (.s .z) rfl) rfl) (H4 (j5 70 rfl rfl (a6 (a9 .z rfl) (a6 (x6 77 rfl rfl) a8 rfl) rfl)) (j5 70 rfl rfl (a6 (a9 (.s .z) rfl) (a6 (x6 77 rfl rfl) a8 rfl) rfl)) rfl)))
  b6) ?_
 walk_at "d"
 rw[hc]
 refine he _ ?_
 walk_at "d"
 refine r7 (λh=>?_) λh=>?_
 ·refine bC7 h1 ?_
  walk_at "d"
  refine bC7 h2 ?_
  rw[n1,n2]
  walk_at "d"
  refine ck0 ?_
  subst h
  walk_at "r";exact hQ
 ·subst h
  walk_at "r";exact hQ
end
section
variable {own:b9}
abbrev G2:=List (Nat×V)
noncomputable def Z9 (es:G2):List Int:=es.flatMap λp=>[(p.1:Int),(p.1:Int)+1]
noncomputable def aG1 (d:V) (es:G2):List V:=es.flatMap λp=>[p.2,d]
noncomputable def rmS (es:G2):List Int:=0::Z9 es
noncomputable def rmV (d:V) (es:G2):List V:=d::aG1 d es
noncomputable def X4 (d:V) (es:G2):O:=.inst (fa 39) [("default",d),("starts",.lst ((rmS es).map .int)),("values",.lst (rmV d es))]
noncomputable def M2 (d:V):G2->Nat->V
 | [],_=>d
 | (c,v)::r,n=>if n=c then v else M2 d r n
noncomputable def Asc (es:G2):Prop:=es.Pairwise λa b=>a.1+2<=b.1
theorem ar9 (es:G2):(Z9 es).length=2*es.length:=by
 induction es with
 | nil=>rfl
 | cons p r ih=>show(Z9 r).length+2=_;rw[ih];rfl
theorem U8 (d:V) (es:G2):(aG1 d es).length=2*es.length:=by
 induction es with
 | nil=>rfl
 | cons p r ih=>show(aG1 d r).length+2=_;rw[ih];rfl
theorem aO7 (h:x∈Z9 es):∃p∈es,(p.1:Int)<=x/\x<=p.1+1:=by
 obtain⟨p,hp,hx⟩:=dc8.mp h
 refine⟨p,hp,?_⟩
 simp only[cW1,cY8,or_false] at hx
 lia
theorem bT5 {d:V} {n:Nat} {es:G2} (h:∀p∈es,n<p.1):M2 d es n=d:=by
 induction es with
 | nil=>rfl
 | cons p r ih=>exact(if_neg (cY4 (h p (.head _)))).trans (ih λq hq=>h q (.tail _ hq))
theorem bo6 {d:V} {n:Nat} {es:G2} (h:Asc es):∃as bs,Z9 es=as++bs/\(∀x∈as,x<=(n:Int))/\(∀x∈bs,(n:Int)<x)/\(rmV d es)[as.length]?=some (M2 d es n):=by
 induction es with
 | nil=>exact⟨[],[],rfl,(λU h=>nomatch h),(λU h=>nomatch h),rfl⟩
 | cons p r ih=>
  rcases p with⟨c,v⟩
  rcases dm2.mp h with⟨h1,h2⟩
  have hr:∀x∈Z9 r,(c:Int)+2<=x:=λx hx=>by
   obtain⟨p,hp,q,-⟩:=aO7 hx
   have:=h1 p hp
   lia
  have he:Z9 ((c,v)::r)=(c:Int)::((c:Int)+1)::Z9 r:=rfl
  rcases Nat.lt_trichotomy n c with q | q | q
  ·refine⟨[],_,he,(λU h=>nomatch h),cX1.mpr ⟨cY1.mpr q,cX1.mpr ⟨by lia,λx hx=>by have:=hr x hx;lia⟩⟩,?_⟩
   exact congrArg some (bT5 λp hp=>(cW1.mp hp).elim (λe=>e▸q) λhp=>cX7 q (cV2 (dc4 _ _) (h1 p hp))).symm
  ·subst q
   refine⟨[(n:Int)],((n:Int)+1)::Z9 r,he,λx hx=>by rw[cV8.mp hx];exact Int.le_refl _,cX1.mpr ⟨Int.lt_succ _,λx hx=>by have:=hr x hx;lia⟩,?_⟩
   exact congrArg some (if_pos rfl).symm
  ·obtain⟨as,bs,e,a1,a2,a3⟩:=ih h2
   exact⟨(c:Int)::((c:Int)+1)::as,bs,he.trans (congrArg (λz=>(c:Int)::((c:Int)+1)::z) e),cX1.mpr ⟨Int.le_of_lt (cY1.mpr q),cX1.mpr ⟨cY1.mpr q,a1⟩⟩,a2,a3.trans (congrArg some (if_neg (Nat.ne_of_gt q)).symm)⟩
structure Kin (d v:V):Prop where
 bd:bOk d=true/\isB d=false/\nOk d=true
 bv:bOk v=true/\isB v=false
 n1:∀own K,K (.bool false) own->f7 .Eq d v own K
 n2:∀own K,K (.bool false) own->f7 .Eq v d own K
 n3:∀own K,K (.bool true) own->f7 .NotEq v d own K
 n4:∀own K,K (.bool true) own->f7 .Eq d d own K
 o1:∀own K,p9 .Eq d v own K=f7 .Eq d v own K
 o2:∀own K,p9 .Eq v d own K=f7 .Eq v d own K
 o3:∀own K,p9 .NotEq v d own K=f7 .NotEq v d own K
 o4:∀own K,p9 .Eq d d own K=f7 .Eq d d own K
theorem bo7 (h:Sub o' o) (ha:o' a=none):Sub o' (c7 o a (some (.list xs))):=h.upd ha λU U=>nofun
theorem bF4 (W:Ok) (hm:own m=some (.inst (fa 39) [])) (hQ:Q .none (c7 own m (some (X4 d [])))):aw3 1 39 0 [.ref m,d] own Q EX:=by
 refine E4 (ns:=["self","default"]) (others:=[]) W (.head _) rfl rfl
  (Den_cons (m5 (by with_unfolding_all rfl) rfl (λU U=>rfl) (E3 39 (by decide) (by decide) (a9 .z rfl)) (a9 (.s .z) rfl))
  (Den_cons (m5 (by with_unfolding_all rfl) rfl (λU U=>rfl) (E3 39 (by decide) (by decide) (a9 .z rfl)) (w5 (a6 b8 a8 rfl)))
  (Den_cons (m5 (by with_unfolding_all rfl) rfl (λU U=>rfl) (E3 39 (by decide) (by decide) (a9 .z rfl)) (w5 (a6 (a9 (.s .z) rfl) a8 rfl)))
  b6))) ?_
 walk_at "d"
 refine⟨m,[],rfl,hm,sz rfl,?_⟩
 walk_at "n"
 refine⟨sz rfl,m,_,rfl,b5 _ _ _,sz rfl,?_⟩
 walk_at "n"
 refine⟨sz rfl,m,_,rfl,b5 _ _ _,sz rfl,?_⟩
 walk_at "n"
 refine bC1 ?_
 rw[c5,c5]
 exact hQ
theorem bT6 (W:Ok) (hQ:∀m,own m=none->Q (.ref m) (c7 own m (some (X4 d [])))):A7 2 39 [d] own Q EX:=by
 obtain⟨-,hk,-⟩:=W.cls 39 (.inl rfl)
 obtain⟨h1,h2,-⟩:=W.meth (39,0,"__init__") (.head _)
 refine ap7 W.X hk h1 h2 λm hm=>bF4 W (b5 _ _ _) ⟨rfl,?_⟩
 rw[c5]
 exact hQ m hm
theorem an7 (hz:es.length<=1000):((rmS es).map V.int).length<=sizeLine/\(rmV d es).length<=sizeLine:=by
 rw[cV3]
 show(Z9 es).length+1<=_/\(aG1 d es).length+1<=_
 rw[ar9,U8]
 exact⟨cV2 (cW3 (cZ3 2 hz)) (by decide),cV2 (cW3 (cZ3 2 hz)) (by decide)⟩
theorem bT7 (W:Ok) {Q:V->b9->Prop} (hm:own m=some (X4 d es)) (ha:Asc es) (hz:es.length<=1000) (hQ:Q (M2 d es n) own):aw3 2 39 1 [.ref m,.int n] own Q EX:=by
 obtain⟨as,bs,e,h1,h2,h3⟩:=bo6 (d:=d) (n:=n) ha
 rcases an7 (d:=d) hz with⟨z1,z2⟩
 refine E4 (ns:=["self","code"]) (others:=[]) W (.tail _ (.head _)) rfl rfl
  (Den_cons (d4 (d5 (o7 39 (by decide) (by decide) rfl (a9 .z rfl)) (c4 12 15 rfl rfl rfl (a6 (o7 39 (by decide) (by decide) rfl (a9 .z rfl)) (a6 (a9 (.s .z) rfl) a8 rfl) rfl)) rfl))
  b6) ?_
 walk_at "d"
 refine⟨m,_,_,rfl,hm,.tail _ (.tail _ (.head _)),rfl,m,_,_,rfl,hm,.tail _ (.head _),rfl,1,rfl,?_⟩
 refine U4 W (as:=0::as) (bs:=bs) ?_ (by rw[da6,<-e];rwa [cV3] at z1) (λx hx=>(cW1.mp hx).elim (λq=>q▸cX8 n) (h1 x)) h2 ?_
 ·rw[da6,<-e];exact .lst
 have hl:as.length<(rmV d es).length:=(cX4.mp h3).1
 have ei:(((0::as).length:Int)-1)=(as.length:Int):=by rw[db1];lia
 rw[ei]
 refine W3 .lst (cX8 _) (dh8 (cY1.mpr (cX7 hl z2)) (by decide)) h3 ?_
 walk_at "r"
 exact hQ
theorem as0 (es:G2) (c:Nat) (v:V):rmS (es++[(c,v)])=rmS es++[(c:Int),(c:Int)+1]:=by
 show 0::Z9 _=0::(Z9 es++_)
 rw[Z9,de5];rfl
theorem ae0 (d:V) (es:G2) (c:Nat) (v:V):rmV d (es++[(c,v)])=rmV d es++[v,d]:=by
 show d::aG1 d _=d::(aG1 d es++_)
 rw[aG1,de5];rfl
theorem aO8 (d:V) (es:G2):(rmV d es)[2*es.length]?=some d:=by
 rcases List.eq_nil_or_concat es with rfl | ⟨r,⟨c,v⟩,rfl⟩
 ·rfl
 ·rw[List.concat_eq_append,ae0,de2]
  ·show[v,d][2*(r++[(c,v)]).length-(aG1 d r).length.succ]?=_
   rw[U8,cV4]
   show[v,d][2*(r.length+1)-(2*r.length+1)]?=_
   rw[show 2*(r.length+1)-(2*r.length+1)=1 by lia];rfl
  ·show(aG1 d r).length+1<=_
   rw[U8,cV4]
   show _<=2*(r.length+1)
   lia
theorem bg6 (W:Ok) (hm:own m=some (X4 d es)) (kn:Kin d v) (hc:∀p∈es,p.1+2<=c) (h1:1<=c) (h2:c<1114111) (hz:es.length<=900)
  (hQ:Q .none (c7 own m (some (X4 d (es++[(c,v)]))))):aw3 2 39 2 [.ref m,.int c,.int c,v] own Q EX:=by
 rcases(an7 (d:=d) (cV2 hz (show 900<=1000 by decide))) with⟨z1,z2⟩
 obtain⟨z3,z4⟩:=an7 (d:=d) (es:=es++[(c,v)]) (by rw[cV4];exact cW3 (cV2 hz (by decide)))
 have hle:∀x∈rmS es,x<=(c:Int)-1:=λx hx=>by
  rcases cW1.mp hx with q | q
  ·lia
  ·obtain⟨p,hp,_,q⟩:=aO7 q
   have:=hc p hp
   lia
 have ln:(rmS es).length=2*es.length+1:=congrArg (·+1) (ar9 es)
 have lv:(rmV d es).length=2*es.length+1:=congrArg (·+1) (U8 d es)
 have ei:(((rmS es).length:Int)-1)+1=((2*es.length+1:Nat):Int):=by rw[ln];lia
 have place:∀(a:Int) (K:V->b9->Prop) (X:XC),(c:Int)-1<=a->K (.int (((rmS es).length:Int)-1)) own->A7 1 15 [.lst ((rmS es).map .int),.int a] own K X:=λa K X ha hK=>
  U4 W (as:=rmS es) (bs:=[]) (by rw[cW6];exact .lst) (by rw[cW6];rwa [cV3] at z1) (λx hx=>dd5 (hle x hx) ha) (λU h=>nomatch h) hK
 have hlt:(c:Int)<bs9:=by rw[aB8];lia
 refine E4 (ns:=["self","first","last","value","low","high","behind","starts","values"]) (others:=["low","high","behind","starts","values"]) W (.tail _ (.tail _ (.head _))) rfl rfl
  (Den_cons (i8 (c6 (a9 (.s .z) rfl) (a9 (.s (.s .z)) rfl) rfl) (Den_cons bB2
  b6) b6)
  (Den_cons (Den_asg (.s (.s (.s (.s .z)))) rfl (d6 (c4 12 15 rfl rfl rfl (a6 (o7 39 (by decide) (by decide) rfl (a9 .z rfl)) (a6 (d6 (a9 (.s .z) rfl) b8) a8 rfl) rfl)) b8) rfl)
  (Den_cons (Den_asg (.s (.s (.s (.s (.s .z))))) rfl (d6 (c4 12 15 rfl rfl rfl (a6 (o7 39 (by decide) (by decide) rfl (a9 .z rfl)) (a6 (d6 (a9 (.s (.s .z)) rfl) b8) a8 rfl) rfl)) b8) rfl)
  (Den_cons (Den_asg (.s (.s (.s (.s (.s (.s .z)))))) rfl (d5 (o7 39 (by decide) (by decide) rfl (a9 .z rfl)) (d6 (a9 (.s (.s (.s (.s (.s .z))))) rfl) b8) rfl) rfl)
  (Den_cons (Den_swap [(.s (.s (.s (.s (.s (.s (.s .z))))))),(.s (.s (.s (.s (.s (.s (.s (.s .z))))))))] rfl (by with_unfolding_all rfl) rfl (d7 (a6 (p6 (a6 (a9 (.s .z) rfl) a8 rfl)) (a6 (p6 (a6 (a9 (.s (.s (.s .z))) rfl) a8 rfl)) a8 rfl) rfl)))
  (Den_cons (i8 (j3 (m7 (y2 (c6 (a9 (.s (.s .z)) rfl) (x6 0 rfl rfl) rfl) (w7 (C0 (g9 (c4 32 38 rfl rfl rfl (a6 (a9 (.s (.s (.s (.s (.s (.s .z)))))) rfl) (a6 (a9 (.s (.s (.s .z))) rfl) a8 rfl) rfl)) (λU U=>rfl))))))) (Den_cons (l9 (e7 F.plainAttrs_list F.slot_list_append F.type_list_append rfl rfl rfl (a9 (.s (.s (.s (.s (.s (.s (.s .z))))))) rfl) (a6 (d6 (a9 (.s (.s .z)) rfl) b8) a8 rfl)) rfl)
  (Den_cons (l9 (e7 F.plainAttrs_list F.slot_list_append F.type_list_append rfl rfl rfl (a9 (.s (.s (.s (.s (.s (.s (.s (.s .z)))))))) rfl) (a6 (a9 (.s (.s (.s (.s (.s (.s .z)))))) rfl) a8 rfl)) rfl)
  b6)) b6)
  (Den_cons (i8 (j3 (m7 (y2 (c6 (a9 (.s (.s (.s (.s .z)))) rfl) b8 rfl) (w7 (g9 (c4 32 38 rfl rfl rfl (a6 (d5 (o7 39 (by decide) (by decide) rfl (a9 .z rfl)) (d6 (a9 (.s (.s (.s (.s .z)))) rfl) b8) rfl) (a6 (a9 (.s (.s (.s .z))) rfl) a8 rfl) rfl)) (λU U=>rfl)))))) (Den_cons (Den_swap [(.s (.s (.s (.s (.s (.s (.s .z))))))),(.s (.s (.s (.s (.s (.s (.s (.s .z))))))))] rfl (by with_unfolding_all rfl) rfl (d7 (a6 (u5 (a9 (.s (.s (.s (.s (.s (.s (.s .z))))))) rfl) (m8 b8) f5 f5) (a6 (u5 (a9 (.s (.s (.s (.s (.s (.s (.s (.s .z)))))))) rfl) (m8 b8) f5 f5) a8 rfl) rfl)))
  b6) b6)
  (Den_cons (m5 (by with_unfolding_all rfl) rfl (λU U=>rfl) (E3 39 (by decide) (by decide) (a9 .z rfl)) (d6 (d6 (u5 (o7 39 (by decide) (by decide) rfl (a9 .z rfl)) f5 (m8 (a9 (.s (.s (.s (.s .z)))) rfl)) f5) (a9 (.s (.s (.s (.s (.s (.s (.s .z))))))) rfl)) (u5 (o7 39 (by decide) (by decide) rfl (a9 .z rfl)) (m8 (a9 (.s (.s (.s (.s (.s .z))))) rfl)) f5 f5)))
  (Den_cons (m5 (by with_unfolding_all rfl) rfl (λU U=>rfl) (E3 39 (by decide) (by decide) (a9 .z rfl)) (d6 (d6 (u5 (o7 39 (by decide) (by decide) rfl (a9 .z rfl)) f5 (m8 (a9 (.s (.s (.s (.s .z)))) rfl)) f5) (a9 (.s (.s (.s (.s (.s (.s (.s (.s .z)))))))) rfl)) (u5 (o7 39 (by decide) (by decide) rfl (a9 .z rfl)) (m8 (a9 (.s (.s (.s (.s (.s .z))))) rfl)) f5 f5)))
  b6))))))))) ?_
 walk_at "d"
 refine bf4 (Int.lt_irrefl _) ?_
 walk_at "n"
 refine⟨m,_,_,rfl,hm,.tail _ (.head _),rfl,1,rfl,place _ _ _ (Int.le_refl _) ?_⟩
 walk_at "d"
 rw[ei]
 walk_at "n"
 refine⟨m,_,_,rfl,hm,.tail _ (.head _),rfl,1,rfl,place _ _ _ (by lia) ?_⟩
 walk_at "d"
 rw[ei]
 walk_at "n"
 have et:((2*es.length+1:Nat):Int)-1=((2*es.length:Nat):Int):=by lia
 have lt:((2*es.length:Nat):Int)<2 ^ 63:=cY1.mpr (cV9 (cZ3 2 hz) (by decide))
 refine⟨m,_,_,rfl,hm,.tail _ (.tail _ (.head _)),rfl,?_⟩
 walk_at "d"
 rw[et]
 refine W3 .lst (cX8 _) lt (aO8 d es) ?_
 walk_at "n"
 refine⟨sz rfl,λs hs=>⟨sz rfl,λt ht=>⟨sz rfl,rfl,?_⟩⟩⟩
 have nts:t≠s:=λq=>by rw[q,b5] at ht;cases ht
 have nms:m≠s:=λq=>by rw[<-q,hm] at hs;cases hs
 have nmt:m≠t:=λq=>by rw[<-q,b7 nms,hm] at ht;cases ht
 rw[b7 nts] at ht
 walk_at "n"
 refine⟨true,aM3 hlt ⟨1,rfl,bg5 W kn.bd.1 kn.bv.1 kn.bd.2.1 kn.bv.2 (kn.n1 _) (kn.o1 _) ⟨rfl,rfl⟩⟩,aM4 ?_⟩
 refine⟨K9 ((b7 (Ne.symm nts)).trans (b5 _ _ _)),n5 ((b7 (Ne.symm nts)).trans (b5 _ _ _)) (sz rfl) ?_⟩
 walk_at "n"
 refine⟨K9 ((b7 nts).trans (b5 _ _ _)),n5 ((b7 nts).trans (b5 _ _ _)) (sz rfl) ?_⟩
 walk_at "n"
 have hS:Sub own (c7 (c7 (c7 (c7 own s (some (.list [.int c]))) t (some (.list [v]))) s (some (.list ([.int c]++[.int (c+1)])))) t (some (.list ([v]++[d])))):=
  bo7 (bo7 (bo7 (bo7 (Sub.refl own) hs) ht) hs) ht
 have hm3:(c7 (c7 (c7 (c7 own s (some (.list [.int c]))) t (some (.list [v]))) s (some (.list ([.int c]++[.int (c+1)])))) t (some (.list ([v]++[d])))) m=some (X4 d es):=by rw[b7 nmt,b7 nms,b7 nmt,b7 nms];exact hm
 have hs3:(c7 (c7 (c7 (c7 own s (some (.list [.int c]))) t (some (.list [v]))) s (some (.list ([.int c]++[.int (c+1)])))) t (some (.list ([v]++[d])))) s=some (.list ([.int c]++[.int (c+1)])):=(b7 (Ne.symm nts)).trans (b5 _ _ _)
 have ht3:(c7 (c7 (c7 (c7 own s (some (.list [.int c]))) t (some (.list [v]))) s (some (.list ([.int c]++[.int (c+1)])))) t (some (.list ([v]++[d])))) t=some (.list ([v]++[d])):=b5 _ _ _
 generalize c7 (c7 (c7 (c7 own s (some (.list [.int c]))) t (some (.list [v]))) s (some (.list ([.int c]++[.int (c+1)])))) t (some (.list ([v]++[d])))=o3 at hS hm3 hs3 ht3 ⊢
 refine⟨false,aM3 (by lia) ?_,aX1 ?_⟩
 ·refine⟨m,_,_,rfl,hm3,.tail _ (.tail _ (.head _)),rfl,?_⟩
  walk_at "d"
  rw[et]
  refine W3 .lst (cX8 _) lt (aO8 d es) ?_
  exact⟨1,rfl,bg5 W kn.bd.1 kn.bv.1 kn.bd.2.1 kn.bv.2 (kn.n1 _) (kn.o1 _) ⟨rfl,rfl⟩⟩
 walk_at "n"
 have cuts:∀{α:Type} (xs:List α),xs.length=2*es.length+1->cut xs none (some ((2*es.length+1:Nat):Int))=xs/\cut xs (some ((2*es.length+1:Nat):Int)) none=[]:=λxs e=>by
  rw[Z6,U1,<-e];exact⟨cY5,dd7⟩
 have c1:=cuts ((rmS es).map V.int) (by rw[cV3];exact ln)
 have c2:=cuts (rmV d es) lv
 refine⟨m,_,_,rfl,hm3,.tail _ (.head _),rfl,u_l (lo:=none) (hi:=some _) .lst z1 rfl rfl ?_⟩
 rw[c1.1]
 refine ah0 .lst (.at_own hs3) (by rw[as0,cV5,cV4] at z3;exact z3) ?_
 refine⟨m,_,_,rfl,hm3,.tail _ (.head _),rfl,u_l (lo:=some _) (hi:=none) .lst z1 rfl rfl ?_⟩
 rw[c1.2]
 refine ah0 .lst .lst (by rw[as0,cV5] at z3;exact z3) ⟨m,_,rfl,hm3,sz rfl,?_⟩
 walk_at "n"
 refine⟨m,_,_,rfl,b5 _ _ _,.tail _ (.tail _ (.head _)),rfl,u_l (lo:=none) (hi:=some _) .lst z2 rfl rfl ?_⟩
 rw[c2.1]
 refine ah0 .lst (.at_own ((b7 (Ne.symm nmt)).trans ht3)) (by rw[ae0,cV4] at z4;exact z4) ?_
 refine⟨m,_,_,rfl,b5 _ _ _,.tail _ (.tail _ (.head _)),rfl,u_l (lo:=some _) (hi:=none) .lst z2 rfl rfl ?_⟩
 rw[c2.2]
 refine ah0 .lst .lst (by rw[ae0] at z4;exact z4) ⟨m,_,rfl,b5 _ _ _,sz rfl,?_⟩
 walk_at "n"
 rw[c5]
 refine bC2 hS.both ?_
 rw[cW6,cW6]
 unfold X4 at hQ
 rw[as0,ae0,cV5] at hQ
 exact hQ
end
section
variable {own:b9}
noncomputable def L3 (a b:Int) (v:V):V:=.tup [.int a,.int b,v]
noncomputable def O0 (d:V) (s:Int):G2->List V
 | []=>[L3 s bs9 d]
 | (c,v)::r=>L3 s ((c:Int)-1) d::L3 c ((c:Int)+1-1) v::O0 d ((c:Int)+1) r
theorem H6 (d:V):∀(es:G2) (s:Int),(O0 d s es).length=2*es.length+1
 | [],_=>rfl
 | (c,v)::r,s=>congrArg (·+2) (H6 d r _)
noncomputable def cb8:Option Int->Int
 | some s=>s-1
 | none=>bs9
theorem bT8:∀{s0:Int} {i:Nat} {v:V},(rmV d es)[i]?=some v->∃s,(s0::Z9 es)[i]?=some s/\(O0 d s0 es)[i]?=some (L3 s (cb8 (s0::Z9 es)[i+1]?) v):=by
 induction es with
 | nil=>
  intro s0 i v h
  cases i with
  | zero=>cases h;exact⟨s0,rfl,rfl⟩
  | succ=>cases h
 | cons p r ih=>
  intro s0 i v h
  cases i with
  | zero=>cases h;exact⟨s0,rfl,rfl⟩
  | succ i=>cases i with
   | zero=>cases h;exact⟨p.1,rfl,rfl⟩
   | succ i=>exact ih (s0:=(p.1:Int)+1) (i:=i) h
theorem bo8 {d x:V} {es:G2}:∀{s0:Int} {i:Nat},(O0 d s0 es)[i]?=some x->(i % 2=0/\∃a b,x=L3 a b d)\/∃j c v,i=2*j+1/\es[j]?=some (c,v)/\x=L3 c c v:=by
 induction es with
 | nil=>
  intro s0 i h
  cases i with
  | zero=>cases h;exact .inl ⟨rfl,_,_,rfl⟩
  | succ=>cases h
 | cons p r ih=>
  intro s0 i h
  cases i with
  | zero=>cases h;exact .inl ⟨rfl,_,_,rfl⟩
  | succ i=>cases i with
   | zero=>cases h;exact .inr ⟨0,p.1,p.2,rfl,rfl,by rw[Int.add_sub_cancel]⟩
   | succ i=>
    rcases ih (s0:=(p.1:Int)+1) (i:=i) h with⟨a,b⟩ | ⟨j,c',v,a,b,e⟩
    ·exact .inl ⟨(Nat.add_mod_right i 2).trans a,b⟩
    ·exact .inr ⟨j+1,c',v,congrArg (·+2) a,b,e⟩
theorem ae1 {xs:List V} {i:Nat} {y:V} (h:(o5 xs)[i]?=some y):∃v,xs[i]?=some v/\y=.tup [.int (i:Nat),v]:=by
 have hl:i<xs.length:=by simpa [o5] using (cX4.mp h).1
 exact⟨_,cW8 hl,Option.some.inj (h.symm.trans (Q0 (cW8 hl)))⟩
noncomputable def J14 (m a:Addr) (d:V) (es:G2) (own:b9) (i:Nat):LP:=λX=>∀v1 v2 v3,X [some (.ref m),some (.lst ((rmS es).map .int)),some (.ref a),v1,v2,v3] (c7 own a (some (.list ((O0 d 0 es).take i))))
theorem aO9 (W:Ok) {m:Addr} {d:V} {es:G2} {Q:V->b9->Prop} {EX:XC} (hm:own m=some (X4 d es)) (hz:es.length<=1000) (hQ:Q (.lst (O0 d 0 es)) own):A7 1 40 [.ref m] own Q EX:=by
 rcases an7 (d:=d) hz with⟨z1,z2⟩
 have ln:((rmS es).map V.int).length=2*es.length+1:=by rw[cV3];exact congrArg (·+1) (ar9 es)
 have lv:(rmV d es).length=2*es.length+1:=congrArg (·+1) (U8 d es)
 refine r9.freeze W.ok ?_
 refine e8 (ns:=["range_map","starts","found","at","value","last"]) (others:=["starts","found","at","value","last"]) W rfl rfl rfl
  (Den_cons (Den_swap [(.s .z),(.s (.s .z))] rfl (by with_unfolding_all rfl) rfl (d7 (a6 (o7 39 (by decide) (by decide) rfl (a9 .z rfl)) (a6 (p6 a8) a8 rfl) rfl)))
  (Den_cons (i6 (p8 78 rfl rfl (a6 (o7 39 (by decide) (by decide) rfl (a9 .z rfl)) a8 rfl)) (o6 (c8 (c0 (.s (.s (.s .z))) rfl) (c8 (c0 (.s (.s (.s (.s .z)))) rfl) k8 rfl) rfl)) (Den_cons (Den_asg (.s (.s (.s (.s (.s .z))))) rfl (N3 (c6 (d6 (a9 (.s (.s (.s .z))) rfl) b8) (j5 67 rfl rfl (a6 (a9 (.s .z) rfl) a8 rfl)) rfl) (d6 (d5 (a9 (.s .z) rfl) (d6 (a9 (.s (.s (.s .z))) rfl) b8) rfl) b8) (x6 0 rfl rfl)) rfl)
  (Den_cons (l9 (e7 F.plainAttrs_list F.slot_list_append F.type_list_append rfl rfl rfl (a9 (.s (.s .z)) rfl) (a6 (d7 (a6 (d5 (a9 (.s .z) rfl) (a9 (.s (.s (.s .z))) rfl) rfl) (a6 (a9 (.s (.s (.s (.s (.s .z))))) rfl) (a6 (a9 (.s (.s (.s (.s .z)))) rfl) a8 rfl) rfl) rfl)) a8 rfl)) rfl)
  b6)) b6 (λU U=>rfl))
  (Den_cons (d4 (a9 (.s (.s .z)) rfl))
  b6))) ?_
 walk_at "d"
 refine⟨m,_,_,rfl,hm,.tail _ (.head _),rfl,sz rfl,λa ha=>⟨sz rfl,rfl,?_⟩⟩
 have hm':(c7 own a (some (.list []))) m=some (X4 d es):=(b7 λq=>by rw[<-q,hm] at ha;cases ha).trans hm
 walk_at "n"
 refine⟨m,_,_,rfl,hm',.tail _ (.tail _ (.head _)),rfl,bC8 λe it l he=>?_⟩
 refine aw4 (J14 m a d es own) (bf8 (b5 _ _ _)) (.at (by rw[c5,d9 he];rfl) λU k=>k _ _ _) ?_ ?_
 ·intro i y hy v1 v2 v3 _
  rcases ae1 hy with⟨v,hv,rfl⟩
  obtain⟨s,hs,hr⟩:=bT8 (s0:=0) hv
  have hi:=(cX4.mp hv).1
  have hi2:∀k:Nat,k<=(rmV d es).length->(k:Int)<2 ^ 63:=λk hk=>cY1.mpr (cV9 (cV2 hk z2) (by decide))
  have at_:∀{k:Nat} {t:Int},(rmS es)[k]?=some t->((rmS es).map V.int)[(k:Int).toNat]?=some (.int t):=λ{k t} h=>by rw[db8,cX9,h];rfl
  walk_at "d"
  refine⟨rfl,.int (cb8 (rmS es)[i+1]?),?_,?_⟩
  ·refine R4 .lst (cV9 z1 (by decide)) ?_
   rw[ln]
   walk_at "d"
   refine aE0 (λh=>?_) λh=>?_
   ·have h:i+1<(rmS es).length:=by rw[cV3] at ln;rw[ln];lia
    refine W3 (x:=.int ((rmS es)[i+1])) .lst (cX8 (i+1)) (hi2 (i+1) hi) (at_ (cW8 h)) ?_
    walk_at "d"
    refine⟨?_,rfl⟩
    rw[cW8 h];rfl
   ·have h:(rmS es).length<=i+1:=by rw[cV3] at ln;rw[ln];lia
    rw[df2 h]
    exact⟨rfl,rfl⟩
  walk_at "n"
  refine⟨K9 (b5 _ _ _),W3 .lst (cX8 i) (hi2 i (cY0 hi)) (at_ hs) ⟨sz rfl,?_⟩⟩
  refine n5 (b5 _ _ _) (cV2 (List.length_take_le _ _) (by rw[lv] at hi;exact cV2 (cY0 hi) (lv▸z2))) ?_
  walk_at "n"
  exact .at (by rw[c5,g6 hr];rfl) λU k=>k _ _ _
 ·intro v1 v2 v3
  walk_at "d"
  walk_at "n"
  walk_at "r"
  rw[dd8 (by rw[H6];simp [o5,lv])]
  exact⟨_,_,.inl ⟨a,_,rfl,b5 _ _ _,rfl,rfl⟩,by rw[c5,d9 ha];exact hQ⟩
theorem aZ8 (W:Ok) (hm:own m=some (X4 d es)) (kn:∀p∈es,Kin d p.2) (bd:bOk d=true/\isB d=false/\nOk d=true) (n4:∀own K,K (.bool true) own->f7 .Eq d d own K) (o4:∀own K,p9 .Eq d d own K=f7 .Eq d d own K)
  (hz:es.length<=1000) (hQ:Q (.lst (es.map λp=>L3 p.1 p.1 p.2)) own):aw3 2 39 3 [.ref m] own Q EX:=by
 refine E4 (ns:=["self"]) (others:=[]) W (.tail _ (.tail _ (.tail _ (.head _)))) rfl rfl
  (Den_cons (d4 (j8 ["row"] rfl (λU U=>rfl) (c4 34 40 rfl rfl rfl (a6 (a9 .z rfl) a8 rfl)) (c0 .z rfl) (L9 (C0 (g9 (c4 32 38 rfl rfl rfl (a6 (d5 (a9 .z rfl) b8 rfl) (a6 (o7 39 (by decide) (by decide) rfl (B1 .z rfl rfl)) a8 rfl) rfl)) (λU U=>rfl)))) (a9 .z rfl)))
  b6) ?_
 walk_at "d"
 refine⟨1,rfl,aO9 W hm hz ?_⟩
 refine⟨_,_,_,λi acc w o=>o=own/\acc=(es.take (i / 2)).map λp=>L3 p.1 p.1 p.2,λU U U U U=>trivial,ItS.c m9,by rw[H6];exact cV2 (cW3 (cZ3 2 hz)) (by decide),⟨rfl,rfl⟩,?_,?_⟩
 ·rintro i acc w o x hw ⟨rfl,rfl⟩ hx
  rcases F9 hw with⟨v,rfl⟩
  rcases bo8 hx with⟨hi,a,b,rfl⟩ | ⟨j,c,u,rfl,hj,rfl⟩
  ·unfold L3
   walk_at "d"
   refine i_t (x:=d) (by decide) (by decide) rfl ⟨m,_,_,rfl,hm,.head _,bd.2.2,1,rfl,bg5 W bd.1 bd.1 bd.2.1 bd.2.1 (n4 _) (o4 _) ?_⟩
   exact⟨rfl,by rw[show(i+1) / 2=i / 2 by lia]⟩
  ·have k:=kn _ (cW7 hj)
   unfold L3
   walk_at "d"
   refine i_t (x:=u) (by decide) (by decide) rfl ⟨m,_,_,rfl,hm,.head _,bd.2.2,1,rfl,bg5 W k.bv.1 bd.1 k.bv.2 bd.2.1 (k.n2 _) (k.o2 _) ?_⟩
   refine⟨rfl,?_⟩
   rw[show(2*j+1) / 2=j by lia,show(2*j+1+1) / 2=j+1 by lia,g6 hj,cV5];rfl
 ·rintro acc w o ⟨rfl,rfl⟩ -
  rw[H6,show(2*es.length+1) / 2=es.length by lia,cY5]
  walk_at "r"
  exact hQ
end
section
variable {own:b9}
noncomputable def M6 (v:V):List Str->List (Str×V)->List (Str×V)
 | [],es=>es
 | n::r,es=>M6 v r (put es n v)
noncomputable def cy7:List (Str×V):=[("gc",.str "Cn"),("ccc",.int 0),("bc",.str "L"),("lb",.str "XX"),("ea",.str "N"),("sc",.str "Zzzz"),("jt",.str "U"),("incb",.str "None")]
noncomputable def cy8:List Str:=["gcb","wb","sb"]
noncomputable def cy9:List Str:=["ex","sd","cased","ci","ep","di","ids","idc","xids","xidc","pat_syn","pat_ws","idst"]
noncomputable def cz0:List Str:=["dm","uc","lc","tc","cf","bm","bpb","scx","nt","nv","name","conf","nfkc_cf"]
noncomputable def cz1:List Str:=["suc","slc","stc","alias"]
noncomputable def bo9:List (Str×V):=put (M6 (.tup []) cz1 (M6 .none cz0 (M6 (.bool false) cy9 (M6 (.str "Other") cy8 cy7)))) "idna" (.tup [.str "disallowed",.tup []])
theorem bT9 {es:List (Str×V)} {k:Str} {x:V}:(put es k x).length<=es.length+1:=by
 unfold put;split
 ·rw[cV3];exact db7 _
 ·rw[cV4];exact cX5 _
theorem aP0 (v:V) (n:Str) (ns:List Str):∀(es:List (Str×V)),M6 v (ns++[n]) es=put (M6 v ns es) n v:=by
 induction ns with
 | nil=>exactλU=>rfl
 | cons _ r ih=>exactλU=>ih _
theorem K3 (v:V) (ns:List Str):∀(es:List (Str×V)),(M6 v ns es).length<=es.length+ns.length:=by
 induction ns with
 | nil=>exactλU=>cX5 _
 | cons n r ih=>exactλes=>cV2 (ih _) (by rw[db1,dd0 r.length,<-de7];exact cY7 bT9 _)
theorem an8 (W:Ok) {k:Nat} {fv:e9} {E:XQ} {a:Addr} {v:V} {ns:List Str} {es:List (Str×V)} {ov:Option V} {K:SQ} {r:WS} (hl:es.length+ns.length<=100) {e:WE} (he:∀(Q:x4) l o,Q [v] l o->e ⟨k,fv,E⟩ Q [] l o)
  (h:∀ov,r ⟨k,fv,E⟩ K [some (.ref a),ov] (c7 own a (some (.dictS (M6 v ns es))))):bQ8 false 2 (ca7 (.s .z)) (ca4 (ca5 (cx1 (wV .z) (wV (.s .z))) e) ch8) ch8 ⟨k,fv,E⟩ (bQ5 r ⟨k,fv,E⟩ K) [some (.ref a),ov] (.tup (ns.map .str)) (c7 own a (some (.dictS es))):=by
 refine ad4 (λi X=>∀ov,X [some (.ref a),ov] (c7 own a (some (.dictS (M6 v (ns.take i) es))))) F5 (λU k=>k _) ?_ ?_
 ·intro i n hn ov _
  walk_at "d"
  refine he _ _ _ ?_
  walk_at "d"
  refine aO5 (k:=n) W.ok (b5 _ _ _) (cV2 (K3 v _ _) (cV2 (da0 (da9 _ _) _) (cV2 hl (by decide)))) ?_
  walk_at "n"
  exact .at (by rw[c5,g6 hn,aP0];rfl) λU k=>k _
 ·intro ov
  rw[cY5]
  exact h ov
theorem as1 (W:Ok) {Q:V->b9->Prop} {EX:XC} (hQ:Q (.dct bo9) own):A7 1 42 [] own Q EX:=by
 refine r9.freeze W.ok ?_
 refine e8 (ns:=["found","name"]) (others:=["found","name"]) W rfl rfl rfl
  (Den_cons (Den_asg .z rfl (bg1 rfl rfl rfl rfl (y4 d0 (y4 b8 (y4 d0 (y4 d0 (y4 d0 (y4 d0 (y4 d0 (y4 d0 aN6))))))))) rfl)
  (Den_cons (i6 (d7 (a6 d0 (a6 d0 (a6 d0 a8 rfl) rfl) rfl)) (c0 (.s .z) rfl) (Den_cons (m5 (by with_unfolding_all rfl) rfl (λU U=>rfl) (E2 (a9 .z rfl) (a9 (.s .z) rfl)) d0)
  b6) b6 (λU U=>rfl))
  (Den_cons (i6 (d7 (a6 d0 (a6 d0 (a6 d0 (a6 d0 (a6 d0 (a6 d0 (a6 d0 (a6 d0 (a6 d0 (a6 d0 (a6 d0 (a6 d0 (a6 d0 a8 rfl) rfl) rfl) rfl) rfl) rfl) rfl) rfl) rfl) rfl) rfl) rfl) rfl)) (c0 (.s .z) rfl) (Den_cons (m5 (by with_unfolding_all rfl) rfl (λU U=>rfl) (E2 (a9 .z rfl) (a9 (.s .z) rfl)) s5)
  b6) b6 (λU U=>rfl))
  (Den_cons (i6 (d7 (a6 d0 (a6 d0 (a6 d0 (a6 d0 (a6 d0 (a6 d0 (a6 d0 (a6 d0 (a6 d0 (a6 d0 (a6 d0 (a6 d0 (a6 d0 a8 rfl) rfl) rfl) rfl) rfl) rfl) rfl) rfl) rfl) rfl) rfl) rfl) rfl)) (c0 (.s .z) rfl) (Den_cons (m5 (by with_unfolding_all rfl) rfl (λU U=>rfl) (E2 (a9 .z rfl) (a9 (.s .z) rfl)) w6)
  b6) b6 (λU U=>rfl))
  (Den_cons (i6 (d7 (a6 d0 (a6 d0 (a6 d0 (a6 d0 a8 rfl) rfl) rfl) rfl)) (c0 (.s .z) rfl) (Den_cons (m5 (by with_unfolding_all rfl) rfl (λU U=>rfl) (E2 (a9 .z rfl) (a9 (.s .z) rfl)) (d7 a8))
  b6) b6 (λU U=>rfl))
  (Den_cons (m5 (by with_unfolding_all rfl) rfl (λU U=>rfl) (E2 (a9 .z rfl) d0) (d7 (a6 d0 (a6 (d7 a8) a8 rfl) rfl)))
  (Den_cons (d4 (a9 .z rfl))
  b6))))))) ?_
 walk_at "d"
 refine⟨by decide +kernel,λa ha=>?_⟩
 walk_at "n"
 refine⟨sz rfl,an8 W (v:=.str "Other") (ns:=cy8) (es:=cy7) (by decide) ?_ λU=>?_⟩
 ·exactλU U U h=>h
 walk_at "n"
 refine⟨sz rfl,an8 W (v:=.bool false) (ns:=cy9) (by decide +kernel) ?_ λU=>?_⟩
 ·exactλU U U h=>h
 walk_at "n"
 refine⟨sz rfl,an8 W (v:=.none) (ns:=cz0) (by decide +kernel) ?_ λU=>?_⟩
 ·exactλU U U h=>h
 walk_at "n"
 refine⟨sz rfl,an8 W (v:=.tup []) (ns:=cz1) (by decide +kernel) ?_ λU=>?_⟩
 ·exactλU U U h=>⟨sz rfl,h⟩
 walk_at "n"
 refine⟨sz rfl,sz rfl,?_⟩
 refine aO5 (k:=("idna":Str)) W.ok (b5 _ _ _) ?_ ?_
 ·exact cV2 (K3 _ _ _) (cV2 (cY7 (K3 _ _ _) _) (cV2 (cY7 (cY7 (K3 _ _ _) _) _) (cV2 (cY7 (cY7 (cY7 (K3 _ _ _) _) _) _) (by decide))))
 walk_at "n"
 walk_at "r"
 refine⟨_,_,.inr ⟨a,_,rfl,b5 _ _ _,rfl,rfl⟩,?_⟩
 rw[c5,c5,d9 ha]
 exact hQ
theorem az5 {K:Type} [DecidableEq K] {ms:List (K×V)} {n:K} {v:V} (h:k7 ms n=none):k7 (ms++[(n,v)]) n=some v:=by
 induction ms with
 | nil=>rw[da1,s9,if_pos rfl]
 | cons p r ih=>
  rcases p with⟨k,x⟩
  rw[s9] at h
  rw[da6,s9]
  split at h
  ·cases h
  ·rename_i q;rw[if_neg q];exact ih h
section
variable {V₁:V} {Q:V->b9->Prop} {T:Type} [DecidableEq T] [DK T] {k:T} {es:List (T×V)}
theorem aP1 (K0:T6) (L:A1 own V₁ es) (hQ:Q (.bool (k7 es k).isSome) own):f7 .In (DK.mkV k) V₁ own Q:=λU U U=>cE1 K0 L hQ
theorem aP2 (K0:T6) (L:A1 own V₁ es) (hQ:Q (.bool (!(k7 es k).isSome)) own):f7 .NotIn (DK.mkV k) V₁ own Q:=λU U U=>bO6 K0 L hQ
theorem ck2 (K0:T6) (L:A1 own V₁ es) (hQ:Q ((k7 es k).getD .none) own):l0 (.builtin "dict.get") [V₁,DK.mkV k] own Q:=λU U U U=>ct1 K0 L hQ
theorem bF5 (K0:T6) {x:V} {a:Addr} (ha:own a=some (DK.mkO es)) (hz:es.length<=sizeLine) (hQ:(∃y,k7 es k=some y/\Q y own)\/(k7 es k=none/\Q x (c7 own a (some (DK.mkO (es++[(k,x)])))))):l0 (.builtin "dict.setdefault") [.ref a,DK.mkV k,x] own Q:=λU U U U=>aD0 K0 ha hz hQ
end
noncomputable def u7 (am:Addr):O:=.inst (fa 43) [("defaults",.dct bo9),("maps",.ref am),("properties",.dct []),("words",.dct [])]
theorem aZ9 (W:Ok) {p:Addr} {Q:V->b9->Prop} {EX:XC} (hp:own p=some (.inst (fa 43) [])) (hQ:∀am,own am=none->Q .none (c7 (c7 own p (some (u7 am))) am (some (.dictS [])))):aw3 2 43 0 [.ref p] own Q EX:=by
 refine E4 (ns:=["self"]) (others:=[]) W (.tail _ (.tail _ (.tail _ (.tail _ (.head _))))) rfl rfl
  (Den_cons (m5 (by with_unfolding_all rfl) rfl (λU U=>rfl) (E3 43 (by decide) (by decide) (a9 .z rfl)) (c4 35 42 rfl rfl rfl a8))
  (Den_cons (m5 (by with_unfolding_all rfl) rfl (λU U=>rfl) (E3 43 (by decide) (by decide) (a9 .z rfl)) (N4 Str))
  (Den_cons (m5 (by with_unfolding_all rfl) rfl (λU U=>rfl) (E3 43 (by decide) (by decide) (a9 .z rfl)) aq3)
  (Den_cons (m5 (by with_unfolding_all rfl) rfl (λU U=>rfl) (E3 43 (by decide) (by decide) (a9 .z rfl)) aq3)
  b6)))) ?_
 walk_at "d"
 refine⟨1,rfl,as1 W ⟨p,[],rfl,hp,sz rfl,?_⟩⟩
 walk_at "n"
 intro am ham
 have hpa:p≠am:=λq=>by rw[<-q,b5] at ham;cases ham
 refine⟨p,_,rfl,(b7 hpa).trans (b5 _ _ _),sz rfl,?_⟩
 walk_at "n"
 refine⟨p,_,rfl,b5 _ _ _,sz rfl,?_⟩
 walk_at "n"
 refine⟨p,_,rfl,b5 _ _ _,sz rfl,?_⟩
 walk_at "n"
 refine bC1 ?_
 rw[c5,c5,n9 _ _ _ (Ne.symm hpa),c5]
 rw[b7 (Ne.symm hpa)] at ham
 exact hQ am ham
theorem az6 (W:Ok) {Q:V->b9->Prop} {EX:XC} (hQ:∀p am,own p=none->own am=none->am≠p->Q (.ref p) (c7 (c7 own p (some (u7 am))) am (some (.dictS [])))):A7 3 43 [] own Q EX:=by
 obtain⟨-,hk,-⟩:=W.cls 43 (.inr rfl)
 obtain⟨h1,h2,-⟩:=W.meth (43,0,"__init__") (.tail _ (.tail _ (.tail _ (.tail _ (.head _)))))
 refine ap7 W.X hk h1 h2 λp hp=>aZ9 W (b5 _ _ _) λam ham=>⟨rfl,?_⟩
 have hne:am≠p:=λq=>by rw[q,b5] at ham;cases ham
 rw[b7 hne] at ham
 rw[c5]
 exact hQ p am hp ham hne
theorem an9 (h:([("default":Str),"starts","values"]).contains n=false):(([("default",d),("starts",s),("values",v)]:List (Str×V)).map (·.1)).contains n=false:=h
theorem M3 (h:([("defaults":Str),"maps","properties","words"]).contains n=false):(([("defaults",d),("maps",s),("properties",v),("words",w)]:List (Str×V)).map (·.1)).contains n=false:=h
section
variable {p am m:Addr} {d:V} {ms:List (Str×V)} {name:Str} {Q:V->b9->Prop} {EX:XC}
theorem ak2 (W:Ok) (hp:own p=some (u7 am)) (ha:own am=some (.dictS ms)) (hm:k7 ms name=some (.ref m)) (hQ:Q (.ref m) own):aw3 4 43 3 [.ref p,.str name] own Q EX:=by
 refine E4 (ns:=["self","name"]) (others:=[]) W (.tail _ (.tail _ (.tail _ (.tail _ (.tail _ (.tail _ (.tail _ (.head _)))))))) rfl rfl
  (Den_cons (i8 (c6 (a9 (.s .z) rfl) (o7 43 (by decide) (by decide) rfl (a9 .z rfl)) rfl) (Den_cons (m5 (by with_unfolding_all rfl) rfl (λU U=>rfl) (E2 (o7 43 (by decide) (by decide) rfl (a9 .z rfl)) (a9 (.s .z) rfl)) (ad1 33 39 rfl (by decide) rfl (a6 (e7 F.plainAttrs_dict F.slot_dict_get F.type_dict_get rfl rfl rfl (o7 43 (by decide) (by decide) rfl (a9 .z rfl)) (a6 (a9 (.s .z) rfl) a8 rfl)) a8 rfl)))
  b6) b6)
  (Den_cons (d4 (d5 (o7 43 (by decide) (by decide) rfl (a9 .z rfl)) (a9 (.s .z) rfl) rfl))
  b6)) ?_
 walk_at "d"
 refine⟨p,_,_,rfl,hp,.tail _ (.head _),rfl,?_⟩
 refine aP2 (k:=name) W.ok (.at_own ha) ?_
 rw[hm]
 walk_at "d"
 refine aX1 ?_
 walk_at "n"
 refine⟨p,_,_,rfl,hp,.tail _ (.head _),rfl,aE8 W.ok (.at_own ha) hm ?_⟩
 walk_at "r"
 exact hQ
theorem aP3 (W:Ok) (hp:own p=some (u7 am)) (ha:own am=some (.dictS ms)) (hz:ms.length<=1000) (hm:k7 ms name=none) (hd:k7 bo9 name=some d) (hQ:∀m,own m=none->Q (.ref m) (c7 (c7 own m (some (X4 d []))) am (some (.dictS (ms++[(name,.ref m)]))))):
  aw3 4 43 3 [.ref p,.str name] own Q EX:=by
 refine E4 (ns:=["self","name"]) (others:=[]) W (.tail _ (.tail _ (.tail _ (.tail _ (.tail _ (.tail _ (.tail _ (.head _)))))))) rfl rfl
  (Den_cons (i8 (c6 (a9 (.s .z) rfl) (o7 43 (by decide) (by decide) rfl (a9 .z rfl)) rfl) (Den_cons (m5 (by with_unfolding_all rfl) rfl (λU U=>rfl) (E2 (o7 43 (by decide) (by decide) rfl (a9 .z rfl)) (a9 (.s .z) rfl)) (ad1 33 39 rfl (by decide) rfl (a6 (e7 F.plainAttrs_dict F.slot_dict_get F.type_dict_get rfl rfl rfl (o7 43 (by decide) (by decide) rfl (a9 .z rfl)) (a6 (a9 (.s .z) rfl) a8 rfl)) a8 rfl)))
  b6) b6)
  (Den_cons (d4 (d5 (o7 43 (by decide) (by decide) rfl (a9 .z rfl)) (a9 (.s .z) rfl) rfl))
  b6)) ?_
 walk_at "d"
 refine⟨p,_,_,rfl,hp,.tail _ (.head _),rfl,?_⟩
 refine aP2 (k:=name) W.ok (.at_own ha) ?_
 rw[hm]
 walk_at "d"
 refine aM4 ⟨p,_,_,rfl,hp,.head _,rfl,rfl,ck2 W.ok .dct ?_⟩
 rw[hd]
 refine⟨2,rfl,bT6 W λm hm0=>?_⟩
 have npm:p≠m:=λq=>by rw[<-q,hp] at hm0;cases hm0
 have nam:am≠m:=λq=>by rw[<-q,ha] at hm0;cases hm0
 have npa:p≠am:=λq=>by rw[<-q,hp] at ha;cases ha
 refine⟨p,_,_,rfl,(b7 npm).trans hp,.tail _ (.head _),rfl,aO5 (k:=name) W.ok ((b7 nam).trans ha) (cV2 hz (by decide)) ?_⟩
 rw[aC9 hm]
 walk_at "n"
 refine⟨p,_,_,rfl,(b7 npa).trans ((b7 npm).trans hp),.tail _ (.head _),rfl,aE8 W.ok (.at_own (b5 _ _ _)) (az5 hm) ?_⟩
 walk_at "r"
 exact hQ m hm0
theorem W5 (W:Ok) (hp:own p=some (u7 am)) (ha:own am=some (.dictS ms)) (hm:k7 ms name=some (.ref m)) (ho:own m=some (X4 d es)) (hs:Asc es) (hz:es.length<=1000) (hQ:Q (M2 d es n) own):
  aw3 3 43 2 [.ref p,.str name,.int n] own Q EX:=by
 refine E4 (ns:=["self","name","code"]) (others:=[]) W (.tail _ (.tail _ (.tail _ (.tail _ (.tail _ (.tail _ (.head _))))))) rfl rfl
  (Den_cons (i8 (c6 (a9 (.s .z) rfl) (o7 43 (by decide) (by decide) rfl (a9 .z rfl)) rfl) (Den_cons (d4 (F7 39 1 (by decide) (by decide) rfl rfl rfl (d5 (o7 43 (by decide) (by decide) rfl (a9 .z rfl)) (a9 (.s .z) rfl) rfl) (a6 (a9 (.s (.s .z)) rfl) a8 rfl)))
  b6) b6)
  (Den_cons (d4 (e7 F.plainAttrs_dict F.slot_dict_get F.type_dict_get rfl rfl rfl (o7 43 (by decide) (by decide) rfl (a9 .z rfl)) (a6 (a9 (.s .z) rfl) a8 rfl)))
  b6)) ?_
 walk_at "d"
 refine⟨p,_,_,rfl,hp,.tail _ (.head _),rfl,aP1 (k:=name) W.ok (.at_own ha) ?_⟩
 rw[hm]
 walk_at "d"
 refine aM4 ⟨p,_,_,rfl,hp,.tail _ (.head _),rfl,aE8 W.ok (.at_own ha) hm ⟨m,_,rfl,ho,an9 rfl,2,rfl,bT7 W ho hs hz ?_⟩⟩
 walk_at "r"
 exact hQ
theorem az7 (W:Ok) {v:V} {c:Nat} {R:Addr->b9->Prop} (hp:own p=some (u7 am)) (hr:(∃m es,own am=some (.dictS ms)/\k7 ms name=some (.ref m)/\own m=some (X4 d es)/\(∀p∈es,p.1+2<=c)/\es.length<=900/\Q .none (c7 own m (some (X4 d (es++[(c,v)])))))\/
   (own am=some (.dictS ms)/\ms.length<=1000/\k7 ms name=none/\k7 bo9 name=some d/\∀m,own m=none->Q .none (c7 (c7 own m (some (X4 d [(c,v)]))) am (some (.dictS (ms++[(name,.ref m)]))))))
  (kn:Kin d v) (h1:1<=c) (h2:c<1114111):aw3 5 43 1 [.ref p,.str name,.int c,.int c,v] own Q EX:=by
 refine E4 (ns:=["self","name","first","last","value"]) (others:=[]) W (.tail _ (.tail _ (.tail _ (.tail _ (.tail _ (.head _)))))) rfl rfl
  (Den_cons (l9 (F7 39 2 (by decide) (by decide) rfl rfl rfl (F7 43 3 (by decide) (by decide) rfl rfl rfl (a9 .z rfl) (a6 (a9 (.s .z) rfl) a8 rfl)) (a6 (a9 (.s (.s .z)) rfl) (a6 (a9 (.s (.s (.s .z))) rfl) (a6 (a9 (.s (.s (.s (.s .z)))) rfl) a8 rfl) rfl) rfl)) rfl)
  b6) ?_
 walk_at "d"
 refine⟨p,_,rfl,hp,M3 rfl,4,rfl,?_⟩
 rcases hr with⟨m,es,ha,hm,ho,hc,hz,hQ⟩ | ⟨ha,hz,hm,hd,hQ⟩
 ·refine ak2 W hp ha hm ⟨m,_,rfl,ho,an9 rfl,2,rfl,bg6 W ho kn hc h1 h2 hz ?_⟩
  walk_at "n"
  exact bC1 hQ
 ·refine aP3 W hp ha hz hm hd λm hm0=>?_
  have nam:m≠am:=λq=>by rw[q,ha] at hm0;cases hm0
  refine⟨m,_,rfl,(b7 nam).trans (b5 _ _ _),an9 rfl,2,rfl,bg6 W ((b7 nam).trans (b5 _ _ _)) kn (λU h=>nomatch h) h1 h2 (cZ2 _) ?_⟩
  walk_at "n"
  refine bC1 ?_
  rw[n9 _ _ _ (Ne.symm nam),c5]
  exact hQ m hm0
end
end
section
variable {own:b9}
theorem bF6 (h:Asc es) (hx:es[i]?=some x):∀p∈es.take i,p.1+2<=x.1:=by
 have:=h.sublist (List.take_sublist (i+1) es)
 rw[g6 hx,df6] at this
 exactλp hp=>this.2.2 p hp x (.head _)
section
variable {p am m:Addr} {d:V} {ms:List (Str×V)} {name:Str} {es:G2} {Q:V->b9->Prop} {EX:XC}
noncomputable def cL5 (p am:Addr) (name:Str) (d:V) (ms:List (Str×V)) (own:b9) (es:G2) (i:Nat):LP:=λX=>∀v1 v2 v3 o,((i=0/\o=own)\/∃m,i≠0/\own m=none/\o=c7 (c7 own m (some (X4 d (es.take i)))) am (some (.dictS (ms++[(name,.ref m)]))))->X [some (.ref p),some (.str name),some (.lst (es.map λq=>L3 q.1 q.1 q.2)),v1,v2,v3] o
theorem aP4 (W:Ok) (hp:own p=some (u7 am)) (ha:own am=some (.dictS ms)) (hz:ms.length<=1000) (hm:k7 ms name=none) (hd:k7 bo9 name=some d) (he:Asc es) (hb:∀q∈es,1<=q.1/\q.1<1114111) (kn:∀q∈es,Kin d q.2) (hne:es≠[]) (hl:es.length<=900)
  (hQ:∀m,own m=none->Q .none (c7 (c7 own m (some (X4 d es))) am (some (.dictS (ms++[(name,.ref m)]))))):A7 6 28 [.ref p,.str name,.lst (es.map λq=>L3 q.1 q.1 q.2)] own Q EX:=by
 have npa:p≠am:=λq=>by rw[<-q,hp] at ha;cases ha
 refine e8 (ns:=["data","name","puts","first","last","value"]) (others:=["first","last","value"]) W rfl rfl rfl
  (Den_cons (i6 (a9 (.s (.s .z)) rfl) (o6 (c8 (c0 (.s (.s (.s .z))) rfl) (c8 (c0 (.s (.s (.s (.s .z)))) rfl) (c8 (c0 (.s (.s (.s (.s (.s .z))))) rfl) k8 rfl) rfl) rfl)) (Den_cons (l9 (F7 43 1 (by decide) (by decide) rfl rfl rfl (a9 .z rfl) (a6 (a9 (.s .z) rfl) (a6 (a9 (.s (.s (.s .z))) rfl) (a6 (a9 (.s (.s (.s (.s .z)))) rfl) (a6 (a9 (.s (.s (.s (.s (.s .z))))) rfl) a8 rfl) rfl) rfl) rfl)) rfl)
  b6) b6 (λU U=>rfl))
  b6) ?_
 walk_at "d"
 refine ad4 (cL5 p am name d ms own es) m9 (λU k=>k _ _ _ _ (.inl ⟨rfl,rfl⟩)) ?_ ?_
 ·rintro i ⟨c,v⟩ hx v1 v2 v3 o hi -
  have hmem:=cW7 hx
  rcases hb _ hmem with⟨b1,b2⟩
  unfold L3
  walk_at "d"
  refine⟨rfl,?_⟩
  rcases hi with⟨rfl,rfl⟩ | ⟨m,hi,hm0,rfl⟩
  ·refine⟨p,_,rfl,hp,M3 rfl,5,rfl,az7 W (R:=λU U=>True) hp (.inr ⟨ha,hz,hm,hd,λm hm0=>?_⟩) (kn _ hmem) b1 b2⟩
   walk_at "n"
   refineλU k=>k _ _ _ _ (.inr ⟨m,Nat.one_ne_zero,hm0,?_⟩)
   rw[g6 hx];rfl
  ·have nma:m≠am:=λq=>by rw[q,ha] at hm0;cases hm0
   have npm:p≠m:=λq=>by rw[<-q,hp] at hm0;cases hm0
   refine⟨p,_,rfl,(b7 npa).trans ((b7 npm).trans hp),M3 rfl,5,rfl,az7 W (R:=λU U=>True) ((b7 npa).trans ((b7 npm).trans hp))
    (.inl ⟨m,_,b5 _ _ _,az5 hm,(b7 nma).trans (b5 _ _ _),bF6 he hx,cV2 (da9 _ _) hl,?_⟩) (kn _ hmem) b1 b2⟩
   walk_at "n"
   refineλU k=>k _ _ _ _ (.inr ⟨m,Nat.succ_ne_zero _,hm0,?_⟩)
   rw[n9 _ _ _ (Ne.symm nma),c5,g6 hx]
 ·intro v1 v2 v3 o hi
  rcases hi with⟨e,-⟩ | ⟨m,-,hm0,rfl⟩
  ·exact absurd (cZ8 e) hne
  rw[cY5]
  walk_at "d"
  walk_at "n"
  exact bC1 (hQ m hm0)
theorem aP5 (c:Int):P9 c (c+1)=[.int c]:=by
 unfold P9
 rw[show(c+1-c).toNat=1 by lia]
 show[V.int (c+((0:Nat):Int))]=_
 rw[show c+((0:Nat):Int)=c by lia]
structure Dfl (d:V):Prop where
 bd:bOk d=true/\isB d=false/\nOk d=true
 n4:∀own K,K (.bool true) own->f7 .Eq d d own K
 o4:∀own K,p9 .Eq d d own K=f7 .Eq d d own K
noncomputable def J16 (p a:Addr) (name:Str) (d:V) (own:b9) (es:G2) (i:Nat):LP:=λX=>∀v1 v2 v3 v4,X [some (.ref p),some (.str name),some d,some (.ref a),v1,v2,v3,v4] (c7 own a (some (.list ((es.take i).map λq=>.tup [.int q.1,q.2]))))
noncomputable def cL7 (p a:Addr) (name:Str) (d:V) (own:b9) (es:G2) (i c:Nat) (v:V) (j:Nat):LP:=λX=>∀v4,X [some (.ref p),some (.str name),some d,some (.ref a),some (.int c),some (.int c),some v,v4] (c7 own a (some (.list ((es.take i).map (λq=>.tup [.int q.1,q.2])++(List.take j [.tup [.int c,v]])))))
theorem az8 (W:Ok) (hp:own p=some (u7 am)) (ha:own am=some (.dictS ms)) (hm:k7 ms name=some (.ref m)) (ho:own m=some (X4 d es)) (hb:∀q∈es,1<=q.1/\q.1<1114111) (kn:∀q∈es,Kin d q.2) (df:Dfl d) (hl:es.length<=900)
  (hQ:Q (.lst (es.map λq=>.tup [.int q.1,q.2])) own):A7 5 34 [.ref p,.str name,d] own Q EX:=by
 refine r9.freeze W.ok ?_
 refine e8 (ns:=["data","name","nothing","found","first","last","value","code"]) (others:=["found","first","last","value","code"]) W rfl rfl rfl
  (Den_cons (Den_asg (.s (.s (.s .z))) rfl (p6 a8) rfl)
  (Den_cons (i6 (F7 39 3 (by decide) (by decide) rfl rfl rfl (F7 43 3 (by decide) (by decide) rfl rfl rfl (a9 .z rfl) (a6 (a9 (.s .z) rfl) a8 rfl)) a8) (o6 (c8 (c0 (.s (.s (.s (.s .z)))) rfl) (c8 (c0 (.s (.s (.s (.s (.s .z))))) rfl) (c8 (c0 (.s (.s (.s (.s (.s (.s .z)))))) rfl) k8 rfl) rfl) rfl)) (Den_cons (i6 (C3 (c6 (a9 (.s (.s (.s (.s (.s (.s .z)))))) rfl) (a9 (.s (.s .z)) rfl) rfl) (p8 79 rfl rfl (a6 (a9 (.s (.s (.s (.s .z)))) rfl) (a6 (d6 (a9 (.s (.s (.s (.s (.s .z))))) rfl) b8) a8 rfl) rfl)) (d7 a8)) (c0 (.s (.s (.s (.s (.s (.s (.s .z))))))) rfl) (Den_cons (l9 (e7 F.plainAttrs_list F.slot_list_append F.type_list_append rfl rfl rfl (a9 (.s (.s (.s .z))) rfl) (a6 (d7 (a6 (a9 (.s (.s (.s (.s (.s (.s (.s .z))))))) rfl) (a6 (a9 (.s (.s (.s (.s (.s (.s .z)))))) rfl) a8 rfl) rfl)) a8 rfl)) rfl)
  b6) b6 (λU U=>rfl))
  b6) b6 (λU U=>rfl))
  (Den_cons (d4 (a9 (.s (.s (.s .z))) rfl))
  b6))) ?_
 walk_at "d"
 refine⟨sz rfl,λa ha0=>?_⟩
 have npa:p≠a:=λq=>by rw[<-q,hp] at ha0;cases ha0
 have nma:m≠a:=λq=>by rw[<-q,ho] at ha0;cases ha0
 have nam:am≠a:=λq=>by rw[<-q,ha] at ha0;cases ha0
 walk_at "n"
 refine⟨p,_,rfl,(b7 npa).trans hp,M3 rfl,4,rfl,ak2 W ((b7 npa).trans hp) ((b7 nam).trans ha) hm ⟨m,_,rfl,(b7 nma).trans ho,an9 rfl,2,rfl,aZ8 W ((b7 nma).trans ho) kn df.bd df.n4 df.o4 (cV2 hl (by decide)) ?_⟩⟩
 refine ad4 (J16 p a name d own es) m9 (λU k=>k _ _ _ _) ?_ ?_
 ·rintro i ⟨c,v⟩ hx v1 v2 v3 v4 -
  have hmem:=cW7 hx
  rcases hb _ hmem with⟨b1,b2⟩
  have hc:(c:Int)<1114111:=cY1.mpr b2
  have k:=kn _ hmem
  unfold L3
  walk_at "d"
  refine⟨rfl,?_⟩
  rw[k.o3]
  refine k.n3 _ _ ?_
  walk_at "d"
  refine aM4 (bC9 λr hr=>?_)
  refine aw4 (cL7 p a name d own es i c v) (It_range (b5 _ _ _) (dd5 (by decide) (cX8 c)) (dn3 hc (by decide)) (dd5 (by decide) (cX8 (c+1))) (dg3 (Int.add_one_le_of_lt hc) (by decide))) (.at (by rw[c5,d9 hr,dm8,cW6]) λU k=>k _) ?_ ?_
  ·intro j y hy v4 _
   rw[aP5] at hy
   obtain⟨rfl,rfl⟩:j=0/\y=.int c:=by
    cases j with
    | zero=>exact⟨rfl,(Option.some.inj hy).symm⟩
    | succ j=>cases hy
   walk_at "d"
   refine⟨K9 (b5 _ _ _),sz rfl,n5 (b5 _ _ _) ?_ ?_⟩
   ·rw[dm8,cW6,cV3]
    exact cV2 (da9 _ _) (cV2 hl (by decide))
   walk_at "n"
   refine .at ?_ λU k=>k _
   rw[c5,dm8,cW6];rfl
  ·intro v4
   rw[aP5]
   walk_at "n"
   refine .at ?_ λU k=>k _ _ _ _
   rw[g6 hx,cV5];rfl
 ·intro v1 v2 v3 v4
  rw[cY5]
  walk_at "d"
  walk_at "n"
  walk_at "r"
  exact⟨_,_,.inl ⟨a,_,rfl,b5 _ _ _,rfl,rfl⟩,by rw[c5,d9 ha0];exact hQ⟩
end
end
section
variable {own:b9}
noncomputable def A5:List Str:=["C","F","S","T"]
abbrev Fol:=List (Str×List Nat)
noncomputable def D9 (ns:List Nat):V:=.tup (ns.map nV)
noncomputable def E5 (t:Fol):V:=.dct (t.map λq=>(q.1,D9 q.2))
abbrev FD:=List (Nat×Fol)
noncomputable def B2 (fd:FD):G2:=fd.map λq=>(q.1,E5 q.2)
noncomputable def G3 (t:Fol) (s:Str):Option (List Nat):=(t.find? λq=>q.1=s).map (·.2)
theorem W6 (s:Str) (t:Fol):k7 (t.map λq=>(q.1,D9 q.2)) s=(G3 t s).map D9:=by
 induction t with
 | nil=>rfl
 | cons q r ih=>
  rw[cX3,s9,ih]
  unfold G3
  rw[di6]
  by_cases h:q.1=s
  ·rw[if_pos h,decide_eq_true h];rfl
  ·rw[if_neg h,decide_eq_false h]
theorem az9 (h:G3 t s=some ns):(s,ns)∈t:=by
 unfold G3 at h
 obtain⟨⟨k,x⟩,h1,rfl⟩:=cY2.mp h
 have:=List.find?_some h1
 have e:k=s:=of_decide_eq_true this
 subst e
 exact List.mem_of_find?_eq_some h1
noncomputable def O1 (c:Nat) (s:Str) (ns:List Nat):List UInt8:=g8 [59,32] [y3 c,m4 s,j7 ns]++[59,10]
noncomputable def E6 (q:Nat×Fol):List (List UInt8):=A5.filterMap λs=>(G3 q.2 s).map (O1 q.1 s)
noncomputable def R8 (fd:FD):List UInt8:=g8 [] (fd.flatMap E6)
structure bU0 (ns:List Nat):Prop where
 le:∀n∈ns,n<=1114111
 len:ns.length<=10
theorem U9:∀s∈A5,s.cps.size<=sizeLine/\(∀n∈s.cps.toList,n<128)/\(m4 s).length<=1/\PyData.strOk s=true:=by
 intro s hs
 simp only[A5,cW1,cY8,or_false] at hs
 rcases hs with rfl | rfl | rfl | rfl<;>exact⟨by decide +kernel,by decide +kernel,by decide +kernel,by decide +kernel⟩
theorem ai0 (hs:s∈A5) (hn:bU0 ns):(g8 [59,32] [y3 c,m4 s,j7 ns]).length<=300:=by
 have:=y5 (sep:=[59,32]) (k:=70) (ns:=[y3 c,m4 s,j7 ns]) (λx hx=>by
  simp only[cW1,cY8,or_false] at hx
  rcases hx with rfl | rfl | rfl
  ·exact cV2 Q8 (by decide)
  ·exact cV2 (U9 s hs).2.2.1 (by decide)
  ·exact cV2 (A4 ns) (cY3 7 hn.len))
 exact cV2 this (show 3*72<=300 by decide)
theorem ba0 (h:x∈E6 q):∃s∈A5,∃ns,(s,ns)∈q.2/\x=O1 q.1 s ns:=by
 obtain⟨s,hs,e⟩:=dl8.mp h
 obtain⟨ns,h1,h2⟩:=cY2.mp e
 exact⟨s,hs,ns,az9 h1,h2.symm⟩
theorem ba1 (q:Nat×Fol):(E6 q).length<=4:=dd3 _ _
theorem V1 (fd:FD):(fd.flatMap E6).length<=fd.length*4:=by
 induction fd with
 | nil=>exact cX5 _
 | cons q r ih=>rw[dj1,cV4,db1,di8,dd0];exact cZ5 ih (ba1 q)
structure cL8 (fd:FD):Prop where
 len:fd.length<=100
 code:∀q∈fd,1<=q.1/\q.1<1114111
 asc:Asc (B2 fd)
 ns:∀q∈fd,∀x∈q.2,bU0 x.2
theorem ck3 (t:Fol):Kin .none (E5 t):=⟨⟨rfl,rfl,rfl⟩,⟨rfl,rfl⟩,λU U h U U U=>aL9 h,λU U h U U U=>aM0 h,λU U h U U U=>aM1 h,
 λU U h U U U=>aW2 (d:=.none) (d':=.none) (by simp only[PyData.canLay0]) (by simp only[PyData.canLay0]) (by simp only[PyData.depth];decide) (by simp only[PyData.eqv];exact h),λU U=>rfl,λU U=>rfl,λU U=>rfl,λU U=>rfl⟩
theorem cL9:Dfl .none:=let k:=ck3 [];⟨k.bd,k.n4,k.o4⟩
theorem Gho.drop (h:o a=some x) (nf:∀e l,x≠.frame e l):Gho o (c7 o a none):=λU U=>aK8.drop h nf
theorem bU1 (hf:c7 own a A f=none) (n:f≠a):c7 (c7 (c7 (c7 own a A) f F) a B) f none=c7 own a B:=by
 rw[n9 (c7 own a A) F B n,c5 own a A B,c5 _ f F none,d9 ((b7 n).trans ((b7 n).symm.trans hf))]
section
variable {p am m:Addr} {ms:List (Str×V)} {Q:V->b9->Prop} {EX:XC}
noncomputable def J17 (p a:Addr) (own:b9) (fd:FD) (i:Nat):LP:=λX=>∀v1 v2 v3 v4,X [some (.ref p),some (.ref a),v1,v2,v3,v4] (c7 own a (some (.list (((fd.take i).flatMap E6).map .bytes))))
noncomputable def cM0 (p a:Addr) (own:b9) (fd:FD) (i c:Nat) (t:Fol) (j:Nat):LP:=λX=>∀v3 v4,X [some (.ref p),some (.ref a),some (.int c),some (E5 t),v3,v4] (c7 own a (some (.list ((((fd.take i).flatMap E6)++(A5.take j).filterMap λs=>(G3 t s).map (O1 c s)).map .bytes))))
theorem al5 (W:Ok) (hp:own p=some (u7 am)) (ha:own am=some (.dictS ms)) (hm:k7 ms "cf"=some (.ref m)) (ho:own m=some (X4 .none (B2 fd))) (fo:cL8 fd) (hQ:Q (.bytes (R8 fd)) own):A7 6 35 [.ref p] own Q EX:=by
 have hz:(B2 fd).length=fd.length:=cV3 _
 have hlines:∀x∈fd.flatMap E6,x.length<=302:=λx hx=>by
  obtain⟨q,hq,hx⟩:=dc8.mp hx
  obtain⟨s,hs,ns,hn,rfl⟩:=ba0 hx
  unfold O1
  rw[cV4]
  exact cY7 (ai0 hs (fo.ns q hq _ hn)) 2
 have hcount:(fd.flatMap E6).length<=400:=cV2 (V1 fd) (cY3 4 fo.len)
 refine e8 (ns:=["data","rows","code","told","status","fields"]) (others:=["rows","code","told","status","fields"]) W rfl rfl rfl
  (Den_cons (Den_asg (.s .z) rfl (p6 a8) rfl)
  (Den_cons (i6 (c4 29 34 rfl rfl rfl (a6 (a9 .z rfl) (a6 d0 (a6 w6 a8 rfl) rfl) rfl)) (o6 (c8 (c0 (.s (.s .z)) rfl) (c8 (c0 (.s (.s (.s .z))) rfl) k8 rfl) rfl)) (Den_cons (i6 (x6 20 rfl rfl) (c0 (.s (.s (.s (.s .z)))) rfl) (Den_cons (i8 (c6 (a9 (.s (.s (.s (.s .z)))) rfl) (a9 (.s (.s (.s .z))) rfl) rfl) (Den_cons (Den_asg (.s (.s (.s (.s (.s .z))))) rfl (p6 (a6 (c4 9 12 rfl rfl rfl (a6 (a9 (.s (.s .z)) rfl) a8 rfl)) (a6 (c4 7 10 rfl rfl rfl (a6 (a9 (.s (.s (.s (.s .z)))) rfl) a8 rfl)) (a6 (c4 28 33 rfl rfl rfl (a6 (d5 (a9 (.s (.s (.s .z))) rfl) (a9 (.s (.s (.s (.s .z)))) rfl) rfl) a8 rfl)) a8 rfl) rfl) rfl)) rfl)
  (Den_cons (l9 (e7 F.plainAttrs_list F.slot_list_append F.type_list_append rfl rfl rfl (a9 (.s .z) rfl) (a6 (d6 (e7 FB.plainAttrs_bytes l5 n6 rfl rfl rfl c9 (a6 (a9 (.s (.s (.s (.s (.s .z))))) rfl) a8 rfl)) c9) a8 rfl)) rfl)
  (Q6 b6))) b6)
  b6) b6 (λU U=>rfl))
  b6) b6 (λU U=>rfl))
  (Den_cons (d4 (e7 FB.plainAttrs_bytes l5 n6 rfl rfl rfl c9 (a6 (a9 (.s .z) rfl) a8 rfl)))
  b6))) ?_
 walk_at "d"
 refine⟨sz rfl,λa ha0=>?_⟩
 have npa:p≠a:=λq=>by rw[<-q,hp] at ha0;cases ha0
 have nma:m≠a:=λq=>by rw[<-q,ho] at ha0;cases ha0
 have nam:am≠a:=λq=>by rw[<-q,ha] at ha0;cases ha0
 walk_at "n"
 refine⟨5,rfl,az8 W ((b7 npa).trans hp) ((b7 nam).trans ha) hm ((b7 nma).trans ho) (λq hq=>?_) (λq hq=>?_) cL9 (by rw[hz];exact cV2 fo.len (by decide)) ?_⟩
 ·obtain⟨x,hx,rfl⟩:=cV6.mp hq;exact fo.code x hx
 ·obtain⟨x,hx,rfl⟩:=cV6.mp hq;exact ck3 _
 refine ad4 (J17 p a own fd) m9 (λU k=>k _ _ _ _) ?_ ?_
 ·intro i q hy v1 v2 v3 v4 _
  rw[B2,cX9] at hy
  obtain⟨⟨c,t⟩,hx,rfl⟩:=cY2.mp hy
  have hmem:=cW7 hx
  rcases fo.code _ hmem with⟨b1,b2⟩
  have sub:∀j,((fd.take i).flatMap E6++(A5.take j).filterMap λs=>(G3 t s).map (O1 c s)).length<=sizeLine:=λj=>by
   rw[cV4]
   refine cV2 (cZ5 (cV2 (V1 _) (cY3 4 (cV2 (da9 _ _) fo.len))) (cV2 (dd3 _ _) (da9 _ _))) (by decide)
  walk_at "d"
  refine⟨rfl,?_⟩
  refine aw4 (cM0 p a own fd i c t) F5 (.at (by rw[dm8,dh0,cW6]) λU k=>k _ _) ?_ ?_
  ·intro j y hy v3 v4 _
   obtain⟨s,hs,rfl⟩:∃s,A5[j]?=some s/\y=.str s:=by
    rw[show([V.str (Str.ofString "C"),V.str (Str.ofString "F"),V.str (Str.ofString "S"),V.str (Str.ofString "T")])=A5.map V.str from rfl,cX9] at hy
    obtain⟨s,h1,h2⟩:=cY2.mp hy
    exact⟨s,h1,h2.symm⟩
   have hst:=cW7 hs
   obtain⟨s1,s2,-,-⟩:=U9 s hst
   unfold E5
   walk_at "d"
   refine aP1 (k:=s) W.ok .dct ?_
   rw[W6]
   cases hk:G3 t s with
   | none=>
    walk_at "d"
    refine aX1 ?_
    walk_at "n"
    refine .at ?_ λU k=>k _ _
    rw[g6 hs,cZ4,dm3 (by rw[hk];rfl),dh0,cW6]
   | some ns=>
    have hn:=fo.ns _ hmem _ (az9 hk)
    walk_at "d"
    refine aM4 ⟨1,rfl,ah7 W (cY0 b2) ⟨3,rfl,N8 W s1 s2 ?_⟩⟩
    refine aE8 W.ok .dct (x:=D9 ns) (by rw[W6,hk];rfl) ⟨2,rfl,E9 W (.inl rfl) hn.le (cV2 hn.len (by decide)) ⟨sz rfl,λf hf=>?_⟩⟩
    have nfa:f≠a:=λq=>by rw[q,b5] at hf;cases hf
    walk_at "n"
    refine⟨K9 ((b7 (Ne.symm nfa)).trans (b5 _ _ _)),rfl,Q5 (ns:=[y3 c,m4 s,j7 ns]) (.inr (.at_own (b5 _ _ _))) (cV2 (ai0 hst hn) (by decide)) (ah1 (cV2 (cY7 (ai0 hst hn) 2) (by decide)) ?_)⟩
    refine n5 ((b7 (Ne.symm nfa)).trans (b5 _ _ _)) (by rw[cV3];exact sub j) ?_
    walk_at "n"
    refine⟨_,Gho.drop ((b7 nfa).trans (b5 _ _ _)) (λU U=>nofun),?_⟩
    walk_at "d"
    refine .at ?_ λU k=>k _ _
    rw[bU1 hf nfa,g6 hs,cZ4,dh6 (b:=O1 c s ns) (by rw[hk];rfl),dh0,<-cW2,cV5 (l₂:=[O1 c s ns])];rfl
  ·intro v3 v4
   walk_at "n"
   refine .at ?_ λU k=>k _ _ _ _
   rw[g6 hx,de5]
   show _=c7 own a (some (.list (((fd.take i).flatMap E6++((A5.take 4).filterMap (λs=>(G3 t s).map (O1 c s))++[])).map .bytes)))
   rw[cW6];rfl
 ·intro v1 v2 v3 v4
  rw[hz,cY5]
  walk_at "d"
  walk_at "n"
  refine⟨rfl,Q5 (.inr (.at_own (b5 _ _ _))) ?_ ?_⟩
  ·exact cV2 (y5 hlines) (cV2 (cY3 _ hcount) (by decide))
  walk_at "d";repeat with_reducible apply bn4
  exact bR2 (bo7 (Sub.refl _) ha0) hQ
end
end
section
variable {own:b9}
abbrev CR:=List Nat×List Nat×List Nat×List Str
abbrev CD:=List (Nat×List CR)
noncomputable def G4:List (List Str):=[[],["Final_Sigma"],["tr"],["az"],["tr","Not_Before_Dot"],["lt","More_Above"],["az","After_I"],["lt","After_Soft_Dotted"]]
noncomputable def G5 (f:CR->List Nat) (r:CR):V:=.tup [D9 (f r),.tup (r.2.2.2.map .str)]
noncomputable def D5 (f:CR->List Nat) (rs:List CR):V:=.lst (rs.map (G5 f))
noncomputable def w4 (f:CR->List Nat) (cd:CD):G2:=cd.map λq=>(q.1,D5 f q.2)
noncomputable def kSl:CR->List Nat:=λr=>r.1
noncomputable def kSt:CR->List Nat:=λr=>r.2.1
noncomputable def kSu:CR->List Nat:=λr=>r.2.2.1
noncomputable def ai1:List (CR->List Nat):=[kSl,kSt,kSu]
noncomputable def aA0 (ws:List Str):Str:=Str.join " " ws
noncomputable def E7 (c:Nat) (r:CR):List (List UInt8):=y3 c::(ai1.map λf=>j7 (f r))++(if r.2.2.2=[] then[] else[m4 (aA0 r.2.2.2)])
noncomputable def as2 (c:Nat) (r:CR):List UInt8:=g8 [59,32] (E7 c r)++[59,10]
noncomputable def ai2 (q:Nat×List CR):List (List UInt8):=q.2.map (as2 q.1)
noncomputable def ak3 (cd:CD):List UInt8:=g8 [] (cd.flatMap ai2)
structure ba2 (r:CR):Prop where
 ns:∀f∈ai1,bU0 (f r)
 ws:r.2.2.2∈G4
structure cz2 (cd:CD):Prop where
 len:cd.length<=50
 code:∀q∈cd,1<=q.1/\q.1<1114111
 asc:∀f,Asc (w4 f cd)
 row:∀q∈cd,q.2.length<=50/\∀r∈q.2,ba2 r
noncomputable def okW (ws:List Str):Bool:=decide (ws.toArray.foldl (λa x=>a+x.length+(Str.ofString " ").length) 0<=1000)&&(decide ((aA0 ws).cps.size<=100)&&((aA0 ws).cps.toList.all (λn=>decide (n<128))&&(ws.all PyData.strOk&&decide ((m4 (aA0 ws)).length<=100))))
theorem ae2 (h:ws∈G4):okW ws=true:=cX0.mp (show G4.all okW=true by decide +kernel) ws h
theorem O2 (ws:List Str) (h:ws.all PyData.strOk=true):PyData.canLayAll0 (ws.map .str)=true:=by
 induction ws with
 | nil=>rw[dc9,PyData.canLayAll0]
 | cons w r ih=>
  rw[dc1,cY6] at h
  rw[cX3,PyData.canLayAll0,PyData.canLay0,h.1,ih h.2];rfl
theorem aP6 (ns:List Nat):PyData.canLayAll0 (ns.map λ(n:Nat)=>.int n)=true:=by
 induction ns with
 | nil=>rw[dc9,PyData.canLayAll0]
 | cons n r ih=>rw[cX3,PyData.canLayAll0,PyData.canLay0,ih];rfl
noncomputable def bU3 (f:CR->List Nat) (r:CR):PyData:=.tuple [.tuple ((f r).map λ(n:Nat)=>.int n),.tuple (r.2.2.2.map .str)]
noncomputable def as3 (f:CR->List Nat) (rs:List CR):PyData:=.list (rs.map (bU3 f))
theorem bU4 (f:CR->List Nat) (r:CR):ofD (bU3 f r)=G5 f r:=by
 simp only[bU3,G5,D9,ap5,N1,cX3,dc9,cW0];rfl
theorem as4 (f:CR->List Nat) (rs:List CR):ofD (as3 f rs)=D5 f rs:=by
 simp only[as3,D5,bZ9,N1,cW0]
 exact congrArg V.lst (cZ1 λr U=>bU4 f r)
theorem ai3 (h:∀r∈rs,ba2 r):(as3 f rs).canLay0=true:=by
 rw[as3,PyData.canLay0]
 induction rs with
 | nil=>rw[dc9,PyData.canLayAll0]
 | cons r rs ih=>
  have hw:=ae2 (h r (.head _)).ws
  simp only[okW,cY6] at hw
  rw[cX3,PyData.canLayAll0,ih λx hx=>h x (.tail _ hx),bU3]
  simp only[PyData.canLay0,PyData.canLayAll0,aP6,O2 _ hw.2.2.2.1,Bool.and_self]
theorem cz3 (d:PyData):min (PyData.tuple []).depth d.depth<=1000:=cV2 (dk4 _ _) (by simp only[PyData.depth,PyData.depthAll];decide)
theorem bU5 (d:PyData):min d.depth (PyData.tuple []).depth<=1000:=cV2 (de4 _ _) (by simp only[PyData.depth,PyData.depthAll];decide)
theorem ba3:(PyData.tuple []).canLay0=true:=by simp only[PyData.canLay0,PyData.canLayAll0]
theorem of0:ofD (.tuple [])=.tup []:=rfl
theorem ck4 (h:∀r∈rs,ba2 r):Kin (.tup []) (D5 f rs):=by
 refine⟨⟨rfl,rfl,rfl⟩,⟨rfl,rfl⟩,λU U h' U U U=>?_,λU U h' U U U=>?_,λU U h' U U U=>?_,λU U h' U U U=>?_,λU U=>rfl,λU U=>rfl,λU U=>rfl,λU U=>rfl⟩
 ·rw[<-of0,<-as4];exact aW2 ba3 (ai3 h) (cz3 _) (by rw[as3,PyData.eqv];exact h')
 ·rw[<-of0,<-as4];exact aW2 (ai3 h) ba3 (bU5 _) (by rw[as3,PyData.eqv];exact h')
 ·rw[<-of0,<-as4];exact cg4 (ai3 h) ba3 (bU5 _) (by rw[as3,PyData.eqv];exact h')
 ·rw[<-of0];exact aW2 ba3 ba3 (cz3 _) (by simp only[PyData.eqv,PyData.eqvAll];exact h')
theorem cz4:Dfl (.tup []):=let k:=ck4 (f:=kSl) (rs:=[]) (λU h=>nomatch h);⟨k.bd,k.n4,k.o4⟩
theorem bF7 (h:ws.all PyData.strOk=true) (hQ:Q (.bool (!decide (ws=[]))) own):f7 .NotEq (.tup (ws.map .str)) (.tup []) own Q:=λU U U=>by
 rw[<-of0,show V.tup (ws.map .str)=ofD (.tuple (ws.map .str)) by rw[ap5,N9]]
 refine cg4 (by rw[PyData.canLay0];exact O2 ws h) ba3 (bU5 _) ?_
 rw[PyData.eqv]
 cases ws with
 | nil=>rw[dc9,PyData.eqvAll];exact hQ
 | cons w r=>rw[cX3,PyData.eqvAll];exact hQ
theorem bp0 {d:V} {c:Nat} {v:V} {es:G2} (h:Asc es) (hm:(c,v)∈es):M2 d es c=v:=by
 induction es with
 | nil=>cases hm
 | cons p r ih=>
  rcases dm2.mp h with⟨h1,h2⟩
  rcases cW1.mp hm with rfl | hm
  ·exact if_pos rfl
  ·exact(if_neg (Nat.ne_of_gt (cX7 (Nat.lt_add_of_pos_right (by decide)) (h1 _ hm)))).trans (ih h2 hm)
theorem ae3 {n:Nat} {j:Nat} {y:V} (h:(P9 0 (n:Int))[j]?=some y):j<n/\y=.int (j:Nat):=by
 unfold P9 at h
 rw[cX9] at h
 rcases cY2.mp h with⟨k,hk,rfl⟩
 rcases cX4.mp hk with⟨h1,h2⟩
 rw[dd2,dn2,db8] at h1
 rw[List.getElem_range] at h2
 subst h2
 exact⟨h1,congrArg V.int (Int.zero_add _)⟩
theorem ak4 {c:Nat} {r:CR} (h:ba2 r):(g8 [59,32] (E7 c r)).length<=600:=by
 have hw:=ae2 h.ws
 simp only[okW,cY6,decide_eq_true_eq] at hw
 have:=y5 (sep:=[59,32]) (k:=100) (ns:=E7 c r) (λx hx=>by
  rcases cW9.mp hx with hx | hx
  ·rcases cW1.mp hx with e | hx
   ·rw[e];exact cV2 Q8 (by decide)
   ·rcases cV6.mp hx with⟨f,hf,rfl⟩
    exact cV2 (A4 _) (cV2 (cY3 7 (h.ns f hf).len) (by decide))
  ·split at hx
   ·cases hx
   ·rw[cV8.mp hx];exact hw.2.2.2.2)
 refine cV2 this (cV2 (cY3 _ (show(E7 c r).length<=5 from ?_)) (by decide))
 unfold E7
 rw[cV4]
 split
 ·exact(by decide:4+0<=5)
 ·exact(by decide:4+1<=5)
theorem V2 {cd:CD} {N:Nat} (h:∀q∈cd,q.2.length<=N):(cd.flatMap ai2).length<=cd.length*N:=by
 induction cd with
 | nil=>exact cZ2 _
 | cons q r ih=>
  rw[dj1,cV4,db1,di8,dd0]
  exact cZ5 (ih λx hx=>h x (.tail _ hx)) (by rw[ai2,cV3];exact h q (.head _))
section
variable {p am m m2 m3:Addr} {ms:List (Str×V)} {Q:V->b9->Prop} {EX:XC}
noncomputable def J18 (p a:Addr) (own:b9) (cd:CD) (i:Nat):LP:=λX=>∀v1 v2 v3 v4 v5 v6,X [some (.ref p),some (.ref a),v1,v2,v3,v4,v5,v6] (c7 own a (some (.list (((cd.take i).flatMap ai2).map .bytes))))
noncomputable def O18 (a:Addr) (own:b9) (cd:CD) (i c:Nat) (rs:List CR) (j:Nat):b9:=c7 own a (some (.list ((((cd.take i).flatMap ai2)++(rs.take j).map (as2 c)).map .bytes)))
noncomputable def cM1 (p a:Addr) (own:b9) (cd:CD) (i c:Nat) (rs:List CR) (j:Nat):LP:=λX=>∀v5 v6,X [some (.ref p),some (.ref a),some (.int c),some (D5 kSl rs),some (D5 kSt rs),some (D5 kSu rs),v5,v6] (O18 a own cd i c rs j)
noncomputable def cz5 (p a f:Addr) (o:b9) (c:Nat) (rs:List CR) (j:Nat) (row:CR):LP:=λX=>X [some (.ref p),some (.ref a),some (.int c),some (D5 kSl rs),some (D5 kSt rs),some (D5 kSu rs),some (.int (j:Nat)),some (.ref f)] (c7 o f (some (.list ((E7 c row).map .bytes))))
theorem al6 (W:Ok) {cd:CD} (hp:own p=some (u7 am)) (ha:own am=some (.dictS ms)) (hm:k7 ms "slc"=some (.ref m)) (ho:own m=some (X4 (.tup []) (w4 kSl cd)))
  (hm2:k7 ms "stc"=some (.ref m2)) (ho2:own m2=some (X4 (.tup []) (w4 kSt cd))) (hm3:k7 ms "suc"=some (.ref m3)) (ho3:own m3=some (X4 (.tup []) (w4 kSu cd))) (co:cz2 cd) (hQ:Q (.bytes (ak3 cd)) own):A7 6 36 [.ref p] own Q EX:=by
 have hz:∀f,(w4 f cd).length=cd.length:=λf=>cV3 _
 have hz9:∀f,(w4 f cd).length<=900:=λf=>by rw[hz];exact cV2 co.len (by decide)
 refine e8 (ns:=["data","rows","code","told","title","upper","k","fields"]) (others:=["rows","code","told","title","upper","k","fields"]) W rfl rfl rfl
  (Den_cons (Den_asg (.s .z) rfl (p6 a8) rfl)
  (Den_cons (i6 (c4 29 34 rfl rfl rfl (a6 (a9 .z rfl) (a6 d0 (a6 (d7 a8) a8 rfl) rfl) rfl)) (o6 (c8 (c0 (.s (.s .z)) rfl) (c8 (c0 (.s (.s (.s .z))) rfl) k8 rfl) rfl)) (Den_cons (Den_swap [(.s (.s (.s (.s .z)))),(.s (.s (.s (.s (.s .z)))))] rfl (by with_unfolding_all rfl) rfl (d7 (a6 (F7 43 2 (by decide) (by decide) rfl rfl rfl (a9 .z rfl) (a6 d0 (a6 (a9 (.s (.s .z)) rfl) a8 rfl) rfl)) (a6 (F7 43 2 (by decide) (by decide) rfl rfl rfl (a9 .z rfl) (a6 d0 (a6 (a9 (.s (.s .z)) rfl) a8 rfl) rfl)) a8 rfl) rfl)))
  (Den_cons (i6 (p8 79 rfl rfl (a6 (j5 67 rfl rfl (a6 (a9 (.s (.s (.s .z))) rfl) a8 rfl)) a8 rfl)) (c0 (.s (.s (.s (.s (.s (.s .z)))))) rfl) (Den_cons (Den_asg (.s (.s (.s (.s (.s (.s (.s .z))))))) rfl (d6 (w5 (a6 (c4 9 12 rfl rfl rfl (a6 (a9 (.s (.s .z)) rfl) a8 rfl)) a8 rfl)) (j8 ["row"] rfl (λU U=>rfl) (d7 (a6 (a9 (.s (.s (.s .z))) rfl) (a6 (a9 (.s (.s (.s (.s .z)))) rfl) (a6 (a9 (.s (.s (.s (.s (.s .z))))) rfl) a8 rfl) rfl) rfl)) (c0 .z rfl) n7 (c4 28 33 rfl rfl rfl (a6 (d5 (d5 (a9 .z rfl) (B1 (.s (.s (.s (.s (.s (.s .z)))))) rfl rfl) rfl) b8 rfl) a8 rfl)))) rfl)
  (Den_cons (W2 (c6 (d5 (d5 (a9 (.s (.s (.s .z))) rfl) (a9 (.s (.s (.s (.s (.s (.s .z)))))) rfl) rfl) b8 rfl) (d7 a8) rfl) (Den_cons (l9 (e7 F.plainAttrs_list F.slot_list_append F.type_list_append rfl rfl rfl (a9 (.s (.s (.s (.s (.s (.s (.s .z))))))) rfl) (a6 (c4 7 10 rfl rfl rfl (a6 (e7 F.plainAttrs_str F.slot_str_join F.type_str_join rfl rfl rfl d0 (a6 (d5 (d5 (a9 (.s (.s (.s .z))) rfl) (a9 (.s (.s (.s (.s (.s (.s .z)))))) rfl) rfl) b8 rfl) a8 rfl)) a8 rfl)) a8 rfl)) rfl)
  b6) b6)
  (Den_cons (l9 (e7 F.plainAttrs_list F.slot_list_append F.type_list_append rfl rfl rfl (a9 (.s .z) rfl) (a6 (d6 (e7 FB.plainAttrs_bytes l5 n6 rfl rfl rfl c9 (a6 (a9 (.s (.s (.s (.s (.s (.s (.s .z))))))) rfl) a8 rfl)) c9) a8 rfl)) rfl)
  (Q6 b6)))) b6 (λU U=>rfl))
  b6)) b6 (λU U=>rfl))
  (Den_cons (d4 (e7 FB.plainAttrs_bytes l5 n6 rfl rfl rfl c9 (a6 (a9 (.s .z) rfl) a8 rfl)))
  b6))) ?_
 walk_at "d"
 refine⟨sz rfl,λa ha0=>?_⟩
 have far:∀{x:Addr} {o:O} {Y:Option O},own x=some o->c7 own a Y x=some o:=λ{x o Y} h=>(b7 λq=>by rw[q,ha0] at h;cases h).trans h
 walk_at "n"
 refine⟨sz rfl,5,rfl,az8 W (far hp) (far ha) hm (far ho) (λq hq=>?_) (λq hq=>?_) cz4 (hz9 _) ?_⟩
 ·obtain⟨x,hx,rfl⟩:=cV6.mp hq;exact co.code x hx
 ·obtain⟨x,hx,rfl⟩:=cV6.mp hq;exact ck4 (co.row x hx).2
 refine ad4 (J18 p a own cd) m9 (λU k=>k _ _ _ _ _ _) ?_ ?_
 ·intro i q hy v1 v2 v3 v4 v5 v6 _
  rw[w4,cX9] at hy
  obtain⟨⟨c,rs⟩,hx,rfl⟩:=cY2.mp hy
  have hmem:=cW7 hx
  rcases co.code _ hmem with⟨b1,b2⟩
  rcases co.row _ hmem with⟨l1,hrs⟩
  have hE:∀f,M2 (.tup []) (w4 f cd) c=D5 f rs:=λf=>bp0 (co.asc f) (cV6.mpr ⟨_,hmem,rfl⟩)
  walk_at "d"
  refine⟨rfl,?_⟩
  refine⟨p,_,rfl,far hp,M3 rfl,3,rfl,W5 W (far hp) (far ha) hm2 (far ho2) (co.asc _) (cV2 (hz9 _) (by decide)) ?_⟩
  rw[hE]
  refine⟨p,_,rfl,far hp,M3 rfl,3,rfl,W5 W (far hp) (far ha) hm3 (far ho3) (co.asc _) (cV2 (hz9 _) (by decide)) ⟨sz rfl,rfl,?_⟩⟩
  rw[hE]
  walk_at "n"
  refine R4 .lst (by rw[cV3];exact cV9 l1 (by decide)) ?_
  rw[cV3]
  refine Q4 λr hr=>?_
  have n50:((rs.length:Nat):Int)<=50:=da7.mpr l1
  refine aw4 (cM1 p a own cd i c rs) (It_range (b5 _ _ _) (by decide) (by decide) (dd5 (by decide) (cX8 _)) (dg3 n50 (by decide))) (.at (by rw[c5,d9 hr];show _=c7 own a (some (.list ((_++[]).map .bytes)));rw[cW6]) λU k=>k _ _) ?_ ?_
  ·intro j y hy v5 v6 _
   rcases ae3 hy with⟨hj,rfl⟩
   obtain⟨row,hr0⟩:∃row,rs[j]?=some row:=⟨_,cW8 hj⟩
   have cr:=hrs row (cW7 hr0)
   have hw:=ae2 cr.ws
   simp only[okW,cY6,decide_eq_true_eq] at hw
   have hat:∀f:CR->List Nat,(rs.map (G5 f))[((j:Nat):Int).toNat]?=some (G5 f row):=λf=>by rw[db8,cX9,hr0];rfl
   have j63:((j:Nat):Int)<2 ^ 63:=dh8 (cY1.mpr hj) (dd5 n50 (by decide))
   have item:∀{o:b9} {f:CR->List Nat} {K:V->b9->Prop},K (G5 f row) o->Q3 (D5 f rs) (.int (j:Nat)) o K:=λ{o f K} h=>W3 .lst (cX8 j) j63 (hat f) h
   walk_at "d"
   refine⟨1,rfl,ah7 W (cY0 b2) ⟨sz rfl,sz rfl,?_⟩⟩
   refine ah3 (ys:=ai1) (f:=λf=>D5 f rs) (λf=>.bytes (j7 (f row))) F5 (sz rfl) (λq v f hat hf=>?_) ?_
   ·have ok:=cr.ns f hf
    walk_at "d"
    refine item (i_t (x:=D9 (f row)) (by decide) (by decide) rfl ⟨2,rfl,E9 W (.inl rfl) ok.le (cV2 ok.len (by decide)) (mjE hat)⟩)
   refine bR5 .lst .lst (show 1+3<=sizeLine by decide) λf hf=>?_
   have nfa:f≠a:=λq=>by rw[q,O18,b5] at hf;cases hf
   walk_at "n"
   refine ar0 (cz5 p a f (O18 a own cd i c rs j) c rs j row) ?_ ?_
   ·refine item (i_t (x:=.tup (row.2.2.2.map .str)) (by decide) (by decide) rfl ⟨sz rfl,bF7 hw.2.2.2.1 ?_⟩)
    walk_at "d"
    refine bz8 (λhne=>?_) λhe=>?_
    ·refine⟨K9 (b5 _ _ _),rfl,item (i_t (x:=.tup (row.2.2.2.map .str)) (by decide) (by decide) rfl (aE7 (.inl rfl) (cV2 hw.1 (by decide)) ⟨3,rfl,N8 W (cV2 hw.2.1 (by decide)) (λn hn=>of_decide_eq_true (cX0.mp hw.2.2.1 n hn)) ?_⟩))⟩
     refine n5 (b5 _ _ _) (sz rfl) ?_
     walk_at "n"
     refine .at ?_ λU k=>k
     rw[c5,E7,if_neg hne,cV5];rfl
    ·walk_at "n"
     refine .at ?_ λU k=>k
     rw[E7,if_pos he,cW6];rfl
   unfold cz5
   have fl:=ak4 (c:=c) cr
   walk_at "n"
   refine⟨K9 ((b7 (Ne.symm nfa)).trans (b5 _ _ _)),rfl,Q5 (ns:=E7 c row) (.inr (.at_own (b5 _ _ _))) (cV2 fl (by decide)) (ah1 (cV2 (cY7 fl 2) (by decide)) ?_)⟩
   refine n5 ((b7 (Ne.symm nfa)).trans (b5 _ _ _)) ?_ ?_
   ·rw[cV3,cV4,cV3]
    exact cV2 (cZ5 (cV2 (V2 (N:=50) λq hq=>(co.row q (db5 hq)).1) (cY3 50 (cV2 (da9 _ _) co.len))) (cV2 (da9 _ _) l1)) (by decide)
   walk_at "n"
   refine⟨_,Gho.drop ((b7 nfa).trans (b5 _ _ _)) (λU U=>nofun),?_⟩
   walk_at "d"
   refine .at ?_ λU k=>k _ _
   rw[O18,bU1 hf nfa,O18,g6 hr0,cV5 (l₁:=rs.take j),<-cW2,cV5 (l₂:=[row].map (as2 c))];rfl
  ·intro v5 v6
   rw[O18,show(P9 0 (rs.length:Int)).length=rs.length by simp [P9],cY5]
   walk_at "n"
   refine .at ?_ λU k=>k _ _ _ _ _ _
   rw[g6 hx,de5]
   show _=c7 own a (some (.list (((cd.take i).flatMap ai2++(rs.map (as2 c)++[])).map .bytes)))
   rw[cW6]
 ·intro v1 v2 v3 v4 v5 v6
  rw[hz,cY5]
  walk_at "d"
  walk_at "n"
  refine⟨rfl,Q5 (.inr (.at_own (b5 _ _ _))) ?_ ?_⟩
  ·refine cV2 (y5 (k:=602) λx hx=>?_) (cV2 (cY3 _ (cV2 (V2 (N:=50) λq hq=>(co.row q hq).1) (cY3 50 co.len))) (by decide))
   obtain⟨q,hq,hx⟩:=dc8.mp hx
   rcases cV6.mp hx with⟨r,hr,rfl⟩
   unfold as2
   rw[cV4]
   exact cY7 (ak4 ((co.row q hq).2 r hr)) 2
  walk_at "d";repeat with_reducible apply bn4
  exact bR2 (bo7 (Sub.refl _) ha0) hQ
end
end
section
variable {own:b9}
noncomputable def m6 (own:b9):List (Addr×O)->b9
 | []=>own
 | (a,o)::r=>c7 (m6 own r) a (some o)
theorem ba4:m6 own (p::r)=c7 (m6 own r) p.1 (some p.2):=rfl
section
variable {a:Addr} {o o':O} {L L1 L2:List (Addr×O)}
theorem ae4 (h:∀p∈L,p.1≠a):m6 own L a=own a:=by
 induction L with
 | nil=>rfl
 | cons p r ih=>
  have h:=cX1.mp h
  exact(b7 (Ne.symm h.1)).trans (ih h.2)
theorem aP7 (h:∀p∈L1,p.1≠a):m6 own (L1++(a,o)::L2) a=some o/\c7 (m6 own (L1++(a,o)::L2)) a (some o')=m6 own (L1++(a,o')::L2):=by
 induction L1 with
 | nil=>exact⟨b5 _ _ _,c5 _ _ _ _⟩
 | cons p r ih=>
  have h:=cX1.mp h
  exact⟨(b7 (Ne.symm h.1)).trans (ih h.2).1,(n9 _ _ _ h.1).trans (congrArg (λz=>c7 z p.1 (some p.2)) (ih h.2).2)⟩
theorem O3 (h:m6 own L a=none):own a=none/\∀p∈L,p.1≠a:=by
 induction L with
 | nil=>exact⟨h,λU h=>nomatch h⟩
 | cons p r ih=>
  have ne:a≠p.1:=λq=>by subst q;rw[ba4,b5] at h;cases h
  rw[ba4,b7 ne] at h
  exact⟨(ih h).1,cX1.mpr ⟨Ne.symm ne,(ih h).2⟩⟩
theorem bp1 (h:∀p∈L,p.1≠a):m6 own (L++[(a,o)])=c7 (m6 own L) a (some o):=by
 induction L with
 | nil=>rfl
 | cons p r ih=>
  have h:=cX1.mp h
  exact(congrArg (λz=>c7 z p.1 (some p.2)) (ih h.2)).trans (n9 _ _ _ (Ne.symm h.1))
theorem aP8 (nf:∀p∈L,∀e l,p.2≠.frame e l) (hn:∀p∈L,own p.1=none):Sub own (m6 own L):=by
 induction L with
 | nil=>exact Sub.refl _
 | cons p r ih=>exact(ih (λq hq=>nf q (.tail _ hq)) λq hq=>hn q (.tail _ hq)).upd (hn p (.head _)) (nf p (.head _))
end
noncomputable def has (t:Fol) (s:Str):Bool:=(G3 t s).isSome
noncomputable def ba5 (t:Fol) (s:Str) (ns:List Nat):Bool:=!A5.contains s || (has t s || decide (ns=[]))
noncomputable def aA1 (t:Fol) (s:Str) (ns:List Nat):Bool:=(([("C":Str),"S"]).contains s&&!decide (ns.length=1)) || ((decide (s="C")&&!t.isEmpty) || has t "C")
noncomputable def excF (t:Fol) (s:Str):Bool:=decide (s="T")&&(has t "C"&&decide (t.length=1))
noncomputable def F6 (t:Fol) (s:Str) (ns:List Nat):Bool:=!ba5 t s ns&&(!aA1 t s ns || excF t s)
noncomputable def C7:FD->Nat->Fol
 | [],_=>[]
 | (k,t)::r,c=>if k=c then t else C7 r c
noncomputable def aw6:FD->Nat->Str×List Nat->FD
 | [],c,x=>[(c,[x])]
 | (k,t)::r,c,x=>if k=c then(k,t++[x])::r else(k,t)::aw6 r c x
noncomputable def R0:s6->Option (Nat×Str×List Nat)
 | [a,b,d]=>(z7 a).bind λc=>if∀x∈b,x.toNat<128 then(u6 d).map λns=>(c,x5 b,ns) else none
 | _=>none
theorem as5 {a b d:List UInt8}:R0 [a,b,d]=(z7 a).bind λc=>if∀x∈b,x.toNat<128 then(u6 d).map λns=>(c,x5 b,ns) else none:=rfl
noncomputable def C5:List (Nat×s6)->FD->Except Nat FD
 | [],fs=>.ok fs
 | r::rs,fs=>match R0 r.2 with
  | none=>.error r.1
  | some (c,s,ns)=>if F6 (C7 fs c) s ns=true then C5 rs (aw6 fs c (s,ns)) else .error r.1
noncomputable def O4 (b:List UInt8):Except Nat FD:=match q7 3 3 b with
 | .error n=>.error n
 | .ok rows=>C5 rows []
theorem bp2 (h:x∈w9 least f):x∈f:=by
 unfold w9 at h
 split at h
 ·exact List.dropLast_subset _ h
 ·exact h
theorem bU6:∀{acc out:List (Nat×s6)},J8 least most rs acc=.ok out->(∀r∈rs,∀f∈r.2.1,f.length<=N)->(∀x∈acc,(least<=x.2.length/\x.2.length<=most)/\∀f∈x.2,f.length<=N)->∀x∈out,(least<=x.2.length/\x.2.length<=most)/\∀f∈x.2,f.length<=N:=by
 induction rs with
 | nil=>intro acc out h _ ha;cases h;exact ha
 | cons r rs ih=>
  intro acc out h hr ha
  rw[ar4] at h
  by_cases q:least<=(w9 least r.2.1).length/\(w9 least r.2.1).length<=most
  ·rw[if_pos q] at h
   refine ih h (λx hx=>hr x (.tail _ hx)) λx hx=>(cW9.mp hx).elim (ha x) λe=>?_
   rw[cV8.mp e]
   exact⟨q,λf hf=>hr r (.head _) f (bp2 hf)⟩
  ·rw[if_neg q] at h;cases h
theorem as6 (h:q7 least most b=.ok out):∀x∈out,(least<=x.2.length/\x.2.length<=most)/\∀f∈x.2,f.length<=b.length:=bU6 h (λr hr=>(bg2 hr).2) λU h=>nomatch h
abbrev FT:=List (Nat×Addr×Fol)
noncomputable def tV (t:Fol):List (Str×V):=t.map λq=>(q.1,D9 q.2)
noncomputable def fsT (T:FT):FD:=T.map λx=>(x.1,x.2.2)
noncomputable def H7 (T:FT):List (Int×V):=T.map λx=>((x.1:Int),.ref x.2.1)
noncomputable def chT (T:FT):List (Addr×O):=T.map λx=>(x.2.1,.dictS (tV x.2.2))
noncomputable def frT (T:FT):List (Int×V):=T.map λx=>((x.1:Int),E5 x.2.2)
structure TOk (own:b9) (a:Addr) (N:Nat) (T:FT):Prop where
 nd:(T.map (·.2.1)).Nodup
 cd:(T.map (·.1)).Nodup
 fr:∀x∈T,own x.2.1=none/\x.2.1≠a
 ln:∀x∈T,x.2.2.length<=N
theorem ck5 (c:Nat) (x:Str×List Nat) (T:FT):(C7 (fsT T) c=[]/\k7 (H7 T) (c:Int)=none/\c∉T.map (·.1)/\aw6 (fsT T) c x=fsT T++[(c,[x])])\/
  ∃T1 d t T2,T=T1++(c,d,t)::T2/\C7 (fsT T) c=t/\k7 (H7 T) (c:Int)=some (.ref d)/\aw6 (fsT T) c x=fsT (T1++(c,d,t++[x])::T2):=by
 induction T with
 | nil=>exact .inl ⟨rfl,rfl,(λh=>nomatch h),rfl⟩
 | cons q r ih=>
  obtain⟨k,d,t⟩:=q
  have lk:k7 (H7 ((k,d,t)::r)) (c:Int)=if(k:Int)=c then some (.ref d) else k7 (H7 r) (c:Int):=s9 _ _ _ _
  by_cases e:k=c
  ·subst e
   exact .inr ⟨[],d,t,r,rfl,if_pos rfl,lk.trans (if_pos rfl),if_pos rfl⟩
  ·have lk:=lk.trans (if_neg λq=>e (Int.ofNat.inj q))
   have e1:C7 (fsT ((k,d,t)::r)) c=C7 (fsT r) c:=if_neg e
   have e2:aw6 (fsT ((k,d,t)::r)) c x=(k,t)::aw6 (fsT r) c x:=if_neg e
   rcases ih with⟨h1,h2,h3,h4⟩ | ⟨T1,d',t',T2,h1,h2,h3,h4⟩
   ·exact .inl ⟨e1.trans h1,lk.trans h2,λq=>(cW1.mp q).elim (λq=>e q.symm) h3,e2.trans (congrArg _ h4)⟩
   ·exact .inr ⟨(k,d,t)::T1,d',t',T2,congrArg _ h1,e1.trans h2,lk.trans h3,e2.trans (congrArg _ h4)⟩
theorem cz6 (K0:T6):∀{F:List (Int×V)},TOk own a N T->(∀p∈F,∀d W,S8 d W p.2=p.2)->Gho (c7 (m6 own (chT T)) a (some (.dictI (F++H7 T)))) (c7 own a (some (.dictI (F++frT T)))):=by
 induction T with
 | nil=>exactλU U=>Gho.refl _
 | cons q r ih=>
  intro F ok hF
  obtain⟨c,d,t⟩:=q
  rcases(cY9.mp (show(d::r.map (·.2.1)).Nodup from ok.nd)) with⟨n1,n2⟩
  rcases(cY9.mp (show(c::r.map (·.1)).Nodup from ok.cd)) with⟨m1,m2⟩
  rcases ok.fr _ (.head _) with⟨hd,da⟩
  have hH:m6 own (chT r) d=none:=(ae4 λp hp=>by
   rcases cV6.mp hp with⟨x,hx,rfl⟩
   exactλe=>n1 (by rw[<-show x.2.1=d from e];exact cW4 hx)).trans hd
  have step:=Gho.frz (a:=a) (d:=d) (W:=E5 t) (es:=F++H7 ((c,d,t)::r)) (o:=c7 (m6 own (chT ((c,d,t)::r))) a (some (.dictI (F++H7 ((c,d,t)::r))))) K0 (.inr ⟨d,tV t,rfl,(b7 da).trans (b5 _ _ _),rfl,rfl⟩) (b5 _ _ _) da
  have e1:(F++H7 ((c,d,t)::r)).map (λp=>(p.1,S8 d (E5 t) p.2))=(F++[((c:Int),E5 t)])++H7 r:=by
   rw[cV5,cW2]
   congr 1
   ·exact(cZ1 (g:=_root_.id) λp hp=>show(p.1,S8 d (E5 t) p.2)=p by rw[hF p hp]).trans (de1 _)
   ·show((c:Int),S8 d (E5 t) (.ref d))::(H7 r).map _=((c:Int),E5 t)::H7 r
    rw[S8,if_pos rfl]
    refine congrArg _ ((cZ1 (g:=_root_.id) λp hp=>?_).trans (de1 _))
    rcases cV6.mp hp with⟨x,hx,rfl⟩
    exact congrArg (λz=>((x.1:Int),z)) (if_neg λe=>n1 (by rw[<-show x.2.1=d from e];exact cW4 hx))
  have e2:∀A B:Option O,c7 (c7 (c7 (c7 (m6 own (chT r)) d (some (.dictS (tV t)))) a A) d none) a B=c7 (m6 own (chT r)) a B:=λA B=>by
   rw[n9 (c7 (m6 own (chT r)) d _) A none (Ne.symm da),c5 _ d,d9 hH,c5]
  rw[e1] at step
  have ih:=ih (F:=F++[((c:Int),E5 t)]) ⟨n2,m2,λx hx=>ok.fr x (.tail _ hx),λx hx=>ok.ln x (.tail _ hx)⟩ (λp hp d W=>(cW9.mp hp).elim (λq=>hF p q d W) λq=>by rw[cV8.mp q];rfl)
  rw[cW2 F _ (frT r)] at ih
  exact step.trans ((e2 _ _)▸ih)
end
section
variable {own:b9}
theorem bF8 (hQ:Q (.bool (decide (ns=[]))) own):f7 .Eq (D9 ns) (.tup []) own Q:=λU U U=>by
 rw[<-of0,show D9 ns=ofD (.tuple (ns.map λ(n:Nat)=>.int n)) by simp only[D9,ap5,N1,cW0];rfl]
 refine aW2 (by rw[PyData.canLay0];exact aP6 ns) ba3 (bU5 _) ?_
 rw[PyData.eqv]
 cases ns with
 | nil=>rw[dc9,PyData.eqvAll];exact hQ
 | cons w r=>rw[cX3,PyData.eqvAll];exact hQ
theorem aA2 (K0:T6) {T:Type} [DecidableEq T] [DK T] {k:T} {es:List (T×V)} {x y:V} {o1:b9} {Q:V->b9->Prop} {a:Addr} (ha:own a=some (DK.mkO es)) (hz:es.length<=sizeLine)
  (h:(k7 es k=some y/\o1=own)\/(k7 es k=none/\y=x/\o1=c7 own a (some (DK.mkO (es++[(k,x)]))))) (hQ:Q y o1):l0 (.builtin "dict.setdefault") [.ref a,DK.mkV k,x] own Q:=by
 refine bF5 K0 ha hz ?_
 rcases h with⟨h,rfl⟩ | ⟨h,rfl,rfl⟩
 ·exact .inl ⟨y,h,hQ⟩
 ·exact .inr ⟨h,hQ⟩
noncomputable def StT (own:b9) (a:Addr) (T:FT):b9:=c7 (m6 own (chT T)) a (some (.dictI (H7 T)))
theorem aG4 (T1 T2:FT) (c:Nat) (d:Addr) (t:Fol):chT (T1++(c,d,t)::T2)=chT T1++(d,.dictS (tV t))::chT T2:=by rw[chT,cV5];rfl
theorem bF9 (T1 T2:FT) (c:Nat) (d:Addr) (t t':Fol):H7 (T1++(c,d,t)::T2)=H7 (T1++(c,d,t')::T2):=by rw[H7,H7,cV5,cV5];rfl
section
variable {a:Addr} {N:Nat} {T:FT}
theorem TOk.sub (ok:TOk own a N T) (ha:own a=none):Sub own (StT own a T):=(aP8 (λp hp=>by
  obtain⟨x,_,rfl⟩:=cV6.mp hp;exactλU U=>nofun) λp hp=>by
  obtain⟨x,hx,rfl⟩:=cV6.mp hp;exact(ok.fr x hx).1).upd ha λU U=>nofun
theorem TOk.mid (ok:TOk own a N (T1++(c,d,t)::T2)):StT own a (T1++(c,d,t)::T2) d=some (.dictS (tV t))/\c7 (StT own a (T1++(c,d,t)::T2)) d (some (.dictS (tV t')))=StT own a (T1++(c,d,t')::T2):=by
 have da:=(ok.fr (c,d,t) (cW5 _ (.head _))).2
 have nd:=ok.nd
 rw[cV5,da2] at nd
 have hm:=aP7 (own:=own) (a:=d) (o:=.dictS (tV t)) (o':=.dictS (tV t')) (L1:=chT T1) (L2:=chT T2) λp hp=>by
  rcases cV6.mp hp with⟨x,hx,rfl⟩
  exact nd.2.2 _ (cW4 hx) _ (.head _)
 unfold StT
 rw[aG4,aG4,bF9 T1 T2 c d t' t]
 exact⟨(b7 da).trans hm.1,(n9 _ _ _ (Ne.symm da)).trans (congrArg (λz=>c7 z a _) hm.2)⟩
theorem TOk.put (ok:TOk own a N (T1++(c,d,t)::T2)):TOk own a (N+1) (T1++(c,d,t++[x])::T2):=by
 have e1:(T1++(c,d,t++[x])::T2).map (·.2.1)=(T1++(c,d,t)::T2).map (·.2.1):=by rw[cV5,cV5];rfl
 have e2:(T1++(c,d,t++[x])::T2).map (·.1)=(T1++(c,d,t)::T2).map (·.1):=by rw[cV5,cV5];rfl
 have mid:=cW5 T1 (List.Mem.head (a:=(c,d,t)) T2)
 have all:∀y∈T1++(c,d,t++[x])::T2,y=(c,d,t++[x])\/y∈T1++(c,d,t)::T2:=λy hy=>(cW9.mp hy).elim (λh=>.inr (cX2 _ h)) λh=>(cW1.mp h).imp _root_.id λh=>cW5 _ (.tail _ h)
 refine⟨e1▸ok.nd,e2▸ok.cd,λy hy=>?_,λy hy=>?_⟩
 ·rcases all y hy with rfl | h
  ·exact show own d=none/\d≠a from ok.fr (c,d,t) mid
  ·exact ok.fr y h
 ·rcases all y hy with rfl | h
  ·show(t++[x]).length<=_
   rw[cV4];exact cW3 (ok.ln _ mid)
  ·exact cZ6 (ok.ln y h)
theorem TOk.find (ok:TOk own a N T) (c:Nat) (x:Str×List Nat) (he:StT own a T e=none):∃T1 d t T2 o1,
  ((k7 (H7 T) (c:Int)=some (.ref d)/\o1=c7 (StT own a T) e (some (.dictS [])))\/(k7 (H7 T) (c:Int)=none/\V.ref d=.ref e/\o1=c7 (c7 (StT own a T) e (some (.dictS []))) a (some (.dictI (H7 T++[((c:Int),.ref e)])))))/\
  Gho o1 (StT own a (T1++(c,d,t)::T2))/\TOk own a N (T1++(c,d,t)::T2)/\(T1++(c,d,t)::T2).length<=T.length+1/\C7 (fsT T) c=t/\aw6 (fsT T) c x=fsT (T1++(c,d,t++[x])::T2):=by
 have ea:e≠a:=λq=>by rw[q,StT,b5] at he;cases he
 have he':=he
 rw[StT,b7 ea] at he'
 rcases O3 he' with⟨h1,h2⟩
 rcases ck5 c x T with⟨f1,f2,f3,f4⟩ | ⟨T1,d,t,T2,rfl,f1,f2,f3⟩
 ·refine⟨T,e,[],[],_,.inr ⟨f2,rfl,rfl⟩,?_,?_,by rw[cV4];exact cX5 _,f1,by rw[f4,fsT,fsT,cV5];rfl⟩
  ·have:StT own a (T++[(c,e,[])])=c7 (c7 (StT own a T) e (some (.dictS []))) a (some (.dictI (H7 T++[((c:Int),.ref e)]))):=by
    unfold StT
    rw[aG4,n9 _ _ _ (Ne.symm ea),c5]
    show c7 (m6 own (chT T++[(e,.dictS [])])) a _=_
    rw[bp1 h2,H7,H7,cV5];rfl
   rw[this];exact Gho.refl _
  ·refine⟨?_,?_,λy hy=>(cW9.mp hy).elim (ok.fr y) λh=>by rw[cV8.mp h];exact⟨h1,ea⟩,λy hy=>(cW9.mp hy).elim (ok.ln y) λh=>by rw[cV8.mp h];exact cZ2 _⟩
   ·rw[cV5,da2]
    refine⟨ok.nd,.cons (λU h=>nomatch h) .nil,λy hy z hz q=>?_⟩
    rw[cV8.mp hz] at q
    rcases cV6.mp hy with⟨w,hw,rfl⟩
    exact h2 (w.2.1,.dictS (tV w.2.2)) (cW4 (f:=λx:Nat×Addr×Fol=>(x.2.1,O.dictS (tV x.2.2))) hw) q
   ·rw[cV5,da2]
    exact⟨ok.cd,.cons (λU h=>nomatch h) .nil,λy hy z hz q=>f3 ((show y=c from q.trans (cV8.mp hz))▸hy)⟩
 ·refine⟨T1,d,t,T2,_,.inl ⟨f2,rfl⟩,?_,ok,db7 _,f1,f3⟩
  have:=Gho.drop (o:=c7 (StT own a (T1++(c,d,t)::T2)) e (some (.dictS []))) (b5 _ _ _) λU U=>nofun
  rwa [c5,d9 he] at this
end
end
section
variable {own:b9}
theorem cM2 {o' o:b9} {a:Addr} {es:List (Int×V)} (h:Sub o' o) (ha:o' a=none):Sub o' (c7 o a (some (.dictI es))):=h.upd ha λU U=>nofun
theorem aG5 {t:Fol} {s:Str}:(k7 (tV t) s).isSome=has t s:=by rw[tV,W6,Option.isSome_map];rfl
theorem ck6 {t:Fol} {s:Str} {ns:List Nat} (h:has t s=false):put (tV t) s (D9 ns)=tV (t++[(s,ns)]):=by
 rw[aC9 (by rw[tV,W6];unfold has at h;cases e:G3 t s with | none=>rfl | some _=>rw[e] at h;cases h),tV,tV,cV5];rfl
theorem bg8 {n:Nat}:decide ((n:Int)=1)=decide (n=1):=decide_eq_decide.mpr (by lia)
theorem aP9 {ps:List (List UInt8)}:∀{acc out:List Nat},C4 ps acc=some out->out.length<=acc.length+ps.length:=by
 induction ps with
 | nil=>intro _ _ h;cases h;exact cX5 _
 | cons p r ih=>
  intro acc out h
  rw[bn8] at h
  by_cases q:p=[]
  ·rw[if_pos q] at h;exact cV2 (ih h) (da0 (db7 _) _)
  ·rw[if_neg q] at h
   refine(dd1.mp h).elim λn h=>cV2 (ih h.2) (de8 ?_)
   rw[cV4,de7,dd0 [_].length];rfl
theorem ck7 {b:List UInt8} {ns:List Nat} (f:List UInt8) (h1:f.length<=b.length) (hz:b.length<sizeLine) (h:u6 f=some ns):(ns.map nV).length<2 ^ 63:=by
 have h2:=aP9 h
 have h3:=r4 32 f
 rw[cV3]
 exact cV9 (cV2 h2 (by rw[dh5,db2];exact cV2 h3 (cV2 (cW3 h1) hz))) (by decide)
theorem bG0 {c:Nat} {T:FT} (h:c∈(fsT T).map (·.1)):k7 (frT T) (c:Int)=some (E5 (C7 (fsT T) c)):=by
 induction T with
 | nil=>cases h
 | cons q r ih=>
  obtain⟨k,d,t⟩:=q
  have e1:k7 (frT ((k,d,t)::r)) (c:Int)=if(k:Int)=c then some (E5 t) else k7 (frT r) (c:Int):=s9 _ _ _ _
  by_cases e:k=c
  ·exact e1.trans ((if_pos (congrArg _ e)).trans (congrArg (λz=>some (E5 z)) (if_pos e).symm))
  ·refine e1.trans ((if_neg λq:(k:Int)=c=>e (Int.ofNat.inj q)).trans ((ih ((cW1.mp h).resolve_left λq=>e q.symm)).trans ?_))
   exact congrArg (λz=>some (E5 z)) (if_neg e).symm
theorem bG1 {fs:FD} (h:(fs.map (·.1)).Nodup):∀q∈fs,C7 fs q.1=q.2:=by
 induction fs with
 | nil=>exactλU h=>nomatch h
 | cons p r ih=>
  intro q hq
  rcases cY9.mp h with⟨h1,h2⟩
  rcases cW1.mp hq with rfl | hq
  ·exact if_pos rfl
  ·exact(if_neg λe:p.1=q.1=>h1 (cV6.mpr ⟨q,hq,e.symm⟩)).trans (ih h2 q hq)
theorem bp4 {fs:FD} {ns:List Int} (cd:(fs.map (·.1)).Nodup) (hp:ns.Perm (fs.map λq=>(q.1:Int))) (hs:ns.Pairwise (·<=·)) (gap:∀x∈fs,∀y∈fs,x.1<y.1->x.1+2<=y.1):
  (ns.map λn=>(n.toNat,C7 fs n.toNat)).Perm fs/\Asc (B2 (ns.map λn=>(n.toNat,C7 fs n.toNat))):=by
 constructor
 ·have:=hp.map λn=>(n.toNat,C7 fs n.toNat)
  rw[cW0] at this
  refine this.trans (List.Perm.of_eq ?_)
  exact(cZ1 (g:=_root_.id) λq hq=>show((q.1:Int).toNat,C7 fs (q.1:Int).toNat)=q by rw[db8,bG1 cd q hq]).trans (de1 _)
 ·have nd:ns.Nodup:=hp.nodup_iff.mpr (by
   rw[show(fs.map λq=>(q.1:Int))=(fs.map (·.1)).map λ(n:Nat)=>(n:Int) by rw[cW0];rfl]
   exact dl4.map _ (λa b h e=>h (Int.ofNat.inj e)) cd)
  rw[Asc,B2,cW0,da3]
  refine(hs.and nd).imp_of_mem λ{a b} ha hb ⟨h1,h2⟩=>?_
  rcases cV6.mp (hp.mem_iff.mp ha) with⟨x,hx,rfl⟩
  rcases cV6.mp (hp.mem_iff.mp hb) with⟨y,hy,rfl⟩
  exact gap x hx y hy (by lia)
noncomputable def cc2 (fs:FD):V->V
 | .int n=>L3 n n (E5 (C7 fs n.toNat))
 | _=>.none
theorem bp5 {fs:FD} {ns:List Int} (h:∀n∈ns,0<=n):ns.map (λn=>cc2 fs (.int n))=(B2 (ns.map λn=>(n.toNat,C7 fs n.toNat))).map λq=>L3 q.1 q.1 q.2:=by
 rw[B2,cW0,cW0]
 exact cZ1 λn hn=>by show L3 n n _=L3 (n.toNat:Int) (n.toNat:Int) _;rw[Int.toNat_of_nonneg (h n hn)]
noncomputable def J21 (b:List UInt8) (p a:Addr) (own:b9) (rows:List (Nat×s6)) (i:Nat):LP:=λX=>∀T,C5 (rows.drop i) (fsT T)=C5 rows []->TOk own a i T->T.length<=i->∀v1 v2 v3 v4 v5 v6,X [some (.bytes b),some (.ref p),some (.ref a),v1,v2,v3,v4,v5,v6] (StT own a T)
noncomputable def cM3 (b:List UInt8) (p a:Addr) (o:b9) (ok:Bool) (n:Nat) (fl:List (List UInt8)) (c:Nat) (s:Str) (ns:List Nat) (d:Addr):LP:=λX=>ok=true->X [some (.bytes b),some (.ref p),some (.ref a),some (.int (n:Nat)),some (.lst (fl.map .bytes)),some (.int c),some (.str s),some (D9 ns),some (.ref d)] o
theorem Y4 (W:Ok) {p am:Addr} {ms:List (Str×V)} {b:List UInt8} {Q:V->b9->Prop} {EX:XC} (hp:own p=some (u7 am)) (ha:own am=some (.dictS ms)) (hz:b.length<sizeLine)
  (hr:∀rows,q7 3 3 b=.ok rows->rows.length<60)
  (hok:∀fs,O4 b=.ok fs->ms.length<=1000/\k7 ms "cf"=none/\fs≠[]/\(∀q∈fs,1<=q.1/\q.1<1114111)/\∀x∈fs,∀y∈fs,x.1<y.1->x.1+2<=y.1)
  (hQ:∀fs fd,O4 b=.ok fs->fd.Perm fs->Asc (B2 fd)->∀m,own m=none->Q .none (c7 (c7 own m (some (X4 .none (B2 fd)))) am (some (.dictS (ms++[(("cf":Str),.ref m)])))))
  (hE:∀n,O4 b=.error n->EX (fa 8) (.int (n:Nat)) own):A7 7 29 [.bytes b,.ref p] own Q EX:=by
 refine e8 (ns:=["octets","data","folds","number","fields","code","status","codes","told"]) (others:=["folds","number","fields","code","status","codes","told"]) W rfl rfl rfl
  (Den_cons (Den_asg (.s (.s .z)) rfl (N4 Int) rfl)
  (Den_cons (i6 (c4 22 27 rfl rfl rfl (a6 (a9 .z rfl) (a6 b8 (a6 b8 a8 rfl) rfl) rfl)) (o6 (c8 (c0 (.s (.s (.s .z))) rfl) (c8 (c0 (.s (.s (.s (.s .z)))) rfl) k8 rfl) rfl)) (Den_cons (Den_swap [(.s (.s (.s (.s (.s .z))))),(.s (.s (.s (.s (.s (.s .z))))))] rfl (by with_unfolding_all rfl) rfl (d7 (a6 (c4 17 21 rfl rfl rfl (a6 (d5 (a9 (.s (.s (.s (.s .z)))) rfl) b8 rfl) (a6 (a9 (.s (.s (.s .z))) rfl) a8 rfl) rfl)) (a6 (c4 19 23 rfl rfl rfl (a6 (d5 (a9 (.s (.s (.s (.s .z)))) rfl) b8 rfl) (a6 (a9 (.s (.s (.s .z))) rfl) a8 rfl) rfl)) a8 rfl) rfl)))
  (Den_cons (Den_asg (.s (.s (.s (.s (.s (.s (.s .z))))))) rfl (c4 18 22 rfl rfl rfl (a6 (d5 (a9 (.s (.s (.s (.s .z)))) rfl) b8 rfl) (a6 (a9 (.s (.s (.s .z))) rfl) a8 rfl) rfl)) rfl)
  (Den_cons (Den_asg (.s (.s (.s (.s (.s (.s (.s (.s .z)))))))) rfl (e7 F.plainAttrs_dict F.slot_dict_setdefault F.type_dict_setdefault rfl rfl rfl (a9 (.s (.s .z)) rfl) (a6 (a9 (.s (.s (.s (.s (.s .z))))) rfl) (a6 (N4 Str) a8 rfl) rfl)) rfl)
  (Q6<|Den_cons (i8 (j3 (m7 (H5 (c6 (a9 (.s (.s (.s (.s (.s (.s .z)))))) rfl) (x6 20 rfl rfl) rfl) (H5 (c6 (a9 (.s (.s (.s (.s (.s (.s .z)))))) rfl) (a9 (.s (.s (.s (.s (.s (.s (.s (.s .z)))))))) rfl) rfl) (J1 (c6 (a9 (.s (.s (.s (.s (.s (.s (.s .z))))))) rfl) (d7 a8) rfl)))))) (Den_cons (w8 5 8 rfl (by decide) rfl rfl (a9 (.s (.s (.s .z))) rfl))
  b6) b6)
  (Den_cons (W2 (j3 (m7 (H5 (j3 (m7 (y2 (c6 (a9 (.s (.s (.s (.s (.s (.s .z)))))) rfl) (d7 (a6 d0 (a6 d0 a8 rfl) rfl)) rfl) (w7 (c6 (j5 67 rfl rfl (a6 (a9 (.s (.s (.s (.s (.s (.s (.s .z))))))) rfl) a8 rfl)) b8 rfl))))) (H5 (j3 (m7 (y2 (c6 (a9 (.s (.s (.s (.s (.s (.s .z)))))) rfl) d0 rfl) (w7 (c6 (a9 (.s (.s (.s (.s (.s (.s (.s (.s .z)))))))) rfl) aq3 rfl))))) (J1 (c6 d0 (a9 (.s (.s (.s (.s (.s (.s (.s (.s .z)))))))) rfl) rfl)))))) (Den_cons (i8 (C0 (j3 (m7 (y2 (c6 (a9 (.s (.s (.s (.s (.s (.s .z)))))) rfl) d0 rfl) (y2 (c6 d0 (a9 (.s (.s (.s (.s (.s (.s (.s (.s .z)))))))) rfl) rfl) (w7 (c6 (j5 67 rfl rfl (a6 (a9 (.s (.s (.s (.s (.s (.s (.s (.s .z)))))))) rfl) a8 rfl)) b8 rfl))))))) (Den_cons (w8 5 8 rfl (by decide) rfl rfl (a9 (.s (.s (.s .z))) rfl))
  b6) b6)
  b6) b6)
  (Den_cons (m5 (by with_unfolding_all rfl) rfl (λU U=>rfl) (E2 (a9 (.s (.s (.s (.s (.s (.s (.s (.s .z)))))))) rfl) (a9 (.s (.s (.s (.s (.s (.s .z)))))) rfl)) (a9 (.s (.s (.s (.s (.s (.s (.s .z))))))) rfl))
  b6)))))) b6 (λU U=>rfl))
  (Q6<|Den_cons (l9 (c4 23 28 rfl rfl rfl (a6 (a9 (.s .z) rfl) (a6 d0 (a6 (j8 ["code"] rfl (λU U=>rfl) (j5 71 rfl rfl (a6 (a9 (.s (.s .z)) rfl) a8 rfl)) (c0 .z rfl) n7 (d7 (a6 (a9 .z rfl) (a6 (a9 .z rfl) (a6 (d5 (B1 (.s (.s .z)) rfl rfl) (a9 .z rfl) rfl) a8 rfl) rfl) rfl))) a8 rfl) rfl) rfl)) rfl)
  b6))) ?_
 walk_at "d"
 intro a ha0
 have hS0:Sub own (c7 own a (some (.dictI []))):=(Sub.refl own).upd ha0 λU U=>nofun
 walk_at "n"
 refine⟨3,rfl,R7 W (least:=3) (most:=3) hz (λrows hrows=>?_) λn hn=>?_⟩
 ·have eR:O4 b=C5 rows []:=by rw[O4,hrows]
  have fit:=as6 hrows
  replace hr:=hr rows hrows
  rw[eR] at hok hE hQ
  refine ad4 (J21 b p a own rows) m9 (λU k=>k [] rfl ⟨.nil,.nil,(λU h=>nomatch h),λU h=>nomatch h⟩ (cX5 _) _ _ _ _ _ _) ?_ ?_
  ·rintro i ⟨n,fl⟩ hx T hT ok hl v1 v2 v3 v4 v5 v6 -
   have hi:i<rows.length:=(cX4.mp hx).1
   have F:=fit _ (cW7 hx)
   obtain⟨f0,f1,f2,rfl⟩:=bR4 (dg6 F.1.2 F.1.1)
   have hf:=F.2
   have hf0:=hf f0 (.head _)
   have hf1:=hf f1 (.tail _ (.head _))
   have hf2:=hf f2 (.tail _ (.tail _ (.head _)))
   rw[I0 hx,C5] at hT
   have raise:∀{T':FT} {N:Nat},TOk own a N T'->C5 rows []=.error n->aN3 EX (fa 8) (.int (n:Nat)) [] (StT own a T'):=λok' h=>aj9 (ok'.sub ha0) (hE n h)
   unfold bE6
   walk_at "d"
   refine⟨rfl,W3 (x:=.bytes f0) .lst (by decide) (by decide) rfl ⟨4,rfl,J7 W (cV2 hf0 (cY0 hz)) (λc hc=>?_) λhc=>raise ok (by rw[<-hT,as5,hc];rfl)⟩⟩
   refine W3 (x:=.bytes f1) .lst (by decide) (by decide) rfl ⟨4,rfl,U5 W (cV2 hf1 (cY0 hz)) (λhA=>?_) λ⟨x,hx,q⟩=>raise ok (by rw[<-hT,as5,hc,dc5,if_neg λh=>q (h x hx)])⟩
   refine⟨sz rfl,rfl,?_⟩
   walk_at "n"
   refine W3 (x:=.bytes f2) .lst (by decide) (by decide) rfl ⟨5,rfl,R6 W (cV9 hf2 hz) (λns hns=>?_) λhns=>raise ok (by rw[<-hT,as5,hc,dc5,if_pos hA,hns];rfl)⟩
   have hrow:R0 [f0,f1,f2]=some (c,x5 f1,ns):=by rw[as5,hc,dc5,if_pos hA,hns];rfl
   rw[hrow] at hT
   have sOk:=aF9 (b:=f1)
   generalize x5 f1=s at hT sOk ⊢
   walk_at "n"
   refine⟨(A1.at_own (K:=Int) (es:=H7 T) (b5 _ _ _)).ty,λe he=>?_⟩
   have ea:e≠a:=λq=>by rw[q,StT,b5] at he;cases he
   obtain⟨T1,d,t,T2,o1,hdis,gh,ok',hl',hg,hadd⟩:=ok.find c (s,ns) he
   refine aA2 W.ok (k:=(c:Int)) ((b7 (Ne.symm ea)).trans (b5 _ _ _)) ?_ hdis ?_
   ·rw[H7,cV3];exact cV2 hl (cV2 (cY0 (cZ9 hi hr)) (by decide))
   walk_at "n"
   refine⟨_,gh,?_⟩
   simp only at hT
   rw[hg,hadd] at hT
   have hd:=ok'.mid (t':=t++[(s,ns)])
   have tl:t.length<=i:=ok'.ln (c,d,t) (cW5 _ (.head _))
   have t100:(tV t).length<1000:=by rw[tV,cV3];exact cV9 tl (cZ9 hi (cZ9 hr (by decide)))
   refine⟨ba5 t s ns,bE9 (ws:=A5) sOk (by decide +kernel) ?_,r7 (λh=>raise ok' (by rw[<-hT,F6,h];rfl)) λh=>?_⟩
   ·walk_at "d"
    refine r7 (λh=>⟨by rw[ba5,h];rfl,rfl⟩) λh=>aP1 (k:=s) W.ok (.at_own hd.1) ?_
    rw[aG5]
    walk_at "d"
    refine r7 (λh2=>⟨by rw[ba5,h,h2];rfl,rfl⟩) λh2=>⟨sz rfl,bF8 ?_⟩
    exact⟨by rw[ba5,h,h2];rfl,rfl⟩
   walk_at "n"
   refine ar0 (cM3 b p a (StT own a (T1++(c,d,t)::T2)) (F6 t s ns) n [f0,f1,f2] c s ns d) ⟨aA1 t s ns,?_,r7 (λh2=>?_) λh2=>?_⟩ ?_
   ·refine⟨([("C":Str),"S"]).contains s&&!decide (ns.length=1),?_,r7 (λh1=>⟨by rw[aA1,h1];rfl,rfl⟩) λh1=>?_⟩
    ·refine⟨sz rfl,cb3 (ws:=["C","S"]) sOk (by decide +kernel) ?_⟩
     walk_at "d"
     refine r7 (λh3=>bC5 (ck7 f2 hf2 hz hns) ?_) λh3=>⟨by rw[h3];rfl,rfl⟩
     rw[cV3,h3]
     walk_at "d"
     exact⟨by rw[bg8];rfl,rfl⟩
    ·refine⟨decide (s="C")&&!t.isEmpty,?_,r7 (λh3=>⟨by rw[aA1,h1,h3];rfl,rfl⟩) λh3=>?_⟩
     ·refine r7 (λh4=>cj4 W.ok (.at_own hd.1) ?_) λh4=>⟨by rw[h4];rfl,rfl⟩
      exact⟨by rw[h4];cases t<;>rfl,rfl⟩
     ·refine aP1 (k:=("C":Str)) W.ok (.at_own hd.1) ?_
      rw[aG5]
      exact⟨by rw[aA1,h1,h3];rfl,rfl⟩
   ·refine⟨excF t s,r7 (λh3=>aP1 (k:=("C":Str)) W.ok (.at_own hd.1) ?_) λh3=>⟨by rw[excF,h3];rfl,rfl⟩,r7 (λh3=>raise ok' (by rw[<-hT,F6,h,h2,(da4 _).mp h3];rfl)) λh3=>?_⟩
    ·rw[aG5]
     walk_at "d"
     refine r7 (λh4=>cj3 W.ok (.at_own hd.1) t100 ?_) λh4=>⟨by rw[excF,h3,h4];rfl,rfl⟩
     rw[tV,cV3]
     exact⟨by rw[excF,h3,h4,bg8];rfl,rfl⟩
    ·walk_at "n"
     exactλU k=>k (by rw[F6,h,h2,(dm1 _).mp h3];rfl)
   ·walk_at "n"
    exactλU k=>k (by rw[F6,h,h2];rfl)
   intro hk
   rw[if_pos hk] at hT
   walk_at "n"
   refine aO5 (k:=s) W.ok hd.1 (cY0 (cZ9 t100 (by decide))) ?_
   rw[ck6 (dj8.mp (dj8.mp h).2).1]
   walk_at "n"
   refine .at hd.2 λU k=>k (T1++(c,d,t++[(s,ns)])::T2) hT ok'.put ?_ _ _ _ _ _ _
   rw[cV4] at hl' ⊢
   exact cV2 hl' (cW3 hl)
  ·intro T hT ok hl v1 v2 v3 v4 v5 v6
   rw[dd7,C5] at hT
   obtain⟨z1,z2,z3,z4,z5⟩:=hok _ hT.symm
   replace hQ:=λfd=>hQ _ fd hT.symm
   have cd:((fsT T).map (·.1)).Nodup:=by rw[fsT,cW0];exact ok.cd
   walk_at "n"
   refine⟨_,cz6 (F:=[]) W.ok ok (λU h=>nomatch h),?_⟩
   walk_at "d"
   refine ay9 W.ok (b5 _ _ _) ?_ λns hns hsrt=>?_
   ·show(frT T).length<64
    rw[frT,cV3];exact cV9 hl (cZ9 hr (by decide))
   have hns:ns.Perm ((fsT T).map λq=>(q.1:Int)):=by rw[fsT,cW0];rw[da1,frT,cW0] at hns;exact hns
   rcases bp4 cd hns hsrt z5 with⟨p1,p2⟩
   have nl:ns.length<60:=by rw[hns.length_eq,cV3,fsT,cV3];exact cV9 hl hr
   refine ah3 (λn=>cc2 (fsT T) (.int n)) m9 (cY0 (cZ9 nl (by decide))) (λj w n hat hn=>?_) ?_
   ·rcases cV6.mp (hns.mem_iff.mp hn) with⟨q,hq,rfl⟩
    walk_at "d"
    refine cy1 W.ok (k:=(q.1:Int)) (.at_own (b5 _ _ _)) (bG0 (cW4 hq)) ⟨sz rfl,mjE hat⟩
   rw[bp5 λn hn=>by obtain⟨q,_,rfl⟩:=cV6.mp (hns.mem_iff.mp hn);exact cX8 _]
   generalize hfd:ns.map (λn=>(n.toNat,C7 (fsT T) n.toNat))=fd at p1 p2 ⊢
   have npa:p≠a:=λq=>by rw[<-q,hp] at ha0;cases ha0
   have nam:am≠a:=λq=>by rw[<-q,ha] at ha0;cases ha0
   refine⟨6,rfl,aP4 W ((b7 npa).trans hp) ((b7 nam).trans ha) z1 z2 rfl p2 (λq hq=>?_) (λq hq=>?_) (λe=>?_) ?_ λm hm0=>?_⟩
   ·obtain⟨x,hx,rfl⟩:=cV6.mp hq;exact z4 x (p1.mem_iff.mp hx)
   ·obtain⟨x,hx,rfl⟩:=cV6.mp hq;exact ck3 _
   ·have:=db3.mp e
    subst this
    exact z3 p1.symm.eq_nil
   ·rw[B2,cV3,<-hfd,cV3];exact cY0 (cZ9 nl (by decide))
   ·have nma:m≠a:=λq=>by rw[q,b5] at hm0;cases hm0
    rw[b7 nma] at hm0
    walk_at "n"
    exact bC2 (cM2 (Sub.refl own) ha0).both.both (hQ fd p1 p2 m hm0)
 ·exact aj9 hS0 (hE n (by rw[O4,hn]))
end
section
variable {own:b9}
abbrev LT:=List (Nat×Addr×List V)
abbrev Vw:=List (Nat×List V)
noncomputable def C8 (T:LT):List (Int×V):=T.map λx=>((x.1:Int),.ref x.2.1)
noncomputable def chL (T:LT):List (Addr×O):=T.map λx=>(x.2.1,.list x.2.2)
noncomputable def M8 (p:Addr×LT):List (Addr×O):=(p.1,.dictI (C8 p.2))::chL p.2
noncomputable def vwT (T:LT):Vw:=T.map λx=>(x.1,x.2.2)
noncomputable def ak5:Vw->Nat->List V
 | [],_=>[]
 | (k,t)::r,c=>if k=c then t else ak5 r c
noncomputable def V3:Vw->Nat->V->Vw
 | [],c,x=>[(c,[x])]
 | (k,t)::r,c,x=>if k=c then(k,t++[x])::r else(k,t)::V3 r c x
theorem ck8 (c:Nat) (T:LT):(ak5 (vwT T) c=[]/\k7 (C8 T) (c:Int)=none/\∀x,V3 (vwT T) c x=vwT T++[(c,[x])])\/
  ∃T1 d t T2,T=T1++(c,d,t)::T2/\ak5 (vwT T) c=t/\k7 (C8 T) (c:Int)=some (.ref d)/\∀x,V3 (vwT T) c x=vwT (T1++(c,d,t++[x])::T2):=by
 induction T with
 | nil=>exact .inl ⟨rfl,rfl,λU=>rfl⟩
 | cons q r ih=>
  obtain⟨k,d,t⟩:=q
  have lk:k7 (C8 ((k,d,t)::r)) (c:Int)=if(k:Int)=c then some (.ref d) else k7 (C8 r) (c:Int):=s9 _ _ _ _
  by_cases e:k=c
  ·subst e
   exact .inr ⟨[],d,t,r,rfl,if_pos rfl,lk.trans (if_pos rfl),λU=>if_pos rfl⟩
  ·have lk:=lk.trans (if_neg λq=>e (Int.ofNat.inj q))
   have e1:ak5 (vwT ((k,d,t)::r)) c=ak5 (vwT r) c:=if_neg e
   have e2:∀x,V3 (vwT ((k,d,t)::r)) c x=(k,t)::V3 (vwT r) c x:=λU=>if_neg e
   rcases ih with⟨h1,h2,h3⟩ | ⟨T1,d',t',T2,h1,h2,h3,h4⟩
   ·exact .inl ⟨e1.trans h1,lk.trans h2,λx=>(e2 x).trans (congrArg _ (h3 x))⟩
   ·exact .inr ⟨(k,d,t)::T1,d',t',T2,congrArg _ h1,e1.trans h2,lk.trans h3,λx=>(e2 x).trans (congrArg _ (h4 x))⟩
structure Y5 (own:b9) (L:List (Addr×O)):Prop where
 nd:(L.map (·.1)).Nodup
 fr:∀p∈L,own p.1=none
section
variable {a e:Addr} {o o':O} {X Y:List (Addr×O)}
theorem aQ0 (h:∀p∈X,p.1≠e):m6 own (X++(e,o)::Y)=c7 (m6 own (X++Y)) e (some o):=by
 induction X with
 | nil=>rfl
 | cons p r ih=>
  have h:=cX1.mp h
  exact(congrArg (λz=>c7 z p.1 (some p.2)) (ih h.2)).trans (n9 _ _ _ (Ne.symm h.1))
theorem Y5.mid (k:Y5 own (X++(a,o)::Y)):m6 own (X++(a,o)::Y) a=some o/\(∀o',c7 (m6 own (X++(a,o)::Y)) a (some o')=m6 own (X++(a,o')::Y))/\∀o',Y5 own (X++(a,o')::Y):=by
 have nd:=k.nd
 rw[cV5,da2] at nd
 have hm:=λo'=>aP7 (own:=own) (a:=a) (o:=o) (o':=o') (L1:=X) (L2:=Y) λp hp=>nd.2.2 _ (cW4 hp) _ (.head _)
 refine⟨(hm o).1,λo'=>(hm o').2,λo'=>⟨?_,λp hp=>?_⟩⟩
 ·have:(X++(a,o')::Y).map (·.1)=(X++(a,o)::Y).map (·.1):=by rw[cV5,cV5];rfl
  rw[this];exact k.nd
 ·rcases cW9.mp hp with h | h
  ·exact k.fr p (cX2 _ h)
  ·rcases cW1.mp h with rfl | h
   ·exact k.fr (a,o) (cW5 _ (.head _))
   ·exact k.fr p (cW5 _ (.tail _ h))
theorem Y5.ins (k:Y5 own (X++Y)) (he:m6 own (X++Y) e=none):Y5 own (X++(e,o)::Y):=by
 rcases O3 he with⟨h1,h2⟩
 refine⟨?_,λp hp=>?_⟩
 ·have nd:=k.nd
  rw[cV5,da2] at nd ⊢
  refine⟨nd.1,cY9.mpr ⟨λq=>?_,nd.2.1⟩,λx hx y hy q=>?_⟩
  ·obtain⟨p,hp,q⟩:=cV6.mp q
   exact h2 p (cW5 _ hp) q
  ·subst q
   rcases cV6.mp hx with⟨p,hp,rfl⟩
   rcases cW1.mp hy with q | q
   ·exact h2 p (cX2 _ hp) q
   ·exact nd.2.2 _ hx _ q rfl
 ·rcases cW9.mp hp with h | h
  ·exact k.fr p (cX2 _ h)
  ·rcases cW1.mp h with rfl | h
   ·exact h1
   ·exact k.fr p (cW5 _ h)
theorem Y5.sub (k:Y5 own L) (nf:∀p∈L,∀e l,p.2≠.frame e l):Sub own (m6 own L):=aP8 nf k.fr
theorem Y5.find (k:Y5 own (X++(M8 (a,T)++Y))) (c:Nat) (he:m6 own (X++(M8 (a,T)++Y)) e=none):∃d o1 T',
  ((k7 (C8 T) (c:Int)=some (.ref d)/\o1=c7 (m6 own (X++(M8 (a,T)++Y))) e (some (.list [])))\/(k7 (C8 T) (c:Int)=none/\V.ref d=.ref e/\o1=c7 (c7 (m6 own (X++(M8 (a,T)++Y))) e (some (.list []))) a (some (.dictI (C8 T++[((c:Int),.ref e)])))))/\
  Gho o1 (m6 own (X++(M8 (a,T')++Y)))/\Y5 own (X++(M8 (a,T')++Y))/\m6 own (X++(M8 (a,T')++Y)) d=some (.list (ak5 (vwT T) c))/\
  ∀v,∃T'',c7 (m6 own (X++(M8 (a,T')++Y))) d (some (.list (ak5 (vwT T) c++[v])))=m6 own (X++(M8 (a,T'')++Y))/\Y5 own (X++(M8 (a,T'')++Y))/\vwT T''=V3 (vwT T) c v:=by
 have split:∀(T1 T2:LT) (d:Addr) (t:List V) (K:List (Int×V)),X++(((a,O.dictI K)::chL (T1++(c,d,t)::T2))++Y)=(X++(a,O.dictI K)::chL T1)++(d,.list t)::(chL T2++Y):=λT1 T2 d t K=>by
  simp [chL]
 have kk:∀(T1 T2:LT) (d:Addr) (t t':List V),C8 (T1++(c,d,t)::T2)=C8 (T1++(c,d,t')::T2):=λT1 T2 d t t'=>by rw[C8,C8,cV5,cV5];rfl
 have fin:∀(T1 T2:LT) (d:Addr) (t:List V),Y5 own (X++(M8 (a,T1++(c,d,t)::T2)++Y))->m6 own (X++(M8 (a,T1++(c,d,t)::T2)++Y)) d=some (.list t)/\
   ∀t',c7 (m6 own (X++(M8 (a,T1++(c,d,t)::T2)++Y))) d (some (.list t'))=m6 own (X++(M8 (a,T1++(c,d,t')::T2)++Y))/\Y5 own (X++(M8 (a,T1++(c,d,t')::T2)++Y)):=λT1 T2 d t k'=>by
  unfold M8 at k' ⊢
  simp only[split] at k' ⊢
  obtain⟨m1,m2,m3⟩:=k'.mid
  exact⟨m1,λt'=>by rw[kk T1 T2 d t' t];exact⟨m2 _,m3 _⟩⟩
 rcases ck8 c T with⟨f1,f2,f3⟩ | ⟨T1,d,t,T2,rfl,f1,f2,f3⟩
 ·have hL:X++(M8 (a,T)++Y)=(X++M8 (a,T))++Y:=(cW2 _ _ _).symm
  rcases O3 he with⟨h1,h2⟩
  have k1:Y5 own ((X++M8 (a,T))++(e,.list [])::Y):=Y5.ins (by rw[<-hL];exact k) (by rw[<-hL];exact he)
  have e1:m6 own ((X++M8 (a,T))++(e,.list [])::Y)=c7 (m6 own (X++(M8 (a,T)++Y))) e (some (.list [])):=by
   rw[hL];exact aQ0 λp hp=>h2 p (by rw[hL];exact cX2 _ hp)
  have e2:(X++M8 (a,T))++(e,O.list [])::Y=X++(a,.dictI (C8 T))::(chL T++(e,.list [])::Y):=by simp [M8]
  have e3:X++(M8 (a,T++[(c,e,[])])++Y)=X++(a,.dictI (C8 T++[((c:Int),.ref e)]))::(chL T++(e,.list [])::Y):=by simp [M8,C8,chL]
  rw[e2] at k1 e1
  obtain⟨m1,m2,m3⟩:=k1.mid
  have k':Y5 own (X++(M8 (a,T++(c,e,[])::[])++Y)):=by rw[e3];exact m3 _
  rcases fin T [] e [] k' with⟨g1,g2⟩
  refine⟨e,_,T++[(c,e,[])],.inr ⟨f2,rfl,rfl⟩,?_,k',f1.symm▸g1,λv=>⟨T++[(c,e,[v])],?_⟩⟩
  ·rw[e3,<-m2,e1];exact Gho.refl _
  ·rw[f1]
   exact⟨(g2 _).1,(g2 _).2,by rw[f3,vwT,vwT,cV5];rfl⟩
 ·rcases fin T1 T2 d t k with⟨g1,g2⟩
  refine⟨d,_,T1++(c,d,t)::T2,.inl ⟨f2,rfl⟩,?_,k,f1.symm▸g1,λv=>⟨T1++(c,d,t++[v])::T2,?_⟩⟩
  ·have:=Gho.drop (o:=c7 (m6 own (X++(M8 (a,T1++(c,d,t)::T2)++Y))) e (some (.list []))) (b5 _ _ _) λU U=>nofun
   rwa [c5,d9 he] at this
  ·rw[f1]
   exact⟨(g2 _).1,(g2 _).2,(f3 v).symm⟩
end
end
section
variable {own:b9}
noncomputable def aa1 (fs:s6):Option (List Str):=if fs.length=5 then Z8 (fs.getD 4 []) else some []
noncomputable def M7 (fs:s6):Option (Nat×CR):=(z7 (fs.getD 0 [])).bind λc=>(aa1 fs).bind λws=>(u6 (fs.getD 1 [])).bind λn1=>(u6 (fs.getD 2 [])).bind λn2=>(u6 (fs.getD 3 [])).map λn3=>(c,n1,n2,n3,ws)
noncomputable def C9:CD->Nat->List CR
 | [],_=>[]
 | (k,t)::r,c=>if k=c then t else C9 r c
noncomputable def O5:CD->Nat->CR->CD
 | [],c,x=>[(c,[x])]
 | (k,t)::r,c,x=>if k=c then(k,t++[x])::r else(k,t)::O5 r c x
noncomputable def aw7 (rs:List CR) (ws:List Str):Bool:=rs.any λr=>decide (r.2.2.2=ws)
noncomputable def u8:List (Nat×s6)->CD->Except Nat CD
 | [],cs=>.ok cs
 | r::rs,cs=>match M7 r.2 with
  | none=>.error r.1
  | some (c,x)=>if aw7 (C9 cs c) x.2.2.2=true then .error r.1 else u8 rs (O5 cs c x)
noncomputable def O6 (b:List UInt8):Except Nat CD:=match q7 4 5 b with
 | .error n=>.error n
 | .ok rows=>u8 rows []
noncomputable def vwC (f:CR->List Nat) (cs:CD):Vw:=cs.map λq=>(q.1,q.2.map (G5 f))
theorem ck9 (f:CR->List Nat) (c:Nat) (cs:CD):ak5 (vwC f cs) c=(C9 cs c).map (G5 f):=by
 induction cs with
 | nil=>rfl
 | cons q r ih=>
  by_cases e:q.1=c
  ·exact(if_pos e).trans (congrArg (do4 _) (if_pos e).symm)
  ·exact(if_neg e).trans (ih.trans (congrArg (do4 _) (if_neg e).symm))
theorem cl0 (f:CR->List Nat) (c:Nat) (x:CR) (cs:CD):V3 (vwC f cs) c (G5 f x)=vwC f (O5 cs c x):=by
 induction cs with
 | nil=>rfl
 | cons q r ih=>
  by_cases e:q.1=c
  ·have a:O5 (q::r) c x=(q.1,q.2++[x])::r:=if_pos e
   have b:V3 (vwC f (q::r)) c (G5 f x)=(q.1,q.2.map (G5 f)++[G5 f x])::vwC f r:=if_pos e
   rw[a,b]
   exact congrArg (λz=>(q.1,z)::vwC f r) (cV5 (f:=G5 f) (l₁:=q.2) (l₂:=[x])).symm
  ·have a:O5 (q::r) c x=q::O5 r c x:=if_neg e
   have b:V3 (vwC f (q::r)) c (G5 f x)=(q.1,q.2.map (G5 f))::V3 (vwC f r) c (G5 f x):=if_neg e
   rw[a,b,ih];rfl
theorem ba6 (c:Nat) (x:CR) (cs:CD):(cs.map (·.1)).Nodup->((O5 cs c x).map (·.1)).Nodup/\(∀k∈(O5 cs c x).map (·.1),k=c\/k∈cs.map (·.1))/\(O5 cs c x).length<=cs.length+1:=by
 induction cs with
 | nil=>exactλU=>⟨.cons (λU h=>nomatch h) .nil,λk hk=>.inl (cV8.mp hk),cX5 _⟩
 | cons q r ih=>
  intro h
  rcases cY9.mp h with⟨h1,h2⟩
  obtain⟨i1,i2,i3⟩:=ih h2
  by_cases e:q.1=c
  ·rw[show O5 (q::r) c x=(q.1,q.2++[x])::r from if_pos e];exact⟨h,λk hk=>.inr hk,db7 _⟩
  ·rw[show O5 (q::r) c x=q::O5 r c x from if_neg e]
   refine⟨cY9.mpr ⟨λq=>(i2 _ q).elim e h1,i1⟩,λj hj=>?_,cW3 i3⟩
   rcases cW1.mp hj with q | q
   ·exact .inr (q▸.head _)
   ·exact(i2 j q).imp _root_.id λq=>.tail _ q
section
variable {β:Type} {fs:List (Nat×β)} {get:Nat->β} {ns:List Int}
theorem ba7 (hg:∀q∈fs,get q.1=q.2) (cd:(fs.map (·.1)).Nodup) (hp:ns.Perm (fs.map λq=>(q.1:Int))) (hs:ns.Pairwise (·<=·)) (gap:∀x∈fs,∀y∈fs,x.1<y.1->x.1+2<=y.1):
  (ns.map λn=>(n.toNat,get n.toNat)).Perm fs/\(ns.map λn=>(n.toNat,get n.toNat)).Pairwise λa b=>a.1+2<=b.1:=by
 constructor
 ·have:=hp.map λn=>(n.toNat,get n.toNat)
  rw[cW0] at this
  refine this.trans (List.Perm.of_eq ?_)
  exact(cZ1 (g:=_root_.id) λq hq=>show((q.1:Int).toNat,get (q.1:Int).toNat)=q by rw[db8,hg q hq]).trans (de1 _)
 ·have nd:ns.Nodup:=hp.nodup_iff.mpr (by
   rw[show(fs.map λq=>(q.1:Int))=(fs.map (·.1)).map λ(n:Nat)=>(n:Int) by rw[cW0];rfl]
   exact dl4.map _ (λa b h e=>h (Int.ofNat.inj e)) cd)
  rw[da3]
  refine(hs.and nd).imp_of_mem λ{a b} ha hb ⟨h1,h2⟩=>?_
  rcases cV6.mp (hp.mem_iff.mp ha) with⟨x,hx,rfl⟩
  rcases cV6.mp (hp.mem_iff.mp hb) with⟨y,hy,rfl⟩
  exact gap x hx y hy (by lia)
end
theorem bG2 (h:(fs.map (·.1)).Nodup):∀q∈fs,C9 fs q.1=q.2:=by
 induction fs with
 | nil=>exactλU h=>nomatch h
 | cons p r ih=>
  intro q hq
  rcases cY9.mp h with⟨h1,h2⟩
  rcases cW1.mp hq with rfl | hq
  ·exact if_pos rfl
  ·exact(if_neg λe:p.1=q.1=>h1 (cV6.mpr ⟨q,hq,e.symm⟩)).trans (ih h2 q hq)
noncomputable def frL (T:LT):List (Int×V):=T.map λx=>((x.1:Int),.lst x.2.2)
noncomputable def frV (vs:Vw):List (Int×V):=vs.map λx=>((x.1:Int),.lst x.2)
theorem cl1 (T:LT):frL T=frV (vwT T):=by rw[frL,frV,vwT,cW0];rfl
theorem bG3 (K0:T6):∀{F:List (Int×V)},Y5 own (X++(a,.dictI (F++C8 T))::(chL T++Y))->(∀p∈F,∀d W,S8 d W p.2=p.2)->Gho (m6 own (X++(a,.dictI (F++C8 T))::(chL T++Y))) (m6 own (X++(a,.dictI (F++frL T))::Y))/\Y5 own (X++(a,.dictI (F++frL T))::Y):=by
 induction T with
 | nil=>exactλk U=>⟨Gho.refl _,k⟩
 | cons q r ih=>
  intro F k hF
  obtain⟨c,d,t⟩:=q
  have e0:∀A:List (Int×V),X++(a,O.dictI A)::(chL ((c,d,t)::r)++Y)=(X++[(a,O.dictI A)])++(d,.list t)::(chL r++Y):=λA=>by simp [chL]
  have e1:∀A:List (Int×V),X++(a,O.dictI A)::(chL r++Y)=(X++[(a,O.dictI A)])++(chL r++Y):=λA=>by simp
  have k0:=k
  rw[e0] at k
  have nd:=k.nd
  rw[cV5,da2,cV5] at nd
  have da:d≠a:=λq=>nd.2.2 a (cW5 _ (.head _)) d (.head _) q.symm
  have nd2:=(cY9.mp nd.2.1).1
  rw[cV5] at nd2
  have hX:∀p∈X++[(a,O.dictI (F++C8 ((c,d,t)::r)))],p.1≠d:=λp hp q=>nd.2.2 _ (by rw[<-cV5];exact cW4 hp) d (.head _) q
  have kd:Y5 own (X++(a,O.dictI (F++C8 ((c,d,t)::r)))::(chL r++Y)):=by
   rw[e1]
   refine⟨?_,λp hp=>k.fr p ?_⟩
   ·have:=k.nd
    rw[cV5,cX3,da2,cY9] at this
    rw[cV5,da2]
    exact⟨this.1,this.2.1.2,λx hx y hy=>this.2.2 x hx y (.tail _ hy)⟩
   ·rcases cW9.mp hp with h | h
    ·exact cX2 _ h
    ·exact cW5 _ (.tail _ h)
  have hH:m6 own (X++(a,O.dictI (F++C8 ((c,d,t)::r)))::(chL r++Y)) d=none:=by
   rw[e1,ae4 λp hp=>?_]
   ·exact k.fr (d,.list t) (cW5 _ (.head _))
   ·rcases cW9.mp hp with h | h
    ·exact hX p h
    ·exactλq:p.1=d=>nd2 (by rw[<-cV5];have:=cW4 (f:=(·.1)) h;rw[q] at this;exact this)
  have step:=Gho.frz (a:=a) (d:=d) (W:=.lst t) (es:=F++C8 ((c,d,t)::r)) (o:=m6 own (X++(a,O.dictI (F++C8 ((c,d,t)::r)))::(chL ((c,d,t)::r)++Y))) K0 (.inl ⟨d,t,rfl,by rw[e0];exact k.mid.1,rfl,rfl⟩) k0.mid.1 da
  have e2:(F++C8 ((c,d,t)::r)).map (λp=>(p.1,S8 d (.lst t) p.2))=(F++[((c:Int),.lst t)])++C8 r:=by
   rw[cV5,cW2]
   congr 1
   ·exact(cZ1 (g:=_root_.id) λp hp=>show(p.1,S8 d (.lst t) p.2)=p by rw[hF p hp]).trans (de1 _)
   ·show((c:Int),S8 d (.lst t) (.ref d))::(C8 r).map _=((c:Int),V.lst t)::C8 r
    rw[S8,if_pos rfl]
    refine congrArg _ ((cZ1 (g:=_root_.id) λp hp=>?_).trans (de1 _))
    rcases cV6.mp hp with⟨x,hx,rfl⟩
    exact congrArg (λz=>((x.1:Int),z)) (if_neg λe=>nd2 (by rw[<-show x.2.1=d from e];exact cX2 _ (by rw[chL,cW0];exact cW4 (f:=λx:Nat×Addr×List V=>x.2.1) hx)))
  rw[e2] at step
  have e3:c7 (m6 own (X++(a,O.dictI (F++C8 ((c,d,t)::r)))::(chL ((c,d,t)::r)++Y))) d none=m6 own (X++(a,O.dictI (F++C8 ((c,d,t)::r)))::(chL r++Y)):=by
   rw[e0,aQ0 hX,c5,<-e1,d9 hH]
  rw[e3,(kd.mid).2.1] at step
  have ih:=ih (F:=F++[((c:Int),.lst t)]) ((kd.mid).2.2 _) (λp hp d W=>(cW9.mp hp).elim (λq=>hF p q d W) λq=>by rw[cV8.mp q];rfl)
  rw[cW2 F _ (frL r)] at ih
  exact⟨step.trans ih.1,ih.2⟩
end
section
variable {own:b9}
theorem aG6:∀a:List Str,nbs (a.map .str)=true
 | []=>rfl
 | _::r=>aG6 r
theorem bG4 (a b:List Str) (h:a.map PyData.str=b.map PyData.str):a=b:=List.map_inj_right (λU U h=>by injection h) |>.mp h
theorem aQ1 (a:List Str):PyData.depthAll (a.map .str)=0:=by
 induction a with
 | nil=>rw[dc9,PyData.depthAll]
 | cons x a ih=>rw[cX3,PyData.depthAll,ih,PyData.depth];rfl
theorem cc4 (a b:List Str):PyData.eqv (.tuple (a.map .str)) (.tuple (b.map .str))=decide (a=b):=by
 rw[dl2,be8 _ _ (show nb (.tuple _)=true from aG6 a) (show nb (.tuple _)=true from aG6 b),decide_eq_true_iff]
 refine⟨λh=>?_,λh=>by rw[h]⟩
 injection h with h
 exact bG4 a b h
noncomputable def wsV (ws:List Str):V:=.tup (ws.map .str)
theorem cz7 {ws:List Str} {rs:List CR} {Q:V->b9->Prop} (h1:ws.all PyData.strOk=true) (h2:∀r∈rs,r.2.2.2.all PyData.strOk=true) (hQ:Q (.bool (aw7 rs ws)) own):f7 .In (wsV ws) (.lst (rs.map λr=>wsV r.2.2.2)) own Q:=λU U U=>by
 have e1:wsV ws=ofD (.tuple (ws.map .str)):=by rw[wsV,ap5,N9]
 have e2:(rs.map λr=>wsV r.2.2.2)=X1 (rs.map λr=>.tuple (r.2.2.2.map .str)):=by rw[N1,cW0];exact cZ1 λr U=>by show wsV _=ofD _;rw[wsV,ap5,N9]
 rw[e1,e2]
 refine cE7 .lst (by rw[PyData.canLay0];exact O2 ws h1) (λd hd=>?_) ?_
 ·rcases cV6.mp hd with⟨r,hr,rfl⟩
  refine⟨by rw[PyData.canLay0];exact O2 _ (h2 r hr),cV2 (dk4 _ _) ?_⟩
  rw[PyData.depth]
  rw[aQ1];decide
 ·rw[List.any_map]
  rw[show aw7 rs ws=rs.any ((λd=>PyData.eqv d (.tuple (ws.map .str)))∘λr=>.tuple (r.2.2.2.map .str)) from congrArg (List.any rs) (funext λr=>(cc4 _ _).symm)] at hQ
  exact hQ
theorem bp6 {ps:List (List UInt8)}:∀{acc out:List Str},U6 ps acc=some out->acc.all PyData.strOk=true->out.all PyData.strOk=true:=by
 induction ps with
 | nil=>intro _ _ h ha;cases h;exact ha
 | cons p r ih=>
  intro acc out h ha
  rw[aO2] at h
  split at h
  ·split at h
   ·exact ih h (by rw[List.all_append,ha,dc1,aF9];rfl)
   ·split at h
    ·exact ih h ha
    ·cases h
  ·cases h
theorem bp7 {fl:s6} {ws:List Str} (h:aa1 fl=some ws):ws.all PyData.strOk=true:=by
 unfold aa1 at h
 split at h
 ·exact bp6 h rfl
 ·cases h;rfl
theorem bU7 (c:Nat) (cs:CD):C9 cs c=[]\/(c,C9 cs c)∈cs:=by
 induction cs with
 | nil=>exact .inl rfl
 | cons p r ih=>
  by_cases e:p.1=c
  ·rw[show C9 (p::r) c=p.2 from if_pos e,<-e];exact .inr (.head _)
  ·rw[show C9 (p::r) c=C9 r c from if_neg e];exact ih.imp _root_.id λh=>.tail _ h
theorem bU8 {c:Nat} {x:CR} {q:Nat×List CR} {cs:CD}:q∈O5 cs c x->q∈cs\/q=(c,C9 cs c++[x]):=by
 induction cs with
 | nil=>exactλh=>.inr (cV8.mp h)
 | cons p r ih=>
  intro h
  by_cases e:p.1=c
  ·rw[show O5 (p::r) c x=(p.1,p.2++[x])::r from if_pos e] at h
   rw[show C9 (p::r) c=p.2 from if_pos e]
   exact(cW1.mp h).elim (λh=>.inr (by rw[h,e])) λh=>.inl (.tail _ h)
  ·rw[show O5 (p::r) c x=p::O5 r c x from if_neg e] at h
   rw[show C9 (p::r) c=C9 r c from if_neg e]
   exact(cW1.mp h).elim (λh=>.inl (h▸.head _)) λh=>(ih h).imp (λh=>.tail _ h) _root_.id
structure bp8 (N:Nat) (cs:CD):Prop where
 len:cs.length<=N
 nd:(cs.map (·.1)).Nodup
 row:∀q∈cs,q.2.length<=N/\∀r∈q.2,r.2.2.2.all PyData.strOk=true
theorem bp8.get {N:Nat} {cs:CD} (h:bp8 N cs) (c:Nat):(C9 cs c).length<=N/\∀r∈C9 cs c,r.2.2.2.all PyData.strOk=true:=by
 rcases bU7 c cs with e | e
 ·rw[e];exact⟨cZ2 _,λU h=>nomatch h⟩
 ·exact h.row _ e
theorem bp8.add {N:Nat} {cs:CD} (h:bp8 N cs) (c:Nat) {x:CR} (hx:x.2.2.2.all PyData.strOk=true):bp8 (N+1) (O5 cs c x):=by
 obtain⟨h1,-,h3⟩:=ba6 c x cs h.nd
 rcases h.get c with⟨g1,g2⟩
 refine⟨cV2 h3 (cW3 h.len),h1,λq hq=>?_⟩
 rcases bU8 hq with hq | rfl
 ·exact⟨cZ6 (h.row q hq).1,(h.row q hq).2⟩
 ·refine⟨by rw[cV4];exact cW3 g1,λr hr=>(cW9.mp hr).elim (g2 r) λe=>by rw[cV8.mp e];exact hx⟩
noncomputable def at3 (a0 a1 a2:Addr):Nat->Addr
 | 0=>a0
 | 1=>a1
 | _=>a2
noncomputable def prt:Nat->CR->List Nat
 | 0=>kSl
 | 1=>kSt
 | _=>kSu
noncomputable def S3 (as:Nat->Addr) (Ts:Nat->LT):List (Addr×O):=M8 (as 2,Ts 2)++(M8 (as 1,Ts 1)++(M8 (as 0,Ts 0)++[]))
noncomputable def cz9 (Ts:Nat->LT) (k:Nat) (T:LT):Nat->LT:=λj=>if j=k then T else Ts j
theorem bG5 (as:Nat->Addr) (Ts:Nat->LT) (k:Nat) (h:k<3):∃X Y,(∀T,S3 as (cz9 Ts k T)=X++(M8 (as k,T)++Y))/\S3 as Ts=X++(M8 (as k,Ts k)++Y):=by
 have h:k=0\/k=1\/k=2:=by lia
 rcases h with rfl | rfl | rfl
 ·exact⟨M8 (as 2,Ts 2)++M8 (as 1,Ts 1),[],λT=>(cW2 ..).symm,(cW2 ..).symm⟩
 ·exact⟨M8 (as 2,Ts 2),M8 (as 0,Ts 0)++[],λU=>rfl,rfl⟩
 ·exact⟨[],M8 (as 1,Ts 1)++(M8 (as 0,Ts 0)++[]),λU=>rfl,rfl⟩
theorem ba8 {x:Addr×LT}:∀p∈M8 x,∀e l,p.2≠O.frame e l:=by
 refine cX1.mpr ⟨λU U=>nofun,λp h=>?_⟩
 obtain⟨y,_,rfl⟩:=cV6.mp h;exactλU U=>nofun
theorem cc5 {as:Nat->Addr} {Ts:Nat->LT}:∀p∈S3 as Ts,∀e l,p.2≠.frame e l:=
 di4.mpr ⟨ba8,di4.mpr ⟨ba8,di4.mpr ⟨ba8,λU h=>nomatch h⟩⟩⟩
theorem bU9 {a0 a1 a2:Addr} {k:Nat} (h:k<3):[V.ref a0,V.ref a1,V.ref a2][k]?=some (.ref (at3 a0 a1 a2 k)):=by
 rcases k with _ | _ | _ | k
 ·rfl
 ·rfl
 ·rfl
 ·exact absurd h (dg4.mpr (dd6 _ _))
theorem bV0 {fl:s6} {k:Nat} (h:k<fl.length):(fl.map V.bytes)[((k:Nat):Int).toNat]?=some (.bytes (fl.getD k [])):=by
 rw[db8,cX9,cW8 h,dk8,cW8 h];rfl
theorem bG6 {fl:s6} {k:Nat} (h:k<fl.length):fl.getD k []∈fl:=by
 rw[dk8,cW8 h];exact dk3 h
end
section
variable {own:b9}
noncomputable def S3F (as:Nat->Addr) (Ts:Nat->LT):List (Addr×O):=[(as 2,.dictI (frL (Ts 2))),(as 1,.dictI (frL (Ts 1))),(as 0,.dictI (frL (Ts 0)))]
theorem cl2 (K0:T6) {as:Nat->Addr} {Ts:Nat->LT} (k:Y5 own (S3 as Ts)):Gho (m6 own (S3 as Ts)) (m6 own (S3F as Ts))/\Y5 own (S3F as Ts):=by
 rcases(bG3 K0 (X:=[]) (F:=[]) (T:=Ts 2) (a:=as 2) (Y:=M8 (as 1,Ts 1)++(M8 (as 0,Ts 0)++[])) k λU h=>nomatch h) with⟨g1,k1⟩
 rcases(bG3 K0 (X:=[(as 2,.dictI (frL (Ts 2)))]) (F:=[]) (T:=Ts 1) (a:=as 1) (Y:=M8 (as 0,Ts 0)++[]) k1 λU h=>nomatch h) with⟨g2,k2⟩
 rcases(bG3 K0 (X:=[(as 2,.dictI (frL (Ts 2))),(as 1,.dictI (frL (Ts 1)))]) (F:=[]) (T:=Ts 0) (a:=as 0) (Y:=[]) k2 λU h=>nomatch h) with⟨g3,k3⟩
 exact⟨(g1.trans g2).trans g3,k3⟩
theorem aa2 {i:Nat} (h:i<3):i=0\/i=1\/i=2:=by lia
theorem cl3 {as:Nat->Addr} {Ts:Nat->LT} (k:Y5 own (S3F as Ts)) (i:Nat) (h:i<3):m6 own (S3F as Ts) (as i)=some (.dictI (frL (Ts i))):=by
 rcases aa2 h with rfl | rfl | rfl
 ·exact(Y5.mid (X:=[(as 2,.dictI (frL (Ts 2))),(as 1,.dictI (frL (Ts 1)))]) (Y:=[]) k).1
 ·exact(Y5.mid (X:=[(as 2,.dictI (frL (Ts 2)))]) (Y:=[(as 0,.dictI (frL (Ts 0)))]) k).1
 ·exact(Y5.mid (X:=[]) k).1
theorem cl4 {as:Nat->Addr} {Ts:Nat->LT}:∀p∈S3F as Ts,∀e l,p.2≠.frame e l:=
 cX1.mpr ⟨λU U=>nofun,cX1.mpr ⟨λU U=>nofun,cX1.mpr ⟨λU U=>nofun,λU h=>nomatch h⟩⟩⟩
abbrev PL:=List (Str×Addr×(CR->List Nat))
noncomputable def suf:List (Str×(CR->List Nat)):=[("slc",kSl),("stc",kSt),("suc",kSu)]
noncomputable def aQ2 (cd:CD) (l:PL):List (Addr×O):=(l.map λx=>(x.2.1,X4 (.tup []) (w4 x.2.2 cd))).reverse
noncomputable def Y6 (l:PL):List (Str×V):=l.map λx=>(x.1,.ref x.2.1)
noncomputable def stP (cd:CD) (ms:List (Str×V)) (am:Addr) (o:b9) (l:PL):b9:=c7 (m6 o (aQ2 cd l)) am (some (.dictS (ms++Y6 l)))
structure ba9 (o:b9) (l:PL) (i:Nat):Prop where
 nm:l.map (λx=>(x.1,x.2.2))=suf.take i
 nd:(l.map (·.2.1)).Nodup
 fr:∀x∈l,o x.2.1=none
theorem bp9 {cd:CD} {l:PL} {p:Addr×O} (hp:p∈aQ2 cd l):∃x∈l,x.2.1=p.1:=by
 rcases cV6.mp (di0.mp hp) with⟨x,hx,rfl⟩
 exact⟨x,hx,rfl⟩
theorem bV2 {cd:CD} {ms:List (Str×V)} {am:Addr} {o:b9} (h:o am=some (.dictS ms)):o=stP cd ms am o []:=by
 rw[stP,Y6,dc9,cW6];exact(d9 h).symm
theorem aG7 {cd:CD} {ms:List (Str×V)} {am a:Addr} {o:b9} {l:PL} {x:O} {i:Nat} (k:ba9 o l i) (h:o a=some x) (ne:a≠am):stP cd ms am o l a=some x:=by
 rw[stP,b7 ne,ae4 λp hp q=>?_]
 ·exact h
 ·obtain⟨y,hy,e⟩:=bp9 hp
  rw[<-q,<-e,k.fr y hy] at h;cases h
theorem bG7 {cd:CD} {ms:List (Str×V)} {am m:Addr} {o:b9} {l:PL} {i:Nat} {n:Str} {f:CR->List Nat} (k:ba9 o l i) (hm:stP cd ms am o l m=none) (ha:o am≠none) (hi:suf[i]?=some (n,f)):
  c7 (c7 (stP cd ms am o l) m (some (X4 (.tup []) (w4 f cd)))) am (some (.dictS ((ms++Y6 l)++[(n,.ref m)])))=stP cd ms am o (l++[(n,m,f)])/\ba9 o (l++[(n,m,f)]) (i+1):=by
 have ne:m≠am:=λq=>by rw[q,stP,b5] at hm;cases hm
 rw[stP,b7 ne] at hm
 rcases O3 hm with⟨h1,h2⟩
 constructor
 ·rw[stP,stP,aQ2,aQ2,cV5,dk7,cX3,dc9,List.reverse_singleton,dj2,ba4,n9 _ _ _ ne.symm,c5,Y6,Y6,cV5,cW2];rfl
 ·refine⟨?_,?_,λx hx=>?_⟩
  ·rw[cV5,k.nm,g6 hi];rfl
  ·rw[cV5,da2]
   refine⟨k.nd,dl4.cons (λU h=>nomatch h) .nil,λx hx y hy q=>?_⟩
   rw[cV8.mp hy] at q
   rcases cV6.mp hx with⟨z,hz,rfl⟩
   exact h2 (z.2.1,X4 (.tup []) (w4 z.2.2 cd)) (di0.mpr (cV6.mpr ⟨z,hz,rfl⟩)) q
  ·rcases cW9.mp hx with hx | hx
   ·exact k.fr x hx
   ·rw[cV8.mp hx];exact h1
theorem bV3 {cd:CD} {ms:List (Str×V)} {am:Addr} {o o':b9} (h:Sub o o') (l:PL):Sub (stP cd ms am o l) (stP cd ms am o' l):=by
 have:∀L:List (Addr×O),Sub (m6 o L) (m6 o' L):=λL=>by
  induction L with
  | nil=>exact h
  | cons p r ih=>exact ih.both
 exact(this _).both
theorem bG8 {K:Type} [DecidableEq K] {n:K} {ms ps:List (K×V)} (h1:k7 ms n=none) (h:n∉ps.map (·.1)):k7 (ms++ps) n=none:=by
 induction ms with
 | nil=>
  rw[da1]
  induction ps with
  | nil=>rfl
  | cons p r ih=>
   rw[s9,if_neg λq:p.1=n=>h (q▸.head _)]
   exact ih λq=>h (.tail _ q)
 | cons p ms ih=>
  rw[da6,s9]
  rw[s9] at h1
  by_cases e:p.1=n
  ·rw[if_pos e] at h1;cases h1
  ·rw[if_neg e] at h1 ⊢;exact ih h1
theorem bg9 {i:Nat} {n:Str} {f:CR->List Nat} (h:suf[i]?=some (n,f)):n∉(suf.take i).map (·.1)/\k7 bo9 n=some (.tup [])/\f=prt i/\n∈(["slc","stc","suc"]:List Str):=by
 rcases aa2 (cX4.mp h).1 with rfl | rfl | rfl<;>(cases h;exact⟨by decide +kernel,rfl,rfl,by decide +kernel⟩)
theorem bG9 {ms:List (Str×V)} {o:b9} {l:PL} {i:Nat} {n:Str} {f:CR->List Nat} (k:ba9 o l i) (hi:suf[i]?=some (n,f)) (h:k7 ms n=none):k7 (ms++Y6 l) n=none:=by
 refine bG8 h λq=>(bg9 hi).1 ?_
 rw[<-k.nm,cW0]
 rw[Y6,cW0] at q
 exact q
theorem bH0 {f:CR->List Nat} {c:Nat} {cs:CD} (h:c∈cs.map (·.1)):k7 (frV (vwC f cs)) (c:Int)=some (D5 f (C9 cs c)):=by
 induction cs with
 | nil=>cases h
 | cons q r ih=>
  have e1:k7 (frV (vwC f (q::r))) (c:Int)=if(q.1:Int)=c then some (D5 f q.2) else k7 (frV (vwC f r)) (c:Int):=s9 _ _ _ _
  by_cases e:q.1=c
  ·exact e1.trans ((if_pos (congrArg _ e)).trans (congrArg (λz=>some (D5 f z)) (if_pos e).symm))
  ·refine e1.trans ((if_neg λq:(_:Int)=c=>e (Int.ofNat.inj q)).trans ((ih ((cW1.mp h).resolve_left λq=>e q.symm)).trans ?_))
   exact congrArg (λz=>some (D5 f z)) (if_neg e).symm
noncomputable def cc6 (f:CR->List Nat) (cs:CD):V->V
 | .int n=>L3 n n (D5 f (C9 cs n.toNat))
 | _=>.none
noncomputable def cM4:V->V
 | .tup [_,w]=>w
 | _=>.none
noncomputable def aQ3 (cs:CD) (ns:List Int):CD:=ns.map λn=>(n.toNat,C9 cs n.toNat)
theorem bq0 {f:CR->List Nat} {cs:CD} {ns:List Int} (h:∀n∈ns,0<=n):(ns.map V.int).map (cc6 f cs)=(w4 f (aQ3 cs ns)).map λq=>L3 q.1 q.1 q.2:=by
 rw[w4,aQ3,cW0,cW0,cW0]
 exact cZ1 λn hn=>by show L3 n n _=L3 (n.toNat:Int) (n.toNat:Int) _;rw[Int.toNat_of_nonneg (h n hn)]
theorem cA0 (l:List Int):∃ns:List Int,ns.Perm l/\ns.Pairwise (·<=·):=
 ⟨l.mergeSort λa b=>decide (a<=b),List.mergeSort_perm _ _,((List.pairwise_mergeSort (le:=λa b=>decide (a<=b)) (λa b c h1 h2=>decide_eq_true (dd5 (of_decide_eq_true h1) (of_decide_eq_true h2))) (λa b=>by rw[<-Bool.decide_or];exact decide_eq_true (Int.le_total a b)) l).imp λh=>of_decide_eq_true h)⟩
section
variable {fl:s6} {c n:Nat} {ws:List Str} {cs:CD} {rs:List (Nat×s6)} {nsf:Nat->List Nat}
theorem bV4 (hc:z7 (fl.getD 0 [])=some c) (hws:aa1 fl=some ws) (h:aw7 (C9 cs c) ws=true):u8 ((n,fl)::rs) cs=.error n:=by
 rw[u8,M7,hc,hws]
 simp only[dc5]
 cases u6 (fl.getD 1 []) with
 | none=>rfl
 | some a=>cases u6 (fl.getD 2 []) with
  | none=>rfl
  | some b=>cases u6 (fl.getD 3 []) with
   | none=>rfl
   | some d=>exact if_pos h
theorem ae5 {α β:Type} {o:Option α} {f:α->Option β} (h:∀a,f a=none):o.bind f=none:=Option.bind_eq_none_iff.mpr λa U=>h a
theorem bH1 {j:Nat} (hj:j<3) (h:u6 (fl.getD (j+1) [])=none):M7 fl=none:=by
 rcases j with _ | _ | _ | j
 ·exact ae5 λU=>ae5 λU=>congrArg (Option.bind · _) h
 ·exact ae5 λU=>ae5 λU=>ae5 λU=>congrArg (Option.bind · _) h
 ·exact ae5 λU=>ae5 λU=>ae5 λU=>ae5 λU=>congrArg (Option.map _) h
 ·exact absurd hj (dg4.mpr (dd6 _ _))
theorem aQ4 (hc:z7 (fl.getD 0 [])=some c) (hws:aa1 fl=some ws) (h:∀j,j<3->u6 (fl.getD (j+1) [])=some (nsf j)):M7 fl=some (c,nsf 0,nsf 1,nsf 2,ws):=by
 rw[M7,hc,hws,dc5,dc5,h 0 (by decide),dc5,h 1 (by decide),dc5,h 2 (by decide)];rfl
theorem bV5 {ws:List Str} (j:Nat) (h:j<3) (f:Nat->List Nat):V.tup [D9 (f j),wsV ws]=G5 (prt j) (f 0,f 1,f 2,ws):=by
 rcases aa2 h with rfl | rfl | rfl<;>rfl
end
theorem cl5 {as:Nat->Addr} {i:Nat} {y:V} (h:[V.tup [.str "slc",.ref (as 0)],.tup [.str "stc",.ref (as 1)],.tup [.str "suc",.ref (as 2)]][i]?=some y):∃n,suf[i]?=some (n,prt i)/\i<3/\y=.tup [.str n,.ref (as i)]:=by
 have hi:i<3:=(cX4.mp h).1
 rcases aa2 hi with rfl | rfl | rfl<;>exact⟨_,rfl,hi,(Option.some.inj h).symm⟩
end
section
variable {own:b9}
noncomputable def J26 (b:List UInt8) (p a0 a1 a2:Addr) (as:Nat->Addr) (own:b9) (rows:List (Nat×s6)) (i:Nat):LP:=λX=>∀Ts cs,u8 (rows.drop i) cs=u8 rows []->Y5 own (S3 as Ts)->(∀j,j<3->vwT (Ts j)=vwC (prt j) cs)->bp8 i cs->∀v1 v2 v3 v4 v5 v6 v7 v8,X [some (.bytes b),some (.ref p),some (.lst [.ref a0,.ref a1,.ref a2]),v1,v2,v3,v4,v5,v6,v7,v8] (m6 own (S3 as Ts))
noncomputable def cM5 (b:List UInt8) (p a0 a1 a2:Addr) (own:b9) (n:Nat) (fl:s6) (c:Nat) (v5 v6 v7 v8:Option V):LP:=λX=>∀ws,aa1 fl=some ws->X [some (.bytes b),some (.ref p),some (.lst [.ref a0,.ref a1,.ref a2]),some (.int (n:Nat)),some (.lst (fl.map .bytes)),some (.int c),some (wsV ws),v5,v6,v7,v8] own
noncomputable def cM6 (b:List UInt8) (p a0 a1 a2:Addr) (as:Nat->Addr) (own:b9) (n:Nat) (fl:s6) (c:Nat) (ws:List Str) (cs:CD) (v7 v8:Option V) (k:Nat):LP:=λX=>∀(Ts:Nat->LT) (nsf:Nat->List Nat),Y5 own (S3 as Ts)->(∀j,j<3->vwT (Ts j)=if j<k then V3 (vwC (prt j) cs) c (.tup [D9 (nsf j),wsV ws]) else vwC (prt j) cs)->(∀j,j<k->u6 (fl.getD (j+1) [])=some (nsf j))->(0<k->aw7 (C9 cs c) ws=false)->∀v5 v6,X [some (.bytes b),some (.ref p),some (.lst [.ref a0,.ref a1,.ref a2]),some (.int (n:Nat)),some (.lst (fl.map .bytes)),some (.int c),some (wsV ws),v5,v6,v7,v8] (m6 own (S3 as Ts))
noncomputable def cM7 (b:List UInt8) (p a0 a1 a2 am:Addr) (cd:CD) (ms:List (Str×V)) (H:b9) (v1 v2 v3 v4 v5 v6:Option V) (i:Nat):LP:=λX=>∀pl,ba9 H pl i->∀v9 v10,X [some (.bytes b),some (.ref p),some (.lst [.ref a0,.ref a1,.ref a2]),v1,v2,v3,v4,v5,v6,v9,v10] (stP cd ms am H pl)
theorem Y7 (W:Ok) (hp:own p=some (u7 am)) (ha:own am=some (.dictS ms)) (hz:b.length<sizeLine)
  (hr:∀rows,q7 4 5 b=.ok rows->rows.length<50)
  (hok:∀cs,O6 b=.ok cs->ms.length<=900/\(∀n∈(["slc","stc","suc"]:List Str),k7 ms n=none)/\cs≠[]/\(∀q∈cs,(1<=q.1/\q.1<1114111)/\∀r∈q.2,ba2 r)/\∀x∈cs,∀y∈cs,x.1<y.1->x.1+2<=y.1)
  (hQ:∀cs cd,O6 b=.ok cs->cd.Perm cs->cd.Pairwise (λa b=>a.1+2<=b.1)->∀l,ba9 own l 3->Q .none (stP cd ms am own l))
  (hE:∀n,O6 b=.error n->EX (fa 8) (.int (n:Nat)) own):A7 7 32 [.bytes b,.ref p] own Q EX:=by
 refine e8 (ns:=["octets","data","lots","number","fields","code","conditions","k","told","name","lot"]) (others:=["lots","number","fields","code","conditions","k","told","name","lot"]) W rfl rfl rfl
  (Den_cons (Den_asg (.s (.s .z)) rfl (w5 (a6 (N4 Int) (a6 (N4 Int) (a6 (N4 Int) a8 rfl) rfl) rfl)) rfl)
  (Den_cons (i6 (c4 22 27 rfl rfl rfl (a6 (a9 .z rfl) (a6 b8 (a6 b8 a8 rfl) rfl) rfl)) (o6 (c8 (c0 (.s (.s (.s .z))) rfl) (c8 (c0 (.s (.s (.s (.s .z)))) rfl) k8 rfl) rfl)) (Den_cons (Den_asg (.s (.s (.s (.s (.s .z))))) rfl (c4 17 21 rfl rfl rfl (a6 (d5 (a9 (.s (.s (.s (.s .z)))) rfl) b8 rfl) (a6 (a9 (.s (.s (.s .z))) rfl) a8 rfl) rfl)) rfl)
  (Den_cons (N6<|Den_asg (.s (.s (.s (.s (.s (.s .z)))))) rfl (C3 (c6 (j5 67 rfl rfl (a6 (a9 (.s (.s (.s (.s .z)))) rfl) a8 rfl)) b8 rfl) (c4 25 30 rfl rfl rfl (a6 (d5 (a9 (.s (.s (.s (.s .z)))) rfl) b8 rfl) (a6 (a9 (.s (.s (.s .z))) rfl) a8 rfl) rfl)) (d7 a8)) rfl)
  (Den_cons (i6 (p8 79 rfl rfl (a6 b8 a8 rfl)) (c0 (.s (.s (.s (.s (.s (.s (.s .z))))))) rfl) (Den_cons (Den_asg (.s (.s (.s (.s (.s (.s (.s (.s .z)))))))) rfl (e7 F.plainAttrs_dict F.slot_dict_setdefault F.type_dict_setdefault rfl rfl rfl (d5 (a9 (.s (.s .z)) rfl) (a9 (.s (.s (.s (.s (.s (.s (.s .z))))))) rfl) rfl) (a6 (a9 (.s (.s (.s (.s (.s .z))))) rfl) (a6 (p6 a8) a8 rfl) rfl)) rfl)
  (Q6<|Den_cons (i8 (c6 (a9 (.s (.s (.s (.s (.s (.s .z)))))) rfl) (j8 ["codes","other"] rfl (λU U=>rfl) (a9 (.s (.s (.s (.s (.s (.s (.s (.s .z)))))))) rfl) (o6 (c8 (c0 .z rfl) (c8 (c0 (.s .z) rfl) k8 rfl) rfl)) n7 (a9 (.s .z) rfl)) rfl) (Den_cons (w8 5 8 rfl (by decide) rfl rfl (a9 (.s (.s (.s .z))) rfl))
  b6) b6)
  (Den_cons (l9 (e7 F.plainAttrs_list F.slot_list_append F.type_list_append rfl rfl rfl (a9 (.s (.s (.s (.s (.s (.s (.s (.s .z)))))))) rfl) (a6 (d7 (a6 (c4 18 22 rfl rfl rfl (a6 (d5 (a9 (.s (.s (.s (.s .z)))) rfl) (d6 (a9 (.s (.s (.s (.s (.s (.s (.s .z))))))) rfl) b8) rfl) (a6 (a9 (.s (.s (.s .z))) rfl) a8 rfl) rfl)) (a6 (a9 (.s (.s (.s (.s (.s (.s .z)))))) rfl) a8 rfl) rfl)) a8 rfl)) rfl)
  b6))) b6 (λU U=>rfl))
  b6))) b6 (λU U=>rfl))
  (Q6<|Den_cons (i6 (d7 (a6 (d7 (a6 d0 (a6 (d5 (a9 (.s (.s .z)) rfl) b8 rfl) a8 rfl) rfl)) (a6 (d7 (a6 d0 (a6 (d5 (a9 (.s (.s .z)) rfl) b8 rfl) a8 rfl) rfl)) (a6 (d7 (a6 d0 (a6 (d5 (a9 (.s (.s .z)) rfl) b8 rfl) a8 rfl) rfl)) a8 rfl) rfl) rfl)) (o6 (c8 (c0 (.s (.s (.s (.s (.s (.s (.s (.s (.s .z))))))))) rfl) (c8 (c0 (.s (.s (.s (.s (.s (.s (.s (.s (.s (.s .z)))))))))) rfl) k8 rfl) rfl)) (Den_cons (l9 (c4 23 28 rfl rfl rfl (a6 (a9 (.s .z) rfl) (a6 (a9 (.s (.s (.s (.s (.s (.s (.s (.s (.s .z))))))))) rfl) (a6 (j8 ["code"] rfl (λU U=>rfl) (j5 71 rfl rfl (a6 (a9 (.s (.s (.s (.s (.s (.s (.s (.s (.s (.s .z)))))))))) rfl) a8 rfl)) (c0 .z rfl) n7 (d7 (a6 (a9 .z rfl) (a6 (a9 .z rfl) (a6 (d5 (B1 (.s (.s (.s (.s (.s (.s (.s (.s (.s (.s .z)))))))))) rfl rfl) (a9 .z rfl) rfl) a8 rfl) rfl) rfl))) a8 rfl) rfl) rfl)) rfl)
  b6) b6 (λU U=>rfl))
  b6))) ?_
 walk_at "d"
 intro a0 h0 a1 h1 a2 h2
 walk_at "n"
 have k3:Y5 own (S3 (at3 a0 a1 a2) λU=>[]):=(((show Y5 own ([]++[]) from⟨dl4.nil,λU h=>nomatch h⟩).ins (X:=[]) (Y:=[]) (o:=.dictI []) h0).ins (X:=[]) (o:=.dictI []) h1).ins (X:=[]) (o:=.dictI []) h2
 refine⟨sz rfl,3,rfl,R7 W (least:=4) (most:=5) hz (λrows hrows=>?_) λn hn=>aj9 (k3.sub cc5) (hE n (by rw[O6,hn]))⟩
 have eR:O6 b=u8 rows []:=by rw[O6,hrows]
 have fit:=as6 hrows
 have hr0:=hr rows hrows
 rw[eR] at hok hE hQ
 have lat:=@bU9 a0 a1 a2
 refine ad4 (J26 b p a0 a1 a2 (at3 a0 a1 a2) own rows) m9 (λU k=>k _ [] rfl k3 (λU U=>rfl) ⟨cX5 _,.nil,λU h=>nomatch h⟩ _ _ _ _ _ _ _ _) ?_ ?_
 ·generalize at3 a0 a1 a2=as at lat k3 ⊢
  rintro i ⟨n,fl⟩ hx Ts cs hT ok hv ci v1 v2 v3 v4 v5 v6 v7 v8 -
  have hi:i<rows.length:=(cX4.mp hx).1
  obtain⟨⟨n1,n2⟩,hf⟩:=fit _ (cW7 hx)
  simp only at n1 n2 hf
  rw[I0 hx] at hT
  have raise:∀{Ts':Nat->LT},Y5 own (S3 as Ts')->u8 rows []=.error n->aN3 EX (fa 8) (.int (n:Nat)) [] (m6 own (S3 as Ts')):=λok' h=>aj9 (ok'.sub cc5) (hE n h)
  have fat:∀{k:Nat} {o:b9} {K:V->b9->Prop},k<fl.length->K (.bytes (fl.getD k [])) o->Q3 (.lst (fl.map .bytes)) (.int (k:Nat)) o K:=λ{k o K} h q=>W3 .lst (cX8 k) (dh8 (cY1.mpr (cX7 h n2)) (by decide)) (bV0 h) q
  have fle:∀{k:Nat},k<fl.length->(fl.getD k []).length<=b.length:=λh=>hf _ (bG6 h)
  unfold bE6
  walk_at "d"
  refine⟨rfl,fat (k:=0) (cX7 (by decide) n1) ⟨4,rfl,J7 W (cV2 (fle (cX7 (by decide) n1)) (cY0 hz)) (λc hc=>?_) λhc=>raise ok (by rw[<-hT,u8,M7,hc];rfl)⟩⟩
  walk_at "n"
  refine ar0 (cM5 b p a0 a1 a2 (m6 own (S3 as Ts)) n fl c v5 v6 v7 v8) (R4 .lst (by rw[cV3];exact cV9 n2 (by decide)) ?_) ?_
  ·rw[cV3]
   walk_at "d"
   have e5:decide (((fl.length:Nat):Int)=5)=decide (fl.length=5):=decide_eq_decide.mpr (by lia)
   rw[e5]
   refine r7 (λh=>?_) λh=>?_
   ·have h:=of_decide_eq_true h
    have e:aa1 fl=Z8 (fl.getD 4 []):=if_pos h
    have l4:4<fl.length:=by rw[h];decide
    refine fat (k:=4) l4 ⟨5,rfl,aO4 W (cV9 (fle l4) hz) (λws hws=>?_) λhws=>raise ok (by rw[<-hT,u8,M7,hc,e,hws];rfl)⟩
    walk_at "n"
    exactλU k=>k ws (e.trans hws)
   ·walk_at "n"
    exact⟨sz rfl,λU k=>k [] (if_neg (of_decide_eq_false h))⟩
  intro ws hws
  have wok:=bp7 hws
  walk_at "n"
  refine Q4 λr hr1=>?_
  refine aw4 (cM6 b p a0 a1 a2 as own n fl c ws cs v7 v8) (It_range (b5 _ _ _) (by decide) (by decide) (by decide) (by decide)) (.at (by rw[c5,d9 hr1]) λU k=>k Ts (λU=>[]) ok (λj hj=>(hv j hj).trans (if_neg (dk2 j)).symm) (λj hj=>absurd hj (dk2 j)) (λh=>absurd h (de6 0)) _ _) ?_ ?_
  ·clear ok hv
   intro k y hy Ts nsf ok hv hns hno v5 v6 _
   rcases ae3 (n:=3) hy with⟨hk,rfl⟩
   obtain⟨X,Y,sp1,sp2⟩:=bG5 as Ts k hk
   have sp3:=λT=>congrArg (λL=>c7 (m6 own L)) (sp1 T)
   walk_at "d"
   refine W3 (x:=.ref (as k)) .lst (cX8 k) (dn3 (cY1.mpr hk) (by decide)) (lat hk) ?_
   walk_at "d"
   have okS:=ok
   rw[sp2] at ok ⊢
   obtain⟨m1,-,-⟩:=Y5.mid (X:=X) (Y:=chL (Ts k)++Y) (a:=as k) (o:=.dictI (C8 (Ts k))) ok
   refine⟨(A1.at_own (K:=Int) (es:=C8 (Ts k)) m1).ty,sz rfl,λe he=>?_⟩
   have ea:e≠as k:=λq=>by rw[q] at he;exact nomatch he.symm.trans m1
   obtain⟨d,o1,T',hdis,gh,ok',hd,hadd⟩:=ok.find c he
   refine aA2 W.ok (k:=(c:Int)) ((b7 (Ne.symm ea)).trans m1) ?_ hdis ?_
   ·have hvk:vwT (Ts k)=vwC (prt k) cs:=(hv k hk).trans (if_neg (de6 k))
    have e:=congrArg dc7 hvk
    rw[vwT,vwC,cV3,cV3] at e
    rw[C8,cV3,e]
    exact cV2 ci.len (cY0 (cZ9 hi (cZ9 hr0 (by decide))))
   walk_at "n"
   refine⟨_,gh,?_⟩
   walk_at "d"
   have hvk:vwT (Ts k)=vwC (prt k) cs:=(hv k hk).trans (if_neg (de6 k))
   rw[hvk,ck9] at hd hadd
   rcases ci.get c with⟨g1,g2⟩
   have len:((C9 cs c).map (G5 (prt k))).length<=sizeLine:=by rw[cV3];exact cV2 g1 (cY0 (cZ9 hi (cZ9 hr0 (by decide))))
   refine bn2 cM4 hd len (λj w y hw hat hy=>?_) ?_
   ·rcases bR3 hw with⟨v,v',rfl⟩
    rcases cV6.mp hy with⟨r,hr,rfl⟩
    unfold G5
    walk_at "d"
    exact⟨rfl,al3 hat⟩
   rw[cW0]
   refine cz7 wok g2 ?_
   walk_at "d"
   rw[<-sp1] at gh ok' hd ⊢
   refine r7 (λh=>?_) λh=>?_
   ·walk_at "n"
    exact raise ok' (hT.symm.trans (bV4 hc hws h))
   have k4:k+1<fl.length:=cX7 (dm4 hk) n1
   walk_at "n"
   refine⟨K9 hd,fat (k:=k+1) k4 ⟨5,rfl,R6 W (cV9 (fle k4) hz) (λns hcs=>?_) λhcs=>raise ok' (by rw[<-hT,u8,bH1 hk hcs])⟩⟩
   walk_at "d"
   refine⟨sz rfl,n5 hd len ?_⟩
   obtain⟨T'',e1,k1,e2⟩:=hadd (.tup [D9 ns,wsV ws])
   rw[<-sp1 T',<-sp1 T''] at e1
   rw[<-sp1] at k1
   walk_at "n"
   refine .at e1 λU kk=>kk _ (λj=>if j=k then ns else nsf j) k1 (λj hj=>?_) (λj hj=>?_) (λU=>h) _ _
   ·unfold cz9
    by_cases q:j=k
    ·subst q
     rw[if_pos rfl,if_pos (db4 j)]
     rw[if_pos rfl];exact e2
    ·rw[if_neg q,if_neg q,hv j hj]
     by_cases q2:j<k
     ·rw[if_pos q2,if_pos (df3 q2)]
     ·rw[if_neg q2,if_neg λq3=>q2 (dh7 (da5 q3) q)]
   ·by_cases q:j=k
    ·subst q;rw[if_pos rfl];exact hcs
    ·rw[if_neg q];exact hns j (dh7 (da5 hj) q)
  ·clear ok hv
   intro Ts nsf ok hv hns hno v5 v6
   have hr3:(P9 0 3).length=3:=rfl
   rw[hr3] at hv hns hno
   replace hno:=hno (by decide)
   walk_at "n"
   rw[u8,aQ4 hc hws hns] at hT
   simp only at hT
   rw[if_neg (by rw[hno];exact cV7)] at hT
   refineλU kk=>kk Ts _ hT ok (λj hj=>?_) (ci.add c wok) _ _ _ _ _ _ _ _
   rw[hv j hj,if_pos hj,bV5 j hj,cl0]
 ·intro Ts cs hT ok hv ci v1 v2 v3 v4 v5 v6 v7 v8
  rw[dd7,u8] at hT
  obtain⟨z1,z2,z3,z4,z5⟩:=hok _ hT.symm
  replace hQ:=λcd=>hQ _ cd hT.symm
  generalize at3 a0 a1 a2=as at lat ok ⊢
  rcases cl2 W.ok ok with⟨gh,okF⟩
  walk_at "n"
  refine⟨_,gh,?_⟩
  walk_at "d"
  refine W3 (x:=.ref (as 0)) .lst (by decide) (by decide) (lat (k:=0) (by decide)) ⟨sz rfl,?_⟩
  refine W3 (x:=.ref (as 1)) .lst (by decide) (by decide) (lat (k:=1) (by decide)) ⟨sz rfl,?_⟩
  refine W3 (x:=.ref (as 2)) .lst (by decide) (by decide) (lat (k:=2) (by decide)) ⟨sz rfl,sz rfl,?_⟩
  have far:∀{x:Addr} {o:O},own x=some o->m6 own (S3F as Ts) x=some o:=λ{x o} h=>(ae4 λq hq e=>by have:=okF.fr q hq;rw[e,h] at this;cases this).trans h
  have hHp:=far hp
  have hHa:=far ha
  have hHi:∀i,i<3->m6 own (S3F as Ts) (as i)=some (.dictI (frV (vwC (prt i) cs))):=λi hi=>by rw[cl3 okF i hi,cl1,hv i hi]
  have hsub:Sub own (m6 own (S3F as Ts)):=okF.sub cl4
  have hfr:∀{a},m6 own (S3F as Ts) a=none->own a=none:=λh=>(O3 h).1
  clear far okF gh ok hv
  generalize m6 own (S3F as Ts)=H at hHp hHa hHi hsub hfr ⊢
  obtain⟨ns0,hp0,hs0⟩:=cA0 (cs.map λq=>(q.1:Int))
  rcases ba7 (fs:=cs) (get:=C9 cs) (bG2 ci.nd) ci.nd hp0 hs0 z5 with⟨p1,p2⟩
  have hAsc:∀f,Asc (w4 f (aQ3 cs ns0)):=λf=>by rw[Asc,w4,da3];exact p2
  have nl:ns0.length<50:=by rw[hp0.length_eq,cV3];exact cV9 ci.len hr0
  refine aw4 (cM7 b p a0 a1 a2 am (aQ3 cs ns0) ms H v1 v2 v3 v4 v5 v6) F5 (.at (bV2 hHa) λU k=>k [] ⟨rfl,.nil,λU h=>nomatch h⟩ _ _) ?_ ?_
  ·intro i y hy pl pk v9 v10 _
   obtain⟨n,hn,hi,rfl⟩:=cl5 hy
   have hia:=hHi i hi
   have npa:p≠am:=λq=>by rw[q,hHa] at hHp;cases hHp
   have nia:as i≠am:=λq=>by rw[q,hHa] at hia;cases hia
   obtain⟨s1,s2,-,s4⟩:=bg9 hn
   walk_at "d"
   refine⟨rfl,ay9 W.ok (aG7 pk hia nia) ?_ λns hns hsrt=>?_⟩
   ·rw[frV,cV3,vwC,cV3];exact cV9 ci.len (cZ9 hr0 (by decide))
   have hns:ns.Perm (cs.map λq=>(q.1:Int)):=by rw[frV,vwC,cW0,cW0] at hns;exact hns
   have e0:ns=ns0:=ksm_same (hns.trans hp0.symm) hsrt hs0
   subst e0
   refine A2 (cc6 (prt i) cs) m9 (by rw[cV3];exact cY0 (cZ9 nl (by decide))) (λj w y hw hat hy=>?_) ?_
   ·rcases F9 hw with⟨v,rfl⟩
    rcases cV6.mp hy with⟨n,hn,rfl⟩
    rcases cV6.mp (hns.mem_iff.mp hn) with⟨q,hq,rfl⟩
    walk_at "d"
    refine cy1 W.ok (k:=(q.1:Int)) (.at_own (aG7 pk hia nia)) (bH0 (cW4 hq)) ⟨sz rfl,al3 hat⟩
   rw[bq0 λn hn=>by obtain⟨q,_,rfl⟩:=cV6.mp (hns.mem_iff.mp hn);exact cX8 _]
   refine⟨6,rfl,aP4 W (aG7 pk hHp npa) (b5 _ _ _) ?_ (bG9 pk hn (z2 n s4)) s2 (hAsc _) (λq hq=>?_) (λq hq=>?_) (λe=>?_) ?_ λm hm0=>?_⟩
   ·have e:=congrArg dc7 pk.nm
    rw[cV3] at e
    rw[cV4,Y6,cV3,e]
    exact cV2 (cZ5 z1 (da9 _ _)) (by decide)
   ·rcases cV6.mp hq with⟨x,hx,rfl⟩
    exact(z4 x (p1.mem_iff.mp hx)).1
   ·rcases cV6.mp hq with⟨x,hx,rfl⟩
    exact ck4 (z4 x (p1.mem_iff.mp hx)).2
   ·exact z3 (List.nil_perm.mp ((db3.mp e)▸p1))
   ·rw[w4,aQ3,cV3,cV3];exact cY0 (cZ9 nl (by decide))
   ·obtain⟨q1,q2⟩:=bG7 pk hm0 (by rw[hHa];exact nofun) hn
    walk_at "n"
    exact .at q1 λU k=>k _ q2 _ _
  ·intro pl pk v9 v10
   walk_at "n"
   exact bC2 (bV3 hsub pl) (hQ _ p1 p2 pl ⟨pk.nm,pk.nd,λx hx=>hfr (pk.fr x hx)⟩)
end
section
variable {own:b9}
noncomputable def bH2:V->V
 | .int i=>.int (i.fmod 1000000007)
 | v=>v
theorem cA1 (W:Ok) {V:V} {is:List Int} {Q:Mine.V->b9->Prop} {EX:XC} (L:j4 own V (is.map .int)) (hl:is.length<=1000) (hQ:∀a,own a=none->Q (.ref a) (c7 own a (some .deck))):A7 1 50 [V] own Q EX:=by
 refine e8 (ns:=["script","cell","cells","mixed"]) (others:=["cell","cells","mixed"]) W rfl rfl rfl
  (Den_cons (Den_swap [(.s (.s .z)),(.s (.s (.s .z)))] rfl (by with_unfolding_all rfl) rfl (d7 (a6 (j8 ["cell"] rfl (λU U=>rfl) (u5 (a9 .z rfl) f5 (m8 b8) f5) (c0 .z rfl) n7 (d6 (p8 75 rfl rfl (a6 (a9 .z rfl) a8 rfl)) b8)) (a6 b8 a8 rfl) rfl)))
  (Den_cons (i6 (a9 (.s (.s .z)) rfl) (c0 (.s .z) rfl) (Den_cons (Den_asg (.s (.s (.s .z))) rfl (d6 (d6 (d6 (a9 (.s (.s (.s .z))) rfl) b8) (a9 (.s .z) rfl)) b8) rfl)
  b6) b6 (λU U=>rfl))
  (Den_cons (ar1 (bg1 rfl rfl rfl rfl (y4 (u5 (a9 (.s (.s .z)) rfl) f5 f5 (m8 (an4 b8))) (y4 (a9 (.s (.s (.s .z))) rfl) aN6))))
  b6))) ?_
 walk_at "d"
 have hc:∀x∈(cut (is.map Mine.V.int) none (some 40)),∃i,x=.int i:=λx hx=>by
  obtain⟨i,-,rfl⟩:=cV6.mp (db6 (db5 hx));exact⟨i,rfl⟩
 have hc2:(cut (is.map Mine.V.int) none (some 40)).length<=40:=by
  rw[show cut (is.map Mine.V.int) none (some 40)=(is.map Mine.V.int).take 40 from Z6 _ 40];exact List.length_take_le _ _
 refine u_l (lo:=none) (hi:=some 40) L (by rw[cV3];exact cV2 hl (by decide)) rfl rfl ?_
 generalize cut (is.map Mine.V.int) none (some 40)=xs at hc hc2 ⊢
 refine A2 bH2 m9 (cV2 hc2 (by decide)) (λj w y hw hat hy=>?_) ?_
 ·rcases F9 hw with⟨v,rfl⟩
  rcases hc y hy with⟨i,rfl⟩
  walk_at "d"
  refine cx9 (aq9 (by decide) (al3 hat))
 have hx:Q1 (xs.map bH2):=⟨by rw[cV3];exact cV2 hc2 (by decide),λx hx=>by
  rcases cV6.mp hx with⟨y,hy,rfl⟩
  rcases hc y hy with⟨i,rfl⟩
  exact⟨_,rfl,dd4 _ (by decide),dg2 _ (by decide)⟩⟩
 generalize xs.map bH2=xs at hx ⊢
 walk_at "n"
 refine⟨sz rfl,rfl,?_⟩
 walk_at "n"
 refine⟨_,_,λi l o=>o=own/\∃v1 mx,0<=mx/\mx<2147483647/\l=[some V,v1,some (.lst xs),some (.int mx)],m9,⟨rfl,_,11,by decide,by decide,rfl⟩,?_,?_⟩
 ·rintro i l o y - ⟨rfl,v1,mx,m0,m1,rfl⟩ hy
  obtain⟨i,rfl,i0,i1⟩:=hx.2 y (cW7 hy)
  walk_at "n"
  refine bf9 (IntMulOk.of_right (by decide)) ?_
  walk_at "d"
  refine aq9 (by decide) ?_
  walk_at "n"
  exact⟨rfl,_,_,dd4 _ (by decide),dn3 (dg2 _ (by decide)) (by decide),rfl⟩
 ·intro l o q1_
  obtain⟨rfl,v1,mx,m0,m1,rfl⟩:=q1_
  walk_at "n"
  unfold aF0
  walk_at "d"
  refine bS3 .lst (cV2 hx.1 (by decide)) λd hd=>?_
  walk_at "d"
  refine⟨show([("cells":Str),"mixed"]).Nodup by decide +kernel,λa ha=>?_⟩
  have ne:a≠d:=λq=>by rw[q,b5] at ha;cases ha
  rw[b7 ne] at ha
  unfold aE9
  refine⟨a,d,mx,xs.reverse,b5 _ _ _,(b7 ne.symm).trans (b5 _ _ _),m0,m1,⟨by rw[cZ0];exact hx.1,λx q=>hx.2 x (di0.mp q)⟩,?_⟩
  rw[n9 _ _ _ ne.symm,c5,n9 _ _ _ ne,c5,d9 hd]
  walk_at "r"
  exact hQ a ha
end
section
variable {own:b9}
abbrev B8:=List UInt8
abbrev Cel:=List B8×B8×Bool
noncomputable def L4:List (List B8):=[[],[[]],[[35,32,48,48,52,49,59,32,67,59,32,48,48,54,50,59],[]]]
noncomputable def G7 (cs:List Cel):List B8:=cs.flatMap λc=>c.1++[c.2.1]
noncomputable def as8:V->Nat->List Cel->V
 | v,_,[]=>v
 | v,n,c::r=>as8 (if c.2.2=true then .int ((n+(c.1.length+1):Nat):Int) else v) (n+(c.1.length+1)) r
theorem as9:as8 v n (c::r)=as8 (if c.2.2=true then .int ((n+(c.1.length+1):Nat):Int) else v) (n+(c.1.length+1)) r:=rfl
theorem at0 (cs:List Cel) (c:Cel):G7 (cs++[c])=G7 cs++c.1++[c.2.1]:=by rw[G7,G7,de5,List.flatMap_singleton,cW2]
theorem bq1 (c:Cel) (cs:List Cel):∀(v:V) (n:Nat),as8 v n (cs++[c])=if c.2.2=true then .int ((n+(G7 (cs++[c])).length:Nat):Int) else as8 v n cs:=by
 induction cs with
 | nil=>
  intro v n
  show(if c.2.2=true then _ else v)=_
  rw[at0,G7,List.flatMap_nil,da1,cV4];rfl
 | cons d r ih=>
  intro v n
  rw[da6,as9,ih,as9,<-da6,show G7 (d::r++[c])=(d.1++[d.2.1])++G7 (r++[c]) from rfl,cV4,cV4,de7];rfl
noncomputable def cl6:Option B8->V
 | none=>.none
 | some x=>.bytes x
noncomputable def B6 (k:Nat) (lines:List B8):Option B8->List (B8×Bool)
 | none=>lines.map λx=>(x,false)
 | some x=>((lines.map λx=>(x,false)).take k++[(x,true)])++(lines.map λx=>(x,false)).drop k
noncomputable def bb0 (p:B8×Bool):V:=.tup [.bytes p.1,.bool p.2]
noncomputable def cM8 (p:List B8):V:=.lst (p.map .bytes)
theorem aQ5 (k:Nat) (lines:List B8) (odd:Option B8):(B6 k lines odd).length<=lines.length+1:=by
 cases odd with
 | none=>rw[B6,cV3];exact db7 _
 | some x=>
  have e:=dj3 k (lines.map λx=>(x,false))
  have e:=congrArg dc7 e
  rw[cV4,cV3] at e
  rw[B6,cV4,cV4,df0]
  lia
theorem aG8 (h:∀c∈cs,c.1∈L4):(G7 cs).length<=3*cs.length:=by
 induction cs with
 | nil=>exact cZ2 _
 | cons c r ih=>
  have h:=cX1.mp h
  have h1:=(show∀p∈L4,p.length<=2 by decide) _ h.1
  rw[show G7 (c::r)=(c.1++[c.2.1])++G7 r from rfl,cV4,cV4,dd0]
  exact show _<=3*r.length+3 from cZ5 (ih h.2) (cW3 h1)
theorem bh0 (h:∀c∈cs,c.1∈L4/\c.2.1.length<=N) (hN:16<=N):∀x∈G7 cs,x.length<=N:=λx hx=>by
 obtain⟨c,hc,hx⟩:=dc8.mp hx
 rcases cW9.mp hx with hx | hx
 ·exact cV2 ((show∀p∈L4,∀x∈p,x.length<=16 by decide) _ (h c hc).1 x hx) hN
 ·rw[cV8.mp hx];exact(h c hc).2
theorem aQ6 (h:∀x∈lines,x.length<=N) (ho:∀x,odd=some x->x.length<=N):∀p∈B6 k lines odd,p.1.length<=N:=λp hp=>by
 have hm:∀p∈lines.map (λx=>(x,false)),p.1.length<=N:=λp hp=>by obtain⟨x,hx,rfl⟩:=cV6.mp hp;exact h x hx
 cases odd with
 | none=>exact hm p hp
 | some x=>
  rcases cW9.mp hp with hp | hp
  ·rcases cW9.mp hp with hp | hp
   ·exact hm p (db5 hp)
   ·rw[cV8.mp hp];exact ho x rfl
  ·exact hm p (db6 hp)
noncomputable def cA2 (a:Addr) (lines:List B8) (odd:Option B8) (k:Nat) (f:Addr) (own:b9):LP:=λX=>X [some (.ref a),some (.lst (lines.map .bytes)),some (cl6 odd),some (.int k),some (.ref f),some .none,none,some (.lst ((B6 k lines odd).map bb0)),none] (c7 own f (some (.list [])))
noncomputable def J28 (a:Addr) (lines:List B8) (odd:Option B8) (k:Nat) (f:Addr) (own:b9) (lots:List (B8×Bool)) (i:Nat):LP:=λX=>∀cs,(∀c∈cs,c.1∈L4)->cs.map (·.2)=lots.take i->∀v6 v8,X [some (.ref a),some (.lst (lines.map .bytes)),some (cl6 odd),some (.int k),some (.ref f),some (as8 .none 0 cs),v6,some (.lst (lots.map bb0)),v8] (c7 own f (some (.list ((G7 cs).map .bytes))))
theorem cc7 (W:Ok) (ha:own a=some .deck) (hl:lines.length<=100) (hz:∀x∈lines,x.length<=1000) (ho:∀x,odd=some x->x.length<=1000)
  (hQ:∀k cs,k<=lines.length->(∀c∈cs,c.1∈L4)->cs.map (·.2)=B6 k lines odd->Q (.tup [.bytes (g8 [10] (G7 cs)++[10]),as8 .none 0 cs]) own):A7 3 58 [.ref a,.lst (lines.map .bytes),cl6 odd] own Q EX:=by
 refine e8 (ns:=["deck","lines","odd","spot","found","number","line","lots","is_odd"]) (others:=["spot","found","number","line","lots","is_odd"]) W rfl rfl rfl
  (Den_cons (Den_swap [(.s (.s (.s .z))),(.s (.s (.s (.s .z)))),(.s (.s (.s (.s (.s .z)))))] rfl (by with_unfolding_all rfl) rfl (d7 (a6 (c4 43 51 rfl rfl rfl (a6 (a9 .z rfl) (a6 (d6 (j5 67 rfl rfl (a6 (a9 (.s .z) rfl) a8 rfl)) b8) a8 rfl) rfl)) (a6 (p6 a8) (a6 w6 a8 rfl) rfl) rfl)))
  (Den_cons (J5 (.s (.s (.s (.s (.s (.s (.s .z))))))) ["line"] rfl rfl (λU U=>rfl) (by with_unfolding_all rfl) (a9 (.s .z) rfl) (c0 .z rfl) n7 (d7 (a6 (a9 .z rfl) (a6 s5 a8 rfl) rfl)))
  (Den_cons (W2 (c6 (a9 (.s (.s .z)) rfl) w6 rfl) (Den_cons (Den_asg (.s (.s (.s (.s (.s (.s (.s .z))))))) rfl (d6 (d6 (u5 (a9 (.s (.s (.s (.s (.s (.s (.s .z))))))) rfl) f5 (m8 (a9 (.s (.s (.s .z))) rfl)) f5) (w5 (a6 (d7 (a6 (a9 (.s (.s .z)) rfl) (a6 s5 a8 rfl) rfl)) a8 rfl))) (u5 (a9 (.s (.s (.s (.s (.s (.s (.s .z))))))) rfl) (m8 (a9 (.s (.s (.s .z))) rfl)) f5 f5)) rfl)
  b6) b6)
  (Den_cons (i6 (a9 (.s (.s (.s (.s (.s (.s (.s .z))))))) rfl) (o6 (c8 (c0 (.s (.s (.s (.s (.s (.s .z)))))) rfl) (c8 (c0 (.s (.s (.s (.s (.s (.s (.s (.s .z)))))))) rfl) k8 rfl) rfl)) (Den_cons (l9 (e7 F.plainAttrs_list F.slot_list_extend F.type_list_extend rfl rfl rfl (a9 (.s (.s (.s (.s .z)))) rfl) (a6 (c4 44 52 rfl rfl rfl (a6 (a9 .z rfl) (a6 (d7 (a6 (w5 a8) (a6 (w5 (a6 c9 a8 rfl)) (a6 (w5 (a6 c9 (a6 c9 a8 rfl) rfl)) a8 rfl) rfl) rfl)) a8 rfl) rfl)) a8 rfl)) rfl)
  (Den_cons (l9 (e7 F.plainAttrs_list F.slot_list_append F.type_list_append rfl rfl rfl (a9 (.s (.s (.s (.s .z)))) rfl) (a6 (a9 (.s (.s (.s (.s (.s (.s .z)))))) rfl) a8 rfl)) rfl)
  (Den_cons (Den_asg (.s (.s (.s (.s (.s .z))))) rfl (C3 (g9 (a9 (.s (.s (.s (.s (.s (.s (.s (.s .z)))))))) rfl) (λU U=>rfl)) (j5 67 rfl rfl (a6 (a9 (.s (.s (.s (.s .z)))) rfl) a8 rfl)) (a9 (.s (.s (.s (.s (.s .z))))) rfl)) rfl)
  b6))) b6 (λU U=>rfl))
  (Den_cons (d4 (d7 (a6 (d6 (e7 FB.plainAttrs_bytes l5 n6 rfl rfl rfl c9 (a6 (a9 (.s (.s (.s (.s .z)))) rfl) a8 rfl)) c9) (a6 (a9 (.s (.s (.s (.s (.s .z))))) rfl) a8 rfl) rfl)))
  b6))))) ?_
 walk_at "d"
 refine R4 .lst (by rw[cV3];exact cV9 hl (by decide)) ?_
 rw[cV3]
 walk_at "d"
 refine⟨1,rfl,U7 W ha (Int.natCast_succ_pos _) λr h0 h1=>⟨sz rfl,λf hf=>⟨sz rfl,rfl,?_⟩⟩⟩
 rcases da8 h0 with⟨k,rfl⟩
 have hk:k<=lines.length:=da5 (cY1.mp h1)
 replace hQ:=λcs=>hQ k cs hk
 have hfa:f≠a:=λq=>by rw[q,ha] at hf;cases hf
 have hll:=aQ5 k lines odd
 have hlm:=aQ6 (k:=k) hz ho
 walk_at "n"
 refine ah3 (λx=>bb0 (x,false)) m9 (cV2 hl (by decide)) (λj w x hat hx=>?_) ?_
 ·walk_at "d"
  exact⟨sz rfl,mjE hat⟩
 walk_at "n"
 refine ar0 (cA2 a lines odd k f own) ?_ ?_
 ·have e0:lines.map (λx=>bb0 (x,false))=(lines.map λx=>(x,false)).map bb0:=by rw[cW0];rfl
  rw[e0]
  cases odd with
  | none=>
   refine ah2 rfl ?_
   walk_at "n"
   exactλU k=>k
  | some x=>
   refine ah2 rfl ?_
   walk_at "n"
   have hz0:((lines.map λx=>(x,false)).map bb0).length<=sizeLine:=by rw[cV3,cV3];exact cV2 hl (by decide)
   refine u_l (lo:=none) (hi:=some (k:Int)) .lst hz0 rfl rfl ?_
   walk_at "d"
   refine⟨sz rfl,sz rfl,ah0 .lst .lst ?_ ?_⟩
   ·exact cV2 (cZ5 (cV2 (by rw[Z6,dg8,cV3,cV3];exact de4 _ _) hl) (cX5 1)) (by decide)
   walk_at "d"
   refine u_l (lo:=some (k:Int)) (hi:=none) .lst hz0 rfl rfl ?_
   refine ah0 .lst .lst ?_ ?_
   ·rw[Z6,U1,cV4,dg8,dh9,cV3,cV3]
    exact cV2 (cZ5 (cZ5 (cV2 (de4 _ _) hl) (cX5 1)) (cV2 (dn7 _ _) hl)) (by decide)
   walk_at "n"
   refine .at2 ?_ λU k=>k
   rw[Z6,U1,B6,cV5,cV5,dn4,dn5];rfl
 unfold cA2
 generalize B6 k lines odd=lots at hQ hll hlm ⊢
 walk_at "n"
 refine ad4 (J28 a lines odd k f own lots) m9 (λU k=>k [] (λU h=>nomatch h) rfl _ _) ?_ ?_
 ·rintro i ⟨x,b⟩ hx cs hp hc v6 v8 -
  have hi:i<lots.length:=(cX4.mp hx).1
  have csl:cs.length<=101:=by
   have e:=congrArg dc7 hc
   rw[cV3,dg8] at e
   rw[e];exact cV2 (de4 _ _) (cV2 hll (cW3 hl))
  have len:(G7 cs).length<=400:=cV2 (aG8 hp) (cV2 (cZ3 3 csl) (by decide))
  rw[show bb0 (x,b)=.tup [.bytes x,.bool b] from rfl]
  walk_at "d"
  refine⟨rfl,K9 (b5 _ _ _),sz rfl,sz rfl,sz rfl,sz rfl,2,rfl,ad9 W ((b7 (Ne.symm hfa)).trans ha) (λh=>nomatch h) (by decide) λy hy=>?_⟩
  rcases(cV6.mp (show y∈L4.map cM8 from hy)) with⟨pd,hpd,rfl⟩
  have pl:=(show∀p∈L4,p.length<=2 by decide) _ hpd
  refine bD0 (b5 _ _ _) ?_ ?_
  ·rw[cV3,cV3];exact cV2 (cZ5 len pl) (by decide)
  walk_at "n"
  refine⟨K9 (b5 _ _ _),n5 (b5 _ _ _) ?_ ?_⟩
  ·rw[cV4,cV3,cV3];exact cV2 (cZ5 len pl) (by decide)
  have e1:(G7 cs).map V.bytes++pd.map V.bytes++[V.bytes x]=(G7 (cs++[(pd,x,b)])).map V.bytes:=by rw[at0,cV5,cV5];rfl
  rw[c5,c5,e1]
  have hp':∀c∈cs++[(pd,x,b)],c.1∈L4:=λc hc=>(cW9.mp hc).elim (hp c) λq=>by rw[cV8.mp q];exact hpd
  have hc':(cs++[(pd,x,b)]).map (·.2)=lots.take (i+1):=by rw[cV5,hc,g6 hx];rfl
  have hn:=bq1 (pd,x,b) cs .none 0
  have len':(G7 (cs++[(pd,x,b)])).length<2 ^ 63:=by
   rw[at0,cV4,cV4];exact cV9 (cZ5 (cZ5 len pl) (cX5 1)) (by decide)
  generalize cs++[(pd,x,b)]=cs' at hp' hc' hn len' ⊢
  walk_at "n"
  refine r7 (λh=>?_) λh=>?_
  ·refine R4 (.at_own (b5 _ _ _)) (by rw[cV3];exact len') ?_
   rw[cV3]
   walk_at "n"
   have hn1:=hn.trans (if_pos h)
   rw[db2] at hn1
   rw[<-hn1]
   exactλU k=>k cs' hp' hc' _ _
  ·walk_at "n"
   rw[<-hn.trans (if_neg (by rw[h];exact cV7))]
   exactλU k=>k cs' hp' hc' _ _
 ·intro cs hp hc v6 v8
  rw[cY5] at hc
  have csl:cs.length<=101:=by
   have e:=congrArg dc7 hc
   rw[cV3] at e
   rw[e];exact cV2 hll (cW3 hl)
  have hm:=bh0 (N:=1000) (cs:=cs) (λc hm=>⟨hp c hm,hlm c.2 (hc▸cW4 (f:=(·.2)) hm)⟩) (by decide)
  have hj:=y5 (sep:=[10]) hm
  have len:(G7 cs).length<=303:=cV2 (aG8 hp) (cZ3 3 csl)
  replace hj:=cV2 hj (cY3 _ len)
  walk_at "n"
  refine⟨rfl,Q5 (ns:=G7 cs) (.inr (.at_own (b5 _ _ _))) (cV2 hj (by decide)) ?_⟩
  walk_at "d"
  refine ah1 (q:=[10]) (cV2 (cY7 hj 1) (by decide)) ?_
  refine⟨sz rfl,?_⟩
  walk_at "d";repeat with_reducible apply bn4
  exact⟨_,(Sub.refl own).upd hf (λU U h=>nomatch h),hQ cs hp hc⟩
end
section
variable {own:b9}
noncomputable def A6:List Nat:=[65,73,223,304,7838,64259,66560,125217]
noncomputable def K4:List (List Str):=[["C"],["F"],["S"],["F","S"],["C","T"],["F","T"],["T"]]
noncomputable def bq2 (c:Nat) (q:Str×List Nat):V:=.tup [.int (c:Nat),.str q.1,D9 q.2]
noncomputable def O7 (fs:FD):List V:=fs.flatMap λq=>q.2.map (bq2 q.1)
structure bH3 (q:Str×List Nat):Prop where
 pos:1<=q.2.length
 le:q.2.length<=3
 one:q.1≠"F"->q.2.length=1
 mem:∀x∈q.2,x∈E1
structure L5 (n:Nat) (fs:FD):Prop where
 asc:fs.Pairwise λa b=>a.1+2<=b.1
 row:∀q∈fs,(∃j,j<n/\A6[j]?=some q.1)/\q.2.map (·.1)∈K4/\∀t∈q.2,bH3 t
theorem bH4 {n j c d:Nat} (h1:j<n) (h2:A6[j]?=some c) (h3:A6[n]?=some d):c+2<=d:=
 (show∀n,n<8->∀j,j<n->(A6[j]?.getD 0)+2<=A6[n]?.getD 0 by decide) n (cX4.mp h3).1 j h1 |> λh=>by rw[h2,h3] at h;exact h
theorem L5.snoc {n m c:Nat} {fs:FD} {t:Fol} (h:L5 n fs) (hc:A6[n]?=some c) (hm:n<m) (ht:t.map (·.1)∈K4) (ok:∀q∈t,bH3 q):L5 m (fs++[(c,t)]):=by
 refine⟨df6.mpr ⟨h.asc,.cons (λU h=>nomatch h) .nil,λx hx y hy=>?_⟩,λq hq=>?_⟩
 ·rw[cV8.mp hy]
  obtain⟨⟨j,h1,h2⟩,-⟩:=h.row x hx
  exact bH4 h1 h2 hc
 ·rcases cW9.mp hq with hq | hq
  ·obtain⟨⟨j,h1,h2⟩,h3⟩:=h.row q hq
   exact⟨⟨j,cZ9 h1 hm,h2⟩,h3⟩
  ·rw[cV8.mp hq];exact⟨⟨n,hm,hc⟩,ht,ok⟩
theorem bb1 (fs:FD) (c:Nat) (t:Fol):O7 (fs++[(c,t)])=O7 fs++t.map (bq2 c):=by rw[O7,O7,de5,List.flatMap_singleton]
theorem ai4:∀l∈K4,l.length<=2:=by decide
theorem ai5 {n:Nat} {fs:FD} (h:∀q∈fs,(∃j,j<n/\A6[j]?=some q.1)/\q.2.map (·.1)∈K4/\∀t∈q.2,bH3 t):(O7 fs).length<=2*fs.length:=by
 induction fs with
 | nil=>exact cZ2 _
 | cons q r ih=>
  have h:=cX1.mp h
  have h1:=ai4 _ h.1.2.1
  rw[cV3] at h1
  rw[show O7 (q::r)=q.2.map (bq2 q.1)++O7 r from rfl,cV4,cV3,dd0]
  exact show _<=2*r.length+2 from cZ5 (ih h.2) h1
noncomputable def cM9 (l:List Str):V:=.tup (l.map .str)
noncomputable def J29 (a f:Addr) (own:b9) (i:Nat):LP:=λX=>∀(n:Nat) (fs:FD) v3 v4 v5,n<=2+2*i->L5 n fs->fs.length=i->X [some (.ref a),some (.ref f),some (.int (n:Nat)),v3,v4,v5] (c7 own f (some (.list (O7 fs))))
noncomputable def cN0 (a f:Addr) (own:b9) (n i c:Nat) (fs:FD) (lot:List Str) (j:Nat):LP:=λX=>∀(t:Fol) v4 v5,t.map (·.1)=lot.take j->(∀q∈t,bH3 q)->X [some (.ref a),some (.ref f),some (.int (n:Nat)),some (.int (i:Nat)),v4,v5] (c7 own f (some (.list (O7 fs++t.map (bq2 c)))))
noncomputable def cN1 (a f:Addr) (o:b9) (n i:Nat) (s:Str):LP:=λX=>∀k:Nat,1<=k->k<=3->(s≠"F"->k=1)->X [some (.ref a),some (.ref f),some (.int (n:Nat)),some (.int (i:Nat)),some (.str s),some (.int (k:Nat))] o
theorem bH5 (W:Ok) {a:Addr} {Q:V->b9->Prop} {EX:XC} (ha:own a=some .deck) (hQ:∀fs,L5 8 fs->fs≠[]->fs.length<=3->Q (.lst (O7 fs)) own):A7 4 59 [.ref a] own Q EX:=by
 refine r9.freeze W.ok ?_
 refine e8 (ns:=["deck","found","at","turn","status","many"]) (others:=["found","at","turn","status","many"]) W rfl rfl rfl
  (Den_cons (Den_swap [(.s .z),(.s (.s .z))] rfl (by with_unfolding_all rfl) rfl (d7 (a6 (p6 a8) (a6 (c4 43 51 rfl rfl rfl (a6 (a9 .z rfl) (a6 b8 a8 rfl) rfl)) a8 rfl) rfl)))
  (Den_cons (i6 (p8 79 rfl rfl (a6 (d6 b8 (c4 43 51 rfl rfl rfl (a6 (a9 .z rfl) (a6 b8 a8 rfl) rfl))) a8 rfl)) (c0 (.s (.s (.s .z))) rfl) (Den_cons (i6 (c4 44 52 rfl rfl rfl (a6 (a9 .z rfl) (a6 (x6 39 rfl rfl) a8 rfl) rfl)) (c0 (.s (.s (.s (.s .z)))) rfl) (Den_cons (N6<|Den_asg (.s (.s (.s (.s (.s .z))))) rfl (C3 (c6 (a9 (.s (.s (.s (.s .z)))) rfl) d0 rfl) (d6 b8 (c4 43 51 rfl rfl rfl (a6 (a9 .z rfl) (a6 b8 a8 rfl) rfl))) b8) rfl)
  (Den_cons (l9 (e7 F.plainAttrs_list F.slot_list_append F.type_list_append rfl rfl rfl (a9 (.s .z) rfl) (a6 (d7 (a6 (d5 (x6 37 rfl rfl) (a9 (.s (.s .z)) rfl) rfl) (a6 (a9 (.s (.s (.s (.s .z)))) rfl) (a6 (c4 48 56 rfl rfl rfl (a6 (a9 .z rfl) (a6 (a9 (.s (.s (.s (.s (.s .z))))) rfl) a8 rfl) rfl)) a8 rfl) rfl) rfl)) a8 rfl)) rfl)
  b6)) b6 (λU U=>rfl))
  (Den_cons (Den_asg (.s (.s .z)) rfl (d6 (d6 (a9 (.s (.s .z)) rfl) b8) (c4 43 51 rfl rfl rfl (a6 (a9 .z rfl) (a6 b8 a8 rfl) rfl))) rfl)
  b6)) b6 (λU U=>rfl))
  (Den_cons (d4 (a9 (.s .z) rfl))
  b6))) ?_
 walk_at "d"
 refine⟨sz rfl,λf hf=>⟨1,rfl,U7 W ((b7 λq=>by rw[q,hf] at ha;cases ha).trans ha) (by decide) λr h0 h1=>⟨sz rfl,rfl,?_⟩⟩⟩
 have hfa:a≠f:=λq=>by rw[q,hf] at ha;cases ha
 have ha':∀X,c7 own f X a=some .deck:=λX=>(b7 hfa).trans ha
 rcases da8 h0 with⟨n0,rfl⟩
 have hn0:n0<=2:=da5 (cY1.mp h1)
 walk_at "n"
 refine⟨1,rfl,U7 W (ha' _) (by decide) λr g0 g1=>?_⟩
 rcases da8 g0 with⟨m,rfl⟩
 have hm:m<=2:=da5 (cY1.mp g1)
 walk_at "d"
 rw[show(1+(m:Int))=((m+1:Nat):Int) by lia]
 refine Q4 λr hr=>?_
 have hs:(P9 0 ((m+1:Nat):Int)).length=m+1:=by rw[P9,cV3,dd2,dn2];rfl
 refine aw4 (J29 a f own) (It_range (b5 _ _ _) (by decide) (by decide) (dd5 (by decide) (cX8 _)) (dg3 (da7.mpr (cW3 hm)) (by decide))) (.at (by rw[c5,d9 hr];rfl) λU k=>k n0 [] _ _ _ hn0 ⟨.nil,λU h=>nomatch h⟩ rfl) ?_ ?_
 ·intro i y hy n fs v3 v4 v5 hn hg hl _
  rcases ae3 hy with⟨hi,rfl⟩
  have i2:i<=2:=cV2 (da5 hi) hm
  have n8:n<8:=cV9 (cV2 hn (da0 (cZ3 2 i2) 2)) (by decide)
  obtain⟨c,hc⟩:∃c,A6[n]?=some c:=⟨_,cW8 n8⟩
  walk_at "d"
  refine⟨2,rfl,ad9 W (ha' _) (λh=>nomatch h) (by decide) λy hy=>?_⟩
  rcases(cV6.mp (show y∈K4.map cM9 from hy)) with⟨lot,hlot,rfl⟩
  have ll:=ai4 lot hlot
  have fl:=ai5 hg.row
  refine ad4 (cN0 a f own n i c fs lot) F5 (.at (by rw[dc9,cW6]) λU k=>k [] _ _ rfl λU h=>nomatch h) ?_ ?_
  ·intro j s hx t v4 v5 ht hok _
   walk_at "n"
   refine ar0 (cN1 a f (c7 own f (some (.list (O7 fs++t.map (bq2 c))))) n i s) (r7 (λh=>⟨1,rfl,U7 W (ha' _) (by decide) λr q0 q1=>?_⟩) λh=>?_) ?_
   ·rcases da8 q0 with⟨k,rfl⟩
    walk_at "n"
    rw[show(1+(k:Int))=((k+1:Nat):Int) by lia]
    exactλU kk=>kk (k+1) (cW3 (cZ2 _)) (cY1.mp q1) λe=>absurd (of_decide_eq_true h) e
   ·walk_at "n"
    exactλU kk=>kk 1 (by decide) (by decide) λU=>rfl
   intro k k1 k3 kF
   walk_at "n"
   refine⟨K9 (b5 _ _ _),i_t (xs:=A6.map nV) (x:=.int (c:Nat)) (cX8 _) (dn3 (cY1.mpr n8) (by decide)) (by rw[db8,cX9,hc];rfl) ⟨3,rfl,cb6 W (ha' _) (cV2 k3 (by decide)) λns hns hp=>⟨sz rfl,?_⟩⟩⟩
   have tl:t.length<=2:=by
    have e:=congrArg dc7 ht
    rw[cV3,dg8] at e
    rw[e];exact cV2 (de4 _ _) ll
   refine n5 (b5 _ _ _) ?_ ?_
   ·rw[cV4,cV3]
    exact cV2 (cZ5 (cV2 fl (cZ3 2 (cV2 (de8 hl) i2))) tl) (by decide)
   walk_at "n"
   refine .at (by rw[c5,cV5,<-cW2];rfl) λU kk=>kk (t++[(s,ns)]) _ _ (by rw[cV5,ht,g6 hx];rfl) λq hq=>?_
   rcases cW9.mp hq with hq | hq
   ·exact hok q hq
   ·rw[cV8.mp hq];exact⟨by rw[hns];exact k1,by rw[hns];exact k3,λe=>by rw[hns];exact kF e,hp⟩
  ·intro t v4 v5 ht hok
   rw[cY5] at ht
   walk_at "n"
   refine⟨1,rfl,U7 W (ha' _) (by decide) λr q0 q1=>?_⟩
   rcases da8 q0 with⟨d,rfl⟩
   have d1:d<=1:=da5 (cY1.mp q1)
   walk_at "n"
   rw[<-bb1]
   exactλU kk=>kk (n+1+d) _ _ _ _ (by lia) (hg.snoc hc (cX7 (db4 n) (dc4 _ _)) (by rw[ht];exact hlot) hok) (by rw[cV4,hl];rfl)
 ·intro n fs v3 v4 v5 hn hg hl
  rw[hs] at hl hn
  walk_at "n"
  walk_at "r"
  refine⟨_,_,.inl ⟨f,_,rfl,b5 _ _ _,rfl,rfl⟩,?_⟩
  rw[c5,d9 hf]
  refine hQ fs ⟨hg.asc,λq hq=>?_⟩ (λe=>by rw[e] at hl;cases hl) (by rw[hl];exact cW3 hm)
  obtain⟨⟨j,h1,h2⟩,h3⟩:=hg.row q hq
  exact⟨⟨j,(cX4.mp h2).1,h2⟩,h3⟩
end
section
variable {own:b9}
noncomputable def y0 (fs:List B8) (must:Bool) (ln:B8):Prop:=∃sep∈aG0,∃e:B8,(e=[59]\/(e=[]/\must=false))/\∃rem∈aO6,ln=g8 sep fs++e++rem
abbrev FRw:=Nat×Str×List Nat
noncomputable def fRw (r:FRw):V:=bq2 r.1 r.2
noncomputable def u3 (fs:FD):List FRw:=fs.flatMap λq=>q.2.map λt=>(q.1,t)
theorem ae6 (fs:FD):O7 fs=(u3 fs).map fRw:=by
 rw[O7,u3,List.map_flatMap]
 congr 1
 exact funext λq=>by rw[cW0];rfl
noncomputable def O8 (r:FRw):List B8:=[y3 r.1,m4 r.2.1,j7 r.2.2]
structure bH6 (r:FRw):Prop where
 code:r.1<=1114111
 word:r.2.1∈A5
 ns:bU0 r.2.2
theorem at1 (h:bH6 r) (hs:sep.length<=3):(g8 sep (O8 r)).length<=300:=by
 have:=y5 (sep:=sep) (k:=70) (ns:=O8 r) (λx hx=>by
  simp only[O8,cW1,cY8,or_false] at hx
  rcases hx with rfl | rfl | rfl
  ·exact cV2 Q8 (by decide)
  ·exact cV2 (U9 _ h.word).2.2.1 (by decide)
  ·exact cV2 (A4 _) (cY3 7 h.ns.len))
 exact cV2 this (cV2 (cZ3 3 (da0 hs 70)) (by decide))
theorem ae7:∀s∈aG0,s.length<=3:=by decide
theorem aQ7 (W:Ok) (ha:own a=some .deck) (hl:rs.length<=100) (hr:∀r∈rs,bH6 r)
  (hQ:∀zs:List (FRw×B8),zs.map (·.1)=rs->(∀z∈zs,y0 (O8 z.1) false z.2)->Q (.lst ((zs.map (·.2)).map .bytes)) own):A7 4 60 [.ref a,.lst (rs.map fRw)] own Q EX:=by
 refine e8 (ns:=["deck","rows"]) (others:=[]) W rfl rfl rfl
  (Den_cons (d4 (j8 ["code","word","codes"] rfl (λU U=>rfl) (a9 (.s .z) rfl) (o6 (c8 (c0 .z rfl) (c8 (c0 (.s .z) rfl) (c8 (c0 (.s (.s .z)) rfl) k8 rfl) rfl) rfl)) n7 (c4 49 57 rfl rfl rfl (a6 (B1 .z rfl rfl) (a6 (w5 (a6 (c4 45 53 rfl rfl rfl (a6 (a9 .z rfl) a8 rfl)) (a6 (c4 47 55 rfl rfl rfl (a6 (a9 (.s .z) rfl) a8 rfl)) (a6 (c4 46 54 rfl rfl rfl (a6 (a9 (.s (.s .z)) rfl) a8 rfl)) a8 rfl) rfl) rfl)) (a6 s5 a8 rfl) rfl) rfl))))
  b6) ?_
 walk_at "d"
 refine⟨_,_,_,λi acc w o=>o=own/\∃zs:List (FRw×B8),zs.map (·.1)=rs.take i/\(∀z∈zs,y0 (O8 z.1) false z.2)/\acc=(zs.map (·.2)).map .bytes,λU U U U U=>trivial,ItS.c m9,?_,⟨rfl,[],rfl,(λU h=>nomatch h),rfl⟩,?_,?_⟩
 ·rw[cV3];exact cV2 hl (by decide)
 ·intro i acc w o x hw q1_ hx
  obtain⟨rfl,zs,hz,hq,rfl⟩:=q1_
  obtain⟨v1,v2,v3,rfl⟩:=bR4 hw
  rw[cX9] at hx
  rcases cY2.mp hx with⟨r,hrx,rfl⟩
  have ok:=hr r (cW7 hrx)
  obtain⟨s1,s2,s3,s4⟩:=U9 _ ok.word
  rw[show fRw r=.tup [.int (r.1:Nat),.str r.2.1,D9 r.2.2] from rfl]
  walk_at "d"
  refine⟨rfl,1,rfl,ar6 W ok.code ⟨1,rfl,ar7 W s1 s2 ⟨2,rfl,Q9 W rfl ok.ns.le (cV2 ok.ns.len (by decide)) ⟨sz rfl,3,rfl,cb7 W (fs:=O8 r) ha (.inr .lst) (λsep hs=>cV2 (at1 ok (ae7 sep hs)) (by decide)) λsep hs e he rem hrem=>?_⟩⟩⟩⟩
  refine⟨rfl,zs++[(r,g8 sep (O8 r)++e++rem)],by rw[cV5,hz,g6 hrx];rfl,λz hz=>?_,by rw[cV5,cV5];rfl⟩
  rcases cW9.mp hz with hz | hz
  ·exact hq z hz
  ·rw[cV8.mp hz];exact⟨sep,hs,e,he,rem,hrem,rfl⟩
 ·rintro acc w o ⟨rfl,zs,hz,hq,rfl⟩ -
  rw[cV3,cY5] at hz
  walk_at "r"
  exact hQ zs hz hq
end
section
noncomputable def plB:V->Bool
 | .none | .int _=>true
 | .str s=>PyData.strOk s
 | _=>false
noncomputable def plW (f:V->Bool):V->Bool
 | .tup vs | .lst vs=>vs.all f
 | v=>plB v
noncomputable def plV (n:Nat):V->Bool:=Nat.rec (motive:=λU=>V->Bool) plB (λU f=>plW f) n
theorem bH7 (h:∀v,plV n v=true->∃d,ofD d=v/\d.canLay0=true/\nb d=true/\d.depth<=n) (vs:List V):vs.all (plV n)=true->∃ds,X1 ds=vs/\PyData.canLayAll0 ds=true/\nbs ds=true/\PyData.depthAll ds<=n:=by
 induction vs with
 | nil=>exactλU=>⟨[],rfl,by rw[PyData.canLayAll0],rfl,by rw[PyData.depthAll];exact cZ2 _⟩
 | cons v vs ih=>
  intro hv
  rw[dc1,cY6] at hv
  obtain⟨d,rfl,a2,a3,a4⟩:=h v hv.1
  obtain⟨ds,rfl,b2,b3,b4⟩:=ih hv.2
  exact⟨d::ds,rfl,by rw[PyData.canLayAll0,a2,b2];rfl,by show(nb d&&nbs ds)=true;rw[a3,b3];rfl,by rw[PyData.depthAll];exact Nat.max_le.mpr ⟨a4,b4⟩⟩
theorem bh1 (n:Nat) (v:V) (h:plB v=true):∃d,ofD d=v/\d.canLay0=true/\nb d=true/\d.depth<=n:=by
 cases v with
 | none=>exact⟨.none,rfl,by rw[PyData.canLay0],rfl,by rw[PyData.depth]<;>first | exact cZ2 _ | exactλU h=>nomatch h⟩
 | int i=>exact⟨.int i,rfl,by rw[PyData.canLay0],rfl,by rw[PyData.depth]<;>first | exact cZ2 _ | exactλU h=>nomatch h⟩
 | str s=>exact⟨.str s,rfl,by rw[PyData.canLay0];exact h,rfl,by rw[PyData.depth]<;>first | exact cZ2 _ | exactλU h=>nomatch h⟩
 | _=>exact absurd (show false=true from h) cV7
theorem cA3 (n:Nat):∀v,plV n v=true->∃d,ofD d=v/\d.canLay0=true/\nb d=true/\d.depth<=n:=by
 induction n with
 | zero=>exact bh1 0
 | succ n ih=>
  intro v h
  cases v with
  | tup vs=>
   obtain⟨ds,b1,b2,b3,b4⟩:=bH7 ih vs h
   exact⟨.tuple ds,congrArg V.tup b1,by rw[PyData.canLay0];exact b2,b3,by rw[PyData.depth];exact cW3 b4⟩
  | lst vs=>
   obtain⟨ds,b1,b2,b3,b4⟩:=bH7 ih vs h
   exact⟨.list ds,congrArg V.lst b1,by rw[PyData.canLay0];exact b2,b3,by rw[PyData.depth];exact cW3 b4⟩
  | _=>exact bh1 _ _ h
section
variable {own:b9} {v:V} {Q:V->b9->Prop}
theorem cl7 (h:plV 100 v=true):∃d,ofD d=v/\d.canLay0=true/\PyData.eqv d d=true/\min d.depth d.depth<=1000:=by
 obtain⟨d,h1,h2,h3,h4⟩:=cA3 100 v h
 exact⟨d,h1,h2,(be8 d d h3 h3).mpr rfl,cV2 (dk4 _ _) (cV2 h4 (by decide))⟩
theorem at5 (h:plV 100 v=true) (hQ:Q (.bool false) own):f7 .NotEq v v own Q:=λU U U=>by
 obtain⟨d,rfl,h2,h3,h4⟩:=cl7 h
 exact cg4 h2 h2 h4 (by rw[h3];exact hQ)
end
noncomputable def FmJ (g:V->Option V) (xs:List V) (ownr:b9) (i:Nat) (acc:List V):LQ:=λU o=>o=ownr/\acc=(xs.take i).filterMap g
section
variable {tup comp:Bool} {names:List Str} {t:WA} {ifs:WT} {elt:WE} {P:o8} {l:e9} {own:b9} {Q:V->b9->Prop} {V:V} {g:Mine.V->Option Mine.V} {xs:List Mine.V} {ownr:b9} {i:Nat} {x y:Mine.V}
theorem fmY (hx:xs[i]?=some x) (h:g x=some y):FmJ g xs ownr (i+1) ((xs.take i).filterMap g++[y]) [] ownr:=⟨rfl,by rw[g6 hx,cZ4,cZ7,h];rfl⟩
theorem fmN (hx:xs[i]?=some x) (h:g x=none):FmJ g xs ownr (i+1) ((xs.take i).filterMap g) [] ownr:=⟨rfl,by rw[g6 hx,cZ4,cZ7,h];exact(cW6 _).symm⟩
theorem bV7 (g:Mine.V->Option Mine.V) (hi:ItS tup own V xs ownr) (hz:xs.length<=sizeLine)
  (ht:∀i w x,w.length=names.length->xs[i]?=some x->x∈xs->t (P.sub comp l) (aN0 ifs elt (P.sub comp l) (FmJ g xs ownr (i+1)) ((xs.take i).filterMap g)) x w ownr) (hQ:Q (.lst (xs.filterMap g)) ownr):Y2 tup names comp t ifs elt P l Q V own:=
 ⟨xs,ownr,_,FmJ g xs ownr,λU U U U U=>trivial,hi.c,hz,⟨rfl,rfl⟩,λi acc w o x hw e hx=>by obtain⟨rfl,rfl⟩:=e;exact ht i w x hw hx (cW7 hx),λacc w o e U=>by rw[e.1,e.2,cY5];exact hQ⟩
end
end
section
variable {own:b9}
noncomputable def aG9 (t:Str×List Nat):V:=.tup [.str t.1,D9 t.2]
noncomputable def bH8 (c:Nat):V->Option V
 | .tup [.int n,s,w]=>if n=(c:Int) then some (.tup [s,w]) else none
 | _=>none
noncomputable def bh2 (t:Fol):V:=if t=[] then .none else E5 t
theorem aH0 (c:Nat) (r:FRw):bH8 c (fRw r)=if r.1=c then some (aG9 r.2) else none:=by
 show(if((r.1:Int)=(c:Int)) then _ else _)=_
 by_cases h:r.1=c
 ·rw[if_pos h,if_pos (congrArg _ h)];rfl
 ·rw[if_neg h,if_neg λq:(r.1:Int)=c=>h (Int.ofNat.inj q)]
theorem bV8 {k:Nat} {r:FD} (h:k∉r.map (·.1)):C7 r k=[]:=by
 induction r with
 | nil=>rfl
 | cons p r ih=>exact(if_neg λe:p.1=k=>h (e▸.head _)).trans (ih λq=>h (.tail _ q))
theorem bH9 {c:Nat} {fs:FD} (h:(fs.map (·.1)).Nodup):((u3 fs).map fRw).filterMap (bH8 c)=(C7 fs c).map aG9:=by
 induction fs with
 | nil=>rfl
 | cons p r ih=>
  rcases p with⟨k,t⟩
  rcases cY9.mp h with⟨h1,h2⟩
  have e:u3 ((k,t)::r)=t.map (λx=>(k,x))++u3 r:=rfl
  rw[e,cV5,cZ4,ih h2,cW0,List.filterMap_map]
  by_cases q:k=c
  ·subst q
   rw[bV8 h1,show C7 ((k,t)::r) k=t from if_pos rfl,dc9,cW6]
   rw[show(bH8 k∘(fRw∘λx=>(k,x)))=(λx=>some (aG9 x)) from funext λx=>(aH0 k (k,x)).trans (if_pos rfl)]
   exact congrFun (dj4 (f:=aG9)) t
  ·rw[show C7 ((k,t)::r) c=C7 r c from if_neg q]
   rw[show(bH8 c∘(fRw∘λx=>(k,x)))=(λU=>none) from funext λx=>(aH0 c (k,x)).trans (if_neg q),dl6.mpr λU U=>rfl];rfl
theorem bV9 {c:Nat} {fs:FD} (h:∀q∈fs,q.2≠[]):M2 .none (B2 fs) c=bh2 (C7 fs c):=by
 induction fs with
 | nil=>rfl
 | cons p r ih=>
  have h:=cX1.mp h
  by_cases q:p.1=c
  ·exact(if_pos q.symm).trans ((if_neg h.1).symm.trans (congrArg bh2 (if_pos q).symm))
  ·exact(if_neg (Ne.symm q)).trans ((ih h.2).trans (congrArg bh2 (if_neg q).symm))
theorem bW0 (c:Nat) (fs:FD):C7 fs c=[]\/(c,C7 fs c)∈fs:=by
 induction fs with
 | nil=>exact .inl rfl
 | cons p r ih=>
  by_cases e:p.1=c
  ·rw[show C7 (p::r) c=p.2 from if_pos e,<-e];exact .inr (.head _)
  ·rw[show C7 (p::r) c=C7 r c from if_neg e];exact ih.imp _root_.id λh=>.tail _ h
noncomputable def cc8:List Str->Bool
 | [_]=>true
 | [a,b]=>aL4 a b&&!decide (a=b)
 | _=>false
theorem W7:∀l∈K4,cc8 l=true/\(l.all λs=>PyData.strOk s)=true/\l≠[]/\∀s∈l,s∈A5:=by
 have:(K4.all λl=>cc8 l&&(l.all λs=>PyData.strOk s)&&!l.isEmpty&&l.all λs=>decide (s∈A5))=true:=by decide +kernel
 intro l hl
 have h:=cX0.mp this l hl
 simp only[cY6] at h
 exact⟨h.1.1.1,h.1.1.2,λe=>by rw[e] at h;exact dc2 h.1.2,λs hs=>of_decide_eq_true (cX0.mp h.2 s hs)⟩
theorem bq4 {t:Fol} (h:t.map (·.1)∈K4):cb1 (t.map aG9)/\(t.map (·.1)).Nodup:=by
 have ok:=(W7 _ h).1
 rcases t with _ | ⟨a,_ | ⟨b,_ | ⟨d,r⟩⟩⟩
 ·exact absurd (show false=true from ok) cV7
 ·exact⟨.inl (db4 1),.cons (λU h=>nomatch h) .nil⟩
 ·have ok:=cX6.mp (show(aL4 a.1 b.1&&!decide (a.1=b.1))=true from ok)
  refine⟨.inr ⟨_,_,_,_,rfl,ok.1⟩,.cons (λx hx=>?_) (.cons (λU h=>nomatch h) .nil)⟩
  rw[cV8.mp hx]
  have:=ok.2
  intro e
  rw[decide_eq_true e] at this
  exact dc2 this
 ·exact absurd (show false=true from ok) cV7
theorem cl8 {t:Fol} (h:t.map (·.1)∈K4):plV 100 (.lst (t.map aG9))=true:=by
 have ok:=(W7 _ h).2.1
 show(t.map aG9).all (plV 99)=true
 rw[cX0] at ok ⊢
 intro v hv
 rcases cV6.mp hv with⟨q,hq,rfl⟩
 show[V.str q.1,D9 q.2].all (plV 98)=true
 rw[dc1,dc1,do1,Bool.and_true]
 have e1:plV 98 (.str q.1)=true:=ok q.1 (cW4 hq)
 have e2:plV 98 (D9 q.2)=true:=by
  show(q.2.map nV).all (plV 97)=true
  rw[cX0]
  intro v hv
  rcases cV6.mp hv with⟨n,_,rfl⟩
  rfl
 rw[e1,e2];rfl
noncomputable def bh3 (es:List (Str×V)):V->V
 | .str w=>.tup [.str w,(k7 es w).getD .none]
 | v=>v
theorem aH1 {K:Type} [DecidableEq K] {es:List (K×V)} (h:(es.map (·.1)).Nodup):∀p∈es,k7 es p.1=some p.2:=by
 induction es with
 | nil=>exactλU h=>nomatch h
 | cons q r ih=>
  intro p hp
  rcases cY9.mp h with⟨h1,h2⟩
  rw[s9]
  rcases cW1.mp hp with rfl | hp
  ·exact if_pos rfl
  ·rw[if_neg λe:q.1=p.1=>h1 (cV6.mpr ⟨p,hp,e.symm⟩)];exact ih h2 p hp
theorem bq5 {t:Fol} (h:(t.map (·.1)).Nodup):((t.map λq=>(q.1,D9 q.2)).map λp=>V.str p.1).map (bh3 (t.map λq=>(q.1,D9 q.2)))=t.map aG9:=by
 rw[cW0,cW0]
 refine cZ1 λq hq=>?_
 have:=aH1 (es:=t.map λq=>(q.1,D9 q.2)) (by rw[cW0];exact h) (q.1,D9 q.2) (cW4 hq)
 show V.tup [.str q.1,(k7 (t.map λq=>(q.1,D9 q.2)) q.1).getD .none]=_
 rw[this];rfl
noncomputable def bW1:List Nat:=A6++[0,64,66,1114111]
theorem bb3 (W:Ok) {p am m:Addr} {ms:List (Str×V)} {fs:FD} {Q:V->b9->Prop} {EX:XC} (hp:own p=some (u7 am)) (ha:own am=some (.dictS ms)) (hm:k7 ms "cf"=some (.ref m)) (ho:own m=some (X4 .none (B2 fs)))
  (hg:L5 8 fs) (hl:fs.length<=3) (hQ:Q (.bool true) own):A7 4 61 [.ref p,.lst ((u3 fs).map fRw)] own Q EX:=by
 refine e8 (ns:=["data","rows","code","due","told"]) (others:=["code","due","told"]) W rfl rfl rfl
  (Den_cons (i6 (d6 (x6 37 rfl rfl) (d7 (a6 b8 (a6 b8 (a6 b8 (a6 b8 a8 rfl) rfl) rfl) rfl))) (c0 (.s (.s .z)) rfl) (Den_cons (m5 (by with_unfolding_all rfl) rfl (λU U=>rfl) (o6 (c8 (c0 (.s (.s (.s .z))) rfl) (c8 (c0 (.s (.s (.s (.s .z)))) rfl) k8 rfl) rfl)) (d7 (a6 (j8 ["near","word","codes"] rfl (λU U=>rfl) (a9 (.s .z) rfl) (o6 (c8 (c0 .z rfl) (c8 (c0 (.s .z) rfl) (c8 (c0 (.s (.s .z)) rfl) k8 rfl) rfl) rfl)) (L9 (c6 (a9 .z rfl) (B1 (.s (.s .z)) rfl rfl) rfl)) (d7 (a6 (a9 (.s .z) rfl) (a6 (a9 (.s (.s .z)) rfl) a8 rfl) rfl))) (a6 (F7 43 2 (by decide) (by decide) rfl rfl rfl (a9 .z rfl) (a6 d0 (a6 (a9 (.s (.s .z)) rfl) a8 rfl) rfl)) a8 rfl) rfl)))
  (Den_cons (i8 (c6 (a9 (.s (.s (.s .z))) rfl) (w5 a8) rfl) (Den_cons (i8 (c6 (a9 (.s (.s (.s (.s .z)))) rfl) w6 rfl) (Den_cons (d4 s5)
  b6) b6)
  b6) (Den_cons (i8 (j3 (m7 (H5 (C0 (g9 (j5 70 rfl rfl (a6 (a9 (.s (.s (.s (.s .z)))) rfl) (a6 (x6 76 rfl rfl) a8 rfl) rfl)) (λU U=>rfl))) (J1 (c6 (j5 71 rfl rfl (a6 (j8 ["word"] rfl (λU U=>rfl) (a9 (.s (.s (.s (.s .z)))) rfl) (c0 .z rfl) n7 (d7 (a6 (a9 .z rfl) (a6 (d5 (B1 (.s (.s (.s (.s .z)))) rfl rfl) (a9 .z rfl) rfl) a8 rfl) rfl))) a8 rfl)) (j5 71 rfl rfl (a6 (a9 (.s (.s (.s .z))) rfl) a8 rfl)) rfl))))) (Den_cons (d4 s5)
  b6) b6)
  b6))
  b6)) b6 (λU U=>rfl))
  (Den_cons (d4 s5)
  b6)) ?_
 walk_at "d"
 have cd:(fs.map (·.1)).Nodup:=by
  rw[List.Nodup,da3];exact hg.asc.imp λh e=>by rw[e] at h;exact absurd h (Nat.not_le_of_lt (df3 (db4 _)))
 have ne0:∀q∈fs,q.2≠[]:=λq hq e=>by
  have:=(W7 _ (hg.row q hq).2.1).2.2.1
  rw[e] at this;exact this rfl
 have hasc:Asc (B2 fs):=by rw[Asc,B2,da3];exact hg.asc
 have rl:(u3 fs).length<=6:=by
  have:=ai5 hg.row
  rw[ae6,cV3] at this
  exact cV2 this (cZ3 2 hl)
 refine⟨sz rfl,aX9 (λh=>nomatch h) (λh=>nomatch h) (by decide) ?_⟩
 refine⟨bW1.map nV,own,λU l o=>o=own/\∃v2 v3 v4,l=[some (.ref p),some (.lst ((u3 fs).map fRw)),v2,v3,v4],F5,⟨rfl,_,_,_,rfl⟩,?_,?_⟩
 ·rintro i l o y - ⟨rfl,v2,v3,v4,rfl⟩ hy
  rw[cX9] at hy
  rcases cY2.mp hy with⟨c,-,rfl⟩
  rw[show nV c=.int (c:Nat) from rfl]
  walk_at "d"
  refine bV7 (comp:=false) (bH8 c) m9 (by rw[cV3];exact cV2 rl (by decide)) (λj w y hw hat hy=>?_) ?_
  ·obtain⟨w1,w2,w3,rfl⟩:=bR4 hw
   rcases cV6.mp hy with⟨r,hr,rfl⟩
   have hd:=aH0 c r
   rw[show fRw r=.tup [.int (r.1:Nat),.str r.2.1,D9 r.2.2] from rfl] at hat hd ⊢
   walk_at "d"
   rw[if_neg cV7]
   walk_at "d"
   refine⟨rfl,?_⟩
   have e:decide ((r.1:Int)=(c:Int))=decide (r.1=c):=decide_eq_decide.mpr (by lia)
   rw[e]
   refine r7 (λh=>?_) λh=>?_
   ·walk_at "d"
    exact⟨sz rfl,fmY hat (hd.trans (if_pos (of_decide_eq_true h)))⟩
   ·exact fmN hat (hd.trans (if_neg (of_decide_eq_false h)))
  rw[bH9 cd]
  walk_at "d"
  refine⟨p,_,rfl,hp,M3 rfl,3,rfl,W5 W hp ha hm ho hasc ?_ ⟨sz rfl,rfl,?_⟩⟩
  ·rw[B2,cV3];exact cV2 hl (by decide)
  rw[bV9 ne0]
  rcases bW0 c fs with e | hin
  ·rw[e]
   walk_at "n"
   refine⟨sz rfl,aF7 .lst ?_⟩
   walk_at "n"
   refine ah2 rfl ?_
   walk_at "n"
   exact⟨rfl,_,_,_,rfl⟩
  ·have hlot:=(hg.row _ hin).2.1
   have hne:=ne0 _ hin
   rcases bq4 hlot with⟨s1,s2⟩
   have hpl:=cl8 hlot
   simp only at hlot hne s1 s2 hpl
   generalize C7 fs c=t at hlot hne s1 s2 hpl ⊢
   rw[bh2,if_neg hne]
   walk_at "n"
   refine⟨sz rfl,aF7 .lst ?_⟩
   have e0:(t.map aG9).isEmpty=false:=by cases t with | nil=>exact absurd rfl hne | cons=>rfl
   rw[e0]
   walk_at "n"
   rw[if_neg cV7]
   unfold E5
   refine⟨false,cj0 ?_,?_⟩
   ·walk_at "d"
    refine A2 (comp:=false) (bh3 (t.map λq=>(q.1,D9 q.2))) ci8 ?_ (λj w y hw hat hy=>?_) ?_
    ·have h2:=ai4 _ hlot
     rw[cV3] at h2
     rw[cV3,cV3];exact cV2 h2 (by decide)
    ·rcases F9 hw with⟨v,rfl⟩
     rcases cV6.mp hy with⟨x,hx,rfl⟩
     walk_at "d"
     rw[if_neg cV7]
     have hlk:=aH1 (es:=t.map λq=>(q.1,D9 q.2)) (by rw[cW0];exact s2) x hx
     walk_at "d"
     refine aE8 W.ok (k:=x.1) .dct hlk ⟨sz rfl,?_⟩
     rw[<-show bh3 (t.map λq=>(q.1,D9 q.2)) (.str x.1)=.tup [.str x.1,x.2] by rw[bh3,hlk];rfl]
     exact al3 hat
    rw[bq5 s2]
    refine az0 .lst s1 ?_
    walk_at "d"
    refine az0 .lst s1 ?_
    refine at5 hpl ?_
    walk_at "d"
    exact⟨rfl,rfl⟩
   ·walk_at "n"
    exact⟨rfl,_,_,_,rfl⟩
 ·intro l o q1_
  obtain⟨rfl,v2,v3,v4,rfl⟩:=q1_
  walk_at "n"
  walk_at "r"
  exact hQ
end
section
noncomputable def FaJ {α:Type} (g:α->Option V) (xs:List α) (ownr:b9) (i:Nat) (acc:List V):LQ:=λU o=>o=ownr/\acc=(xs.take i).filterMap g
section
variable {α:Type} {tup comp:Bool} {names:List Str} {t:WA} {ifs:WT} {elt:WE} {P:o8} {l:e9} {own:b9} {Q:V->b9->Prop} {V:V} {g:α->Option Mine.V} {xs:List α} {ownr:b9} {i:Nat} {x:α} {y:Mine.V}
theorem faY (hx:xs[i]?=some x) (h:g x=some y):FaJ g xs ownr (i+1) ((xs.take i).filterMap g++[y]) [] ownr:=⟨rfl,by rw[g6 hx,cZ4,cZ7,h];rfl⟩
theorem faN (hx:xs[i]?=some x) (h:g x=none):FaJ g xs ownr (i+1) ((xs.take i).filterMap g) [] ownr:=⟨rfl,by rw[g6 hx,cZ4,cZ7,h];exact(cW6 _).symm⟩
theorem at6 (h:(xs.map f)[i]?=some v):∃x,xs[i]?=some x/\v=f x:=by
 rw[cX9] at h
 obtain⟨x,hx,e⟩:=cY2.mp h
 exact⟨x,hx,e.symm⟩
theorem ae8 (f:α->Mine.V) (g:α->Option Mine.V) (hi:ItS tup own V (xs.map f) ownr) (hz:xs.length<=sizeLine)
  (ht:∀i w x,w.length=names.length->xs[i]?=some x->t (P.sub comp l) (aN0 ifs elt (P.sub comp l) (FaJ g xs ownr (i+1)) ((xs.take i).filterMap g)) (f x) w ownr) (hQ:Q (.lst (xs.filterMap g)) ownr):Y2 tup names comp t ifs elt P l Q V own:=
 ⟨xs.map f,ownr,_,FaJ g xs ownr,λU U U U U=>trivial,hi.c,by rw[cV3];exact hz,⟨rfl,rfl⟩,λi acc w o v hw e hv=>by
  rcases at6 hv with⟨x,hx,rfl⟩
  obtain⟨rfl,rfl⟩:=e;exact ht i w x hw hx,λacc w o e U=>by rw[e.1,e.2,cV3,cY5];exact hQ⟩
theorem bI0 (f:α->Mine.V) (g:α->Option Mine.V) (ho:own a=some (.list (xs.map f))) (hz:xs.length<=sizeLine)
  (ht:∀i w x,w.length=names.length->xs[i]?=some x->t (P.sub comp l) (aN0 ifs elt (P.sub comp l) (FaJ g xs own (i+1)) ((xs.take i).filterMap g)) (f x) w own) (hQ:Q (.lst (xs.filterMap g)) own):Y2 tup names comp t ifs elt P l Q (.ref a) own:=
 ⟨xs.map f,own,_,FaJ g xs own,λU U U U e=>e.1▸ho,bB5 ho,by rw[cV3];exact hz,⟨rfl,rfl⟩,λi acc w o v hw e hv=>by
  rcases at6 hv with⟨x,hx,rfl⟩
  obtain⟨rfl,rfl⟩:=e;exact ht i w x hw hx,λacc w o e U=>by rw[e.1,e.2,cV3,cY5];exact hQ⟩
end
end
section
variable {own:b9}
noncomputable def H1:List Nat:=[223,73,931,304]
abbrev S9:=Nat×CR
noncomputable def crV (r:S9):V:=.tup [.int (r.1:Nat),D9 r.2.1,D9 r.2.2.1,D9 r.2.2.2.1,wsV r.2.2.2.2]
theorem cc9 (h1:a.all PyData.strOk=true) (h2:b.all PyData.strOk=true) (hQ:Q (.bool (decide (a=b))) own):f7 .Eq (wsV a) (wsV b) own Q:=λU U U=>by
 have e:∀ws:List Str,wsV ws=ofD (.tuple (ws.map .str)):=λws=>by rw[wsV,ap5,N9]
 rw[e,e]
 refine aW2 (by rw[PyData.canLay0];exact O2 a h1) (by rw[PyData.canLay0];exact O2 b h2) (cV2 (dk4 _ _) ?_) (by rw[cc4];exact hQ)
 rw[PyData.depth,aQ1];decide
structure X5 (rs:List S9):Prop where
 row:∀r∈rs,r.1∈H1/\r.2.2.2.2∈G4/\∀f∈ai1,(f r.2).length<=2/\∀x∈f r.2,x∈E1
 nd:rs.Pairwise λa b=>¬(a.1=b.1/\a.2.2.2.2=b.2.2.2.2)
theorem ae9 (h:ws∈G4):ws.all PyData.strOk=true:=by
 have:=ae2 h
 simp only[okW,cY6] at this
 exact this.2.2.2.1
noncomputable def aQ8 (c:Nat) (ws:List Str) (r:S9):Option V:=if decide (r.1=c)&&decide (r.2.2.2.2=ws) then some (crV r) else none
theorem X5.snoc (h:X5 rs) (h1:r.1∈H1) (h2:r.2.2.2.2∈G4) (h3:∀f∈ai1,(f r.2).length<=2/\∀x∈f r.2,x∈E1) (hn:rs.filterMap (aQ8 r.1 r.2.2.2.2)=[]):X5 (rs++[r]):=by
 refine⟨λx hx=>?_,df6.mpr ⟨h.nd,.cons (λU h=>nomatch h) .nil,λx hx y hy q=>?_⟩⟩
 ·rcases cW9.mp hx with hx | hx
  ·exact h.row x hx
  ·rw[cV8.mp hx];exact⟨h1,h2,h3⟩
 ·rw[cV8.mp hy] at q
  have:=dl6.mp hn x hx
  rw[aQ8,decide_eq_true q.1,decide_eq_true q.2] at this
  cases this
noncomputable def J32 (a f:Addr) (own:b9) (i:Nat):LP:=λX=>∀rs v2 v3 v4 v5,X5 rs->rs.length<=i->(1<=i->rs≠[])->X [some (.ref a),some (.ref f),v2,v3,v4,v5] (c7 own f (some (.list (rs.map crV))))
theorem bI1 (W:Ok) (ha:own a=some .deck) (hQ:∀rs,X5 rs->rs≠[]->rs.length<=4->Q (.lst (rs.map crV)) own):A7 4 62 [.ref a] own Q EX:=by
 refine r9.freeze W.ok ?_
 refine e8 (ns:=["deck","found","turn","code","when","parts"]) (others:=["found","turn","code","when","parts"]) W rfl rfl rfl
  (Den_cons (Den_asg (.s .z) rfl (p6 a8) rfl)
  (Den_cons (i6 (p8 79 rfl rfl (a6 (d6 b8 (c4 43 51 rfl rfl rfl (a6 (a9 .z rfl) (a6 b8 a8 rfl) rfl))) a8 rfl)) (c0 (.s (.s .z)) rfl) (Den_cons (m5 (by with_unfolding_all rfl) rfl (λU U=>rfl) (o6 (c8 (c0 (.s (.s (.s .z))) rfl) (c8 (c0 (.s (.s (.s (.s .z)))) rfl) k8 rfl) rfl)) (d7 (a6 (c4 44 52 rfl rfl rfl (a6 (a9 .z rfl) (a6 (x6 40 rfl rfl) a8 rfl) rfl)) (a6 (c4 44 52 rfl rfl rfl (a6 (a9 .z rfl) (a6 (x6 41 rfl rfl) a8 rfl) rfl)) a8 rfl) rfl)))
  (Den_cons (i8 (c6 (j8 ["row"] rfl (λU U=>rfl) (a9 (.s .z) rfl) (c0 .z rfl) (L9 (j3 (m7 (y2 (c6 (d5 (a9 .z rfl) b8 rfl) (B1 (.s (.s (.s .z))) rfl rfl) rfl) (w7 (c6 (d5 (a9 .z rfl) b8 rfl) (B1 (.s (.s (.s (.s .z)))) rfl rfl) rfl)))))) (a9 .z rfl)) (w5 a8) rfl) (Den_cons (J5 (.s (.s (.s (.s (.s .z))))) ["k"] rfl rfl (λU U=>rfl) (by with_unfolding_all rfl) (p8 79 rfl rfl (a6 b8 a8 rfl)) (c0 .z rfl) n7 (c4 48 56 rfl rfl rfl (a6 (B1 .z rfl rfl) (a6 (c4 43 51 rfl rfl rfl (a6 (B1 .z rfl rfl) (a6 b8 a8 rfl) rfl)) a8 rfl) rfl)))
  (Den_cons (l9 (e7 F.plainAttrs_list F.slot_list_append F.type_list_append rfl rfl rfl (a9 (.s .z) rfl) (a6 (d7 (a6 (a9 (.s (.s (.s .z))) rfl) (a6 (d5 (a9 (.s (.s (.s (.s (.s .z))))) rfl) b8 rfl) (a6 (d5 (a9 (.s (.s (.s (.s (.s .z))))) rfl) b8 rfl) (a6 (d5 (a9 (.s (.s (.s (.s (.s .z))))) rfl) b8 rfl) (a6 (a9 (.s (.s (.s (.s .z)))) rfl) a8 rfl) rfl) rfl) rfl) rfl)) a8 rfl)) rfl)
  b6)) b6)
  b6)) b6 (λU U=>rfl))
  (Den_cons (d4 (a9 (.s .z) rfl))
  b6))) ?_
 walk_at "d"
 refine⟨sz rfl,λf hf=>?_⟩
 have hfa:a≠f:=λq=>by rw[q,hf] at ha;cases ha
 have ha':∀X,c7 own f X a=some .deck:=λX=>(b7 hfa).trans ha
 walk_at "n"
 refine⟨1,rfl,U7 W (ha' _) (by decide) λr g0 g1=>?_⟩
 rcases da8 g0 with⟨m,rfl⟩
 have hm:m<=3:=da5 (cY1.mp g1)
 walk_at "d"
 rw[show(1+(m:Int))=((m+1:Nat):Int) by lia]
 refine Q4 λr hr=>?_
 have hs:(P9 0 ((m+1:Nat):Int)).length=m+1:=by rw[P9,cV3,dd2,dn2];rfl
 refine aw4 (J32 a f own) (It_range (b5 _ _ _) (by decide) (by decide) (dd5 (by decide) (cX8 _)) (dg3 (da7.mpr (cW3 hm)) (by decide))) (.at (by rw[c5,d9 hr];rfl) λU k=>k [] _ _ _ _ ⟨(λU h=>nomatch h),.nil⟩ (cX5 _) λh=>absurd h (by decide)) ?_ ?_
 ·intro i y hy rs v2 v3 v4 v5 hg hl hne _
  rcases ae3 hy with⟨hi,rfl⟩
  have i3:i<=3:=cV2 (da5 hi) hm
  walk_at "d"
  refine⟨2,rfl,ad9 W (ha' _) (λh=>nomatch h) (by decide) λy hy=>?_⟩
  rcases(cV6.mp (show y∈H1.map nV from hy)) with⟨c,hc,rfl⟩
  refine⟨2,rfl,ad9 W (ha' _) (λh=>nomatch h) (by decide) λy hy=>?_⟩
  rcases(cV6.mp (show y∈G4.map wsV from hy)) with⟨ws,hw,rfl⟩
  rw[show nV c=.int (c:Nat) from rfl]
  have wok:=ae9 hw
  refine⟨sz rfl,rfl,?_⟩
  walk_at "n"
  refine bI0 (comp:=false) crV (aQ8 c ws) (b5 _ _ _) (cV2 hl (cV2 i3 (by decide))) (λj w r hw hat=>?_) ?_
  ·rcases F9 hw with⟨v,rfl⟩
   have rok:=ae9 (hg.row r (cW7 hat)).2.1
   walk_at "d"
   refine⟨decide (r.1=c)&&decide (r.2.2.2.2=ws),i_t (x:=.int (r.1:Nat)) (by decide) (by decide) rfl ?_,?_⟩
   ·walk_at "d"
    rw[if_neg cV7]
    walk_at "d"
    rw[show decide ((r.1:Int)=(c:Int))=decide (r.1=c) from decide_eq_decide.mpr (by lia)]
    refine r7 (λh=>i_t (x:=wsV r.2.2.2.2) (by decide) (by decide) rfl ?_) λh=>?_
    ·walk_at "d"
     refine cc9 rok wok ?_
     walk_at "d"
     rw[h];exact⟨rfl,rfl⟩
    ·walk_at "d"
     rw[h];exact⟨rfl,rfl⟩
   ·refine r7 (λh=>?_) λh=>?_
    ·walk_at "d"
     exact faY hat (by rw[aQ8,if_pos h])
    ·exact faN hat (by rw[aQ8,if_neg (by rw[h];exact cV7)])
  walk_at "d"
  refine⟨sz rfl,aF7 .lst ?_⟩
  walk_at "n"
  refine r7 (λh=>?_) λh=>?_
  ·walk_at "n"
   refine Q4 λr2 hr2=>?_
   refine⟨_,_,_,λj acc w o=>o=c7 own f (some (.list (rs.map crV)))/\∃nss:List (List Nat),nss.length=j/\(∀ns∈nss,ns.length<=2/\∀x∈ns,x∈E1)/\acc=nss.map D9,λU U U U U=>trivial,ItS.c<|It_range (b5 _ _ _) (by decide) (by decide) (by decide) (by decide),sz rfl,?_,?_,?_⟩
   ·exact⟨by rw[c5,d9 hr2],[],rfl,(λU h=>nomatch h),rfl⟩
   ·intro j acc w o x hw q1_ hx
    obtain⟨rfl,nss,n1,n2,rfl⟩:=q1_
    rcases F9 hw with⟨v,rfl⟩
    walk_at "d"
    refine⟨1,rfl,U7 W (ha' _) (by decide) λr q0 q1=>?_⟩
    rcases da8 q0 with⟨k,rfl⟩
    have k2:k<=2:=da5 (cY1.mp q1)
    refine⟨3,rfl,cb6 W (ha' _) (cV2 k2 (by decide)) λns hns hp=>⟨rfl,nss++[ns],by rw[cV4,n1];rfl,λx hx=>?_,by rw[cV5];rfl⟩⟩
    rcases cW9.mp hx with hx | hx
    ·exact n2 x hx
    ·rw[cV8.mp hx];exact⟨by rw[hns];exact k2,hp⟩
   ·rintro acc w o ⟨rfl,nss,n1,n2,rfl⟩ -
    obtain⟨x1,x2,x3,rfl⟩:=bR4 n1
    have m1:=n2 x1 (.head _)
    have m2:=n2 x2 (.tail _ (.head _))
    have m3:=n2 x3 (.tail _ (.tail _ (.head _)))
    walk_at "n"
    refine⟨K9 (b5 _ _ _),W3 (x:=D9 x1) .lst (by decide) (by decide) rfl (W3 (x:=D9 x2) .lst (by decide) (by decide) rfl (W3 (x:=D9 x3) .lst (by decide) (by decide) rfl ⟨sz rfl,n5 (b5 _ _ _) ?_ ?_⟩))⟩
    ·rw[cV3];exact cV2 hl (cV2 i3 (by decide))
    walk_at "n"
    refine .at (by rw[c5,cV5];rfl) λU k=>k (rs++[(c,x1,x2,x3,ws)]) _ _ _ _ (hg.snoc hc hw (λg hg=>?_) (dk0.mp h)) (by rw[cV4];exact cW3 hl) λU e=>?_
    ·simp only[ai1,cW1,cY8,or_false] at hg
     rcases hg with rfl | rfl | rfl
     ·exact m1
     ·exact m2
     ·exact m3
    ·cases rs<;>cases e
  ·walk_at "n"
   refineλU k=>k rs _ _ _ _ hg (cZ6 hl) λU e=>?_
   rw[e] at h;cases h
 ·intro rs v2 v3 v4 v5 hg hl hne
  rw[hs] at hl hne
  walk_at "n"
  walk_at "r"
  refine⟨_,_,.inl ⟨f,_,rfl,b5 _ _ _,rfl,rfl⟩,?_⟩
  rw[c5,d9 hf]
  exact hQ rs hg (hne (cW3 (cZ2 _))) (cV2 hl (cW3 hm))
end
section
variable {own:b9}
noncomputable def y8 (r:S9):List B8:=y3 r.1::([r.2.1,r.2.2.1,r.2.2.2.1].map j7)++(if r.2.2.2.2=[] then[] else[g8 [32] (r.2.2.2.2.map m4)])
noncomputable def R9 (r:S9):Bool:=decide (r.2.2.2.2=[])&&decide (r.2.2.2.1=[])
theorem aa3 (h:ws∈G4):g8 [32] (ws.map m4)=m4 (aA0 ws)/\(∀s∈ws,s.cps.size<=sizeLine/\∀n∈s.cps.toList,n<128)/\ws.length<=2/\(g8 [32] (ws.map m4)).length<=100:=by
 have:=cX0.mp (show(G4.all λws=>decide (g8 [32] (ws.map m4)=m4 (aA0 ws))&&(ws.all λs=>decide (s.cps.size<=sizeLine)&&s.cps.toList.all λn=>decide (n<128))&&decide (ws.length<=2)&&decide ((g8 [32] (ws.map m4)).length<=100))=true by decide +kernel) ws h
 simp only[cY6,decide_eq_true_eq,cX0] at this
 exact⟨this.1.1.1,this.1.1.2,this.1.2,this.2⟩
theorem bW2 (h:r.2.2.2.2∈G4):y8 r=E7 r.1 r.2:=by
 rw[y8,E7,(aa3 h).1];rfl
noncomputable def J33 (a f:Addr) (rs:List S9) (own:b9) (i:Nat):LP:=λX=>∀zs:List (S9×B8),zs.map (·.1)=rs.take i->(∀z∈zs,y0 (y8 z.1) (R9 z.1) z.2)->∀v3 v4 v5 v6 v7 v8,X [some (.ref a),some (.lst (rs.map crV)),some (.ref f),v3,v4,v5,v6,v7,v8] (c7 own f (some (.list ((zs.map (·.2)).map .bytes))))
noncomputable def cA4 (a f g:Addr) (rs:List S9) (r:S9) (o:b9):LP:=λX=>X [some (.ref a),some (.lst (rs.map crV)),some (.ref f),some (.int (r.1:Nat)),some (D9 r.2.1),some (D9 r.2.2.1),some (D9 r.2.2.2.1),some (wsV r.2.2.2.2),some (.ref g)] (c7 o g (some (.list ((y8 r).map .bytes))))
theorem aQ9 (W:Ok) (ha:own a=some .deck) (hl:rs.length<=100) (hr:∀r∈rs,r.1<=1114111/\ba2 r.2)
  (hQ:∀zs:List (S9×B8),zs.map (·.1)=rs->(∀z∈zs,y0 (y8 z.1) (R9 z.1) z.2)->Q (.lst ((zs.map (·.2)).map .bytes)) own):A7 4 63 [.ref a,.lst (rs.map crV)] own Q EX:=by
 refine r9.freeze W.ok ?_
 refine e8 (ns:=["deck","rows","found","code","small","first","great","when","fields"]) (others:=["found","code","small","first","great","when","fields"]) W rfl rfl rfl
  (Den_cons (Den_asg (.s (.s .z)) rfl (p6 a8) rfl)
  (Den_cons (i6 (a9 (.s .z) rfl) (o6 (c8 (c0 (.s (.s (.s .z))) rfl) (c8 (c0 (.s (.s (.s (.s .z)))) rfl) (c8 (c0 (.s (.s (.s (.s (.s .z))))) rfl) (c8 (c0 (.s (.s (.s (.s (.s (.s .z)))))) rfl) (c8 (c0 (.s (.s (.s (.s (.s (.s (.s .z))))))) rfl) k8 rfl) rfl) rfl) rfl) rfl)) (Den_cons (Den_asg (.s (.s (.s (.s (.s (.s (.s (.s .z)))))))) rfl (p6 (a6 (c4 45 53 rfl rfl rfl (a6 (a9 (.s (.s (.s .z))) rfl) a8 rfl)) (a6 (c4 46 54 rfl rfl rfl (a6 (a9 (.s (.s (.s (.s .z)))) rfl) a8 rfl)) (a6 (c4 46 54 rfl rfl rfl (a6 (a9 (.s (.s (.s (.s (.s .z))))) rfl) a8 rfl)) (a6 (c4 46 54 rfl rfl rfl (a6 (a9 (.s (.s (.s (.s (.s (.s .z)))))) rfl) a8 rfl)) a8 rfl) rfl) rfl) rfl)) rfl)
  (Den_cons (W2 (c6 (a9 (.s (.s (.s (.s (.s (.s (.s .z))))))) rfl) (d7 a8) rfl) (Den_cons (l9 (e7 F.plainAttrs_list F.slot_list_append F.type_list_append rfl rfl rfl (a9 (.s (.s (.s (.s (.s (.s (.s (.s .z)))))))) rfl) (a6 (e7 FB.plainAttrs_bytes l5 n6 rfl rfl rfl c9 (a6 (j8 ["word"] rfl (λU U=>rfl) (a9 (.s (.s (.s (.s (.s (.s (.s .z))))))) rfl) (c0 .z rfl) n7 (c4 47 55 rfl rfl rfl (a6 (a9 .z rfl) a8 rfl))) a8 rfl)) a8 rfl)) rfl)
  b6) b6)
  (Den_cons (l9 (e7 F.plainAttrs_list F.slot_list_append F.type_list_append rfl rfl rfl (a9 (.s (.s .z)) rfl) (a6 (c4 49 57 rfl rfl rfl (a6 (a9 .z rfl) (a6 (a9 (.s (.s (.s (.s (.s (.s (.s (.s .z)))))))) rfl) (a6 (aM6 (H4 (a9 (.s (.s (.s (.s (.s (.s (.s .z))))))) rfl) (d7 a8) rfl) (H4 (a9 (.s (.s (.s (.s (.s (.s .z)))))) rfl) (d7 a8) rfl)) a8 rfl) rfl) rfl)) a8 rfl)) rfl)
  (Q6 b6)))) b6 (λU U=>rfl))
  (Den_cons (d4 (a9 (.s (.s .z)) rfl))
  b6))) ?_
 walk_at "d"
 refine⟨sz rfl,λf hf=>?_⟩
 have hfa:a≠f:=λq=>by rw[q,hf] at ha;cases ha
 have ha':∀X,c7 own f X a=some .deck:=λX=>(b7 hfa).trans ha
 walk_at "n"
 refine ad4 (J33 a f rs own) m9 (λU k=>k [] rfl (λU h=>nomatch h) _ _ _ _ _ _) ?_ ?_
 ·intro i r hrx zs hz hq v3 v4 v5 v6 v7 v8 _
  have hc:=(hr r (cW7 hrx)).1
  have cr:=(hr r (cW7 hrx)).2
  rw[show crV r=.tup [.int (r.1:Nat),D9 r.2.1,D9 r.2.2.1,D9 r.2.2.2.1,wsV r.2.2.2.2] from rfl]
  walk_at "n"
  have k1:=cr.ns kSl (.head _)
  have k2:=cr.ns kSt (.tail _ (.head _))
  have k3:=cr.ns kSu (.tail _ (.tail _ (.head _)))
  have wok:=ae9 cr.ws
  obtain⟨-,w1,w2,w3⟩:=aa3 cr.ws
  refine⟨rfl,1,rfl,ar6 W hc ⟨2,rfl,Q9 W rfl k1.le (cV2 k1.len (by decide)) ⟨2,rfl,Q9 W rfl k2.le (cV2 k2.len (by decide)) ⟨2,rfl,Q9 W rfl k3.le (cV2 k3.len (by decide)) ⟨sz rfl,λg hg=>?_⟩⟩⟩⟩⟩
  walk_at "n"
  have hgf:g≠f:=λq=>by rw[q,b5] at hg;cases hg
  have hgn:own g=none:=by rwa [b7 hgf] at hg
  have hga:a≠g:=λq=>by rw[<-q,ha] at hgn;cases hgn
  generalize hF:(zs.map (·.2)).map V.bytes=fv at hg ⊢
  have fv100:fv.length<=100:=by
   have e:=congrArg dc7 hz
   rw[cV3,dg8] at e
   rw[<-hF,cV3,cV3,e];exact cV2 (de4 _ _) hl
  have flen:∀{sep:B8},sep.length<=3->(g8 sep (y8 r)).length<=100000:=λ{sep} hs=>by
   have:=y5 (sep:=sep) (k:=100) (ns:=y8 r) (λx hx=>by
    rcases cW9.mp hx with hx | hx
    ·rcases cW1.mp hx with e | hx
     ·rw[e];exact cV2 Q8 (by decide)
     ·simp only[cX3,dc9,cW1,cY8,or_false] at hx
      rcases hx with rfl | rfl | rfl
      ·exact cV2 (A4 _) (cV2 (cY3 7 k1.len) (by decide))
      ·exact cV2 (A4 _) (cV2 (cY3 7 k2.len) (by decide))
      ·exact cV2 (A4 _) (cV2 (cY3 7 k3.len) (by decide))
    ·split at hx
     ·cases hx
     ·rw[cV8.mp hx];exact w3)
   refine cV2 this (cV2 (Nat.mul_le_mul (show(y8 r).length<=5 from ?_) (da0 hs 100)) (by decide))
   unfold y8
   rw[cV4]
   split
   ·exact(by decide:4+0<=5)
   ·exact(by decide:4+1<=5)
  refine ar0 (cA4 a f g rs r (c7 own f (some (.list fv)))) ⟨sz rfl,bF7 wok ?_⟩ ?_
  ·walk_at "d"
   refine bz8 (λhne=>?_) λhe=>?_
   ·walk_at "n"
    refine⟨K9 (b5 _ _ _),rfl,?_⟩
    unfold wsV
    refine ae8 V.str (λs=>some (.bytes (m4 s))) F5 (cV2 w2 (by decide)) (λj w s hw hat=>?_) ?_
    ·rcases F9 hw with⟨v,rfl⟩
     rcases w1 s (cW7 hat) with⟨x1,x2⟩
     walk_at "d"
     exact⟨1,rfl,ar7 W x1 x2 (faY hat rfl)⟩
    rw[show r.2.2.2.2.filterMap (λs=>some (V.bytes (m4 s)))=(r.2.2.2.2.map m4).map V.bytes by rw[cW0];exact congrFun (dj4 (f:=V.bytes∘m4)) _]
    refine Q5 (.inr .lst) (cV2 w3 (by decide)) ?_
    refine n5 (b5 _ _ _) (sz rfl) ?_
    walk_at "n"
    refine .at ?_ λU k=>k
    rw[c5,y8,if_neg hne,cV5];rfl
   ·walk_at "n"
    refine .at ?_ λU k=>k
    rw[y8,if_pos he,cW6];rfl
  unfold cA4
  have key:∀(EX':XC) Q',(∀ln,y0 (y8 r) (R9 r) ln->Q' (.bytes ln) (c7 (c7 own f (some (.list fv))) g (some (.list ((y8 r).map .bytes)))))->A7 3 57 [.ref a,.ref g,.bool (R9 r)] (c7 (c7 own f (some (.list fv))) g (some (.list ((y8 r).map .bytes)))) Q' EX':=λEX' Q' h=>
   cb7 W ((b7 hga).trans (ha' _)) (.inr (.at_own (b5 _ _ _))) (λsep hs=>flen (ae7 sep hs)) λsep hs e he rem hrem=>h _ ⟨sep,hs,e,he,rem,hrem,rfl⟩
  have fin:∀{v3 v4 v5 v6 v7 v8} ln,y0 (y8 r) (R9 r) ln->S5 (J33 a f rs own (i+1)) [some (.ref a),some (.lst (rs.map crV)),some (.ref f),v3,v4,v5,v6,v7,v8] (c7 own f (some (.list (fv++[.bytes ln])))):=λln hln=>by
   refine .at (by rw[<-hF];exact congrArg (λz=>c7 own f (some (.list z))) (by rw[cV5,cV5];rfl)) λU k=>k (zs++[(r,ln)]) (by rw[cV5,hz,g6 hrx];rfl) (λz hz=>?_) _ _ _ _ _ _
   rcases cW9.mp hz with hz | hz
   ·exact hq z hz
   ·rw[cV8.mp hz];exact hln
  have mE:R9 r=(decide (r.2.2.2.2=[])&&decide (r.2.2.2.1=[])):=rfl
  generalize R9 r=mu at key mE fin
  walk_at "n"
  refine⟨K9 ((b7 (Ne.symm hgf)).trans (b5 _ _ _)),sz rfl,cc9 wok (b:=[]) rfl ?_⟩
  walk_at "d"
  refine r7 (λh=>⟨sz rfl,bF8 ?_⟩) λh=>?_
  ·rw[show decide (r.2.2.2.1=[])=mu by rw[mE,h];rfl]
   refine⟨3,rfl,key _ _ λln hln=>?_⟩
   refine n5 ((b7 (Ne.symm hgf)).trans (b5 _ _ _)) (cV2 fv100 (by decide)) ?_
   walk_at "n"
   refine⟨_,Gho.drop ((b7 hgf).trans (b5 _ _ _)) (λU U=>nofun),?_⟩
   walk_at "d"
   rw[bU1 hg hgf]
   refine fin ln hln
  ·obtain rfl:mu=false:=by rw[mE,h];rfl
   walk_at "d"
   refine⟨3,rfl,key _ _ λln hln=>?_⟩
   refine n5 ((b7 (Ne.symm hgf)).trans (b5 _ _ _)) (cV2 fv100 (by decide)) ?_
   walk_at "n"
   refine⟨_,Gho.drop ((b7 hgf).trans (b5 _ _ _)) (λU U=>nofun),?_⟩
   walk_at "d"
   rw[bU1 hg hgf]
   refine fin ln hln
 ·intro zs hz hq v3 v4 v5 v6 v7 v8
  rw[cY5] at hz
  walk_at "n"
  walk_at "r"
  refine⟨_,_,.inl ⟨f,_,rfl,b5 _ _ _,rfl,rfl⟩,?_⟩
  rw[c5,d9 hf]
  exact hQ zs hz hq
end
section
variable {own:b9}
noncomputable def bW3:List Nat:=H1++[0,65,1114111]
noncomputable def bW4 (c:Nat) (r:S9):Option V:=if decide (r.1=c)=true then some (crV r) else none
structure cd0 (own:b9) (p:Addr) (cd:CD):Prop where
 at_:∃am ms,own p=some (u7 am)/\own am=some (.dictS ms)/\∀k n,suf[k]?=some (n,prt k)->∃m,k7 ms n=some (.ref m)/\own m=some (X4 (.tup []) (w4 (prt k) cd))
 asc:∀f,Asc (w4 f cd)
 len:cd.length<=50
theorem bq6 (f:CR->List Nat) (c:Nat) (cd:CD):(M2 (.tup []) (w4 f cd) c=.tup []/\C9 cd c=[])\/M2 (.tup []) (w4 f cd) c=D5 f (C9 cd c):=by
 induction cd with
 | nil=>exact .inl ⟨rfl,rfl⟩
 | cons p r ih=>
  by_cases q:p.1=c
  ·rw[show M2 (.tup []) (w4 f (p::r)) c=D5 f p.2 from if_pos q.symm,show C9 (p::r) c=p.2 from if_pos q];exact .inr rfl
  ·rw[show M2 (.tup []) (w4 f (p::r)) c=M2 (.tup []) (w4 f r) c from if_neg (Ne.symm q),show C9 (p::r) c=C9 r c from if_neg q];exact ih
theorem at7 {α:Type} (p:α->Bool) (f:α->V) (g:α->Option V) (h:∀x,g x=if p x=true then some (f x) else none) (xs:List α):xs.filterMap g=(xs.filter p).map f:=by
 induction xs with
 | nil=>rfl
 | cons x r ih=>
  rw[cZ7,h,ih]
  by_cases q:p x=true
  ·rw[if_pos q,df8 q];rfl
  ·rw[if_neg q,df9 q]
theorem cl9 (r:S9) (k:Nat) (h:k<3):[V.int (r.1:Nat),D9 r.2.1,D9 r.2.2.1,D9 r.2.2.2.1,wsV r.2.2.2.2][(1+((k:Nat):Int)).toNat]?=some (D9 (prt k r.2)):=by
 rcases aa2 h with rfl | rfl | rfl<;>rfl
theorem aR0 (n:Nat) (ns:List Nat):plV (n+1) (D9 ns)=true:=by
 show(ns.map nV).all (plV n)=true
 rw[cX0]
 intro v hv
 rcases cV6.mp hv with⟨m,_,rfl⟩
 cases n<;>rfl
theorem cd1 (n:Nat) {ws:List Str} (h:ws.all PyData.strOk=true):plV (n+1) (wsV ws)=true:=by
 show(ws.map V.str).all (plV n)=true
 rw[cX0] at h ⊢
 intro v hv
 rcases cV6.mp hv with⟨s,hs,rfl⟩
 have:=h s hs
 cases n<;>exact this
theorem cm0 {f:CR->List Nat} {os:List S9} (h:∀r∈os,r.2.2.2.2.all PyData.strOk=true):plV 100 (.lst ((os.map (·.2)).map (G5 f)))=true:=by
 show((os.map (·.2)).map (G5 f)).all (plV 99)=true
 rw[cX0]
 intro v hv
 rcases cV6.mp hv with⟨q,hq,rfl⟩
 rcases cV6.mp hq with⟨r,hr,rfl⟩
 show[D9 (f r.2),wsV r.2.2.2.2].all (plV 98)=true
 rw[dc1,dc1,do1,aR0,cd1 _ (h r hr)];rfl
theorem bI2 {k:Nat} {v:V} (h:(([("slc":Str),"stc","suc"]).map V.str)[k]?=some v):k<3/\∃n,suf[k]?=some (n,prt k)/\v=.str n:=by
 have hk:k<3:=(cX4.mp h).1
 rcases aa2 hk with rfl | rfl | rfl<;>exact⟨hk,_,rfl,(Option.some.inj h).symm⟩
theorem bb4 (W:Ok) {p:Addr} {cd:CD} {rs:List S9} {Q:V->b9->Prop} {EX:XC} (hd:cd0 own p cd) (hr:∀c,C9 cd c=(rs.filter λr=>decide (r.1=c)).map (·.2)) (hw:∀r∈rs,r.2.2.2.2.all PyData.strOk=true) (hl:rs.length<=100)
  (hQ:Q (.bool true) own):A7 4 64 [.ref p,.lst (rs.map crV)] own Q EX:=by
 refine e8 (ns:=["data","rows","code","own","k","name"]) (others:=["code","own","k","name"]) W rfl rfl rfl
  (Den_cons (i6 (d6 (x6 40 rfl rfl) (d7 (a6 b8 (a6 b8 (a6 b8 a8 rfl) rfl) rfl))) (c0 (.s (.s .z)) rfl) (Den_cons (J5 (.s (.s (.s .z))) ["row"] rfl rfl (λU U=>rfl) (by with_unfolding_all rfl) (a9 (.s .z) rfl) (c0 .z rfl) (L9 (c6 (d5 (a9 .z rfl) b8 rfl) (B1 (.s (.s .z)) rfl rfl) rfl)) (a9 .z rfl))
  (Den_cons (i6 (p8 78 rfl rfl (a6 (d7 (a6 d0 (a6 d0 (a6 d0 a8 rfl) rfl) rfl)) a8 rfl)) (o6 (c8 (c0 (.s (.s (.s (.s .z)))) rfl) (c8 (c0 (.s (.s (.s (.s (.s .z))))) rfl) k8 rfl) rfl)) (Den_cons (i8 (c6 (p8 74 rfl rfl (a6 (F7 43 2 (by decide) (by decide) rfl rfl rfl (a9 .z rfl) (a6 (a9 (.s (.s (.s (.s (.s .z))))) rfl) (a6 (a9 (.s (.s .z)) rfl) a8 rfl) rfl)) a8 rfl)) (j8 ["row"] rfl (λU U=>rfl) (a9 (.s (.s (.s .z))) rfl) (c0 .z rfl) n7 (d7 (a6 (d5 (a9 .z rfl) (d6 b8 (B1 (.s (.s (.s (.s .z)))) rfl rfl)) rfl) (a6 (d5 (a9 .z rfl) b8 rfl) a8 rfl) rfl))) rfl) (Den_cons (d4 s5)
  b6) b6)
  b6) b6 (λU U=>rfl))
  b6)) b6 (λU U=>rfl))
  (Den_cons (d4 s5)
  b6)) ?_
 walk_at "d"
 refine⟨sz rfl,aX9 (λh=>nomatch h) (λh=>nomatch h) (by decide) ?_⟩
 refine⟨bW3.map nV,own,λU l o=>o=own/\∃v2 v3 v4 v5,l=[some (.ref p),some (.lst (rs.map crV)),v2,v3,v4,v5],F5,⟨rfl,_,_,_,_,rfl⟩,?_,?_⟩
 ·rintro i l o y - ⟨rfl,v2,v3,v4,v5,rfl⟩ hy
  rcases at6 hy with⟨c,-,rfl⟩
  rw[show nV c=.int (c:Nat) from rfl]
  walk_at "n"
  refine ae8 (comp:=false) crV (bW4 c) m9 (cV2 hl (by decide)) (λj w r hw hat=>?_) ?_
  ·rcases F9 hw with⟨v,rfl⟩
   walk_at "d"
   refine i_t (x:=.int (r.1:Nat)) (by decide) (by decide) rfl ?_
   walk_at "d"
   rw[if_neg cV7]
   walk_at "d"
   rw[show decide ((r.1:Int)=(c:Int))=decide (r.1=c) from decide_eq_decide.mpr (by lia)]
   refine r7 (λh=>?_) λh=>?_
   ·walk_at "d"
    exact faY hat (by rw[bW4,if_pos h])
   ·exact faN hat (by rw[bW4,if_neg (by rw[h];exact cV7)])
  rw[show rs.filterMap (bW4 c)=(rs.filter λr=>decide (r.1=c)).map crV from at7 _ _ _ (λr=>rfl) rs]
  replace hr:=hr c
  have hw':∀r∈rs.filter (λr=>decide (r.1=c)),r.2.2.2.2.all PyData.strOk=true:=λr hr=>hw r (df1.mp hr).1
  have hl':(rs.filter λr=>decide (r.1=c)).length<=100:=cV2 (dj0 _ _) hl
  generalize (rs.filter λr=>decide (r.1=c))=os at hr hw' hl' ⊢
  walk_at "n"
  refine⟨sz rfl,bS0 (ns:=["slc","stc","suc"]) λe it l he ok=>?_⟩
  refine⟨_,_,λU l o'=>o'=o/\∃v4 v5,l=[some (.ref p),some (.lst (rs.map crV)),some (.int (c:Nat)),some (.lst (os.map crV)),v4,v5],bD7 ok (b5 _ _ _),⟨by rw[c5,d9 he],_,_,rfl⟩,?_,?_⟩
  ·rintro k l o y - ⟨rfl,v4,v5,rfl⟩ hy
   rcases ae1 hy with⟨v,hv,rfl⟩
   obtain⟨k3,n,hn,rfl⟩:=bI2 hv
   obtain⟨am,ms,hp,ha,hk⟩:=hd.at_
   obtain⟨m,hm,ho⟩:=hk k n hn
   walk_at "d"
   refine⟨rfl,p,_,rfl,hp,M3 rfl,3,rfl,W5 W hp ha hm ho (hd.asc _) (by rw[w4,cV3];exact cV2 hd.len (by decide)) ?_⟩
   have hlist:∀Q':V->b9->Prop,Q' (.lst ((os.map (·.2)).map (G5 (prt k)))) o->l0 (.type "list") [M2 (.tup []) (w4 (prt k) cd) c] o Q':=λQ' h=>by
    rw[<-hr] at h
    rcases bq6 (prt k) c cd with⟨e1,e2⟩ | e1
    ·rw[e1];rw[e2] at h;exact bC6 (xs:=[]) (.inl rfl) (sz rfl) h
    ·rw[e1];exact bC6 (.inr .lst) (by rw[hr,cV3,cV3];exact cV2 hl' (by decide)) h
   refine hlist _ ?_
   walk_at "d"
   refine ae8 (comp:=false) crV (λr=>some (G5 (prt k) r.2)) m9 (cV2 hl' (by decide)) (λj w r hw hat=>?_) ?_
   ·rcases F9 hw with⟨v,rfl⟩
    walk_at "d"
    rw[if_neg cV7]
    walk_at "d"
    refine i_t (x:=D9 (prt k r.2)) (by lia) (by lia) (cl9 r k k3) (i_t (x:=wsV r.2.2.2.2) (by decide) (by decide) rfl ⟨sz rfl,faY hat rfl⟩)
   rw[show os.filterMap (λr=>some (G5 (prt k) r.2))=(os.map (·.2)).map (G5 (prt k)) by rw[cW0];exact congrFun (dj4 (f:=λr:S9=>G5 (prt k) r.2)) _]
   refine at5 (cm0 hw') ?_
   walk_at "n"
   exact⟨rfl,_,_,rfl⟩
  ·rintro l o' ⟨rfl,v4,v5,rfl⟩
   walk_at "n"
   exact⟨rfl,_,_,_,_,rfl⟩
 ·intro l o q1_
  obtain⟨rfl,v2,v3,v4,v5,rfl⟩:=q1_
  walk_at "n"
  walk_at "r"
  exact hQ
end
section
variable {own:b9}
abbrev XRw:=Nat×List V
noncomputable def xRw (r:XRw):V:=.tup (.int (r.1:Nat)::r.2)
noncomputable def aR1 (c:Nat) (r:XRw):Option V:=if decide (r.1=c)=true then some (xRw r) else none
noncomputable def bW5:List Nat:=A6++H1
theorem aR2 (W:Ok) {ts rs:List XRw} {isf:Bool} {Q:V->b9->Prop} {EX:XC} (hf:∀c,ts.filter (λr=>decide (r.1=c))=rs.filter λr=>decide (r.1=c)) (hl:ts.length=rs.length) (hz:rs.length<=1000) (hp:∀r∈rs,r.2.all (plV 98)=true)
  (hQ:Q (.bool true) own):A7 2 70 [.lst (ts.map xRw),.lst (rs.map xRw),.bool isf] own Q EX:=by
 refine e8 (ns:=["told","rows","is_fold","code","near","far"]) (others:=["code","near","far"]) W rfl rfl rfl
  (Den_cons (i6 (d6 (x6 37 rfl rfl) (x6 40 rfl rfl)) (c0 (.s (.s (.s .z))) rfl) (Den_cons (Den_swap [(.s (.s (.s (.s .z)))),(.s (.s (.s (.s (.s .z)))))] rfl (by with_unfolding_all rfl) rfl (d7 (a6 (j8 ["row"] rfl (λU U=>rfl) (a9 .z rfl) (c0 .z rfl) (L9 (c6 (d5 (a9 .z rfl) b8 rfl) (B1 (.s (.s (.s .z))) rfl rfl) rfl)) (a9 .z rfl)) (a6 (j8 ["row"] rfl (λU U=>rfl) (a9 (.s .z) rfl) (c0 .z rfl) (L9 (c6 (d5 (a9 .z rfl) b8 rfl) (B1 (.s (.s (.s .z))) rfl rfl) rfl)) (a9 .z rfl)) a8 rfl) rfl)))
  (Den_cons (i8 (j3 (m7 (y2 (c6 (a9 (.s (.s (.s (.s .z)))) rfl) (a9 (.s (.s (.s (.s (.s .z))))) rfl) rfl) (w7 (C0 (j3 (m7 (y2 (g9 (a9 (.s (.s .z)) rfl) (λU U=>rfl)) (w7 (c6 (j5 71 rfl rfl (a6 (a9 (.s (.s (.s (.s .z)))) rfl) a8 rfl)) (j5 71 rfl rfl (a6 (a9 (.s (.s (.s (.s (.s .z))))) rfl) a8 rfl)) rfl)))))))))) (Den_cons (d4 s5)
  b6) b6)
  b6)) b6 (λU U=>rfl))
  (Den_cons (d4 (H4 (j5 67 rfl rfl (a6 (a9 .z rfl) a8 rfl)) (j5 67 rfl rfl (a6 (a9 (.s .z) rfl) a8 rfl)) rfl))
  b6)) ?_
 walk_at "d"
 refine aX9 (λh=>nomatch h) (λh=>nomatch h) (by decide) ?_
 refine⟨bW5.map nV,own,λU l o=>o=own/\∃v2 v3 v4,l=[some (.lst (ts.map xRw)),some (.lst (rs.map xRw)),some (.bool isf),v2,v3,v4],F5,⟨rfl,_,_,_,rfl⟩,?_,?_⟩
 ·rintro i l o y - ⟨rfl,v2,v3,v4,rfl⟩ hy
  rcases at6 hy with⟨c,-,rfl⟩
  rw[show nV c=.int (c:Nat) from rfl]
  walk_at "n"
  refine ae8 (comp:=false) xRw (aR1 c) m9 (by rw[hl];exact cV2 hz (by decide)) (λj w r hw hat=>?_) ?_
  ·rcases F9 hw with⟨v,rfl⟩
   walk_at "d"
   refine i_t (x:=.int (r.1:Nat)) (by decide) (by decide) rfl ?_
   walk_at "d"
   rw[if_neg cV7]
   walk_at "d"
   rw[show decide ((r.1:Int)=(c:Int))=decide (r.1=c) from decide_eq_decide.mpr (by lia)]
   refine r7 (λh=>?_) λh=>?_
   ·walk_at "d"
    exact faY hat (by rw[aR1,if_pos h])
   ·exact faN hat (by rw[aR1,if_neg (by rw[h];exact cV7)])
  walk_at "d"
  refine ae8 (comp:=false) xRw (aR1 c) m9 (cV2 hz (by decide)) (λj w r hw hat=>?_) ?_
  ·rcases F9 hw with⟨v,rfl⟩
   walk_at "d"
   refine i_t (x:=.int (r.1:Nat)) (by decide) (by decide) rfl ?_
   walk_at "d"
   rw[if_neg cV7]
   walk_at "d"
   rw[show decide ((r.1:Int)=(c:Int))=decide (r.1=c) from decide_eq_decide.mpr (by lia)]
   refine r7 (λh=>?_) λh=>?_
   ·walk_at "d"
    exact faY hat (by rw[aR1,if_pos h])
   ·exact faN hat (by rw[aR1,if_neg (by rw[h];exact cV7)])
  rw[at7 _ _ (aR1 c) (λU=>rfl) ts,at7 _ _ (aR1 c) (λU=>rfl) rs,hf]
  refine⟨sz rfl,rfl,?_⟩
  walk_at "n"
  refine⟨false,at5 ?_ ⟨rfl,rfl⟩,?_⟩
  ·show((rs.filter λr=>decide (r.1=c)).map xRw).all (plV 99)=true
   rw[cX0]
   intro v hv
   rcases cV6.mp hv with⟨r,hr,rfl⟩
   exact hp r (df1.mp hr).1
  ·walk_at "n"
   exact⟨rfl,_,_,_,rfl⟩
 ·intro l o q1_
  obtain⟨rfl,v2,v3,v4,rfl⟩:=q1_
  walk_at "n"
  refine R4 .lst (by rw[cV3,hl];exact cV9 hz (by decide)) (R4 .lst (by rw[cV3];exact cV9 hz (by decide)) ?_)
  rw[cV3,cV3,hl]
  walk_at "d"
  rw[decide_eq_true rfl]
  walk_at "r"
  exact hQ
end
section
variable {own:b9}
noncomputable def bq7:List B8:=[[48,48,52,49,59,32,67],[48,48,52,49,59,32,67,59,32,48,48,54,49,59,32,120,59,32,121],[48,48,52,49,59,32,88,59,32,48,48,54,49,59],[52,49,59,32,67,59,32,48,48,54,49,59],[48,48,71,49,59,32,67,59,32,48,48,54,49,59],[49,49,48,48,48,48,59,32,67,59,32,48,48,54,49,59],[48,48,52,49,59,32,70,59,32,48,48,54,49,32,54,59],[48,48,52,49,59,32,67,59,32,48,48,48,48,48,54,49]]
noncomputable def bq8:List B8:=[[48,48,68,70,59,32,48,48,68,70,59,32,48,48,53,51],[48,48,68,70,59,32,59,32,59,32,48,48,53,51,59,32,116,114,59,32,120,59,32,121],[68,70,59,32,59,32,59,32,48,48,53,51,59],[48,48,68,72,59,32,59,32,59,32,48,48,53,51,59],[48,48,68,70,59,32,48,48,53,51,32,53,51,59,32,59,32,48,48,53,51,59],[48,48,68,70,59,32,59,32,59,32,49,49,48,48,48,48,59,32,116,114],[48,48,68,70,59,32,59,32,59,32,48,48,53,51,59,32,233,59]]
theorem bI3 (W:Ok) {R:b9->Prop} {E:Nat->Prop} {Q:V->b9->Prop}
  (hc:∀(Q':V->b9->Prop) (EX':XC),(∀o,R o->Q' .none o)->(∀n:Nat,E n->EX' (fa 8) (.int (n:Nat)) own)->A7 7 (if isf=true then 29 else 32) [.bytes b,.ref p] own Q' EX')
  (hQ:∀o,R o->Q .none o) (hE:∀n:Nat,E n->Q (.int (n:Nat)) own):A7 8 71 [.bool isf,.bytes b,.ref p] own Q EX:=by
 refine e8 (ns:=["is_fold","octets","data","found","e"]) (others:=["found","e"]) W rfl rfl rfl
  (Den_cons (Den_asg (.s (.s (.s .z))) rfl w6 rfl)
  (Den_cons (aN7 (.s (.s (.s (.s .z)))) (.s (.s (.s .z))) rfl rfl rfl rfl (by with_unfolding_all rfl) (Den_cons (i8 (g9 (a9 .z rfl) (λU U=>rfl)) (Den_cons (l9 (c4 24 29 rfl rfl rfl (a6 (a9 (.s .z) rfl) (a6 (a9 (.s (.s .z)) rfl) a8 rfl) rfl)) rfl)
  b6) (Den_cons (l9 (c4 27 32 rfl rfl rfl (a6 (a9 (.s .z) rfl) (a6 (a9 (.s (.s .z)) rfl) a8 rfl) rfl)) rfl)
  b6))
  b6))
  (Den_cons (d4 (a9 (.s (.s (.s .z))) rfl))
  b6))) ?_
 walk_at "n"
 refine r7 (λh=>⟨7,rfl,?_⟩) λh=>⟨7,rfl,?_⟩
 ·rw[if_pos h] at hc
  refine hc _ _ (λo ho=>?_) λn hn=>?_
  ·walk_at "n"
   walk_at "r"
   exact hQ o ho
  ·refine⟨rfl,rfl,λea=>?_⟩
   walk_at "n"
   walk_at "r"
   exact hE n hn
 ·rw[if_neg (by rw[h];exact cV7)] at hc
  refine hc _ _ (λo ho=>?_) λn hn=>?_
  ·walk_at "n"
   walk_at "r"
   exact hQ o ho
  ·refine⟨rfl,rfl,λea=>?_⟩
   walk_at "n"
   walk_at "r"
   exact hE n hn
theorem cN3 (W:Ok) (ha:own a=some .deck) (hQ:∀x,x∈(if isf=true then bq7 else bq8)->Q (.bytes x) own):A7 3 72 [.ref a,.bool isf] own Q EX:=by
 refine e8 (ns:=["deck","is_fold"]) (others:=[]) W rfl rfl rfl
  (Den_cons (i8 (g9 (a9 (.s .z) rfl) (λU U=>rfl)) (Den_cons (d4 (c4 44 52 rfl rfl rfl (a6 (a9 .z rfl) (a6 (d7 (a6 c9 (a6 c9 (a6 c9 (a6 c9 (a6 c9 (a6 c9 (a6 c9 (a6 c9 a8 rfl) rfl) rfl) rfl) rfl) rfl) rfl) rfl)) a8 rfl) rfl)))
  b6) b6)
  (Den_cons (d4 (c4 44 52 rfl rfl rfl (a6 (a9 .z rfl) (a6 (d7 (a6 c9 (a6 c9 (a6 c9 (a6 c9 (a6 c9 (a6 c9 (a6 c9 a8 rfl) rfl) rfl) rfl) rfl) rfl) rfl)) a8 rfl) rfl)))
  b6)) ?_
 walk_at "n"
 refine r7 (λh=>⟨sz rfl,2,rfl,ad9 W ha (λh=>nomatch h) (by decide) λy hy=>?_⟩) λh=>?_
 ·rw[if_pos h] at hQ
  rcases(cV6.mp (show y∈bq7.map V.bytes from hy)) with⟨x,hx,rfl⟩
  walk_at "r"
  exact hQ x hx
 ·rw[if_neg (by rw[h];exact cV7)] at hQ
  walk_at "n"
  refine⟨sz rfl,2,rfl,ad9 W ha (λh=>nomatch h) (by decide) λy hy=>?_⟩
  rcases(cV6.mp (show y∈bq8.map V.bytes from hy)) with⟨x,hx,rfl⟩
  walk_at "r"
  exact hQ x hx
end
section
section
variable {x:UInt8}
theorem aH2 (a:B8):∀cur:B8,x∉a->z6 x a cur=[cur++a]:=by
 induction a with
 | nil=>exactλcur U=>congrArg (λl=>[l]) (cW6 cur).symm
 | cons y r ih=>
  intro cur h
  rw[D3,if_neg λe:y=x=>h (e▸.head _),ih _ λq=>h (.tail _ q),cW2];rfl
theorem bb5 (a b:B8):∀cur:B8,x∉a->z6 x (a++x::b) cur=(cur++a)::z6 x b []:=by
 induction a with
 | nil=>intro cur _;rw[da1,D3,if_pos rfl,cW6]
 | cons y r ih=>
  intro cur h
  rw[da6,D3,if_neg λe:y=x=>h (e▸.head _),ih _ λq=>h (.tail _ q),cW2];rfl
theorem aa4 (h:x∉a):i5 x a=[a]:=aH2 a [] h
theorem O9 (b:B8) (h:x∉a):i5 x (a++x::b)=a::i5 x b:=bb5 a b [] h
theorem ak6 (h:∀l∈ls,x∉l):i5 x ((ls.map (·++[x])).flatten)=ls++[[]]:=by
 induction ls with
 | nil=>rfl
 | cons l r ih=>
  have h:=cX1.mp h
  rw[cX3,df7,cW2,dj2,O9 _ h.1,ih h.2];rfl
theorem bb6 (h:ls≠[]):g8 [x] ls++[x]=(ls.map (·++[x])).flatten:=by
 induction ls with
 | nil=>exact absurd rfl h
 | cons l r ih=>cases r with
  | nil=>rw[am9,List.map_singleton,List.flatten_singleton]
  | cons m r=>rw[ac2,cW2,cW2,ih nofun,cX3 (l:=m::r),df7 (L:=((m::r).map (·++[x]))),cW2]
theorem aA4 (ls:List B8):g8 [] ls=ls.flatten:=by
 induction ls with
 | nil=>rfl
 | cons l r ih=>cases r with
  | nil=>rw[am9,List.flatten_singleton]
  | cons m r=>rw[ac2,ih,cW6,df7 (L:=m::r)]
end
noncomputable def blk (b:B8):Bool:=b.all [32,9,13].contains
noncomputable def cln (f:B8):Bool:=match f.head?,f.getLast? with
 | some a,some z=>!([32,9,13]:B8).contains a&&!([32,9,13]:B8).contains z
 | _,_=>true
theorem at8 (h:blk p=true):(p++b).dropWhile ([32,9,13]:B8).contains=b.dropWhile ([32,9,13]:B8).contains:=
 List.dropWhile_append_of_pos λy hy=>cX0.mp h y hy
theorem bW6 (h:blk q=true):blk q.reverse=true:=by
 rw[blk,List.all_reverse];exact h
theorem W8 (hp:blk p=true) (hq:blk q=true) (hf:cln f=true):u0 (p++f++q)=f:=by
 unfold u0 I7
 rw[cW2,at8 hp]
 cases f with
 | nil=>
  rw[da1,show q.dropWhile ([32,9,13]:B8).contains=[] by have:=at8 (b:=[]) hq;rwa [cW6] at this];rfl
 | cons a r=>
  unfold cln at hf
  rw[dl7,dg0 (dk5 a r)] at hf
  simp only[cY6,da4] at hf
  rw[da6,dh1 (by rw[hf.1];exact cV7),<-da6,dk7,at8 (bW6 hq)]
  obtain⟨s,t,e⟩:∃s t,(a::r).reverse=t::s/\t=(a::r).getLast (dk5 a r):=by
   cases h:(a::r).reverse with
   | nil=>exact absurd (congrArg dc7 h) (by rw[cZ0];exactλh=>nomatch h)
   | cons t s=>
    refine⟨s,t,rfl,?_⟩
    have:=congrArg List.head? h
    rw[List.head?_reverse,dg0 (dk5 a r)] at this
    exact(Option.some.inj this).symm
  rw[e.1,dh1 (by rw[e.2,hf.2];exact cV7),<-e.1,dj7]
end
section
theorem at9 {b:B8} {x:UInt8} (hx:([32,9,13]:B8).contains x=false) (h:blk b=true):x∉b:=λhm=>by
 have:=cX0.mp h x hm
 rw[hx] at this;cases this
theorem aA5 {p:UInt8->Bool} {b:B8} (h:b.dropWhile p=[]):∀x∈b,p x=true:=by
 induction b with
 | nil=>exactλU h=>nomatch h
 | cons y r ih=>
  by_cases q:p y=true
  ·rw[List.dropWhile_cons_of_pos q] at h
   exact cX1.mpr ⟨q,ih h⟩
  ·rw[dh1 q] at h;cases h
theorem bq9 {b:B8} (h:u0 b=[]):blk b=true:=by
 unfold u0 I7 at h
 have h1:=aA5 (List.reverse_eq_nil_iff.mp h)
 have h2:b.dropWhile ([32,9,13]:B8).contains=[]:=by
  cases e:b.dropWhile ([32,9,13]:B8).contains with
  | nil=>rfl
  | cons a r=>
   have h3:=h1 a (by rw[e];exact di0.mpr (.head _))
   have h4:=List.head?_dropWhile_not ([32,9,13]:B8).contains b
   rw[e,dl7] at h4
   exact dc2 (h3.symm.trans h4)
 exact cX0.mpr λx hx=>aA5 h2 x hx
theorem bI4:∀sep∈aG0,∃s1 s2,sep=s1++59::s2/\blk s1=true/\blk s2=true:=λsep h=>by
 rcases cW1.mp h with rfl | h
 ·exact⟨[],[32],rfl,rfl,rfl⟩
 rcases cW1.mp h with rfl | h
 ·exact⟨[],[],rfl,rfl,rfl⟩
 rw[cV8.mp h];exact⟨[32],[32],rfl,rfl,rfl⟩
noncomputable def okf (f:B8):Bool:=(f.all λx=>!([10,35,59]:B8).contains x)&&cln f
theorem aa5 (h:okf f=true):(10∉f/\35∉f/\59∉f)/\cln f=true:=by
 unfold okf at h
 rw[cY6] at h
 have:=cX0.mp h.1
 exact⟨⟨λq=>absurd (this _ q) (by decide),λq=>absurd (this _ q) (by decide),λq=>absurd (this _ q) (by decide)⟩,h.2⟩
theorem bb8 (h1:blk s1=true) (h2:blk s2=true) (hq:blk q=true) (t:Bool):∀{p:B8},fs≠[]->blk p=true->(∀f∈fs,okf f=true)->
  (i5 59 (p++(g8 (s1++59::s2) fs++((if t=true then[59] else[])++q)))).map u0=fs++(if t=true then[[]] else[]):=by
 induction fs with
 | nil=>exactλh=>absurd rfl h
 | cons f r ih=>
  intro p _ hp h
  have h:=cX1.mp h
  obtain⟨⟨-,-,n⟩,c⟩:=aa5 h.1
  have np:=at9 (x:=59) rfl hp
  have nf:(59:UInt8)∉p++f:=λhm=>(cW9.mp hm).elim np n
  cases r with
  | nil=>
   have nq:=at9 (x:=59) rfl hq
   rw[am9,<-cW2]
   cases t
   ·exact(congrArg (do4 u0) (aa4 (λhm=>(cW9.mp hm).elim nf nq))).trans (congrArg (λz=>[z]) (W8 hp hq c))
   ·rw[if_pos rfl,if_pos rfl,dj2,O9 _ nf,aa4 nq,cX3,List.map_singleton,
     show p++f=p++f++[] from(cW6 _).symm,W8 hp rfl c,show q=[]++[]++q from rfl,W8 rfl hq rfl];rfl
  | cons g r=>
   have n1:=at9 (x:=59) rfl h1
   have e:p++(g8 (s1++59::s2) (f::g::r)++((if t=true then[59] else[])++q))=(p++f++s1)++59::(s2++(g8 (s1++59::s2) (g::r)++((if t=true then[59] else[])++q))):=by
    rw[ac2];simp only[cW2,da6]
   rw[e,O9 _ λhm=>(cW9.mp hm).elim nf n1,cX3,ih nofun h2 h.2,W8 hp h1 c];rfl
theorem aA6 {x:UInt8} {a:B8} (b:B8) (h:x∉a):(a++x::b).takeWhile (· != x)=a:=by
 have e:∀y∈a,(y != x)=true:=λy hy=>bne_iff_ne.mpr λe:y=x=>h (e▸hy)
 rw[dj5 e,List.takeWhile_cons_of_neg (by rw[bne_self_eq_false];exact cV7),cW6]
theorem bI5 {x:UInt8} {a:B8} (h:x∉a):a.takeWhile (· != x)=a:=by
 have e:∀y∈a,(y != x)=true:=λy hy=>bne_iff_ne.mpr λe:y=x=>h (e▸hy)
 have:=dj5 (l₂:=[]) e
 rwa [cW6,List.takeWhile_nil,cW6] at this
theorem bI6:∀rem∈aO6,∃q,blk q=true/\∀a:B8,35∉a->t9 (a++rem)=a++q:=λrem h=>by
 rcases cW1.mp h with rfl | h
 ·exact⟨[],rfl,λa ha=>by rw[cW6];exact bI5 ha⟩
 rcases cW1.mp h with rfl | h
 ·exact⟨[32],rfl,λa ha=>by
   rw[show a++[32,35,32,76,65,84,73,78]=(a++[32])++35::[32,76,65,84,73,78] by rw[cW2];rfl]
   exact aA6 _ λq=>(cW9.mp q).elim ha (by decide)⟩
 rw[cV8.mp h];exact⟨[],rfl,λa ha=>by rw[cW6];exact aA6 _ ha⟩
theorem W9 (hs:x∉sep) (h:∀f∈fs,x∉f):x∉g8 sep fs:=by
 induction fs with
 | nil=>exactλh=>nomatch h
 | cons f r ih=>
  have h:=cX1.mp h
  cases r with
  | nil=>exact h.1
  | cons g r=>exactλhm=>(cW9.mp hm).elim (λhm=>(cW9.mp hm).elim h.1 hs) (ih h.2)
theorem br0 (h:x∈f):x∈g8 sep (f::fs):=by
 cases fs with
 | nil=>exact h
 | cons g r=>rw[ac2];exact cX2 _ (cX2 _ h)
theorem bI7 (hs:sep∈aG0) (he:e=[59]\/e=[]) (hr:rem∈aO6) (hf:∀f∈f0::fs,okf f=true) (h0:f0≠[]) (k:Nat):
  ∃rm,R5 (g8 sep (f0::fs)++e++rem,k)=some (k+1,(f0::fs)++(if e=[59] then[[]] else[]),rm):=by
 obtain⟨s1,s2,rfl,b1,b2⟩:=bI4 sep hs
 obtain⟨q,bq,hb⟩:=bI6 rem hr
 have n35:(35:UInt8)∉g8 (s1++59::s2) (f0::fs):=W9 (λhm=>(cW9.mp hm).elim (at9 (x:=35) rfl b1) λhm=>(cW1.mp hm).elim (by decide) (at9 (x:=35) rfl b2)) λf hf'=>(aa5 (hf f hf')).1.2.1
 have nb:(35:UInt8)∉g8 (s1++59::s2) (f0::fs)++e:=λhm=>(cW9.mp hm).elim n35 (by rcases he with rfl | rfl<;>decide)
 have hbody:=hb _ nb
 have ne:u0 (t9 (g8 (s1++59::s2) (f0::fs)++e++rem))≠[]:=λh=>by
  rw[hbody] at h
  have:=bq9 h
  have hc:=(aa5 (hf f0 (.head _))).2
  cases f0 with
  | nil=>exact h0 rfl
  | cons a r=>
   unfold cln at hc
   rw[dl7,dg0 (dk5 a r)] at hc
   simp only[cY6,da4] at hc
   have h2:=cX0.mp this a (cX2 _ (cX2 _ (br0 (.head _))))
   rw[hc.1] at h2;cases h2
 unfold R5
 rw[if_neg ne,hbody]
 refine⟨_,congrArg some (congrArg (Prod.mk (k+1)) (congrArg (Prod.mk · _) ?_))⟩
 have:=bb8 b1 b2 bq (decide (e=[59])) (fs:=f0::fs) (p:=[]) (λh=>nomatch h) rfl hf
 rw[da1] at this
 rcases he with rfl | rfl
 ·simpa [cW2] using this
 ·simpa [cW2] using this
end
section
noncomputable def x7 (ls:List B8):B8:=(ls.map (·++[10])).flatten
structure aw8 (least:Nat) (ln:B8) (fs:s6):Prop where
 no:10∉ln
 hd:ln.head?≠some 239
 row:∀k,∃fs' rm,R5 (ln,k)=some (k+1,fs',rm)/\w9 least fs'=fs
abbrev CF:=Cel×s6
noncomputable def y9:Nat->List CF->List (Nat×s6)
 | _,[]=>[]
 | k,p::r=>(k+(p.1.1.length+1),p.2)::y9 (k+(p.1.1.length+1)) r
theorem aR3 {k:Nat} {p:CF} {r:List CF}:y9 k (p::r)=(k+(p.1.1.length+1),p.2)::y9 (k+(p.1.1.length+1)) r:=rfl
noncomputable def chk (least most:Nat):List (Nat×s6)->List (Nat×s6)->Except Nat (List (Nat×s6))
 | [],acc=>.ok acc
 | r::rs,acc=>if least<=r.2.length/\r.2.length<=most then chk least most rs (acc++[r]) else .error r.1
theorem cd4 {least most:Nat} {r:Nat×s6} {rs acc:List (Nat×s6)}:chk least most (r::rs) acc=if least<=r.2.length/\r.2.length<=most then chk least most rs (acc++[r]) else .error r.1:=rfl
theorem cm1 {least most:Nat} (R:List Row):∀(acc:List (Nat×s6)),J8 least most R acc=chk least most (R.map λr=>(r.1,w9 least r.2.1)) acc:=by
 induction R with
 | nil=>exactλU=>rfl
 | cons r R ih=>exactλacc=>congrArg (λz=>ite _ z _) (ih _)
theorem bI8 {least most:Nat} {xs acc:List (Nat×s6)} (h:∀x∈xs,least<=x.2.length/\x.2.length<=most):chk least most xs acc=.ok (acc++xs):=by
 induction xs generalizing acc with
 | nil=>rw[cW6];rfl
 | cons x xs ih=>rw[cd4,if_pos (h x (.head _)),ih λy hy=>h y (.tail _ hy),cW2];rfl
theorem bW7 {least most n:Nat} {fs:s6} {B:List (Nat×s6)} (hn:¬(least<=fs.length/\fs.length<=most)) {A acc:List (Nat×s6)} (h:∀x∈A,least<=x.2.length/\x.2.length<=most):chk least most (A++(n,fs)::B) acc=.error n:=by
 induction A generalizing acc with
 | nil=>exact if_neg hn
 | cons x A ih=>exact(if_pos (h x (.head _))).trans (ih λy hy=>h y (.tail _ hy))
theorem aR4:∀p∈L4,∀x∈p,(∀k,R5 (x,k)=none)/\10∉x/\x.head?≠some 239:=by
 have:∀p∈L4,∀x∈p,u0 (t9 x)=[]/\10∉x/\x.head?≠some 239:=by decide +kernel
 intro p hp x hx
 rcases this p hp x hx with⟨h1,h2⟩
 exact⟨λk=>if_pos h1,h2⟩
theorem cm2 {xs:List B8}:∀(k:Nat),(∀x∈xs,∀k,R5 (x,k)=none)->(xs.zipIdx k).filterMap R5=[]:=by
 induction xs with
 | nil=>exactλU U=>rfl
 | cons x xs ih=>intro k h;rw[dk1,cZ7,h x (.head _) k];exact ih _ λy hy=>h y (.tail _ hy)
theorem bb9 {least:Nat} {ps:List CF}:∀(k:Nat),(∀p∈ps,p.1.1∈L4/\aw8 least p.1.2.1 p.2)->(((G7 (ps.map (Prod.fst (α:=Cel) (β:=s6)))++[[]]).zipIdx k).filterMap R5).map (λr:Row=>(r.1,w9 least r.2.1))=y9 k ps:=by
 induction ps with
 | nil=>exactλU U=>rfl
 | cons p ps ih=>
  intro k h
  have h:=cX1.mp h
  have e:G7 ((p::ps).map (·.1))++[[]]=p.1.1++(p.1.2.1::(G7 (ps.map (·.1))++[[]])):=by
   rw[show G7 ((p::ps).map (·.1))=(p.1.1++[p.1.2.1])++G7 (ps.map (·.1)) from rfl,cW2,cW2];rfl
  obtain⟨fs',rm,h3,h4⟩:=h.1.2.row (p.1.1.length+k)
  rw[e,List.zipIdx_append,cZ4,cm2 _ λx hx=>(aR4 _ h.1.1 x hx).1,da1,dk1,cZ7,dd0 k,h3]
  show(p.1.1.length+k+1,w9 least fs')::_=_
  rw[ih _ h.2,aR3,h4,show k+(p.1.1.length+1)=p.1.1.length+k+1 by lia]
theorem br1 {least:Nat} {ps:List CF} (h:∀p∈ps,p.1.1∈L4/\aw8 least p.1.2.1 p.2):∀l∈G7 (ps.map (·.1)),10∉l/\l.head?≠some 239:=λl hl=>by
 obtain⟨c,hc,hl⟩:=dc8.mp hl
 rcases cV6.mp hc with⟨p,hp,rfl⟩
 rcases cW9.mp hl with hl | hl
 ·exact(aR4 _ (h p hp).1 l hl).2
 ·rw[cV8.mp hl];exact⟨(h p hp).2.no,(h p hp).2.hd⟩
theorem bW8 {ls:List B8} (h:∀l∈ls,l.head?≠some 239):([239,187,191]:B8).isPrefixOf (x7 ls)=false:=by
 cases ls with
 | nil=>rfl
 | cons l r=>
  unfold x7
  rw[cX3,df7]
  have h0:=h l (.head _)
  cases l with
  | nil=>rfl
  | cons a m=>
   rw[dl7] at h0
   show(([239,187,191]:B8).isPrefixOf (a::(m++[10]++_)))=false
   rw[List.isPrefixOf,show((239:UInt8) == a)=false from beq_eq_false_iff_ne.mpr λe=>h0 (by rw[<-e])];rfl
theorem V4 {least most:Nat} {ps:List CF} (h:∀p∈ps,p.1.1∈L4/\aw8 least p.1.2.1 p.2):q7 least most (x7 (G7 (ps.map (·.1))))=chk least most (y9 0 ps) []:=by
 have hm:=br1 h
 rw[q7,cm1,ah9,G1,if_neg (by rw[bW8 λl hl=>(hm l hl).2];exact cV7)]
 unfold x7
 rw[ak6 λl hl=>(hm l hl).1,bb9 0 h]
theorem af0 (h:ls≠[]):g8 [10] ls++[10]=x7 ls:=bb6 h
theorem K5 (k:Nat) (ps:List CF):(y9 k ps).map (·.2)=ps.map (·.2):=by
 induction ps generalizing k with
 | nil=>rfl
 | cons p r ih=>exact congrArg (p.2::·) (ih _)
theorem bc0 (k:Nat) (as:List CF) (p:CF) (bs:List CF):∃m B,y9 k (as++p::bs)=y9 k as++(m+(p.1.1.length+1),p.2)::B/\B.map (·.2)=bs.map (·.2)/\m=k+(G7 (as.map (·.1))).length:=by
 induction as generalizing k with
 | nil=>exact⟨k,_,rfl,K5 _ _,rfl⟩
 | cons a as ih=>
  obtain⟨m,B,h1,h2,h3⟩:=ih (k+(a.1.1.length+1))
  refine⟨m,B,by rw[da6,aR3,h1];rfl,h2,?_⟩
  rw[h3,show G7 ((a::as).map (·.1))=(a.1.1++[a.1.2.1])++G7 (as.map (·.1)) from rfl,cV4,cV4,de7];rfl
theorem aA7 (v:V) (n:Nat) (cs:List Cel):(∀c∈cs,c.2.2=false)->as8 v n cs=v:=by
 induction cs generalizing n with
 | nil=>exactλU=>rfl
 | cons c r ih=>intro h;rw[as9,if_neg (by rw[h c (.head _)];exact cV7)];exact ih _ λd hd=>h d (.tail _ hd)
theorem aR5 (v:V) (n:Nat) (as:List Cel) (c:Cel) (bs:List Cel) (hb:∀c∈bs,c.2.2=false) (hc:c.2.2=true):as8 v n (as++c::bs)=.int ((n+(G7 as).length+(c.1.length+1):Nat):Int):=by
 induction as generalizing n v with
 | nil=>rw[da1,as9,if_pos hc,aA7 _ _ _ hb];rfl
 | cons a as ih=>rw[da6,as9,ih,show G7 (a::as)=(a.1++[a.2.1])++G7 as from rfl,cV4,cV4,df0,de7 n]
end
section
noncomputable def up (l:List (List Nat)):List (List Nat):=E1.flatMap λx=>l.map λr=>x::r
noncomputable def ns0:List (List Nat):=[[]]
noncomputable def S0:List (List Nat):=ns0++(up ns0++(up (up ns0)++up (up (up ns0))))
theorem ai6 (hx:x∈E1) (hr:r∈l):x::r∈up l:=dc8.mpr ⟨x,hx,cW4 hr⟩
theorem bI9 (hl:ns.length<=3) (h:∀x∈ns,x∈E1):ns∈S0:=by
 rcases ns with _ | ⟨a,_ | ⟨b,_ | ⟨c,_ | ⟨d,r⟩⟩⟩⟩
 ·exact cX2 _ (.head _)
 ·exact cW5 _ (cX2 _ (ai6 (h a (.head _)) (.head _)))
 ·exact cW5 _ (cW5 _ (cX2 _ (ai6 (h a (.head _)) (ai6 (h b (.tail _ (.head _))) (.head _)))))
 ·exact cW5 _ (cW5 _ (cW5 _ (ai6 (h a (.head _)) (ai6 (h b (.tail _ (.head _))) (ai6 (h c (.tail _ (.tail _ (.head _)))) (.head _))))))
 ·exact absurd hl (Nat.not_le.mpr (cW3 (cW3 (cW3 (cW3 (cZ2 _))))))
noncomputable def bJ0 (ns:List Nat):Bool:=okf (j7 ns)&&decide (u6 (j7 ns)=some ns)&&decide ((i9 (j7 ns)).map x9=ns.map λ(n:Nat)=>(n:Int))
theorem bW9:S0.all bJ0=true:=by decide +kernel
noncomputable def bJ1 (c:Nat):Bool:=okf (y3 c)&&decide (z7 (y3 c)=some c)&&decide (i9 (y3 c)=[y3 c])&&decide (x9 (y3 c)=(c:Int))&&decide (y3 c≠[])&&decide (1<=c/\c<1114111)
theorem bX0:(A6++H1).all bJ1=true:=by decide +kernel
noncomputable def bJ2 (s:Str):Bool:=okf (m4 s)&&(m4 s).all (λx=>decide (x.toNat<128))&&decide (x5 (m4 s)=s)&&decide (i9 (m4 s)=[m4 s])
theorem bX1:A5.all bJ2=true:=by decide +kernel
noncomputable def whB (ws:List Str):B8:=g8 [32] (ws.map m4)
noncomputable def bJ4 (ws:List Str):Bool:=okf (whB ws)&&decide (Z8 (whB ws)=some ws)&&decide ((i9 (whB ws)).map x5=ws)&&(decide (ws=[]) || decide (whB ws≠[]))
theorem bX2:G4.all bJ4=true:=by decide +kernel
end
section
section
variable {α:Type}
abbrev GD (α:Type):=List (Nat×List α)
noncomputable def H8:GD α->Nat->List α
 | [],_=>[]
 | (k,t)::r,c=>if k=c then t else H8 r c
noncomputable def D8:GD α->Nat->α->GD α
 | [],c,x=>[(c,[x])]
 | (k,t)::r,c,x=>if k=c then(k,t++[x])::r else(k,t)::D8 r c x
noncomputable def grp:List (Nat×α)->GD α->GD α
 | [],S=>S
 | r::rs,S=>grp rs (D8 S r.1 r.2)
noncomputable def V5 (c:Nat) (rows:List (Nat×α)):List α:=(rows.filter λr=>decide (r.1=c)).map (·.2)
noncomputable def E8 (fs:GD α):List (Nat×α):=fs.flatMap λq=>q.2.map λx=>(q.1,x)
noncomputable def V6 (parse:s6->Option (Nat×α)) (ok:List α->α->Bool):List (Nat×s6)->GD α->Except Nat (GD α)
 | [],S=>.ok S
 | r::rs,S=>match parse r.2 with
  | none=>.error r.1
  | some (c,x)=>if ok (H8 S c) x=true then V6 parse ok rs (D8 S c x) else .error r.1
theorem cm3 {p:Nat×List α} {r:GD α} {c:Nat} {x:α}:D8 (p::r) c x=if p.1=c then(p.1,p.2++[x])::r else(p.1,p.2)::D8 r c x:=rfl
theorem cd5 {r:Nat×α} {rs:List (Nat×α)} {S:GD α}:grp (r::rs) S=grp rs (D8 S r.1 r.2):=rfl
theorem bh4 (c c':Nat) (x:α) (S:GD α):H8 (D8 S c x) c'=if c=c' then H8 S c'++[x] else H8 S c':=by
 induction S with
 | nil=>rfl
 | cons p r ih=>
  by_cases e:p.1=c
  ·rw[show D8 (p::r) c x=(p.1,p.2++[x])::r from if_pos e,<-e]
   by_cases q:p.1=c'
   ·exact(if_pos q).trans ((congrArg (·++[x]) (if_pos q).symm).trans (if_pos q).symm)
   ·exact(if_neg q).trans ((if_neg q).symm.trans (if_neg q).symm)
  ·rw[show D8 (p::r) c x=p::D8 r c x from if_neg e]
   by_cases q:p.1=c'
   ·exact(if_pos q).trans ((if_pos q).symm.trans (if_neg λh=>e (q.trans h.symm)).symm)
   ·exact(if_neg q).trans (ih.trans (by rw[show H8 (p::r) c'=H8 r c' from if_neg q]))
theorem V7 (c:Nat) (r:Nat×α) (rs:List (Nat×α)):V5 c (r::rs)=if r.1=c then r.2::V5 c rs else V5 c rs:=by
 unfold V5
 by_cases h:r.1=c
 ·rw[df8 (p:=λr:Nat×α=>decide (r.1=c)) (decide_eq_true h),if_pos h];rfl
 ·rw[df9 (p:=λr:Nat×α=>decide (r.1=c)) (by rw[decide_eq_false h];exact cV7),if_neg h]
theorem bh5 (c:Nat) (rows:List (Nat×α)) (S:GD α):H8 (grp rows S) c=H8 S c++V5 c rows:=by
 induction rows generalizing S with
 | nil=>exact(cW6 _).symm
 | cons r rs ih=>
  rw[cd5,ih,bh4,V7]
  by_cases h:r.1=c
  ·rw[if_pos h,if_pos h,cW2];rfl
  ·rw[if_neg h,if_neg h]
theorem bJ5 {parse:s6->Option (Nat×α)} {ok:List α->α->Bool} {rows:List (Nat×α)}:∀{rs rest:List (Nat×s6)} {S:GD α},rs.map (λr=>parse r.2)=rows.map some->
  (∀A r B,rows=A++r::B->ok (H8 S r.1++V5 r.1 A) r.2=true)->V6 parse ok (rs++rest) S=V6 parse ok rest (grp rows S):=by
 induction rows with
 | nil=>intro rs rest S h _;rw[db3.mp h];rfl
 | cons r rows ih=>
  intro rs rest S h hok
  cases rs with
  | nil=>cases h
  | cons p rs=>
   rcases List.cons.inj h with⟨h1,h2⟩
   have h1:parse p.2=some r:=h1
   have h0:=hok [] r rows rfl
   rw[show V5 r.1 ([]:List (Nat×α))=[] from rfl,cW6] at h0
   rw[da6,V6,h1]
   refine(if_pos h0).trans (ih h2 λA r' B e=>?_)
   have:=hok (r::A) r' B (congrArg _ e)
   rw[V7] at this
   rw[bh4]
   by_cases q:r.1=r'.1
   ·rw[if_pos q] at this ⊢
    rw[cW2];exact this
   ·rw[if_neg q] at this ⊢;exact this
theorem bX3 (A B:List (Nat×α)) (S:GD α):grp (A++B) S=grp B (grp A S):=by
 induction A generalizing S with
 | nil=>rfl
 | cons r A ih=>exact ih _
theorem bX4 (c:Nat) (x:α) {S:GD α} (h:c∉S.map (·.1)):D8 S c x=S++[(c,[x])]:=by
 induction S with
 | nil=>rfl
 | cons p r ih=>exact(if_neg λe:p.1=c=>h (e▸.head _)).trans (congrArg (p::·) (ih λq=>h (.tail _ q)))
theorem bJ6 (c:Nat) (x:α) (t:List α) {S:GD α} (h:c∉S.map (·.1)):D8 (S++[(c,t)]) c x=S++[(c,t++[x])]:=by
 induction S with
 | nil=>exact if_pos rfl
 | cons p r ih=>exact(if_neg λe:p.1=c=>h (e▸.head _)).trans (congrArg (p::·) (ih λq=>h (.tail _ q)))
theorem bJ7 (c:Nat) {S:GD α} (h:c∉S.map (·.1)) (t2 t1:List α):grp (t2.map λx=>(c,x)) (S++[(c,t1)])=S++[(c,t1++t2)]:=by
 induction t2 generalizing t1 with
 | nil=>rw[cW6];rfl
 | cons x t2 ih=>rw[cX3,grp,bJ6 c x t1 h,ih,cW2];rfl
theorem aR6 {fs:GD α}:∀{S:GD α},((S++fs).map (·.1)).Nodup->(∀q∈fs,q.2≠[])->grp (E8 fs) S=S++fs:=by
 induction fs with
 | nil=>exactλ{S} _ _=>(cW6 S).symm
 | cons q fs ih=>
  intro S hn h
  rcases q with⟨c,t⟩
  have hc:c∉S.map (·.1):=λq=>by
   rw[cV5,da2] at hn
   exact hn.2.2 c q c (.head _) rfl
  cases t with
  | nil=>exact absurd rfl (h _ (.head _))
  | cons x t=>
   rw[show E8 ((c,x::t)::fs)=(c,x)::(t.map (λx=>(c,x))++E8 fs) from rfl,grp,bX4 c x hc,bX3,bJ7 c hc t [x],ih (S:=S++[(c,[x]++t)]) (by rw[cW2];exact hn) λq hq=>h q (.tail _ hq),cW2];rfl
theorem bc1 {fs:GD α} (h:(fs.map (·.1)).Nodup):∀q∈fs,H8 fs q.1=q.2:=by
 induction fs with
 | nil=>exactλU h=>nomatch h
 | cons p r ih=>
  intro q hq
  rcases cY9.mp h with⟨h1,h2⟩
  rcases cW1.mp hq with rfl | hq
  ·exact if_pos rfl
  ·exact(if_neg λe:p.1=q.1=>h1 (cV6.mpr ⟨q,hq,e.symm⟩)).trans (ih h2 q hq)
theorem br2 (r:Nat×α) {S:GD α} (h:(S.map (·.1)).Nodup):((D8 S r.1 r.2).map (·.1)).Nodup/\∀k∈(D8 S r.1 r.2).map (·.1),k=r.1\/k∈S.map (·.1):=by
 induction S with
 | nil=>exact⟨.cons (λU h=>nomatch h) .nil,λk hk=>.inl (cV8.mp hk)⟩
 | cons p S ih=>
  rcases cY9.mp h with⟨h1,h2⟩
  rcases ih h2 with⟨i1,i2⟩
  by_cases e:p.1=r.1
  ·rw[show D8 (p::S) r.1 r.2=(p.1,p.2++[r.2])::S from if_pos e];exact⟨h,λk hk=>.inr hk⟩
  ·rw[show D8 (p::S) r.1 r.2=p::D8 S r.1 r.2 from if_neg e]
   refine⟨cY9.mpr ⟨λq=>(i2 _ q).elim e h1,i1⟩,λk hk=>?_⟩
   exact(cW1.mp hk).elim (λq=>.inr (q▸.head _)) λq=>(i2 k q).imp _root_.id λq=>.tail _ q
theorem br3 {rows:List (Nat×α)} {S:GD α} (h:(S.map (·.1)).Nodup):((grp rows S).map (·.1)).Nodup/\∀k∈(grp rows S).map (·.1),k∈S.map (·.1)\/k∈rows.map (·.1):=by
 induction rows generalizing S with
 | nil=>exact⟨h,λU hk=>.inl hk⟩
 | cons r rows ih=>
  have a:=br2 r h
  exact⟨(ih a.1).1,λk hk=>((ih a.1).2 k hk).elim (λq=>(a.2 k q).elim (λe=>.inr (e▸.head _)) .inl) λq=>.inr (.tail _ q)⟩
theorem aR7 {a b:GD α} (hp:a.Perm b) (ha:a.Pairwise λx y=>x.1+2<=y.1) (hb:b.Pairwise λx y=>x.1+2<=y.1):a=b:=
 hp.eq_of_pairwise (λx y U U h1 h2=>absurd h1 (by lia)) ha hb
end
end
section
section
variable {α:Type} {least most:Nat} {parse:s6->Option (Nat×α)} {ok:List α->α->Bool}
noncomputable def ak7 (least most:Nat) (parse:s6->Option (Nat×α)) (ok:List α->α->Bool) (b:B8):Except Nat (GD α):=match q7 least most b with
 | .error n=>.error n
 | .ok rows=>V6 parse ok rows []
abbrev aa6 (least most:Nat) (p:CF):Prop:=p.1.1∈L4/\aw8 least p.1.2.1 p.2
noncomputable def Y8 (least most:Nat) (f:s6):Prop:=least<=f.length/\f.length<=most
theorem bc2 {P:s6->Prop} (h:∀p∈ps,P p.2):∀x∈y9 k ps,P x.2:=λx hx=>by
 have:x.2∈(y9 k ps).map (·.2):=cW4 hx
 rw[K5] at this
 obtain⟨p,hp,e⟩:=cV6.mp this
 rw[<-e];exact h p hp
theorem bX5 {xs:List (Nat×s6)}:∀{acc rows:List (Nat×s6)},chk least most xs acc=.ok rows->rows.length=acc.length+xs.length:=by
 induction xs with
 | nil=>intro acc rows h;cases h;rfl
 | cons x xs ih=>
  intro acc rows h
  rw[cd4] at h
  split at h
  ·rw[ih h,cV4,de7,dd0 [_].length];rfl
  ·cases h
abbrev Few (least most:Nat) (b:B8) (n:Nat):Prop:=∀rows,q7 least most b=.ok rows->rows.length=n
theorem few {ps:List CF} (h:∀p∈ps,aa6 least most p):Few least most (x7 (G7 (ps.map (·.1)))) (ps.map (·.1)).length:=λrows hr=>by
 rw[V4 h] at hr
 have:=bX5 hr
 rw[this,dh5,db2,cV3]
 have:=congrArg dc7 (K5 0 ps)
 rwa [cV3,cV3] at this
theorem bh6 {ps:List CF} {rows:List (Nat×α)} (h:∀p∈ps,aa6 least most p) (hl:∀p∈ps,Y8 least most p.2) (hp:ps.map (λp=>parse p.2)=rows.map some)
  (hok:∀A r B,rows=A++r::B->ok (V5 r.1 A) r.2=true):ak7 least most parse ok (x7 (G7 (ps.map (·.1))))=.ok (grp rows []):=by
 rw[ak7,V4 h,bI8 (bc2 hl),da1]
 have:=bJ5 (parse:=parse) (ok:=ok) (rest:=[]) (S:=[]) (rs:=y9 0 ps) (rows:=rows) (by rw[<-hp,show(y9 0 ps).map (λr=>parse r.2)=((y9 0 ps).map (·.2)).map parse by rw[cW0];rfl,K5,cW0];rfl) hok
 rw[cW6] at this
 exact this
theorem aR8 (h:∀q∈as++p::bs,aa6 least most q) (ha:∀p∈as,Y8 least most p.2) (hb:∀p∈bs,Y8 least most p.2) (hp:as.map (λp=>parse p.2)=rows.map some)
  (hok:∀A r B,rows=A++r::B->ok (V5 r.1 A) r.2=true) (hbad:¬Y8 least most p.2\/parse p.2=none\/∃c x,parse p.2=some (c,x)/\∀t,ok t x=false):
  ak7 least most parse ok (x7 (G7 ((as++p::bs).map (·.1))))=.error (0+(G7 (as.map (·.1))).length+(p.1.1.length+1)):=by
 obtain⟨m,B,h1,h2,h3⟩:=bc0 0 as p bs
 rw[ak7,V4 h,h1,<-h3]
 by_cases hlen:Y8 least most p.2
 ·have hB:∀x∈B,Y8 least most x.2:=λx hx=>by
   have:x.2∈B.map (·.2):=cW4 hx
   rw[h2] at this
   obtain⟨q,hq,e⟩:=cV6.mp this
   rw[<-e];exact hb q hq
  rw[bI8 (xs:=y9 0 as++(m+(p.1.1.length+1),p.2)::B) λx hx=>?_,da1]
  ·show V6 parse ok (y9 0 as++(m+(p.1.1.length+1),p.2)::B) []=_
   rw[bJ5 (rs:=y9 0 as) (rows:=rows) (by rw[<-hp,show(y9 0 as).map (λr=>parse r.2)=((y9 0 as).map (·.2)).map parse by rw[cW0];rfl,K5,cW0];rfl) hok,V6]
   rcases hbad with q | q | ⟨c,x,q,hx⟩
   ·exact absurd hlen q
   ·show(match parse p.2 with | none=>Except.error (m+(p.1.1.length+1)) | some (c,x)=>_)=_
    rw[q]
   ·show(match parse p.2 with | none=>Except.error (m+(p.1.1.length+1)) | some (c,x)=>if ok (H8 (grp rows []) c) x=true then V6 parse ok B (D8 (grp rows []) c x) else .error (m+(p.1.1.length+1)))=_
    rw[q]
    show(if ok (H8 (grp rows []) c) x=true then V6 parse ok B (D8 (grp rows []) c x) else .error (m+(p.1.1.length+1)))=_
    rw[hx,if_neg cV7]
  ·rcases cW9.mp hx with hx | hx
   ·exact bc2 (P:=Y8 least most) ha x hx
   ·rcases cW1.mp hx with rfl | hx
    ·exact hlen
    ·exact hB x hx
 ·rw[bW7 hlen (bc2 (P:=Y8 least most) ha)]
end
theorem cA6 (h:y0 (f0::fs) must ln) (hf:∀f∈f0::fs,okf f=true) (h0:f0≠[]) (hd:f0.head?≠some 239) (hl:least<=(f0::fs).length)
  (hm:must=false->(f0::fs).getLast?≠some []\/(f0::fs).length<=least):aw8 least ln (f0::fs):=by
 obtain⟨sep,hs,e,he,rem,hr,rfl⟩:=h
 have he':e=[59]\/e=[]:=he.imp _root_.id (·.1)
 refine⟨λhx=>?_,?_,λk=>?_⟩
 ·have hsep:(10:UInt8)∉sep:=(show∀s∈aG0,(10:UInt8)∉s by decide) sep hs
  have hrem:(10:UInt8)∉rem:=(show∀s∈aO6,(10:UInt8)∉s by decide) rem hr
  rcases cW9.mp hx with hx | hx
  ·rcases cW9.mp hx with hx | hx
   ·exact W9 hsep (λf hf'=>(aa5 (hf f hf')).1.1) hx
   ·rcases he' with rfl | rfl
    ·exact absurd hx (by decide)
    ·cases hx
  ·exact hrem hx
 ·cases f0 with
  | nil=>exact absurd rfl h0
  | cons a r=>
   have:(g8 sep ((a::r)::fs)++e++rem).head?=some a:=by
    cases fs<;>rfl
   rw[this];exact hd
 ·rcases bI7 hs he' hr hf h0 k with⟨rm,hrow⟩
  refine⟨_,rm,hrow,?_⟩
  rcases he with rfl | ⟨rfl,hmust⟩
  ·rw[if_pos rfl]
   unfold w9
   rw[if_pos ⟨by rw[cV4];exact Nat.lt_succ_of_le hl,List.getLast?_concat⟩,List.dropLast_concat]
  ·rw[if_neg (λh=>nomatch h),cW6]
   unfold w9
   rw[if_neg λq=>(hm hmust).elim (λh=>h q.2) λh=>de6 _ (cX7 q.1 h)]
theorem aR9 (h1:10∉x) (h2:x.head?≠some 239) (h3:u0 (t9 x)≠[]):aw8 least x (w9 least ((i5 59 (t9 x)).map u0)):=⟨h1,h2,λU=>⟨_,_,if_neg h3,rfl⟩⟩
end
section
theorem bh7 {β:Type} (F:β->s6) {cs:List Cel}:∀{zs:List (β×B8)},cs.map (λc=>c.2.1)=zs.map (·.2)->∃ps:List CF,ps.map (·.1)=cs/\ps.map (·.2)=zs.map (λz=>F z.1)/\∀p∈ps,p.1∈cs/\∃z∈zs,p.1.2.1=z.2/\p.2=F z.1:=by
 induction cs with
 | nil=>intro zs h;cases db3.mp h.symm;exact⟨[],rfl,rfl,λU h=>nomatch h⟩
 | cons c cs ih=>
  intro zs h
  cases zs with
  | nil=>cases h
  | cons z zs=>
   rcases List.cons.inj h with⟨h1,h2⟩
   obtain⟨ps,e1,e2,e3⟩:=ih h2
   exact⟨(c,F z.1)::ps,congrArg _ e1,congrArg _ e2,cX1.mpr ⟨⟨.head _,z,.head _,h1,rfl⟩,λp hp=>⟨.tail _ (e3 p hp).1,(e3 p hp).2.imp λz h=>⟨.tail _ h.1,h.2⟩⟩⟩⟩
theorem au0 {k:Nat} {lines:List B8} {x:B8} {cs:List Cel} (h:cs.map (·.2)=B6 k lines (some x)):∃as c bs,cs=as++c::bs/\c.2=(x,true)/\(∀c∈bs,c.2.2=false)/\as.map (λc=>c.2.1)=lines.take k/\bs.map (λc=>c.2.1)=lines.drop k:=by
 unfold B6 at h
 obtain⟨u,bs,rfl,h1,h2⟩:=di5.mp h
 obtain⟨as,w,rfl,h3,h4⟩:=di5.mp h1
 obtain⟨c,w',rfl,h5,h6⟩:=List.map_eq_cons_iff.mp h4
 rw[db3] at h6
 subst h6
 have hb:bs.map (λc=>c.2.1)=(bs.map (·.2)).map (·.1):=by rw[cW0];rfl
 have ha:as.map (λc=>c.2.1)=(as.map (·.2)).map (·.1):=by rw[cW0];rfl
 refine⟨as,c,bs,by rw[cW2];rfl,h5,λd hd=>?_,?_,?_⟩
 ·have:d.2∈bs.map (·.2):=cW4 hd
  rw[h2] at this
  obtain⟨y,_,e⟩:=cV6.mp (db6 this)
  rw[<-e]
 ·rw[ha,h3,<-dn4,cW0];exact de1 _
 ·rw[hb,h2,<-dn5,cW0];exact de1 _
theorem br4 {k:Nat} {lines:List B8} {cs:List Cel} (h:cs.map (·.2)=B6 k lines none):cs.map (λc=>c.2.1)=lines/\∀c∈cs,c.2.2=false:=by
 constructor
 ·rw[show cs.map (λc=>c.2.1)=(cs.map (·.2)).map (·.1) by rw[cW0];rfl,h,B6,cW0];exact de1 _
 ·intro c hc
  have:c.2∈cs.map (·.2):=cW4 hc
  rw[h] at this
  obtain⟨y,_,e⟩:=cV6.mp this
  rw[<-e]
noncomputable def okF (t:Fol) (x:Str×List Nat):Bool:=F6 t x.1 x.2
theorem bX6 (c:Nat) (S:FD):C7 S c=H8 S c:=by
 induction S with
 | nil=>rfl
 | cons p r ih=>exact congrArg (λz=>ite _ _ z) ih
theorem bX7 (c:Nat) (x:Str×List Nat) (S:FD):aw6 S c x=D8 S c x:=by
 induction S with
 | nil=>rfl
 | cons p r ih=>exact congrArg (λz=>ite _ _ (_::z)) ih
theorem bc3 (rs:List (Nat×s6)) (S:FD):C5 rs S=V6 R0 okF rs S:=by
 induction rs generalizing S with
 | nil=>rfl
 | cons r rs ih=>
  have e1:C5 (r::rs) S=(match R0 r.2 with | none=>Except.error r.1 | some (c,s,ns)=>if F6 (C7 S c) s ns=true then C5 rs (aw6 S c (s,ns)) else .error r.1):=by kernel_rfl
  have e2:V6 R0 okF (r::rs) S=(match R0 r.2 with | none=>Except.error r.1 | some (c,x)=>if okF (H8 S c) x=true then V6 R0 okF rs (D8 S c x) else .error r.1):=by kernel_rfl
  rw[e1,e2]
  cases R0 r.2 with
  | none=>rfl
  | some q=>
   show(if F6 (C7 S q.1) q.2.1 q.2.2=true then C5 rs (aw6 S q.1 q.2) else .error r.1)=if okF (H8 S q.1) q.2=true then V6 R0 okF rs (D8 S q.1 q.2) else .error r.1
   rw[bX6,bX7,ih];rfl
theorem aS0 (b:B8):O4 b=ak7 3 3 R0 okF b:=by
 rw[O4,ak7]
 cases q7 3 3 b with
 | error n=>rfl
 | ok rows=>exact bc3 rows []
structure V8 (r:FRw):Prop where
 code:r.1∈A6
 word:r.2.1∈A5
 ns:r.2.2∈S0
 ne:r.2.2≠[]
theorem L5.rows (h:L5 n fs):∀r∈u3 fs,V8 r:=λr hr=>by
 obtain⟨q,hq,hr⟩:=dc8.mp hr
 rcases cV6.mp hr with⟨t,ht,rfl⟩
 obtain⟨⟨j,-,h1⟩,h2,h3⟩:=h.row q hq
 have g:=h3 t ht
 exact⟨cW7 h1,(W7 _ h2).2.2.2 _ (cW4 ht),bI9 g.le g.mem,λe=>by have:=g.pos;rw[e] at this;cases this⟩
theorem M4 (h:c∈A6++H1):(okf (y3 c)=true/\z7 (y3 c)=some c)/\(i9 (y3 c)=[y3 c]/\x9 (y3 c)=(c:Int))/\y3 c≠[]/\1<=c/\c<1114111:=by
 have:=cX0.mp bX0 c h
 simp only[bJ1,cY6,decide_eq_true_eq] at this
 obtain⟨⟨⟨⟨⟨a,b⟩,c⟩,d⟩,e⟩,f⟩:=this
 exact⟨⟨a,b⟩,⟨c,d⟩,e,f⟩
theorem bh8 (h:c∈A6++H1):(y3 c).head?≠some 239:=
 of_decide_eq_true (cX0.mp (show((A6++H1).all λc=>decide ((y3 c).head?≠some 239))=true by decide +kernel) c h)
theorem S4 (h:ns∈S0):okf (j7 ns)=true/\u6 (j7 ns)=some ns/\(i9 (j7 ns)).map x9=ns.map λ(n:Nat)=>(n:Int):=by
 have:=cX0.mp bW9 ns h
 simp only[bJ0,cY6,decide_eq_true_eq] at this
 exact⟨this.1.1,this.1.2,this.2⟩
theorem bh9 (h:s∈A5):okf (m4 s)=true/\(∀x∈m4 s,x.toNat<128)/\x5 (m4 s)=s/\i9 (m4 s)=[m4 s]:=by
 have:=cX0.mp bX1 s h
 simp only[bJ2,cY6,decide_eq_true_eq,cX0] at this
 exact⟨this.1.1.1,this.1.1.2,this.1.2,this.2⟩
theorem V8.okf (h:V8 r):∀f∈O8 r,Mine.okf f=true:=λf hf=>by
 simp only[O8,cW1,cY8,or_false] at hf
 rcases hf with rfl | rfl | rfl
 ·exact(M4 (cX2 _ h.code)).1.1
 ·exact(bh9 h.word).1
 ·exact(S4 h.ns).1
theorem V8.parse (h:V8 r):R0 (O8 r)=some r:=by
 rw[O8,as5,(M4 (cX2 _ h.code)).1.2,dc5,if_pos (bh9 h.word).2.1,(S4 h.ns).2.1,(bh9 h.word).2.2.1];rfl
theorem V8.line (h:V8 r) (hl:y0 (O8 r) false ln):aw8 3 ln (O8 r):=
 cA6 hl h.okf (M4 (cX2 _ h.code)).2.2.1 (bh8 (cX2 _ h.code)) (cX5 3) λU=>.inr (cX5 3)
noncomputable def okN (names:List Str) (s:Str) (one:Bool):Bool:=!(!A5.contains s || names.contains s)&&(!((([("C":Str),"S"]).contains s&&!one) || ((decide (s="C")&&!names.isEmpty) || names.contains "C")) || (decide (s="T")&&(names.contains "C"&&decide (names.length=1))))
theorem aA8 (t:Fol) (s:Str):has t s=(t.map (·.1)).contains s:=by
 unfold has G3
 rw[Option.isSome_map]
 induction t with
 | nil=>rfl
 | cons p r ih=>
  rw[di6,cX3,dc6]
  by_cases e:p.1=s
  ·rw[decide_eq_true e,e,beq_self_eq_true];rfl
  ·rw[decide_eq_false e,show(s == p.1)=false from beq_eq_false_iff_ne.mpr (Ne.symm e),Bool.false_or,<-ih]
theorem cA7 (h:ns≠[]):F6 t s ns=okN (t.map (·.1)) s (decide (ns.length=1)):=by
 unfold F6 ba5 aA1 excF okN
 rw[aA8,aA8,decide_eq_false h,Bool.or_false,cV3,List.isEmpty_map]
noncomputable def cA8 (l:List Str):Bool:=(dh4 l.length).all λi=>match l[i]? with
 | some s=>okN (l.take i) s true&&(!decide (s="F") || okN (l.take i) s false)
 | none=>true
theorem cm5:K4.all cA8=true:=by decide +kernel
theorem bJ8 (h:(t1++q::t2).map (·.1)∈K4) (hq:bH3 q):okF t1 q=true:=by
 have h1:=cX0.mp cm5 _ h
 have h2:=cX0.mp h1 t1.length (List.mem_range.mpr (by rw[cV3,cV4];exact Nat.lt_add_of_pos_right (dl3 _)))
 have e1:((t1++q::t2).map (·.1))[t1.length]?=some q.1:=by
  rw[cV5,de2 (by rw[cV3];exact cX5 _),cV3,Nat.sub_self];rfl
 have e2:((t1++q::t2).map (·.1)).take t1.length=t1.map (·.1):=by
  rw[cV5];exact List.take_left' (cV3 _)
 rw[e1] at h2
 simp only[e2,cY6,dh2,da4,decide_eq_false_iff_not] at h2
 have ne:q.2≠[]:=λe=>by have:=hq.pos;rw[e] at this;cases this
 rw[okF,cA7 ne]
 by_cases h1:q.2.length=1
 ·rw[decide_eq_true h1];exact h2.1
 ·rw[decide_eq_false h1]
  exact h2.2.resolve_left λe=>h1 (hq.one e)
end
section
theorem bJ9 (fs:FD):u3 fs=E8 fs:=rfl
theorem cm6 {α:Type} {c:Nat} {t:List α}:V5 c (t.map λx=>(c,x))=t:=by
 induction t with
 | nil=>rfl
 | cons x t ih=>rw[cX3,V7,if_pos rfl,ih]
theorem bX8 {α:Type} (c:Nat) (A B:List (Nat×α)):V5 c (A++B)=V5 c A++V5 c B:=by
 rw[V5,V5,V5,dm0,cV5]
theorem br5 {α:Type} {c k:Nat} (h:k≠c) (t:List α):V5 c (t.map λx=>(k,x))=[]:=by
 induction t with
 | nil=>rfl
 | cons x t ih=>rw[cX3,V7,if_neg h,ih]
theorem au1 {α:Type} {fs:GD α}:∀{A B:List (Nat×α)} {r:Nat×α},(fs.map (·.1)).Nodup->E8 fs=A++r::B->∃q∈fs,∃t1 t2,q.2=t1++r.2::t2/\V5 r.1 A=t1/\q.1=r.1:=by
 induction fs with
 | nil=>intro A B r _ h;cases A<;>cases h
 | cons q fs ih=>
  intro A B r hn h
  rcases q with⟨c,t⟩
  rcases cY9.mp hn with⟨h1,h2⟩
  have deep:∀{A'},A=t.map (λx=>(c,x))++A'->E8 fs=A'++r::B->∃q∈(c,t)::fs,∃t1 t2,q.2=t1++r.2::t2/\V5 r.1 A=t1/\q.1=r.1:=λe1 e=>by
   obtain⟨q,hq,t1,t2,e3,e4,e5⟩:=ih h2 e
   refine⟨q,.tail _ hq,t1,t2,e3,?_,e5⟩
   rw[e1,bX8,br5 λe=>h1 (cV6.mpr ⟨q,hq,e5.trans e.symm⟩)];exact e4
  rcases List.append_eq_append_iff.mp (show t.map (λx=>(c,x))++E8 fs=A++r::B from h) with⟨A',e1,e⟩ | ⟨C,e1,e2⟩
  ·exact deep e1 e
  ·cases C with
   | nil=>exact deep (A':=[]) (by rw[e1,cW6,cW6]) e2.symm
   | cons p C=>
    rcases List.cons.inj e2 with⟨rfl,-⟩
    obtain⟨t1,u,rfl,rfl,e4⟩:=di5.mp e1
    obtain⟨x,t2,rfl,rfl,e6⟩:=List.map_eq_cons_iff.mp e4
    exact⟨_,.head _,t1,t2,rfl,cm6,rfl⟩
theorem L5.nd {n:Nat} {fs:FD} (h:L5 n fs):(fs.map (·.1)).Nodup:=by
 rw[List.Nodup,da3];exact h.asc.imp λh e=>by rw[e] at h;exact absurd h (Nat.not_le_of_lt (df3 (db4 _)))
theorem L5.ok {n:Nat} {fs:FD} (h:L5 n fs):∀A r B,u3 fs=A++r::B->okF (V5 r.1 A) r.2=true:=λA r B e=>by
 obtain⟨q,hq,t1,t2,e3,e4,e5⟩:=au1 h.nd e
 obtain⟨-,h2,h3⟩:=h.row q hq
 rw[e4]
 rw[e3] at h2 h3
 exact bJ8 h2 (h3 _ (cW5 _ (.head _)))
theorem L5.grp {n:Nat} {fs:FD} (h:L5 n fs):Mine.grp (u3 fs) []=fs:=by
 rw[bJ9,aR6 (S:=[]) (by rw[da1];exact h.nd) λq hq e=>?_,da1]
 have:=(W7 _ (h.row q hq).2.1).2.2.1
 rw[e] at this;exact this rfl
theorem aa7 {cs:List Cel} {zs:List (FRw×B8)} (hc:∀c∈cs,c.1∈L4) (e:cs.map (λc=>c.2.1)=zs.map (·.2)) (hg:∀z∈zs,V8 z.1) (hz:∀z∈zs,y0 (O8 z.1) false z.2):
  ∃ps:List CF,ps.map (·.1)=cs/\(∀p∈ps,aa6 3 3 p)/\(∀p∈ps,Y8 3 3 p.2)/\ps.map (λp=>R0 p.2)=(zs.map (·.1)).map some:=by
 obtain⟨ps,e1,e2,e3⟩:=bh7 O8 e
 refine⟨ps,e1,λp hp=>?_,λp hp=>?_,?_⟩
 ·obtain⟨hm,z,hzm,q1,q2⟩:=e3 p hp
  refine⟨hc _ hm,?_⟩
  rw[q1,q2];exact(hg z hzm).line (hz z hzm)
 ·obtain⟨hm,z,hzm,q1,q2⟩:=e3 p hp
  rw[q2];exact⟨cX5 3,cX5 3⟩
 ·rw[show ps.map (λp=>R0 p.2)=(ps.map (·.2)).map R0 by rw[cW0];rfl,e2,cW0,cW0]
  exact cZ1 λz hzm=>(hg z hzm).parse
theorem aA9 {n:Nat} {fs:FD} {cs:List Cel} {zs:List (FRw×B8)} (h:L5 n fs) (hc:∀c∈cs,c.1∈L4) (e:cs.map (λc=>c.2.1)=zs.map (·.2)) (hz1:zs.map (·.1)=u3 fs) (hz:∀z∈zs,y0 (O8 z.1) false z.2):
  O4 (x7 (G7 cs))=.ok fs/\Few 3 3 (x7 (G7 cs)) cs.length:=by
 obtain⟨ps,rfl,h1,h2,h3⟩:=aa7 hc e (λz hzm=>h.rows _ (hz1▸cW4 (f:=(·.1)) hzm)) hz
 exact⟨by rw[aS0,bh6 (rows:=u3 fs) h1 h2 (by rw[h3,hz1]) h.ok,h.grp],few h1⟩
noncomputable def aS1 (x:B8):Bool:=let f:=w9 3 ((i5 59 (t9 x)).map u0)
 !x.contains 10&&decide (x.head?≠some 239)&&decide (u0 (t9 x)≠[])&&(!decide (3<=f.length/\f.length<=3) || match R0 f with | none=>true | some (_,s,_)=>!A5.contains s)
theorem br6:bq7.all aS1=true:=by decide +kernel
theorem bK0 {n k:Nat} {fs:FD} {cs:List Cel} {zs:List (FRw×B8)} {x:B8} (h:L5 n fs) (hc:∀c∈cs,c.1∈L4) (e:cs.map (·.2)=B6 k (zs.map (·.2)) (some x)) (hz1:zs.map (·.1)=u3 fs) (hz:∀z∈zs,y0 (O8 z.1) false z.2) (hx:x∈bq7):
  ∃m:Nat,O4 (x7 (G7 cs))=.error m/\as8 .none 0 cs=.int (m:Nat)/\Few 3 3 (x7 (G7 cs)) cs.length:=by
 obtain⟨as,c,bs,rfl,e1,hb,e2,e3⟩:=au0 e
 rw[<-dn4] at e2
 rw[<-dn5] at e3
 have hg:∀z∈zs,V8 z.1:=λz hzm=>h.rows _ (hz1▸cW4 (f:=(·.1)) hzm)
 obtain⟨pa,rfl,a1,a2,a3⟩:=aa7 (λc hm=>hc c (cX2 _ hm)) e2 (λz hzm=>hg z (db5 hzm)) λz hzm=>hz z (db5 hzm)
 obtain⟨pb,rfl,b1,b2,-⟩:=aa7 (λc hm=>hc c (cW5 _ (.tail _ hm))) e3 (λz hzm=>hg z (db6 hzm)) λz hzm=>hz z (db6 hzm)
 have go:=cX0.mp br6 x hx
 simp only[aS1,cY6,decide_eq_true_eq,da4] at go
 obtain⟨⟨⟨g1,g2⟩,g3⟩,g4⟩:=go
 have rl:=aR9 (least:=3) (λhm=>by rw[dc0.mpr hm] at g1;cases g1) g2 g3
 generalize w9 3 ((i5 59 (t9 x)).map u0)=f at g4 rl
 have hcell:∀q∈pa++(c,f)::pb,aa6 3 3 q:=λq hq=>by
  rcases cW9.mp hq with hq | hq
  ·exact a1 q hq
  ·rcases cW1.mp hq with rfl | hq
   ·refine⟨hc c (cW5 _ (.head _)),?_⟩
    show aw8 3 c.2.1 f
    rw[e1];exact rl
   ·exact b1 q hq
 have hfew:=few hcell
 rw[cV5,cX3] at hfew
 have:=aR8 (least:=3) (most:=3) (parse:=R0) (ok:=okF) (as:=pa) (bs:=pb) (p:=(c,f)) (rows:=(zs.take k).map (·.1)) hcell a2 b2 a3 (λA r B e=>?_) ?_
 ·refine⟨0+(G7 (pa.map (·.1))).length+(c.1.length+1),?_,aR5 .none 0 _ c _ hb (by rw[e1]),hfew⟩
  rw[aS0]
  rw[cV5,cX3] at this
  exact this
 ·refine h.ok A r (B++(zs.drop k).map (·.1)) ?_
  rw[show u3 fs=(zs.take k).map (·.1)++(zs.drop k).map (·.1) by rw[<-hz1,<-cV5,dj3],e,cW2];rfl
 ·rw[dh2] at g4
  rcases g4 with g4 | g4
  ·left
   have g4:=(da4 _).mp g4
   exact show¬(3<=f.length/\f.length<=3) from of_decide_eq_false g4
  ·right
   show R0 f=none\/_
   cases hr:R0 f with
   | none=>exact .inl rfl
   | some p=>
    obtain⟨c',s,ns⟩:=p
    rw[hr] at g4
    refine .inr ⟨c',(s,ns),rfl,λt=>?_⟩
    have g5:(!A5.contains s)=true:=g4
    show F6 t s ns=false
    unfold F6 ba5
    rw[g5];rfl
end
section
noncomputable def lnF (r:FRw):B8:=g8 [59,32] (O8 r)++[59]
theorem cm7 (c:Nat) (s:Str) (ns:List Nat):O1 c s ns=lnF (c,s,ns)++[10]:=by
 rw[O1,lnF,cW2];rfl
noncomputable def aS2 {β:Type} (names:List Str) (s:Str) (xs:List β):Option β:=match names,xs with
 | [a],[x]=>if a=s then some x else none
 | [a,b],[x,y]=>if a=s then some x else if b=s then some y else none
 | _,_=>none
theorem bc4 (a:Str) (x:List Nat) (s:Str) (r:Fol):G3 ((a,x)::r) s=if a=s then some x else G3 r s:=by
 unfold G3
 by_cases e:a=s
 ·rw[if_pos e,List.find?_cons_of_pos (by simpa using e)];rfl
 ·rw[if_neg e,List.find?_cons_of_neg (by simpa using e)]
theorem br7 (h:t.map (·.1)∈K4) (s:Str):G3 t s=aS2 (t.map (·.1)) s (t.map (·.2)):=by
 have ok:=(W7 _ h).1
 rcases t with _ | ⟨⟨a,x⟩,_ | ⟨⟨b,y⟩,_ | ⟨d,r⟩⟩⟩
 ·exact absurd (show false=true from ok) cV7
 ·exact bc4 a x s []
 ·exact(bc4 a x s [(b,y)]).trans (congrArg (ite _ _) (bc4 b y s []))
 ·exact absurd (show false=true from ok) cV7
noncomputable def cA9 (l:List Str):Bool:=decide ((A5.filterMap λs=>(aS2 l s (dh4 l.length)).map λi=>(s,i))=l.zip (dh4 l.length))
theorem cm8:K4.all cA9=true:=by decide +kernel
theorem aH3 [Decidable p] {α β:Type} (g:α->β) (x y:Option α):(if p then x else y).map g=if p then x.map g else y.map g:=by
 by_cases h:p
 ·rw[if_pos h,if_pos h]
 ·rw[if_neg h,if_neg h]
theorem bK2 {β γ:Type} (g:β->γ) (names:List Str) (s:Str) (xs:List β):aS2 names s (xs.map g)=(aS2 names s xs).map g:=by
 rcases names with _ | ⟨a,_ | ⟨b,_ | ⟨c,r⟩⟩⟩
 ·rfl
 ·rcases xs with _ | ⟨x,_ | ⟨y,r⟩⟩
  ·rfl
  ·exact(aH3 (p:=a=s) g (some x) none).symm
  ·rfl
 ·rcases xs with _ | ⟨x,_ | ⟨y,_ | ⟨z,r⟩⟩⟩
  ·rfl
  ·rfl
  ·exact((aH3 (p:=a=s) g (some x) (if b=s then some y else none)).trans (congrArg (ite (a=s) (some (g x))) (aH3 (p:=b=s) g (some y) none))).symm
  ·rfl
 ·rfl
theorem br8 (h:q.2.map (·.1)∈K4):E6 q=q.2.map λt=>lnF (q.1,t)++[10]:=by
 rcases q with⟨c,t⟩
 have o:=of_decide_eq_true (cX0.mp cm8 _ h)
 have h2:t.map (·.2)=(dh4 (t.map (·.1)).length).map λi=>((t.map (·.2))[i]?).getD []:=by
  apply List.ext_getElem?
  intro i
  rw[cX9,cX9]
  by_cases hi:i<t.length
  ·rw[List.getElem?_range (by rw[cV3];exact hi),cW8 hi]
   show _=some (((t.map (·.2))[i]?).getD [])
   rw[cX9,cW8 hi];rfl
  ·rw[df2 (by lia),df2 (by rw[dd2,cV3];lia)];rfl
 have e1:E6 (c,t)=(A5.filterMap λs=>(aS2 (t.map (·.1)) s (dh4 (t.map (·.1)).length)).map λi=>(s,i)).map λp=>O1 c p.1 (((t.map (·.2))[p.2]?).getD []):=by
  unfold E6
  rw[List.map_filterMap]
  congr 1
  funext s
  show(G3 t s).map (O1 c s)=_
  rw[br7 h,h2,bK2,Option.map_map,Option.map_map,<-h2];rfl
 rw[e1,o]
 apply List.ext_getElem?
 intro i
 rw[cX9,cX9]
 by_cases hi:i<t.length
 ·rw[cW8 (l:=t) hi,cW8 (by rw[List.length_zip,dd2,cV3,Nat.min_self];exact hi),List.getElem_zip,List.getElem_range,List.getElem_map]
  show some (O1 c t[i].1 (((t.map (·.2))[i]?).getD []))=some _
  rw[cX9,cW8 hi,cm7];rfl
 ·rw[df2 (by rw[List.length_zip,dd2,cV3,Nat.min_self];exact de3 hi),df2 (l:=t) (de3 hi)];rfl
theorem au2 (h:L5 n fs):R8 fs=x7 ((u3 fs).map lnF):=by
 rw[R8,aA4,x7,cW0]
 congr 1
 have:∀gs:FD,(∀q∈gs,q.2.map (·.1)∈K4)->gs.flatMap E6=(u3 gs).map ((·++[10])∘lnF):=λgs hg=>by
  induction gs with
  | nil=>rfl
  | cons q r ih=>
   rw[dj1,br8 (hg q (.head _)),ih λx hx=>hg x (.tail _ hx),show u3 (q::r)=q.2.map (λt=>(q.1,t))++u3 r from rfl,cV5,cW0];rfl
 exact this fs λq hq=>(h.row q hq).2.1
theorem aB0 {β:Type} (g:β->B8) (rs:List β):G7 (rs.map λr=>(([]:List B8),g r,false))=rs.map g:=by
 induction rs with
 | nil=>rfl
 | cons r rs ih=>exact congrArg (g r::·) ih
theorem br9 (h:L5 n fs):O4 (R8 fs)=.ok fs/\Few 3 3 (R8 fs) (u3 fs).length:=by
 have:=aA9 (cs:=(u3 fs).map λr=>([],lnF r,false)) (zs:=(u3 fs).map λr=>(r,lnF r)) h (λc hc=>?_) ?_ ?_ (λz hz=>?_)
 ·rw[au2 h]
  rw[aB0 lnF,cV3] at this
  exact this
 ·obtain⟨r,_,rfl⟩:=cV6.mp hc;exact .head _
 ·rw[cW0,cW0];rfl
 ·rw[cW0];exact de1 _
 ·rcases cV6.mp hz with⟨r,_,rfl⟩
  exact⟨[59,32],.head _,[59],.inl rfl,[],.head _,by rw[cW6];rfl⟩
end
section
theorem aS3 (f:B8):i9 (32::f)=i9 f:=by
 unfold i9
 rw[show i5 32 (32::f)=[]::i5 32 f from O9 (a:=[]) f (λh=>nomatch h)];rfl
theorem aB1 {p:B8} (hp:p=[]\/p=[32]) (f:B8):i9 (p++f)=i9 f:=by
 rcases hp with rfl | rfl
 ·rfl
 ·exact aS3 f
theorem bs0 {fs:List B8}:∀{p:B8},fs≠[]->(p=[]\/p=[32])->(∀f∈fs,okf f=true)->(i5 59 (p++(g8 [59,32] fs++[59]))).map i9=fs.map i9++[[]]:=by
 induction fs with
 | nil=>exactλh=>absurd rfl h
 | cons f r ih=>
  intro p _ hp h
  have h:=cX1.mp h
  obtain⟨⟨-,-,n⟩,-⟩:=aa5 h.1
  have np:(59:UInt8)∉p++f:=λhm=>(cW9.mp hm).elim (by rcases hp with rfl | rfl<;>decide) n
  cases r with
  | nil=>rw[am9,<-cW2,O9 _ np,cX3,aB1 hp];rfl
  | cons g r=>
   have e:p++(g8 [59,32] (f::g::r)++[59])=(p++f)++59::([32]++(g8 [59,32] (g::r)++[59])):=by
    rw[ac2];simp only[cW2,da6,da1]
   rw[e,O9 _ np,cX3,ih nofun (.inr rfl) h.2,aB1 hp];rfl
theorem aB2 {fs:List B8} (h0:fs≠[]) (h:∀f∈fs,okf f=true):x0 (g8 [59,32] fs++[59])=fs.map i9++[[]]:=by
 have n35:(35:UInt8)∉g8 [59,32] fs++[59]:=λhm=>(cW9.mp hm).elim (W9 (by decide) λf hf=>(aa5 (h f hf)).1.2.1) (by decide)
 unfold x0
 rw[aa4 n35]
 exact bs0 (p:=[]) h0 (.inl rfl) h
theorem aS4 {isf:Bool} {β:Type} {ln:β->B8} {pic:β->V}:∀{rs:List β},(∀r∈rs,10∉ln r/\C6 isf (x0 (ln r))=some (some (pic r)))->
  W4 isf (x7 (rs.map ln))=rs.map pic/\∀l∈i5 10 (x7 (rs.map ln)),(C6 isf (x0 l)).isSome=true:=λ{rs} h=>by
 have hs:i5 10 (x7 (rs.map ln))=rs.map ln++[[]]:=ak6 λl hl=>by obtain⟨r,hr,rfl⟩:=cV6.mp hl;exact(h r hr).1
 have e0:C6 isf (x0 [])=some none:=rfl
 constructor
 ·rw[W4,hs,cZ4,List.filterMap_map]
  rw[show[([]:B8)].filterMap (λl=>(C6 isf (x0 l)).join)=[] by rw[cZ7,e0];rfl,cW6]
  clear hs
  induction rs with
  | nil=>rfl
  | cons r rs ih=>
   rw[dh6 (b:=pic r) (by show(C6 isf (x0 (ln r))).join=some (pic r);rw[(h r (.head _)).2];rfl),ih λx hx=>h x (.tail _ hx)];rfl
 ·intro l hl
  rw[hs] at hl
  rcases cW9.mp hl with hl | hl
  ·rcases cV6.mp hl with⟨r,hr,rfl⟩
   rw[(h r hr).2];rfl
  ·rw[cV8.mp hl,e0];rfl
theorem cd7 (h:∀f∈fs,okf f=true):(10:UInt8)∉g8 [59,32] fs++[59]:=λhm=>
 (cW9.mp hm).elim (W9 (by decide) λf hf=>(aa5 (h f hf)).1.1) (by decide)
theorem R1 (h:ns∈S0):F0 (i9 (j7 ns))=D9 ns:=by
 rw[F0,D9]
 have:=congrArg (do4 V.int) (S4 h).2.2
 rw[cW0,cW0] at this
 exact congrArg V.tup this
theorem aS5 {n:Nat} {fs:FD} (h:L5 n fs):W4 true (R8 fs)=(u3 fs).map fRw/\∀l∈i5 10 (R8 fs),(C6 true (x0 l)).isSome=true:=by
 rw[au2 h]
 refine aS4 λr hr=>?_
 have g:=h.rows r hr
 refine⟨cd7 g.okf,?_⟩
 rw[lnF,aB2 (fs:=O8 r) (λh=>nomatch h) g.okf]
 obtain⟨-,⟨w1,w2⟩,-⟩:=M4 (cX2 H1 g.code)
 obtain⟨-,-,s3,s4⟩:=bh9 g.word
 show C6 true ([i9 (y3 r.1),i9 (m4 r.2.1),i9 (j7 r.2.2)]++[[]])=_
 rw[w1,s4]
 show some (some (V.tup [.int (x9 (y3 r.1)),.str (x5 (m4 r.2.1)),F0 (i9 (j7 r.2.2))]))=_
 rw[w2,s3,R1 g.ns];rfl
end
section
noncomputable def okC (t:List CR) (x:CR):Bool:=!aw7 t x.2.2.2
theorem bi1 (c:Nat) (S:CD):C9 S c=H8 S c:=by
 induction S with
 | nil=>rfl
 | cons p r ih=>exact congrArg (λz=>ite _ _ z) ih
theorem bX9 (c:Nat) (x:CR) (S:CD):O5 S c x=D8 S c x:=by
 induction S with
 | nil=>rfl
 | cons p r ih=>exact congrArg (λz=>ite _ _ (_::z)) ih
theorem bc5 (rs:List (Nat×s6)) (S:CD):u8 rs S=V6 M7 okC rs S:=by
 induction rs generalizing S with
 | nil=>rfl
 | cons r rs ih=>
  have e1:u8 (r::rs) S=(match M7 r.2 with | none=>Except.error r.1 | some (c,x)=>if aw7 (C9 S c) x.2.2.2=true then .error r.1 else u8 rs (O5 S c x)):=by kernel_rfl
  have e2:V6 M7 okC (r::rs) S=(match M7 r.2 with | none=>Except.error r.1 | some (c,x)=>if okC (H8 S c) x=true then V6 M7 okC rs (D8 S c x) else .error r.1):=by kernel_rfl
  rw[e1,e2]
  cases M7 r.2 with
  | none=>rfl
  | some q=>
   show(if aw7 (C9 S q.1) q.2.2.2.2=true then .error r.1 else u8 rs (O5 S q.1 q.2))=if okC (H8 S q.1) q.2=true then V6 M7 okC rs (D8 S q.1 q.2) else .error r.1
   rw[bi1,bX9,ih,okC]
   cases aw7 (H8 S q.1) q.2.2.2.2<;>rfl
theorem aS6 (b:B8):O6 b=ak7 4 5 M7 okC b:=by
 rw[O6,ak7]
 cases q7 4 5 b with
 | error n=>rfl
 | ok rows=>exact bc5 rows []
structure G6 (r:S9):Prop where
 code:r.1∈H1
 ws:r.2.2.2.2∈G4
 n1:r.2.1∈S0
 n2:r.2.2.1∈S0
 n3:r.2.2.2.1∈S0
 ok:ba2 r.2
theorem bK3:∀x∈E1,x<=1114111:=by decide
theorem X5.rows {rs:List S9} (h:X5 rs):∀r∈rs,G6 r:=λr hr=>by
 obtain⟨h1,h2,h3⟩:=h.row r hr
 have g:=λf hf=>h3 f hf
 have m:=λf hf=>bI9 (cZ6 (g f hf).1) (g f hf).2
 exact⟨h1,h2,m kSl (.head _),m kSt (.tail _ (.head _)),m kSu (.tail _ (.tail _ (.head _))),λf hf=>⟨λx hx=>bK3 x ((g f hf).2 x hx),cV2 (g f hf).1 (by decide)⟩,h2⟩
theorem bi2 {ws:List Str} (h:ws∈G4):okf (whB ws)=true/\Z8 (whB ws)=some ws/\(i9 (whB ws)).map x5=ws/\(ws=[]\/whB ws≠[]):=by
 have:=cX0.mp bX2 ws h
 simp only[bJ4,cY6,dh2,decide_eq_true_eq] at this
 exact⟨this.1.1.1,this.1.1.2,this.1.2,this.2⟩
theorem y6 (r:S9):(r.2.2.2.2=[]/\y8 r=[y3 r.1,j7 r.2.1,j7 r.2.2.1,j7 r.2.2.2.1])\/(r.2.2.2.2≠[]/\y8 r=[y3 r.1,j7 r.2.1,j7 r.2.2.1,j7 r.2.2.2.1,whB r.2.2.2.2]):=by
 by_cases h:r.2.2.2.2=[]
 ·left;rw[y8,if_pos h];exact⟨h,rfl⟩
 ·right;rw[y8,if_neg h];exact⟨h,rfl⟩
theorem G6.okf {r:S9} (h:G6 r):∀f∈y8 r,Mine.okf f=true:=λf hf=>by
 have c1:=(M4 (cW5 A6 h.code)).1.1
 rcases y6 r with⟨_,e⟩ | ⟨_,e⟩<;>rw[e] at hf<;>simp only[cW1,cY8,or_false] at hf
 ·rcases hf with rfl | rfl | rfl | rfl
  ·exact c1
  ·exact(S4 h.n1).1
  ·exact(S4 h.n2).1
  ·exact(S4 h.n3).1
 ·rcases hf with rfl | rfl | rfl | rfl | rfl
  ·exact c1
  ·exact(S4 h.n1).1
  ·exact(S4 h.n2).1
  ·exact(S4 h.n3).1
  ·exact(bi2 h.ws).1
theorem G6.len {r:S9}:4<=(y8 r).length/\(y8 r).length<=5:=by
 rcases y6 r with⟨_,e⟩ | ⟨_,e⟩<;>rw[e]<;>exact⟨by simp,by simp⟩
theorem G6.parse {r:S9} (h:G6 r):M7 (y8 r)=some r:=by
 have c1:=(M4 (cW5 A6 h.code)).1.2
 have a:=aQ4 (fl:=y8 r) (c:=r.1) (ws:=r.2.2.2.2) (nsf:=λj=>prt j r.2)
  (by rcases y6 r with⟨_,e⟩ | ⟨_,e⟩<;>rw[e]<;>exact c1)
  (by
   rcases y6 r with⟨e0,e⟩ | ⟨_,e⟩<;>rw[e]
   ·rw[e0];rfl
   ·exact(bi2 h.ws).2.1)
  (λj hj=>by
   rcases aa2 hj with rfl | rfl | rfl
   ·rcases y6 r with⟨_,e⟩ | ⟨_,e⟩<;>rw[e]<;>exact(S4 h.n1).2.1
   ·rcases y6 r with⟨_,e⟩ | ⟨_,e⟩<;>rw[e]<;>exact(S4 h.n2).2.1
   ·rcases y6 r with⟨_,e⟩ | ⟨_,e⟩<;>rw[e]<;>exact(S4 h.n3).2.1)
 exact a
theorem G6.line {r:S9} (h:G6 r) {ln:B8} (hl:y0 (y8 r) (R9 r) ln):aw8 4 ln (y8 r):=by
 have c1:=M4 (cW5 A6 h.code)
 refine cA6 (f0:=y3 r.1) hl h.okf c1.2.2.1 (bh8 (cW5 _ h.code)) G6.len.1 λhm=>?_
 rcases y6 r with⟨_,e⟩ | ⟨e0,e⟩
 ·right;show(y8 r).length<=4;rw[e];exact cX5 4
 ·left
  show(y8 r).getLast?≠some []
  rw[e]
  intro q
  exact(bi2 h.ws).2.2.2.elim e0 λh=>h (Option.some.inj q)
theorem bK4 {t:List CR} {x:CR} (h:∀y∈t,y.2.2.2≠x.2.2.2):okC t x=true:=by
 unfold okC aw7
 rw[da4,dm7]
 intro y hy
 rw[decide_eq_false (h y hy)];exact cV7
theorem X5.okc {rs:List S9} (h:X5 rs):∀A r B,rs=A++r::B->okC (V5 r.1 A) r.2=true:=λA r B e=>by
 refine bK4 λy hy q=>?_
 rcases cV6.mp hy with⟨z,hz,rfl⟩
 rcases df1.mp hz with⟨hz1,hz2⟩
 have nd:=h.nd
 rw[e,df6] at nd
 exact nd.2.2 z hz1 r (.head _) ⟨of_decide_eq_true hz2,q⟩
theorem aa8 {cs:List Cel} {zs:List (S9×B8)} (hc:∀c∈cs,c.1∈L4) (e:cs.map (λc=>c.2.1)=zs.map (·.2)) (hg:∀z∈zs,G6 z.1) (hz:∀z∈zs,y0 (y8 z.1) (R9 z.1) z.2):
  ∃ps:List CF,ps.map (·.1)=cs/\(∀p∈ps,aa6 4 5 p)/\(∀p∈ps,Y8 4 5 p.2)/\ps.map (λp=>M7 p.2)=(zs.map (·.1)).map some:=by
 obtain⟨ps,e1,e2,e3⟩:=bh7 y8 e
 refine⟨ps,e1,λp hp=>?_,λp hp=>?_,?_⟩
 ·obtain⟨hm,z,hzm,q1,q2⟩:=e3 p hp
  refine⟨hc _ hm,?_⟩
  rw[q1,q2];exact(hg z hzm).line (hz z hzm)
 ·obtain⟨hm,z,hzm,q1,q2⟩:=e3 p hp
  rw[q2];exact G6.len
 ·rw[show ps.map (λp=>M7 p.2)=(ps.map (·.2)).map M7 by rw[cW0];rfl,e2,cW0,cW0]
  exact cZ1 λz hzm=>(hg z hzm).parse
theorem aB3 {rs:List S9} {cs:List Cel} {zs:List (S9×B8)} (hg:∀r∈rs,G6 r) (hok:∀A r B,rs=A++r::B->okC (V5 r.1 A) r.2=true) (hc:∀c∈cs,c.1∈L4) (e:cs.map (λc=>c.2.1)=zs.map (·.2)) (hz1:zs.map (·.1)=rs) (hz:∀z∈zs,y0 (y8 z.1) (R9 z.1) z.2):
  O6 (x7 (G7 cs))=.ok (grp rs [])/\Few 4 5 (x7 (G7 cs)) cs.length:=by
 obtain⟨ps,rfl,h1,h2,h3⟩:=aa8 hc e (λz hzm=>hg _ (hz1▸cW4 (f:=(·.1)) hzm)) hz
 exact⟨by rw[aS6,bh6 (rows:=rs) h1 h2 (by rw[h3,hz1]) hok],few h1⟩
noncomputable def aS7 (x:B8):Bool:=let f:=w9 4 ((i5 59 (t9 x)).map u0)
 !x.contains 10&&decide (x.head?≠some 239)&&decide (u0 (t9 x)≠[])&&(!decide (4<=f.length/\f.length<=5) || (M7 f).isNone)
theorem bs1:bq8.all aS7=true:=by decide +kernel
theorem bK5 {k:Nat} {rs:List S9} {cs:List Cel} {zs:List (S9×B8)} {x:B8} (h:X5 rs) (hc:∀c∈cs,c.1∈L4) (e:cs.map (·.2)=B6 k (zs.map (·.2)) (some x)) (hz1:zs.map (·.1)=rs) (hz:∀z∈zs,y0 (y8 z.1) (R9 z.1) z.2) (hx:x∈bq8):
  ∃m:Nat,O6 (x7 (G7 cs))=.error m/\as8 .none 0 cs=.int (m:Nat)/\Few 4 5 (x7 (G7 cs)) cs.length:=by
 obtain⟨as,c,bs,rfl,e1,hb,e2,e3⟩:=au0 e
 rw[<-dn4] at e2
 rw[<-dn5] at e3
 have hg:∀z∈zs,G6 z.1:=λz hzm=>h.rows _ (hz1▸cW4 (f:=(·.1)) hzm)
 obtain⟨pa,rfl,a1,a2,a3⟩:=aa8 (λc hm=>hc c (cX2 _ hm)) e2 (λz hzm=>hg z (db5 hzm)) λz hzm=>hz z (db5 hzm)
 obtain⟨pb,rfl,b1,b2,-⟩:=aa8 (λc hm=>hc c (cW5 _ (.tail _ hm))) e3 (λz hzm=>hg z (db6 hzm)) λz hzm=>hz z (db6 hzm)
 have go:=cX0.mp bs1 x hx
 simp only[aS7,cY6,decide_eq_true_eq,da4] at go
 obtain⟨⟨⟨g1,g2⟩,g3⟩,g4⟩:=go
 have rl:=aR9 (least:=4) (λhm=>by rw[dc0.mpr hm] at g1;cases g1) g2 g3
 generalize w9 4 ((i5 59 (t9 x)).map u0)=f at g4 rl
 have hcell:∀q∈pa++(c,f)::pb,aa6 4 5 q:=λq hq=>by
  rcases cW9.mp hq with hq | hq
  ·exact a1 q hq
  ·rcases cW1.mp hq with rfl | hq
   ·refine⟨hc c (cW5 _ (.head _)),?_⟩
    show aw8 4 c.2.1 f
    rw[e1];exact rl
   ·exact b1 q hq
 have hfew:=few hcell
 rw[cV5,cX3] at hfew
 have:=aR8 (least:=4) (most:=5) (parse:=M7) (ok:=okC) (as:=pa) (bs:=pb) (p:=(c,f)) (rows:=(zs.take k).map (·.1)) hcell a2 b2 a3 (λA r B e=>?_) ?_
 ·refine⟨0+(G7 (pa.map (·.1))).length+(c.1.length+1),?_,aR5 .none 0 _ c _ hb (by rw[e1]),hfew⟩
  rw[aS6]
  rw[cV5,cX3] at this
  exact this
 ·refine h.okc A r (B++(zs.drop k).map (·.1)) ?_
  rw[show rs=(zs.take k).map (·.1)++(zs.drop k).map (·.1) by rw[<-hz1,<-cV5,dj3],e,cW2];rfl
 ·rw[dh2] at g4
  rcases g4 with g4 | g4
  ·left
   have g4:=(da4 _).mp g4
   exact show¬(4<=f.length/\f.length<=5) from of_decide_eq_false g4
  ·right;left
   exact di1.mp g4
end
section
section
variable {α:Type}
theorem au3 {c:Nat} {S:GD α} (h:c∉S.map (·.1)):H8 S c=[]:=by
 induction S with
 | nil=>rfl
 | cons p r ih=>exact(if_neg λe:p.1=c=>h (e▸.head _)).trans (ih λq=>h (.tail _ q))
theorem bK6 {a b:GD α} (hp:a.Perm b) (hn:(a.map (·.1)).Nodup) (c:Nat):H8 a c=H8 b c:=by
 have hb:(b.map (·.1)).Nodup:=(hp.map _).nodup_iff.mp hn
 by_cases h:c∈a.map (·.1)
 ·rcases cV6.mp h with⟨q,hq,rfl⟩
  rw[bc1 hn q hq,bc1 hb q (hp.mem_iff.mp hq)]
 ·rw[au3 h,au3 λq=>h ((hp.map _).mem_iff.mpr q)]
theorem bK7 (c:Nat) (x:α) (S:GD α):(E8 (D8 S c x)).length=(E8 S).length+1:=by
 induction S with
 | nil=>rfl
 | cons p r ih=>
  have e:∀(u:Nat×List α) (R:GD α),(E8 (u::R)).length=u.2.length+(E8 R).length:=λu R=>by
   rw[show E8 (u::R)=u.2.map (λx=>(u.1,x))++E8 R from rfl,cV4,cV3]
  by_cases q:p.1=c
  ·rw[show D8 (p::r) c x=(p.1,p.2++[x])::r from if_pos q,e,e,cV4,dk9];rfl
  ·rw[show D8 (p::r) c x=p::D8 r c x from if_neg q,e,e,ih];rfl
theorem bK8 (rows:List (Nat×α)) (S:GD α):(E8 (grp rows S)).length=(E8 S).length+rows.length:=by
 induction rows generalizing S with
 | nil=>rfl
 | cons r rows ih=>rw[cd5,ih,bK7,dk9];rfl
theorem bY0 (c:Nat) (x:α) (S:GD α):(D8 S c x).length<=S.length+1:=by
 induction S with
 | nil=>exact cX5 _
 | cons p r ih=>
  rw[cm3];split
  ·exact db7 _
  ·exact cW3 ih
theorem bY1 (rows:List (Nat×α)) (S:GD α):(grp rows S).length<=S.length+rows.length:=by
 induction rows generalizing S with
 | nil=>exact cX5 _
 | cons r rows ih=>exact cV2 (ih _) (cV2 (cY7 (bY0 r.1 r.2 S) _) (de8 (dk9 ..)))
theorem X0 (h:x∈V5 c rows):(c,x)∈rows:=by
 rcases cV6.mp h with⟨r,hr,rfl⟩
 rcases df1.mp hr with⟨h1,h2⟩
 rw[<-show r.1=c from of_decide_eq_true h2];exact h1
theorem bY2 (h:r∈rows):r.2∈V5 r.1 rows:=cW4 (f:=(·.2)) (df1.mpr ⟨h,decide_eq_true rfl⟩)
end
structure z8 (rs:List S9) (cd:CD):Prop where
 nd:(cd.map (·.1)).Nodup
 get:∀c,H8 cd c=V5 c rs
 own:∀q∈cd,q.2=V5 q.1 rs/\q.2≠[]/\q.1∈H1
 len:cd.length<=rs.length
 all:(E8 cd).length=rs.length
theorem bK9 (h:X5 rs):z8 rs (grp rs []):=by
 rcases br3 (rows:=rs) (S:=[]) .nil with⟨h1,h2⟩
 have h3:=λc=>bh5 c rs []
 refine⟨h1,h3,λq hq=>?_,by have:=bY1 rs [];rwa [dh5,db2] at this,by rw[bK8];exact db2 _⟩
 have e:q.2=V5 q.1 rs:=(bc1 h1 q hq).symm.trans (h3 q.1)
 obtain⟨r,hr,e2⟩:=cV6.mp ((h2 q.1 (cW4 hq)).resolve_left λh=>nomatch h)
 refine⟨e,λq0=>?_,e2▸(h.rows r hr).code⟩
 have:=bY2 hr
 rw[e2,<-e,q0] at this;cases this
theorem z8.perm {rs:List S9} {cs cd:CD} (h:z8 rs cs) (hp:cd.Perm cs):z8 rs cd:=by
 have hn:=(hp.map (·.1)).nodup_iff.mpr h.nd
 exact⟨hn,λc=>(bK6 hp hn c).trans (h.get c),λq hq=>h.own q (hp.mem_iff.mp hq),by rw[hp.length_eq];exact h.len,by rw[<-h.all];exact(hp.flatMap_right _).length_eq⟩
theorem bs2:∀a∈H1,∀b∈H1,a<b->a+2<=b:=by decide
theorem z8.cdok (h:z8 rs cd) (hg:∀r∈rs,G6 r) (hl:rs.length<=50) (ha:cd.Pairwise λa b=>a.1+2<=b.1):cz2 cd:=by
 refine⟨cV2 h.len hl,λq hq=>(M4 (cW5 A6 (h.own q hq).2.2)).2.2.2,λf=>by rw[Asc,w4,da3];exact ha,λq hq=>⟨?_,λx hx=>?_⟩⟩
 ·rw[(h.own q hq).1,V5,cV3];exact cV2 (dj0 _ _) hl
 ·rw[(h.own q hq).1] at hx
  exact(hg _ (X0 hx)).ok
noncomputable def lnC (r:S9):B8:=g8 [59,32] (y8 r)++[59]
theorem au4 (h:∀q∈cd,∀x∈q.2,x.2.2.2∈G4):ak3 cd=x7 ((E8 cd).map lnC):=by
 rw[ak3,aA4,x7,cW0]
 congr 1
 induction cd with
 | nil=>rfl
 | cons q r ih=>
  rw[dj1,ih λx hx=>h x (.tail _ hx),show E8 (q::r)=q.2.map (λx=>(q.1,x))++E8 r from rfl,cV5,cW0]
  congr 1
  refine cZ1 λx hx=>?_
  show as2 q.1 x=lnC (q.1,x)++[10]
  rw[lnC,bW2 (r:=(q.1,x)) (h q (.head _) x hx),as2,cW2];rfl
theorem z8.flat_mem (h:z8 rs cd):∀r∈E8 cd,r∈rs:=λr hr=>by
 obtain⟨q,hq,hr⟩:=dc8.mp hr
 rcases cV6.mp hr with⟨x,hx,rfl⟩
 rw[(h.own q hq).1] at hx
 exact X0 hx
theorem z8.grp (h:z8 rs cd):Mine.grp (E8 cd) []=cd:=by
 rw[aR6 (S:=[]) (by rw[da1];exact h.nd) λq hq=>(h.own q hq).2.1,da1]
theorem z8.ofC (h:z8 rs cd) (c:Nat):Mine.V5 c (E8 cd)=Mine.V5 c rs:=by
 have:=bh5 c (E8 cd) []
 rw[h.grp,h.get] at this
 exact this.symm
theorem z8.okc (h:z8 rs cd) (hg:X5 rs):∀A r B,E8 cd=A++r::B->okC (Mine.V5 r.1 A) r.2=true:=λA r B e=>by
 obtain⟨q,hq,t1,t2,e1,e2,e3⟩:=au1 h.nd e
 rw[e2]
 have hp:(Mine.V5 q.1 rs).Pairwise λa b=>a.2.2.2≠b.2.2.2:=by
  unfold Mine.V5
  rw[da3]
  refine(hg.nd.filter (λr=>decide (r.1=q.1))).imp_of_mem λ{a b} ha hb hn e=>?_
  exact hn ⟨(of_decide_eq_true (df1.mp ha).2).trans (of_decide_eq_true (df1.mp hb).2).symm,e⟩
 rw[<-(h.own q hq).1,e1,df6] at hp
 exact bK4 λy hy=>hp.2.2 y hy r.2 (.head _)
theorem bs3 (hg:X5 rs) (h:z8 rs cd):O6 (ak3 cd)=.ok cd/\Few 4 5 (ak3 cd) rs.length:=by
 have hw:∀q∈cd,∀x∈q.2,x.2.2.2∈G4:=λq hq x hx=>by
  rw[(h.own q hq).1] at hx
  exact(hg.rows _ (X0 hx)).ws
 have:=aB3 (rs:=E8 cd) (cs:=(E8 cd).map λr=>([],lnC r,false)) (zs:=(E8 cd).map λr=>(r,lnC r)) (λr hr=>hg.rows r (h.flat_mem r hr)) (h.okc hg) (λc hc=>?_) ?_ ?_ (λz hz=>?_)
 ·rw[au4 hw]
  rw[aB0 lnC,h.grp,cV3,h.all] at this
  exact this
 ·obtain⟨r,_,rfl⟩:=cV6.mp hc;exact .head _
 ·rw[cW0,cW0];rfl
 ·rw[cW0];exact de1 _
 ·rcases cV6.mp hz with⟨r,_,rfl⟩
  exact⟨[59,32],.head _,[59],.inl rfl,[],.head _,by rw[cW6];rfl⟩
theorem aS8 (hg:X5 rs) (h:z8 rs cd):W4 false (ak3 cd)=(E8 cd).map crV/\∀l∈i5 10 (ak3 cd),(C6 false (x0 l)).isSome=true:=by
 have hw:∀q∈cd,∀x∈q.2,x.2.2.2∈G4:=λq hq x hx=>by
  rw[(h.own q hq).1] at hx
  exact(hg.rows _ (X0 hx)).ws
 rw[au4 hw]
 refine aS4 λr hr=>?_
 have g:=hg.rows r (h.flat_mem r hr)
 refine⟨cd7 g.okf,?_⟩
 obtain⟨-,⟨w1,w2⟩,-⟩:=M4 (cW5 A6 g.code)
 have fl:=aB2 (fs:=y8 r) (λe=>by have:=(G6.len (r:=r)).1;rw[e] at this;cases this) g.okf
 rw[lnC,fl]
 rcases y6 r with⟨e0,e⟩ | ⟨e0,e⟩
 ·rw[e]
  show C6 false ([i9 (y3 r.1),i9 (j7 r.2.1),i9 (j7 r.2.2.1),i9 (j7 r.2.2.2.1)]++[[]])=_
  rw[w1]
  show some (some (V.tup [.int (x9 (y3 r.1)),F0 (i9 (j7 r.2.1)),F0 (i9 (j7 r.2.2.1)),F0 (i9 (j7 r.2.2.2.1)),.tup []]))=_
  rw[w2,R1 g.n1,R1 g.n2,R1 g.n3,crV,e0];rfl
 ·rw[e]
  show C6 false ([i9 (y3 r.1),i9 (j7 r.2.1),i9 (j7 r.2.2.1),i9 (j7 r.2.2.2.1),i9 (whB r.2.2.2.2)]++[[]])=_
  rw[w1]
  show some (some (V.tup [.int (x9 (y3 r.1)),F0 (i9 (j7 r.2.1)),F0 (i9 (j7 r.2.2.1)),F0 (i9 (j7 r.2.2.2.1)),aZ4 (i9 (whB r.2.2.2.2))]))=_
  rw[w2,R1 g.n1,R1 g.n2,R1 g.n3,aZ4,(bi2 g.ws).2.2.1];rfl
end
section
variable {own:b9}
abbrev Sd:=FD ⊕ List S9
noncomputable def V9 (isf:Bool):Sd->Prop
 | .inl fs=>isf=true/\L5 8 fs/\fs≠[]/\fs.length<=3
 | .inr rs=>isf=false/\X5 rs/\rs≠[]/\rs.length<=4
noncomputable def sdV:Sd->V
 | .inl fs=>.lst ((u3 fs).map fRw)
 | .inr rs=>.lst (rs.map crV)
noncomputable def Y9:Sd->List B8->Prop
 | .inl fs,ls=>∃zs:List (FRw×B8),zs.map (·.1)=u3 fs/\(∀z∈zs,y0 (O8 z.1) false z.2)/\ls=zs.map (·.2)
 | .inr rs,ls=>∃zs:List (S9×B8),zs.map (·.1)=rs/\(∀z∈zs,y0 (y8 z.1) (R9 z.1) z.2)/\ls=zs.map (·.2)
noncomputable def bc6:Sd->B8->Prop
 | .inl fs,b=>O4 b=.ok fs/\∀rows,q7 3 3 b=.ok rows->rows.length<50
 | .inr rs,b=>(∃cs,O6 b=.ok cs/\z8 rs cs)/\∀rows,q7 4 5 b=.ok rows->rows.length<50
noncomputable def bL0 (isf:Bool) (b:B8) (n:Nat):Prop:=if isf=true then O4 b=.error n/\∀rows,q7 3 3 b=.ok rows->rows.length<50 else O6 b=.error n/\∀rows,q7 4 5 b=.ok rows->rows.length<50
noncomputable def B7 (o:b9) (p:Addr):Sd->Prop
 | .inl fs=>∃am ms m,o p=some (u7 am)/\o am=some (.dictS ms)/\k7 ms "cf"=some (.ref m)/\o m=some (X4 .none (B2 fs))
 | .inr rs=>∃cd,z8 rs cd/\cd.Pairwise (λa b=>a.1+2<=b.1)/\cd0 o p cd
noncomputable def bL1 (o o':b9) (am:Addr):Prop:=∀x y,o x=some y->x≠am->o' x=some y
theorem L5.len6 {n:Nat} {fs:FD} (h:L5 n fs) (hl:fs.length<=3):(u3 fs).length<=6:=by
 have:=ai5 h.row
 rw[ae6,cV3] at this
 exact cV2 this (cZ3 2 hl)
theorem V8.fr {r:FRw} (h:V8 r):bH6 r:=⟨cY0 (cX7 (M4 (cX2 _ h.code)).2.2.2.2 (by decide)),h.word,by
 have:∀ns∈S0,(∀x∈ns,x<=1114111)/\ns.length<=10:=λns hns=>by
  have:=cX0.mp (show(S0.all λns=>(ns.all λx=>decide (x<=1114111))&&decide (ns.length<=10))=true by decide +kernel) ns hns
  simp only[cY6,decide_eq_true_eq,cX0] at this
  exact this
 exact⟨(this _ h.ns).1,(this _ h.ns).2⟩⟩
theorem bL2:∀r∈aO6,r.length<=8:=by decide
theorem y0.len {fs:List B8} {must:Bool} {ln:B8} (h:y0 fs must ln) {N:Nat} (hf:∀sep∈aG0,(g8 sep fs).length<=N):ln.length<=N+9:=by
 obtain⟨sep,hs,e,he,rem,hr,rfl⟩:=h
 have h1:=hf sep hs
 have h2:=bL2 rem hr
 have h3:e.length<=1:=by
  rcases he with rfl | ⟨rfl,_⟩
  ·exact cX5 _
  ·exact cZ2 _
 rw[cV4,cV4];lia
theorem aT0 {r:S9} (h:G6 r) {sep:B8} (hs:sep.length<=3):(g8 sep (y8 r)).length<=515:=by
 have hn:∀ns∈S0,(j7 ns).length<=100:=λns hns=>of_decide_eq_true (cX0.mp (show(S0.all λns=>decide ((j7 ns).length<=100))=true by decide +kernel) ns hns)
 have hx:∀x∈y8 r,x.length<=100:=λx hx=>by
  rcases y6 r with⟨_,e⟩ | ⟨_,e⟩<;>rw[e] at hx<;>simp only[cW1,cY8,or_false] at hx
  ·rcases hx with rfl | rfl | rfl | rfl
   ·exact cV2 Q8 (by decide)
   ·exact hn _ h.n1
   ·exact hn _ h.n2
   ·exact hn _ h.n3
  ·rcases hx with rfl | rfl | rfl | rfl | rfl
   ·exact cV2 Q8 (by decide)
   ·exact hn _ h.n1
   ·exact hn _ h.n2
   ·exact hn _ h.n3
   ·exact(aa3 h.ws).2.2.2
 exact cV2 (y5 hx) (Nat.mul_le_mul G6.len.2 (da0 hs 100))
theorem Y9.fit {isf:Bool} {s:Sd} {ls:List B8} (h:Y9 s ls) (ok:V9 isf s):ls.length<=6/\∀x∈ls,x.length<=1000:=by
 cases s with
 | inl fs=>
  obtain⟨zs,h1,h2,rfl⟩:=h
  obtain⟨-,g,-,g3⟩:=ok
  have e:=congrArg dc7 h1
  rw[cV3] at e
  refine⟨by rw[cV3,e];exact g.len6 g3,λx hx=>?_⟩
  rcases cV6.mp hx with⟨z,hz,rfl⟩
  have fr:=(g.rows z.1 (by rw[<-h1];exact cW4 hz)).fr
  exact cV2 ((h2 z hz).len λsep hs=>at1 fr (ae7 sep hs)) (by decide)
 | inr rs=>
  obtain⟨zs,h1,h2,rfl⟩:=h
  obtain⟨-,g,-,g3⟩:=ok
  have e:=congrArg dc7 h1
  rw[cV3] at e
  refine⟨by rw[cV3,e];exact cV2 g3 (by decide),λx hx=>?_⟩
  rcases cV6.mp hx with⟨z,hz,rfl⟩
  have fr:=g.rows z.1 (by rw[<-h1];exact cW4 hz)
  exact cV2 ((h2 z hz).len λsep hs=>aT0 fr (ae7 sep hs)) (by decide)
theorem aB4 {k:Nat} {ls:List B8} {odd:Option B8} {cs:List Cel} (h:cs.map (·.2)=B6 k ls odd) (hl:ls.length<=6):cs.length<50/\cs.length<=7:=by
 have e:=congrArg dc7 h
 rw[cV3] at e
 have:=aQ5 k ls odd
 lia
theorem aT1 {cs:List Cel} (hc:∀c∈cs,c.1∈L4) (hz:∀c∈cs,c.2.1.length<=1000) (hl:cs.length<=7):(g8 [10] (G7 cs)++[10]).length+1<sizeLine:=by
 have hm:=bh0 (N:=1000) (λc h=>⟨hc c h,hz c h⟩) (by decide)
 have hj:=cV2 (y5 (sep:=[10]) hm) (cY3 _ (cV2 (aG8 hc) (cZ3 3 hl)))
 rw[cV4]
 exact cV9 (cW3 (cY7 hj 1)) (by decide)
theorem aB5 {k:Nat} {ls:List B8} {odd:Option B8} {cs:List Cel} (h:cs.map (·.2)=B6 k ls odd) (hl:∀x∈ls,x.length<=1000) (ho:∀x,odd=some x->x.length<=1000):∀c∈cs,c.2.1.length<=1000:=λc hc=>aQ6 (k:=k) hl ho c.2 (h▸cW4 (f:=(·.2)) hc)
theorem aH4 (h:cs≠[]):G7 cs≠[]:=by
 cases cs with
 | nil=>exact absurd rfl h
 | cons c r=>
  rw[show G7 (c::r)=(c.1++[c.2.1])++G7 r from rfl]
  intro q
  exact absurd (congrArg dc7 q) (by rw[cV4,cV4,df0,dh5];lia)
theorem aB6 (W:Ok) {a:Addr} {isf:Bool} {s:Sd} {ls:List B8} {Q:V->b9->Prop} {EX:XC} (ha:own a=some .deck) (ok:V9 isf s) (h:Y9 s ls) (hQ:∀b,bc6 s b->b.length+1<sizeLine->Q (.tup [.bytes b,.none]) own):A7 3 58 [.ref a,.lst (ls.map .bytes),.none] own Q EX:=by
 rcases h.fit ok with⟨l1,l2⟩
 refine cc7 W (odd:=none) ha (cV2 l1 (by decide)) l2 (λU h=>nomatch h) λk cs hk hc hm=>?_
 rcases aB4 hm l1 with⟨n1,n2⟩
 have hf:=aT1 hc (aB5 hm l2 λU h=>nomatch h) n2
 rcases br4 hm with⟨m1,m2⟩
 rw[aA7 _ _ _ m2]
 refine hQ _ ?_ hf
 cases s with
 | inl fs=>
  obtain⟨zs,h1,h2,rfl⟩:=h
  obtain⟨-,g,gne,-⟩:=ok
  have r:=aA9 g hc m1 h1 h2
  rw[af0 (aH4 λe=>?_)]
  ·exact⟨r.1,λrows hr=>by rw[r.2 rows hr];exact n1⟩
  ·rw[e] at m1
   have:u3 fs=[]:=by rw[<-h1];exact db3.mpr (db3.mp m1.symm)
   have g2:=g.grp
   rw[this] at g2
   exact gne g2.symm
 | inr rs=>
  obtain⟨zs,h1,h2,rfl⟩:=h
  obtain⟨-,g,gne,-⟩:=ok
  have r:=aB3 g.rows g.okc hc m1 h1 h2
  rw[af0 (aH4 λe=>?_)]
  ·exact⟨⟨_,r.1,bK9 g⟩,λrows hr=>by rw[r.2 rows hr];exact n1⟩
  ·rw[e] at m1
   exact gne (by rw[<-h1];exact db3.mpr (db3.mp m1.symm))
theorem bL3 (W:Ok) {a:Addr} {isf:Bool} {s:Sd} {ls:List B8} {x:B8} {Q:V->b9->Prop} {EX:XC} (ha:own a=some .deck) (ok:V9 isf s) (h:Y9 s ls) (hx:x∈(if isf=true then bq7 else bq8)) (hQ:∀b n,bL0 isf b n->b.length+1<sizeLine->Q (.tup [.bytes b,.int (n:Nat)]) own):A7 3 58 [.ref a,.lst (ls.map .bytes),.bytes x] own Q EX:=by
 rcases h.fit ok with⟨l1,l2⟩
 have ox:∀y,some x=some y->y.length<=1000:=λy e=>by
  cases e
  cases isf
  ·exact(show∀y∈bq8,y.length<=1000 by decide) x hx
  ·exact(show∀y∈bq7,y.length<=1000 by decide) x hx
 refine cc7 W (odd:=some x) ha (cV2 l1 (by decide)) l2 ox λk cs hk hc hm=>?_
 rcases aB4 hm l1 with⟨n1,n2⟩
 have hf:=aT1 hc (aB5 hm l2 ox) n2
 have hne:cs≠[]:=λe=>by
  obtain⟨as,c,bs,e2,-⟩:=au0 hm
  rw[e] at e2;cases as<;>cases e2
 cases s with
 | inl fs=>
  obtain⟨zs,h1,h2,rfl⟩:=h
  obtain⟨rfl,g,-,-⟩:=ok
  obtain⟨m,q1,q2,q3⟩:=bK0 g hc hm h1 h2 hx
  rw[q2]
  refine hQ _ m ?_ hf
  rw[af0 (aH4 hne)]
  exact⟨q1,λrows hr=>by rw[q3 rows hr];exact n1⟩
 | inr rs=>
  obtain⟨zs,h1,h2,rfl⟩:=h
  obtain⟨rfl,g,-,-⟩:=ok
  obtain⟨m,q1,q2,q3⟩:=bK5 g hc hm h1 h2 hx
  rw[q2]
  refine hQ _ m ?_ hf
  rw[af0 (aH4 hne)]
  exact⟨q1,λrows hr=>by rw[q3 rows hr];exact n1⟩
end
section
variable {own:b9}
theorem cm9 {α:Type} {l:List (Nat×α)} (h:l.Pairwise (λa b=>a.1+2<=b.1)):∀x∈l,∀y∈l,x.1<y.1->x.1+2<=y.1:=by
 induction l with
 | nil=>exactλU h=>nomatch h
 | cons a r ih=>
  rcases dm2.mp h with⟨h1,h2⟩
  refine cX1.mpr ⟨cX1.mpr ⟨λlt=>absurd lt (de6 _),λy hy U=>h1 y hy⟩,λx hx=>cX1.mpr ⟨λlt=>?_,ih h2 x hx⟩⟩
  exact absurd (cV9 (cV2 (dc4 _ 2) (h1 x hx)) lt) (de6 _)
theorem bL4 (hp:own p=some (u7 am)) (ha:own am=some (.dictS [])) (hm:own m=none):
  B7 (c7 (c7 own m (some (X4 .none (B2 fs)))) am (some (.dictS ([]++[(("cf":Str),.ref m)])))) p (.inl fs)/\bL1 own (c7 (c7 own m (some (X4 .none (B2 fs)))) am (some (.dictS ([]++[(("cf":Str),.ref m)])))) am:=by
 have hma:m≠am:=λq=>by rw[q,ha] at hm;cases hm
 have far:∀x y,own x=some y->x≠am->c7 (c7 own m (some (X4 .none (B2 fs)))) am (some (.dictS ([]++[(("cf":Str),.ref m)]))) x=some y:=λx y h ne=>
  (b7 ne).trans ((b7 λq=>by rw[q,hm] at h;cases h).trans h)
 have hpa:p≠am:=λq=>by rw[q,ha] at hp;cases hp
 exact⟨⟨am,_,m,far _ _ hp hpa,b5 _ _ _,rfl,(b7 hma).trans (b5 _ _ _)⟩,far⟩
theorem bL5 (nd:(L.map (·.1)).Nodup) (hp:p∈L):m6 own L p.1=some p.2:=by
 induction L with
 | nil=>cases hp
 | cons q r ih=>
  rcases cY9.mp nd with⟨h1,h2⟩
  rcases cW1.mp hp with rfl | hp
  ·exact b5 _ _ _
  ·exact(b7 λe=>h1 (cV6.mpr ⟨p,hp,e⟩)).trans (ih h2 hp)
theorem bL6 (hs:z8 rs cd) (ha2:cd.Pairwise λa b=>a.1+2<=b.1) (hl:rs.length<=50) (hp:own p=some (u7 am)) (ha:own am=some (.dictS [])) (pk:ba9 own l 3):
  B7 (stP cd [] am own l) p (.inr rs)/\bL1 own (stP cd [] am own l) am:=by
 have far:∀x y,own x=some y->x≠am->stP cd [] am own l x=some y:=λx y h ne=>aG7 pk h ne
 have hpa:p≠am:=λq=>by rw[q,ha] at hp;cases hp
 refine⟨⟨cd,hs,ha2,⟨⟨am,Y6 l,far _ _ hp hpa,b5 _ _ _,λk n hk=>?_⟩,λf=>by rw[Asc,w4,da3];exact ha2,cV2 hs.len hl⟩⟩,far⟩
 have nm:l.map (λx=>(x.1,x.2.2))=suf:=pk.nm
 have hx:=congrArg (λz=>z[k]?) nm
 simp only[cX9] at hx
 obtain⟨x,hx,e⟩:=cY2.mp (hx.trans hk)
 rcases Prod.mk.inj e with⟨rfl,e2⟩
 rw[<-e2]
 have hm:=cW7 hx
 have g:=pk.fr x hm
 refine⟨x.2.1,aH1 (p:=(x.1,.ref x.2.1)) ?_ (cW4 hm),(b7 λq=>by rw[q,ha] at g;cases g).trans (bL5 (p:=(x.2.1,X4 (.tup []) (w4 x.2.2 cd))) ?_ (di0.mpr (cW4 hm)))⟩
 ·have:=congrArg (do4 (·.1)) nm
  rw[cW0] at this
  rw[Y6,cW0,show((λp:Str×V=>p.1)∘λx:Str×Addr×(CR->List Nat)=>(x.1,V.ref x.2.1))=((·.1)∘λx=>(x.1,x.2.2)) from rfl,this]
  decide +kernel
 ·rw[aQ2,List.map_reverse,cW0]
  exact List.pairwise_reverse.mpr (pk.nd.imp Ne.symm)
theorem aa9 (W:Ok) {isf:Bool} {s:Sd} {b:B8} {p am:Addr} {Q:V->b9->Prop} {EX:XC} (ok:V9 isf s) (hg:bc6 s b) (hz:b.length<sizeLine) (hp:own p=some (u7 am)) (ha:own am=some (.dictS []))
  (hQ:∀o,B7 o p s->bL1 own o am->Q .none o):A7 8 71 [.bool isf,.bytes b,.ref p] own Q EX:=by
 refine bI3 W (R:=λo=>B7 o p s/\bL1 own o am) (E:=λU=>False) (λQ' EX' h1 h2=>?_) (λo h=>hQ o h.1 h.2) λU h=>h.elim
 cases s with
 | inl fs=>
  obtain⟨rfl,g,gne,gl⟩:=ok
  rcases hg with⟨e,few⟩
  refine Y4 W hp ha hz (λrows hr=>cZ9 (few rows hr) (by decide)) (λfs' e'=>?_) (λfs' fd e' hp' ha' m hm=>?_) λn e'=>by rw[e] at e';cases e'
  ·rw[e] at e';cases e'
   refine⟨cZ2 _,rfl,gne,λq hq=>?_,cm9 g.asc⟩
   obtain⟨⟨j,_,h⟩,_⟩:=g.row q hq
   exact(M4 (cX2 H1 (cW7 h))).2.2.2
  ·rw[e] at e';cases e'
   have:fd=fs:=aR7 hp' (by rw[Asc,B2,da3] at ha';exact ha') g.asc
   subst this
   exact h1 _ (bL4 hp ha hm)
 | inr rs=>
  obtain⟨rfl,g,gne,gl⟩:=ok
  obtain⟨⟨cs,e,hs⟩,few⟩:=hg
  refine Y7 W hp ha hz few (λcs' e'=>?_) (λcs' cd e' hp' ha' l pk=>?_) λn e'=>by rw[e] at e';cases e'
  ·rw[e] at e';cases e'
   refine⟨cZ2 _,λU U=>rfl,λq=>?_,λq hq=>⟨(M4 (cW5 A6 (hs.own q hq).2.2)).2.2.2,λr hr=>?_⟩,λx hx y hy=>bs2 _ (hs.own x hx).2.2 _ (hs.own y hy).2.2⟩
   ·have:=hs.all
    rw[q] at this
    exact gne (cZ8 this.symm)
   ·rw[(hs.own q hq).1] at hr
    exact(g.rows _ (X0 hr)).ok
  ·rw[e] at e';cases e'
   exact h1 _ (bL6 (hs.perm hp') ha' (cV2 gl (by decide)) hp ha pk)
theorem bs4 (W:Ok) (hb:bL0 isf b n) (hz:b.length<sizeLine) (hp:own p=some (u7 am)) (ha:own am=some (.dictS ms))
  (hQ:Q (.int (n:Nat)) own):A7 8 71 [.bool isf,.bytes b,.ref p] own Q EX:=by
 refine bI3 W (R:=λU=>False) (E:=λm=>m=n) (λQ' EX' h1 h2=>?_) (λU h=>h.elim) λm h=>by rw[h];exact hQ
 unfold bL0 at hb
 cases isf with
 | true=>
  rw[if_pos rfl] at hb
  refine Y4 W hp ha hz (λrows hr=>cZ9 (hb.2 rows hr) (by decide)) (λfs' e'=>by rw[hb.1] at e';cases e') (λfs' fd e'=>by rw[hb.1] at e';cases e') λm e'=>?_
  rw[hb.1] at e';cases e'
  exact h2 n rfl
 | false=>
  rw[if_neg cV7] at hb
  refine Y7 W hp ha hz hb.2 (λfs' e'=>by rw[hb.1] at e';cases e') (λfs' fd e'=>by rw[hb.1] at e';cases e') λm e'=>?_
  rw[hb.1] at e';cases e'
  exact h2 n rfl
theorem cB0 (W:Ok) (ok:V9 true (.inl fs)) (h:B7 own p (.inl fs)) (hQ:Q (.bool true) own):A7 4 61 [.ref p,sdV (.inl fs)] own Q EX:=by
 obtain⟨am,ms,m,h1,h2,h3,h4⟩:=h
 obtain⟨-,g,-,gl⟩:=ok
 exact bb3 W h1 h2 h3 h4 g gl hQ
theorem cB1 (W:Ok) (ok:V9 false (.inr rs)) (h:B7 own p (.inr rs)) (hQ:Q (.bool true) own):A7 4 64 [.ref p,sdV (.inr rs)] own Q EX:=by
 obtain⟨cd,h1,h2,h3⟩:=h
 obtain⟨-,g,-,gl⟩:=ok
 exact bb4 W h3 (λc=>by rw[bi1];exact h1.get c) (λr hr=>ae9 (g.rows r hr).ws) (cV2 gl (by decide)) hQ
theorem B7.kept (h:B7 o p s) (k:bL1 o o' am) (ha:o am=some (.dictS [])):B7 o' p s:=by
 cases s with
 | inl fs=>
  obtain⟨a,ms,m,h1,h2,h3,h4⟩:=h
  exact⟨a,ms,m,k _ _ h1 (λq=>by rw[q,ha] at h1;cases h1),k _ _ h2 (λq=>by rw[q,ha] at h2;cases h2;cases h3),h3,k _ _ h4 λq=>by rw[q,ha] at h4;cases h4⟩
 | inr rs=>
  obtain⟨cd,h1,h2,⟨⟨a,ms,h3,h4,h5⟩,h6,h7⟩⟩:=h
  refine⟨cd,h1,h2,⟨⟨a,ms,k _ _ h3 (λq=>by rw[q,ha] at h3;cases h3),k _ _ h4 (λq=>?_),λj n hj=>?_⟩,h6,h7⟩⟩
  ·rw[q,ha] at h4;cases h4
   obtain⟨m,h8,-⟩:=h5 0 "slc" rfl
   cases h8
  ·obtain⟨m,h8,h9⟩:=h5 j n hj
   exact⟨m,h8,k _ _ h9 λq=>by rw[q,ha] at h9;cases h9⟩
end
section
variable {own:b9}
theorem bi3 (W:Ok) (ha:own a=some .deck) (h:isf=true) (ok:V9 isf s) (hQ:∀ls,Y9 s ls->Q (.lst (ls.map .bytes)) own):A7 4 60 [.ref a,sdV s] own Q EX:=by
 cases s with
 | inl fs=>obtain⟨-,g,-,gl⟩:=ok;exact aQ7 W ha (cV2 (g.len6 gl) (by decide)) (λr hr=>(g.rows r hr).fr) λzs h1 h2=>hQ _ ⟨zs,h1,h2,rfl⟩
 | inr rs=>rw[h] at ok;exact dc2 ok.1
theorem bi4 (W:Ok) (ha:own a=some .deck) (h:isf=false) (ok:V9 isf s) (hQ:∀ls,Y9 s ls->Q (.lst (ls.map .bytes)) own):A7 4 63 [.ref a,sdV s] own Q EX:=by
 cases s with
 | inr rs=>obtain⟨-,g,-,gl⟩:=ok;exact aQ9 W ha (cV2 gl (by decide)) (λr hr=>⟨cY0 (cX7 (M4 (cW5 A6 (g.rows r hr).code)).2.2.2.2 (by decide)),(g.rows r hr).ok⟩) λzs h1 h2=>hQ _ ⟨zs,h1,h2,rfl⟩
 | inl rs=>rw[h] at ok;exact dc2 ok.1
theorem cd8 (W:Ok) (h:isf=true) (ok:V9 isf s) (hd:B7 own p s) (hQ:Q (.bool true) own):A7 4 61 [.ref p,sdV s] own Q EX:=by
 subst h
 cases s with
 | inl fs=>exact cB0 W ok hd hQ
 | inr rs=>exact dc2 ok.1
theorem cd9 (W:Ok) (h:isf=false) (ok:V9 isf s) (hd:B7 own p s) (hQ:Q (.bool true) own):A7 4 64 [.ref p,sdV s] own Q EX:=by
 subst h
 cases s with
 | inl fs=>exact dc2 ok.1
 | inr rs=>exact cB1 W ok hd hQ
theorem B7.at_ (h:B7 o p s):∃am ms,o p=some (u7 am)/\o am=some (.dictS ms):=by
 cases s with
 | inl fs=>obtain⟨a,ms,m,h1,h2,h3,h4⟩:=h;exact⟨a,ms,h1,h2⟩
 | inr rs=>obtain⟨cd,h1,h2,⟨⟨a,ms,h3,h4,h5⟩,h6,h7⟩⟩:=h;exact⟨a,ms,h3,h4⟩
theorem bY4 (W:Ok) (ha:own a=some .deck) (hQ:∀o,Q (.bool true) o):A7 9 73 [.ref a,.bool isf] own Q EX:=by
 refine e8 (ns:=["deck","is_fold","data","ahead","rows","lines","octets","number"]) (others:=["data","ahead","rows","lines","octets","number"]) W rfl rfl rfl
  (Den_cons (Den_asg (.s (.s .z)) rfl (ad1 36 43 rfl (by decide) rfl a8) rfl)
  (Den_cons (m5 (by with_unfolding_all rfl) rfl (λU U=>rfl) (o6 (c8 (c0 (.s (.s (.s .z))) rfl) (c8 (c0 (.s (.s (.s (.s .z)))) rfl) k8 rfl) rfl)) (j8 ["k"] rfl (λU U=>rfl) (p8 79 rfl rfl (a6 b8 a8 rfl)) (c0 .z rfl) n7 (C3 (g9 (B1 (.s .z) rfl rfl) (λU U=>rfl)) (c4 51 59 rfl rfl rfl (a6 (B1 .z rfl rfl) a8 rfl)) (c4 54 62 rfl rfl rfl (a6 (B1 .z rfl rfl) a8 rfl)))))
  (Den_cons (J5 (.s (.s (.s (.s (.s .z))))) ["some"] rfl rfl (λU U=>rfl) (by with_unfolding_all rfl) (d7 (a6 (a9 (.s (.s (.s .z))) rfl) (a6 (a9 (.s (.s (.s (.s .z)))) rfl) a8 rfl) rfl)) (c0 .z rfl) n7 (C3 (g9 (B1 (.s .z) rfl rfl) (λU U=>rfl)) (c4 52 60 rfl rfl rfl (a6 (B1 .z rfl rfl) (a6 (a9 .z rfl) a8 rfl) rfl)) (c4 55 63 rfl rfl rfl (a6 (B1 .z rfl rfl) (a6 (a9 .z rfl) a8 rfl) rfl))))
  (Den_cons (i8 (c6 (c4 63 71 rfl rfl rfl (a6 (a9 (.s .z) rfl) (a6 (d5 (c4 50 58 rfl rfl rfl (a6 (a9 .z rfl) (a6 (d5 (a9 (.s (.s (.s (.s (.s .z))))) rfl) b8 rfl) (a6 w6 a8 rfl) rfl) rfl)) b8 rfl) (a6 (a9 (.s (.s .z)) rfl) a8 rfl) rfl) rfl)) w6 rfl) (Den_cons (d4 s5)
  b6) b6)
  (Den_cons (m5 (by with_unfolding_all rfl) rfl (λU U=>rfl) (o6 (c8 (c0 (.s (.s (.s (.s (.s (.s .z)))))) rfl) (c8 (c0 (.s (.s (.s (.s (.s (.s (.s .z))))))) rfl) k8 rfl) rfl)) (c4 50 58 rfl rfl rfl (a6 (a9 .z rfl) (a6 (d5 (a9 (.s (.s (.s (.s (.s .z))))) rfl) b8 rfl) (a6 (c4 64 72 rfl rfl rfl (a6 (a9 .z rfl) (a6 (a9 (.s .z) rfl) a8 rfl) rfl)) a8 rfl) rfl) rfl)))
  (Den_cons (i8 (c6 (c4 63 71 rfl rfl rfl (a6 (a9 (.s .z) rfl) (a6 (a9 (.s (.s (.s (.s (.s (.s .z)))))) rfl) (a6 (a9 (.s (.s .z)) rfl) a8 rfl) rfl) rfl)) (a9 (.s (.s (.s (.s (.s (.s (.s .z))))))) rfl) rfl) (Den_cons (d4 s5)
  b6) b6)
  (Den_cons (d4 (C3 (g9 (a9 (.s .z) rfl) (λU U=>rfl)) (c4 53 61 rfl rfl rfl (a6 (a9 (.s (.s .z)) rfl) (a6 (a9 (.s (.s (.s .z))) rfl) a8 rfl) rfl)) (c4 56 64 rfl rfl rfl (a6 (a9 (.s (.s .z)) rfl) (a6 (a9 (.s (.s (.s .z))) rfl) a8 rfl) rfl))))
  b6))))))) ?_
 walk_at "d"
 refine⟨3,rfl,az6 W λp am hp ham hne=>?_⟩
 have hpa:p≠am:=λq=>hne q.symm
 have ha2:c7 (c7 own p (some (u7 am))) am (some (.dictS [])) a=some .deck:=(b7 λq=>by rw[q,ham] at ha;cases ha).trans ((b7 λq=>by rw[q,hp] at ha;cases ha).trans ha)
 have hp2:c7 (c7 own p (some (u7 am))) am (some (.dictS [])) p=some (u7 am):=(b7 hpa).trans (b5 _ _ _)
 have hm2:c7 (c7 own p (some (u7 am))) am (some (.dictS [])) am=some (.dictS []):=b5 _ _ _
 generalize c7 (c7 own p (some (u7 am))) am (some (.dictS []))=o at ha2 hp2 hm2 ⊢
 walk_at "n"
 refine Q4 λr hr=>?_
 show Y2 _ _ false _ _ _ _ _ _ _ _
 refine⟨_,_,_,λj acc w o'=>o'=o/\∃ss:List Sd,ss.length=j/\(∀s∈ss,V9 isf s)/\acc=ss.map sdV,λU U U U U=>trivial,ItS.c<|It_range (b5 _ _ _) (by decide) (by decide) (by decide) (by decide),sz rfl,?_,?_,?_⟩
 ·exact⟨by rw[c5,d9 hr],[],rfl,(λU h=>nomatch h),rfl⟩
 ·intro j acc w o' x hw q1_ hx
  obtain⟨rfl,ss,n1,n2,rfl⟩:=q1_
  rcases F9 hw with⟨v,rfl⟩
  walk_at "d"
  rw[if_pos rfl,if_neg cV7]
  walk_at "d"
  refine r7 (λh=>?_) λh=>?_
  ·refine⟨4,rfl,bH5 W ha2 λfs f1 f2 f3=>⟨rfl,ss++[.inl fs],by rw[cV4,n1];rfl,λs hs=>?_,by rw[cV5,ae6];rfl⟩⟩
   exact(cW9.mp hs).elim (n2 s) λq=>by rw[cV8.mp q];exact⟨h,f1,f2,f3⟩
  ·refine⟨4,rfl,bI1 W ha2 λrs f1 f2 f3=>⟨rfl,ss++[.inr rs],by rw[cV4,n1];rfl,λs hs=>?_,by rw[cV5];rfl⟩⟩
   exact(cW9.mp hs).elim (n2 s) λq=>by rw[cV8.mp q];exact⟨h,f1,f2,f3⟩
 ·rintro acc w o' ⟨rfl,ss,n1,n2,rfl⟩ -
  obtain⟨s1,s2,rfl⟩:=bR3 n1
  have k1:=n2 s1 (.head _)
  have k2:=n2 s2 (.tail _ (.head _))
  walk_at "n"
  refine⟨[sdV s1,sdV s2],.lst,rfl,?_⟩
  walk_at "n"
  refine⟨sz rfl,?_⟩
  show Y2 _ _ false _ _ _ _ _ _ _ _
  refine⟨_,_,_,λj acc w o=>o=o'/\∃lss:List (List B8),lss.length=j/\(∀(i:Nat) (s:Sd) (ls:List B8),[s1,s2][i]?=some s->lss[i]?=some ls->Y9 s ls)/\acc=lss.map λls=>.lst (ls.map .bytes),λU U U U U=>trivial,ItS.c F5,sz rfl,?_,?_,?_⟩
  ·exact⟨rfl,[],rfl,(λU U U U h=>by rw[List.getElem?_nil] at h;cases h),rfl⟩
  ·intro j acc w o x hw q1_ hx
   obtain⟨rfl,lss,m1,m2,rfl⟩:=q1_
   rcases F9 hw with⟨v,rfl⟩
   rcases at6 (f:=sdV) (xs:=[s1,s2]) hx with⟨s,hs,rfl⟩
   have ks:=n2 s (cW7 hs)
   have fin:∀ls,Y9 s ls->∀(i:Nat) (s':Sd) (ls':List B8),[s1,s2][i]?=some s'->(lss++[ls])[i]?=some ls'->Y9 s' ls':=λls hls i s' ls' e1 e2=>by
    by_cases q:i<lss.length
    ·rw[List.getElem?_append_left q] at e2;exact m2 i s' ls' e1 e2
    ·rw[de2 (de3 q)] at e2
     rcases cX4.mp e2 with⟨q1,q2⟩
     have q3:i=lss.length:=by rw[df0] at q1;lia
     subst q3
     rw[m1,hs] at e1
     cases e1
     simp only[Nat.sub_self,List.getElem_cons_zero] at q2
     rw[<-q2];exact hls
   walk_at "d"
   rw[if_pos rfl,if_neg cV7]
   walk_at "d"
   refine r7 (λh=>⟨4,rfl,bi3 W ha2 h ks λls hls=>⟨rfl,lss++[ls],by rw[cV4,m1];rfl,fin ls hls,by rw[cV5];rfl⟩⟩) λh=>⟨4,rfl,bi4 W ha2 h ks λls hls=>⟨rfl,lss++[ls],by rw[cV4,m1];rfl,fin ls hls,by rw[cV5];rfl⟩⟩
  ·rintro acc w o ⟨rfl,lss,m1,m2,rfl⟩ -
   obtain⟨l1,l2,rfl⟩:=bR3 m1
   have j1:=m2 0 s1 l1 rfl rfl
   have j2:=m2 1 s2 l2 rfl rfl
   walk_at "n"
   refine W3 (x:=.lst (l1.map .bytes)) .lst (by decide) (by decide) rfl ⟨3,rfl,aB6 W ha2 k1 j1 λb hb bz=>?_⟩
   walk_at "d"
   refine i_t (x:=.bytes b) (by decide) (by decide) rfl ⟨8,rfl,aa9 W k1 hb (db9 bz) hp2 hm2 λo1 hd hk=>?_⟩
   have ha3:o1 a=some .deck:=hk _ _ ha2 λq=>by rw[q,hm2] at ha2;cases ha2
   walk_at "d"
   refine ah2 rfl ?_
   walk_at "n"
   refine W3 (x:=.lst (l2.map .bytes)) .lst (by decide) (by decide) rfl ⟨3,rfl,cN3 W ha3 λx hx=>⟨3,rfl,bL3 W ha3 k2 j2 hx λb2 n hb2 bz2=>?_⟩⟩
   walk_at "n"
   obtain⟨am3,ms3,hp3,hm3⟩:=hd.at_
   refine⟨rfl,8,rfl,bs4 W hb2 (db9 bz2) hp3 hm3 ?_⟩
   walk_at "d"
   rw[if_neg (by rw[decide_eq_true rfl];exact cV7)]
   walk_at "n"
   refine r7 (λh=>⟨4,rfl,cd8 W h k1 hd ?_⟩) λh=>⟨4,rfl,cd9 W h k1 hd ?_⟩
   ·walk_at "r";exact hQ _
   ·walk_at "r";exact hQ _
end
section
variable {own:b9}
noncomputable def af1:Sd->B8->Prop
 | .inl fs,b=>b=R8 fs
 | .inr rs,b=>∃cd:CD,z8 rs cd/\cd.Pairwise (λa b=>a.1+2<=b.1)/\b=ak3 cd
theorem aT2 (ha:z8 rs a) (hb:z8 rs b):∀q∈a,q∈b:=λq hq=>by
 obtain⟨e,ne,-⟩:=ha.own q hq
 have h1:q.1∈b.map (·.1):=by
  apply Classical.byContradiction
  intro h
  have:=hb.get q.1
  rw[au3 h,<-e] at this
  exact ne this.symm
 obtain⟨x,hx,e2⟩:=cV6.mp h1
 have:x=q:=Prod.ext e2 (by rw[e,(hb.own x hx).1];exact congrArg (λc=>V5 c rs) e2)
 rw[<-this];exact hx
theorem af1.same (h:af1 s b) (h':af1 s b'):b=b':=by
 cases s with
 | inl fs=>exact Eq.trans (show b=R8 fs from h) (Eq.symm (show b'=R8 fs from h'))
 | inr rs=>
  obtain⟨cd,h1,h2,rfl⟩:=h
  obtain⟨cd',h3,h4,rfl⟩:=h'
  have nd:∀{c:CD},(c.map (·.1)).Nodup->c.Nodup:=λh=>(da3.mp h).imp λh e=>h (congrArg _ e)
  rw[aR7 ((List.perm_ext_iff_of_nodup (nd h1.nd) (nd h3.nd)).mpr λq=>⟨aT2 h1 h3 q,aT2 h3 h1 q⟩) h2 h4]
theorem aT3 (h:∀l∈ls,l.length<=N):(x7 ls).length<=ls.length*(N+1):=by
 induction ls with
 | nil=>exact cZ2 _
 | cons l r ih=>
  have h:=cX1.mp h
  rw[show x7 (l::r)=(l++[10])++x7 r from rfl,cV4,cV4,db1 (as:=r),di8,dd0]
  exact cZ5 (ih h.2) (cW3 h.1)
theorem z8.whens (hg:X5 rs) (h:z8 rs cd):∀q∈cd,∀x∈q.2,x.2.2.2∈G4:=λq hq x hx=>by
 rw[(h.own q hq).1] at hx
 exact(hg.rows _ (X0 hx)).ws
theorem af1.good (h:af1 s b) (ok:V9 isf s):bc6 s b/\b.length+1<sizeLine/\∀l∈i5 10 b,(C6 isf (x0 l)).isSome=true:=by
 cases s with
 | inl fs=>
  obtain⟨rfl,g,-,gl⟩:=ok
  obtain rfl:b=R8 fs:=h
  rcases br9 g with⟨r1,r2⟩
  have l6:=g.len6 gl
  refine⟨⟨r1,λrows hr=>by rw[r2 rows hr];exact cV9 l6 (by decide)⟩,?_,(aS5 g).2⟩
  rw[au2 g]
  have:=aT3 (N:=301) (ls:=(u3 fs).map lnF) λl hl=>by
   rcases cV6.mp hl with⟨r,hr,rfl⟩
   rw[lnF,cV4];exact cW3 (at1 (g.rows r hr).fr (by decide))
  rw[cV3] at this
  exact cV9 (cW3 (cV2 this (cY3 _ l6))) (by decide)
 | inr rs=>
  obtain⟨rfl,g,-,gl⟩:=ok
  obtain⟨cd,h1,h2,rfl⟩:=h
  rcases bs3 g h1 with⟨r1,r2⟩
  refine⟨⟨⟨cd,r1,h1⟩,λrows hr=>by rw[r2 rows hr];exact cV9 gl (by decide)⟩,?_,(aS8 g h1).2⟩
  rw[au4 (h1.whens g)]
  have:=aT3 (N:=516) (ls:=(E8 cd).map lnC) λl hl=>by
   rcases cV6.mp hl with⟨r,hr,rfl⟩
   rw[lnC,cV4];exact cW3 (aT0 (g.rows r (h1.flat_mem r hr)) (by decide))
  rw[cV3,h1.all] at this
  exact cV9 (cW3 (cV2 this (cY3 _ gl))) (by decide)
noncomputable def cN4 (r:FRw):XRw:=(r.1,[.str r.2.1,D9 r.2.2])
noncomputable def cn0 (r:S9):XRw:=(r.1,[D9 r.2.1,D9 r.2.2.1,D9 r.2.2.2.1,wsV r.2.2.2.2])
theorem aT4 {α:Type} (X:Nat×α->XRw) (hX:∀r,(X r).1=r.1) (c:Nat) (rs:List (Nat×α)):(rs.map X).filter (λr=>decide (r.1=c))=((V5 c rs).map λx=>X (c,x)):=by
 induction rs with
 | nil=>rfl
 | cons r rs ih=>
  rw[cX3,V7]
  by_cases h:r.1=c
  ·rw[df8 (p:=λr:XRw=>decide (r.1=c)) (decide_eq_true ((hX r).trans h)),if_pos h,ih,cX3]
   rw[show X r=X (c,r.2) by rw[<-h]]
  ·rw[df9 (p:=λr:XRw=>decide (r.1=c)) (by rw[hX,decide_eq_false h];exact cV7),if_neg h,ih]
theorem cB2 (W:Ok) (h:af1 s b) (ok:V9 isf s) (hQ:Q (.bool true) own):A7 2 70 [.lst (W4 isf b),sdV s,.bool isf] own Q EX:=by
 cases s with
 | inl fs=>
  obtain⟨rfl,g,-,gl⟩:=ok
  obtain rfl:b=R8 fs:=h
  have l6:=g.len6 gl
  have e:(u3 fs).map fRw=((u3 fs).map cN4).map xRw:=by rw[cW0];rfl
  rw[(aS5 g).1,sdV,e]
  refine aR2 W (λc=>rfl) rfl (by rw[cV3];exact cV2 l6 (by decide)) (λr hr=>?_) hQ
  rcases cV6.mp hr with⟨x,hx,rfl⟩
  show[V.str x.2.1,D9 x.2.2].all (plV 98)=true
  have e1:plV 98 (.str x.2.1)=true:=by
   have:=(U9 _ (g.rows x hx).word).2.2.2
   exact this
  rw[dc1,dc1,do1,aR0,e1];rfl
 | inr rs=>
  obtain⟨rfl,g,-,gl⟩:=ok
  obtain⟨cd,h1,h2,rfl⟩:=h
  have e:∀rs:List S9,rs.map crV=(rs.map cn0).map xRw:=λrs=>by rw[cW0];rfl
  rw[(aS8 g h1).1,sdV,e,e]
  refine aR2 W (λc=>?_) (by rw[cV3,cV3,h1.all]) (by rw[cV3];exact cV2 gl (by decide)) (λr hr=>?_) hQ
  ·rw[aT4 cn0 (λU=>rfl),aT4 cn0 (λU=>rfl),h1.ofC]
  ·rcases cV6.mp hr with⟨x,hx,rfl⟩
   show[D9 x.2.1,D9 x.2.2.1,D9 x.2.2.2.1,wsV x.2.2.2.2].all (plV 98)=true
   rw[dc1,dc1,dc1,dc1,do1,aR0,aR0,aR0,cd1 _ (ae9 (g.rows x hx).ws)];rfl
theorem ce0 (W:Ok) (h:isf=true) (ok:V9 isf s) (hd:B7 own p s) (hQ:∀b,af1 s b->Q (.bytes b) own):A7 6 35 [.ref p] own Q EX:=by
 subst h
 cases s with
 | inl fs=>
  obtain⟨am,ms,m,h1,h2,h3,h4⟩:=hd
  obtain⟨-,g,-,gl⟩:=ok
  refine al5 W h1 h2 h3 h4 ⟨cV2 gl (by decide),λq hq=>?_,by rw[Asc,B2,da3];exact g.asc,λq hq x hx=>?_⟩ (hQ _ rfl)
  ·obtain⟨⟨j,_,h⟩,_⟩:=g.row q hq
   exact(M4 (cX2 H1 (cW7 h))).2.2.2
  ·exact(g.rows (q.1,x) (dc8.mpr ⟨q,hq,cW4 hx⟩)).fr.ns
 | inr rs=>exact dc2 ok.1
theorem ce1 (W:Ok) (h:isf=false) (ok:V9 isf s) (hd:B7 own p s) (hQ:∀b,af1 s b->Q (.bytes b) own):A7 6 36 [.ref p] own Q EX:=by
 subst h
 cases s with
 | inl fs=>exact dc2 ok.1
 | inr rs=>
  obtain⟨cd,h1,h2,⟨⟨a,ms,h3,h4,h5⟩,h6,h7⟩⟩:=hd
  obtain⟨-,g,-,gl⟩:=ok
  obtain⟨m0,a0,b0⟩:=h5 0 "slc" rfl
  obtain⟨m1,a1,b1⟩:=h5 1 "stc" rfl
  obtain⟨m2,a2,b2⟩:=h5 2 "suc" rfl
  exact al6 W h3 h4 a0 b0 a1 b1 a2 b2 (h1.cdok g.rows (cV2 gl (by decide)) h2) (hQ _ ⟨cd,h1,h2,rfl⟩)
end
section
variable {own:b9}
theorem cN5 (W:Ok) {V:V} {is:List Int} {Q:Mine.V->b9->Prop} {EX:XC} (L:j4 own V (is.map .int)) (hl:is.length<=1000) (hQ:∀o,Q (.bool true) o):A7 10 74 [V] own Q EX:=by
 refine e8 (ns:=["script","deck","is_fold","is_broken","rows","data","again","lines","octets","some"]) (others:=["deck","is_fold","is_broken","rows","data","again","lines","octets","some"]) W rfl rfl rfl
  (Den_cons (Den_asg (.s .z) rfl (c4 42 50 rfl rfl rfl (a6 (a9 .z rfl) a8 rfl)) rfl)
  (Den_cons (Den_swap [(.s (.s .z)),(.s (.s (.s .z)))] rfl (by with_unfolding_all rfl) rfl (d7 (a6 (H4 (c4 43 51 rfl rfl rfl (a6 (a9 (.s .z) rfl) (a6 b8 a8 rfl) rfl)) b8 rfl) (a6 (H4 (c4 43 51 rfl rfl rfl (a6 (a9 (.s .z) rfl) (a6 b8 a8 rfl) rfl)) b8 rfl) a8 rfl) rfl)))
  (Den_cons (i8 (g9 (a9 (.s (.s (.s .z))) rfl) (λU U=>rfl)) (Den_cons (d4 (c4 65 73 rfl rfl rfl (a6 (a9 (.s .z) rfl) (a6 (a9 (.s (.s .z)) rfl) a8 rfl) rfl)))
  b6) b6)
  (Den_cons (N6<|Den_swap [(.s (.s (.s (.s .z)))),(.s (.s (.s (.s (.s .z))))),(.s (.s (.s (.s (.s (.s .z))))))] rfl (by with_unfolding_all rfl) rfl (d7 (a6 (C3 (g9 (a9 (.s (.s .z)) rfl) (λU U=>rfl)) (c4 51 59 rfl rfl rfl (a6 (a9 (.s .z) rfl) a8 rfl)) (c4 54 62 rfl rfl rfl (a6 (a9 (.s .z) rfl) a8 rfl))) (a6 (ad1 36 43 rfl (by decide) rfl a8) (a6 (ad1 36 43 rfl (by decide) rfl a8) a8 rfl) rfl) rfl)))
  (Den_cons (N6<|Den_asg (.s (.s (.s (.s (.s (.s (.s .z))))))) rfl (C3 (g9 (a9 (.s (.s .z)) rfl) (λU U=>rfl)) (c4 52 60 rfl rfl rfl (a6 (a9 (.s .z) rfl) (a6 (a9 (.s (.s (.s (.s .z)))) rfl) a8 rfl) rfl)) (c4 55 63 rfl rfl rfl (a6 (a9 (.s .z) rfl) (a6 (a9 (.s (.s (.s (.s .z)))) rfl) a8 rfl) rfl))) rfl)
  (Den_cons (i8 (c6 (c4 63 71 rfl rfl rfl (a6 (a9 (.s (.s .z)) rfl) (a6 (d5 (c4 50 58 rfl rfl rfl (a6 (a9 (.s .z) rfl) (a6 (a9 (.s (.s (.s (.s (.s (.s (.s .z))))))) rfl) (a6 w6 a8 rfl) rfl) rfl)) b8 rfl) (a6 (a9 (.s (.s (.s (.s (.s .z))))) rfl) a8 rfl) rfl) rfl)) w6 rfl) (Den_cons (d4 s5)
  b6) b6)
  (Den_cons (N6<|Den_asg (.s (.s (.s (.s (.s (.s (.s (.s .z)))))))) rfl (C3 (g9 (a9 (.s (.s .z)) rfl) (λU U=>rfl)) (c4 30 35 rfl rfl rfl (a6 (a9 (.s (.s (.s (.s (.s .z))))) rfl) a8 rfl)) (c4 31 36 rfl rfl rfl (a6 (a9 (.s (.s (.s (.s (.s .z))))) rfl) a8 rfl))) rfl)
  (Den_cons (i8 (C0 (g9 (c4 62 70 rfl rfl rfl (a6 (c4 61 69 rfl rfl rfl (a6 (a9 (.s (.s (.s (.s (.s (.s (.s (.s .z)))))))) rfl) (a6 (a9 (.s (.s .z)) rfl) a8 rfl) rfl)) (a6 (a9 (.s (.s (.s (.s .z)))) rfl) (a6 (a9 (.s (.s .z)) rfl) a8 rfl) rfl) rfl)) (λU U=>rfl))) (Den_cons (d4 s5)
  b6) b6)
  (Den_cons (i8 (c6 (c4 63 71 rfl rfl rfl (a6 (a9 (.s (.s .z)) rfl) (a6 (a9 (.s (.s (.s (.s (.s (.s (.s (.s .z)))))))) rfl) (a6 (a9 (.s (.s (.s (.s (.s (.s .z)))))) rfl) a8 rfl) rfl) rfl)) w6 rfl) (Den_cons (d4 s5)
  b6) b6)
  (Den_cons (i6 (d7 (a6 (a9 (.s (.s (.s (.s (.s .z))))) rfl) (a6 (a9 (.s (.s (.s (.s (.s (.s .z)))))) rfl) a8 rfl) rfl)) (c0 (.s (.s (.s (.s (.s (.s (.s (.s (.s .z))))))))) rfl) (Den_cons (i8 (C0 (bA2 (g9 (a9 (.s (.s .z)) rfl) (λU U=>rfl)) (g9 (c4 53 61 rfl rfl rfl (a6 (a9 (.s (.s (.s (.s (.s (.s (.s (.s (.s .z))))))))) rfl) (a6 (a9 (.s (.s (.s (.s .z)))) rfl) a8 rfl) rfl)) (λU U=>rfl)) (g9 (c4 56 64 rfl rfl rfl (a6 (a9 (.s (.s (.s (.s (.s (.s (.s (.s (.s .z))))))))) rfl) (a6 (a9 (.s (.s (.s (.s .z)))) rfl) a8 rfl) rfl)) (λU U=>rfl)))) (Den_cons (d4 s5)
  b6) b6)
  b6) b6 (λU U=>rfl))
  (Den_cons (d4 (H4 (a9 (.s (.s (.s (.s (.s (.s (.s (.s .z)))))))) rfl) (C3 (g9 (a9 (.s (.s .z)) rfl) (λU U=>rfl)) (c4 30 35 rfl rfl rfl (a6 (a9 (.s (.s (.s (.s (.s (.s .z)))))) rfl) a8 rfl)) (c4 31 36 rfl rfl rfl (a6 (a9 (.s (.s (.s (.s (.s (.s .z)))))) rfl) a8 rfl))) rfl))
  b6))))))))))) ?_
 walk_at "d"
 refine⟨1,rfl,cA1 W L hl λa ha0=>?_⟩
 have ha:c7 own a (some .deck) a=some .deck:=b5 _ _ _
 generalize c7 own a (some .deck)=o at ha ⊢
 walk_at "n"
 refine⟨1,rfl,U7 W ha (by decide) λr0 q0 q1=>?_⟩
 walk_at "d"
 generalize decide (r0=0)=isf
 refine⟨1,rfl,U7 W ha (by decide) λr1 q2 q3=>?_⟩
 walk_at "d"
 generalize decide (r1=2)=isb
 refine⟨sz rfl,rfl,?_⟩
 walk_at "n"
 refine r7 (λh=>⟨9,rfl,bY4 W ha λo=>?_⟩) λh=>?_
 ·walk_at "r";exact hQ _
 walk_at "n"
 refine⟨λl o=>∃s p am p2 am2,V9 isf s/\o a=some .deck/\o p=some (u7 am)/\o am=some (.dictS [])/\o p2=some (u7 am2)/\o am2=some (.dictS [])/\am≠am2/\l=[some V,some (.ref a),some (.bool isf),some (.bool isb),some (sdV s),some (.ref p),some (.ref p2),none,none,none],?_,?_⟩
 ·have news:∀{o:b9} {Q':Mine.V->b9->Prop} {EX':XC},o a=some .deck->(∀p am o',o' a=some .deck->o' p=some (u7 am)->o' am=some (.dictS [])->(∀x y,o x=some y->o' x=some y/\x≠am)->Q' (.ref p) o')->A7 3 43 [] o Q' EX':=λ{o Q' EX'} ha h=>
   az6 W λp am hp ham hne=>by
    have keep:∀x y,o x=some y->c7 (c7 o p (some (u7 am))) am (some (.dictS [])) x=some y/\x≠am:=λx y e=>
     have h1:x≠am:=λq=>by rw[q,ham] at e;cases e
     ⟨(b7 h1).trans ((b7 λq=>by rw[q,hp] at e;cases e).trans e),h1⟩
    exact h p am _ (keep _ _ ha).1 ((b7 hne.symm).trans (b5 _ _ _)) (b5 _ _ _) keep
  have two:∀s,V9 isf s->∀{o:b9},o a=some .deck->True:=λU U U U=>trivial
  refine r7 (λh=>⟨4,rfl,bH5 W ha λfs f1 f2 f3=>⟨3,rfl,news ha λp am o1 e1 e2 e3 e4=>⟨3,rfl,news e1 λp2 am2 o2 g1 g2 g3 g4=>?_⟩⟩⟩) λh=>⟨4,rfl,bI1 W ha λrs f1 f2 f3=>⟨3,rfl,news ha λp am o1 e1 e2 e3 e4=>⟨3,rfl,news e1 λp2 am2 o2 g1 g2 g3 g4=>?_⟩⟩⟩
  ·refine⟨sz rfl,rfl,?_⟩
   walk_at "n"
   exact⟨.inl fs,p,am,p2,am2,⟨h,f1,f2,f3⟩,g1,(g4 _ _ e2).1,(g4 _ _ e3).1,g2,g3,(g4 _ _ e3).2,by rw[ae6];rfl⟩
  ·refine⟨sz rfl,rfl,?_⟩
   walk_at "n"
   exact⟨.inr rs,p,am,p2,am2,⟨h,f1,f2,f3⟩,g1,(g4 _ _ e2).1,(g4 _ _ e3).1,g2,g3,(g4 _ _ e3).2,rfl⟩
 clear ha
 intro l o q1_
 obtain⟨s,p,am,p2,am2,ok,ha,hp,hm,hp2,hm2,ham,rfl⟩:=q1_
 walk_at "n"
 refine⟨λl o'=>o'=o/\∃ls,Y9 s ls/\l=[some V,some (.ref a),some (.bool isf),some (.bool isb),some (sdV s),some (.ref p),some (.ref p2),some (.lst (ls.map .bytes)),none,none],?_,?_⟩
 ·refine r7 (λh=>⟨4,rfl,bi3 W ha h ok λls hls=>?_⟩) λh=>⟨4,rfl,bi4 W ha h ok λls hls=>?_⟩
  ·walk_at "n";exact⟨rfl,ls,hls,rfl⟩
  ·walk_at "n";exact⟨rfl,ls,hls,rfl⟩
 rintro l o' ⟨rfl,ls,hls,rfl⟩
 walk_at "n"
 refine⟨3,rfl,aB6 W ha ok hls λb hb bz=>?_⟩
 walk_at "d"
 refine i_t (x:=.bytes b) (by decide) (by decide) rfl ⟨8,rfl,aa9 W ok hb (db9 bz) hp hm λo1 hd hk=>?_⟩
 have hp3:=hk _ _ hp2 λq=>by rw[q,hm] at hp2;cases hp2
 have hm3:=hk _ _ hm2 ham.symm
 walk_at "d"
 refine ah2 rfl ?_
 walk_at "n"
 refine⟨λl o'=>o'=o1/\∃w,af1 s w/\l=[some V,some (.ref a),some (.bool isf),some (.bool isb),some (sdV s),some (.ref p),some (.ref p2),some (.lst (ls.map .bytes)),some (.bytes w),none],?_,?_⟩
 ·refine r7 (λh=>⟨6,rfl,ce0 W h ok hd λw hw=>?_⟩) λh=>⟨6,rfl,ce1 W h ok hd λw hw=>?_⟩
  ·walk_at "n";exact⟨rfl,w,hw,rfl⟩
  ·walk_at "n";exact⟨rfl,w,hw,rfl⟩
 rintro l o' ⟨rfl,w,hw,rfl⟩
 obtain⟨w1,w2,w3⟩:=hw.good ok
 walk_at "n"
 refine⟨3,rfl,bo5 W w2 w3 ⟨2,rfl,cB2 W hw ok ?_⟩⟩
 walk_at "d"
 rw[if_neg (show¬((!true)=true) from cV7)]
 walk_at "n"
 refine⟨8,rfl,aa9 W ok w1 (db9 w2) hp3 hm3 λo2 hd2 hk2=>?_⟩
 have hd1:=hd.kept hk2 hm3
 walk_at "d"
 refine ah2 rfl ?_
 walk_at "n"
 rw[if_neg (show¬((!true)=true) from cV7)]
 walk_at "n"
 refine⟨sz rfl,_,_,λU l o=>o=o2/\∃v,l=[some V,some (.ref a),some (.bool isf),some (.bool isb),some (sdV s),some (.ref p),some (.ref p2),some (.lst (ls.map .bytes)),some (.bytes w),v],F5,⟨rfl,_,rfl⟩,?_,?_⟩
 ·rintro i l o y - ⟨rfl,v,rfl⟩ hy
  obtain⟨q,rfl,hq⟩:∃q,y=.ref q/\B7 o q s:=by
   rcases i with _ | _ | i
   ·cases hy;exact⟨p,rfl,hd1⟩
   ·cases hy;exact⟨p2,rfl,hd2⟩
   ·exact nomatch (show none=some y from hy)
  walk_at "d"
  refine r7 (λh=>⟨4,rfl,cd8 W h ok hq ?_⟩) λh=>⟨4,rfl,cd9 W h ok hq ?_⟩
  ·walk_at "d"
   rw[if_neg (show¬((!true)=true) from cV7)]
   walk_at "n"
   exact⟨rfl,_,rfl⟩
  ·walk_at "d"
   rw[if_neg (show¬((!true)=true) from cV7)]
   walk_at "n"
   exact⟨rfl,_,rfl⟩
 ·rintro l o ⟨rfl,v,rfl⟩
  walk_at "n"
  refine r7 (λh=>⟨6,rfl,ce0 W h ok hd2 λw' hw'=>?_⟩) λh=>⟨6,rfl,ce1 W h ok hd2 λw' hw'=>?_⟩
  ·obtain rfl:=hw.same hw'
   walk_at "d"
   rw[decide_eq_true rfl]
   walk_at "r";exact hQ _
  ·obtain rfl:=hw.same hw'
   walk_at "d"
   rw[decide_eq_true rfl]
   walk_at "r";exact hQ _
end
section
theorem au5:fa=fa0:=by unfold fa;rfl
theorem ce2:fm=fm0:=by unfold fm;rfl
theorem Rl.to {R R':V->Value->Prop} (k:∀x v,R x v->R' x v):∀(xs:List V) (vs:List Value),Rl R xs vs->Rl R' xs vs:=by
 intro xs
 induction xs with
 | nil=>exactλU e=>e
 | cons x xs ih=>exactλvs e=>e.imp λv e=>e.imp λus e=>⟨e.1,k _ _ e.2.1,ih _ e.2.2⟩
theorem Rt.to {h h':Heap} (k:∀b o,h.get? b=some o->h'.get? b=some o) {R R':V->Value->Prop} (kr:∀x v,R x v->R' x v) (x:V) (v:Value) (e:Rt h R x v):Rt h' R' x v:=
 e.rec (λU U r=>.leaf _ _ (kr _ _ r)) λU U U U e r=>.tup _ _ _ _ (k _ _ e) (Rl.to kr _ _ r)
theorem FnR.keeps {h h':Heap} (k:∀b o,h.get? b=some o->h'.get? b=some o) {a:Addr} {s:Stmt} {fd:FuncData} (x:FnR h a s fd):FnR h' a s fd:=
 ⟨x.at_.imp λU y=>⟨k _ _ y.1,y.2⟩,x.bd,x.sc,x.par,x.glob,x.clo,x.blt,x.code.keeps k,x.dfl.imp id λy=>y.imp λT y=>y.imp λo y=>y.imp λi y=>y.imp λn y=>⟨y.1,k _ _ y.2.1,y.2.2⟩⟩
structure Y1 (h:Heap) (mg mb:Str->Option Value) (K:Frag):Prop where
 g:h.Ns mainGlobals mg
 b:h.Ns builtinsNs mb
 sysm:∃o,h.get? sysModules=some o
 X:K.In h
 k:KF K
 gv:∀(k:Nat) (p:Str×V),(au9 fa)[k]?=some p->∃v,(mg p.1=some v\/(mg p.1=none/\mb p.1=some v))/\R2 h p.2 v
 fn:∀i,fns.contains i=true->∃fd,FnR h (fa i) (st i) fd
 fe:∃fd,FnR h 36 (mt 6 0) fd
 fe2:∀p∈af4,∃fd,FnR h (fm p.1 p.2.1) (mt p.1 p.2.1) fd
 bcode:mg "BadCode"=some (.ref (fa 7))
 brow:mg "BadRow"=some (.ref (fa 8))
theorem Y1.keeps {h h':Heap} {mg mb:Str->Option Value} {K:Frag} (y:Y1 h mg mb K) (k:∀b o,h.get? b=some o->h'.get? b=some o):Y1 h' mg mb K:=
 ⟨y.g.keeps k,y.b.keeps k,y.sysm.imp λU e=>k _ _ e,λa o e=>k _ _ (y.X a o e),y.k,λi p e=>(y.gv i p e).imp λU q=>⟨q.1,Rt.to k (Rt.to k λU U e=>e) _ _ q.2⟩,
  λi e=>(y.fn i e).imp λU q=>FnR.keeps k q,y.fe.imp λU q=>FnR.keeps k q,λp e=>(y.fe2 p e).imp λU q=>FnR.keeps k q,y.bcode,y.brow⟩
theorem bL7 {d:Data} {p:Array Value×Nat} (e:bt0 d=some p):d=.seq p.1 p.2:=by
 cases d<;>first | (cases e;rfl) | exact nomatch e
theorem cB3 {d:Data} {f:FuncData} (e:cp6 d=some f):d=.func f:=by
 cases d<;>first | (cases e;rfl) | exact nomatch e
theorem cn1 {d:Data} {c:ClassData} (e:bZ2 d=some c):d=.cls c:=by
 cases d<;>first | (cases e;rfl) | exact nomatch e
theorem cn2 {h:Heap} {v:Value} (e:cp8 h v=true):v=.none\/∃T o items n,v=.ref T/\h.get? T=some o/\o.data=.seq items n:=by
 cases v<;>first | exact .inl rfl | exact absurd (show false=true from e) cV7 | skip
 exact(di3.mp e).elim λp e=>(dd1.mp e).elim λo e=>.inr ⟨_,o,_,_,rfl,e.1,bL7 e.2⟩
theorem bc7 {h:Heap} {a:Addr} {s:Stmt} (e:fnV h a=fnE s):∃fd,FnR h a s fd:=
 (cY2.mp e).elim λfd e=>(dd1.mp e.1).elim λo q=>
  ⟨fd,⟨o,q.1,cB3 q.2⟩,congrArg (·.1) e.2,congrArg (·.2.1) e.2,congrArg (·.2.2.1) e.2,congrArg (·.2.2.2.1) e.2,congrArg (·.2.2.2.2.1) e.2,congrArg (·.2.2.2.2.2.1) e.2,
   .of_ok (congrArg (·.2.2.2.2.2.2.1) e.2),cn2 (congrArg (·.2.2.2.2.2.2.2) e.2)⟩
theorem cn3 {o:Obj} {l:List Value} (e:bt1 o=some l):∃vs n,o={cls:=.type "tuple",data:=.seq vs n}/\vs.toList=l:=by
 obtain⟨c,d,dt,sl⟩:=o
 unfold bt1 at e
 by_cases h:c=.type "tuple"/\d=none/\sl=#[]
 ·rw[if_pos h] at e
  rcases h with⟨rfl,rfl,rfl⟩
  exact(cY2.mp e).elim λp e=>⟨p.1,p.2,congrArg (λd=>({cls:=.type "tuple",data:=d}:Obj)) (bL7 e.1),e.2⟩
 ·rw[if_neg h] at e;cases e
theorem cn4 {R:V->Value->Prop} {f:Value->V} (k:∀v,R (f v) v):∀vs,Rl R (vs.map f) vs:=by
 intro vs
 induction vs with
 | nil=>rfl
 | cons v vs ih=>exact⟨v,vs,rfl,k v,ih⟩
theorem ce3 {h:Heap} {R:V->Value->Prop} {f:Value->V} (k:∀v,R (f v) v) (v:Value):Rt h R (rdT f h v) v:=by
 cases v with
 | ref a=>
  show Rt h R (match (h.get? a).bind bt1 with | some l=>.tup (l.map f) | none=>f (.ref a)) _
  cases e:(h.get? a).bind bt1 with
  | none=>exact .leaf _ _ (k _)
  | some l=>exact(dd1.mp e).elim λo e=>(cn3 e.2).elim λvs q=>q.elim λn q=>.tup _ _ _ _ (q.1▸e.1) (q.2▸cn4 k _)
 | _=>exact .leaf _ _ (k _)
theorem bc8 {α β:Type} {f g:α->β} {l:List α} (e:l.map f=l.map g):∀x∈l,f x=g x:=List.map_inj_left.mp e
theorem cn5 {l:List (Option Value)} {k:Option Value} (e:sl4 l=some k):∃a b c d f,l=[a,b,c,d,k,f]:=by
 rcases l with _ | ⟨a,_ | ⟨b,_ | ⟨c,_ | ⟨d,_ | ⟨x,_ | ⟨f,_ | ⟨_,_⟩⟩⟩⟩⟩⟩⟩<;>first | (cases (show(none:Option (Option Value))=some _ from e)) | (cases e;exact⟨_,_,_,_,_,rfl⟩)
theorem cn6 {K:Frag} {C:Addr} {o:Obj} {cd:ClassData} (h:K.lookup C=some o) (d:o.data=.cls cd):clsIn K C=some cd:=by
 obtain⟨a,b,c,f⟩:=o
 cases d
 unfold clsIn;rw[h]
theorem cn7 {o:Obj} {cd:ClassData} {C:Addr} {bm:List Value} {k0 k1 k2 k3 k5:Option Value} {n:String} (h1:o.data=.cls cd) (h2:o.cls=.type "type") (h3:cd.mro=.ref C::bm) (h4:cd.hasDel=false) (h5:o.slots.toList=[k0,k1,k2,k3,some (.builtin n),k5]):
  o=excClassObj cd.name cd.qualname C cd.ns cd.bases bm cd.hasDict cd.slotNames cd.subclasses cd.abstract cd.collection o.dict k0 k1 k2 k3 k5 n:=by
 obtain⟨oc,od,dt,⟨sl⟩⟩:=o
 cases h1;cases h2;cases (show sl=_ from h5)
 obtain⟨a,b,m,d,e,f,g,h,i,j,del⟩:=cd
 cases h3;cases h4
 rfl
abbrev exM:List Value:=[.type "Exception",.type "BaseException",.type "object"]
theorem cn8 {K:Frag} {C:Addr} (e:ce6 K C=ce7 C) (hf:typeIn K (.ref 36)=some (.type "function")):T4 K C 36 "Exception" "Exception.__new__" "Exception.__init__" exM/\Z0 K C/\keepIn K (.ref C)=true:=
 (dd1.mp (congrArg (·.1) e)).elim λ(o:Obj) q=>(cY2.mp q.2).elim λ(cd:ClassData) p=>
  have m:cd.mro=.ref C::.ref 39::exM:=congrArg (·.2.1) p.2
  have d:=cn1 p.1
  ⟨⟨F.excBase_Exception,(cn5 (congrArg (·.2.2.2.2) p.2)).elim λk0 h=>h.elim λk1 h=>h.elim λk2 h=>h.elim λk3 h=>h.elim λk5 h=>⟨_,_,_,_,.ref 39::exM,_,_,_,_,_,_,_,_,_,_,_,q.1.trans (congrArg some (cn7 d (congrArg (·.1) p.2) m (congrArg (·.2.2.1) p.2) h)),by decide +kernel,by decide +kernel,by decide +kernel,by decide +kernel⟩,congrArg (·.2.1) e,hf⟩,
  ⟨congrArg (·.2.2.1) e,⟨cd,cn6 q.1 d,congrArg (·.2.2.2.1) p.2,by rw[m,dc6];exact Bool.or_eq_true_iff.mpr (.inr (by decide +kernel)),by rw[m];rfl,λself=>by rw[m];exact(refuseLoop_ref _ _ _ _).trans ((refuseLoop_ref _ _ _ _).trans (F.store_Exception.passes self))⟩,
   congrArg (·.2.2.2.1) e,congrArg (·.2.2.2.2.1) e,congrArg (·.2.2.2.2.2.1) e,congrArg (·.2.2.2.2.2.2.1) e⟩,congrArg (·.2.2.2.2.2.2.2) e⟩
theorem bY5 (h:Heap):(af5 h).In h:=by
 unfold af5
 generalize ([36,38,39,51,52,63,64,228,235,242,247,256,257,289,296,303,310,312,313]:List Nat)=l
 induction l with
 | nil=>intro a o e;cases e
 | cons x l ih=>
  intro a o e
  rw[cZ7] at e
  cases hx:h.get? x with
  | none=>rw[hx] at e;exact ih a o e
  | some q=>
   rw[hx] at e
   rw[Option.map_some] at e
   rw[df4] at e
   by_cases ha:a=x
   ·subst ha;rw[beq_self_eq_true] at e;exact hx.trans e
   ·rw[beq_eq_false_iff_ne.mpr ha] at e;exact ih a o e
theorem cB4 {h:Heap} (e:bt2 h=aI1):KF (af5 h):=by
 have m2:=bc8 (f:=λi=>cq0 (af5 h) (fa0 i)) (g:=λ_:Nat=>cq1) (l:=[39,43]) (congrArg (·.2.2.1) e)
 have m3:=bc8 (f:=λi=>ce6 (af5 h) (fa0 i)) (g:=λi=>ce7 (fa0 i)) (l:=[7,8]) (congrArg (·.2.2.2.1) e)
 have ex:=λi (hi:i∈[7,8])=>cn8 (m3 i hi) (congrArg (·.2.2.2.2.1) e)
 rw[<-au5] at ex m2
 have a7:∀i,i=7\/i=8->i∈[7,8]:=λi h=>h.elim (λq=>q▸.head _) λq=>q▸.tail _ (.head _)
 refine⟨λi hi=>⟨_,_,_,_,(ex i (a7 i hi)).1⟩,λi hi=>(ex i (a7 i hi)).2,λi hi=>?_,λp hp=>?_,λp hp=>?_⟩
 ·have q:=m2 i (hi.elim (λq=>q▸.head _) λq=>q▸.tail _ (.head _))
  exact⟨⟨congrArg (·.1) q,congrArg (·.2.1) q,congrArg (·.2.2.1) q,cY2.mp (congrArg (·.2.2.2.1) q),congrArg (·.2.2.2.2.1) q⟩,congrArg (·.2.2.2.2.2.1) q,congrArg (·.2.2.2.2.2.2) q⟩
 ·rw[au5,ce2]
  exact Prod.mk.inj (bc8 (f:=cq2 (af5 h)) (g:=cq3) (l:=af4) (congrArg (·.2.2.2.2.2.1) e) p hp)
 ·rw[au5];exact bc8 (f:=λp=>findIn (af5 h) (.ref (fa0 p.1)) p.2) (g:=λU=>some (none:Option Value)) (l:=aT9) (congrArg (·.2.2.2.2.2.2.1) e) p hp
theorem cB5 {h:Heap} (c:bt2 h=aI1) (f:bM9 h=bd3):Y1 h (h.nsMap mainGlobals) (h.nsMap builtinsNs) (af5 h):=by
 have b:=cX6.mp (congrArg (·.1) c)
 have b1:=cX6.mp b.1
 refine⟨.of_isNs b1.1,.of_isNs b1.2,di3.mp b.2,bY5 h,cB4 c,λk p e=>?_,λi hi=>au5▸bc7 (bc8 (f:=λi=>fnV h (fa0 i)) (g:=λi=>fnE (st i)) (l:=fns) (congrArg (·.2.1) f) i (dc0.mp hi)),bc7 (congrArg (·.1) f),
  λp hp=>ce2▸bc7 (bc8 (f:=λp=>fnV h (fm0 p.1 p.2.1)) (g:=λp=>fnE (mt p.1 p.2.1)) (l:=af4) (congrArg (·.2.2) f) p hp),au5▸congrArg (·.2.2.2.2.2.2.2.1) c,au5▸congrArg (·.2.2.2.2.2.2.2.2) c⟩
 have e:=cW7 e
 unfold au9 at e
 rw[aB8,au5] at e
 obtain⟨v,h1,h2⟩:=cY2.mp (bc8 (f:=cp9 h) (g:=λp=>some p.2) (l:=bd1 1114111 fa0) (congrArg (·.2.1) c) p e)
 refine⟨v,?_,h2▸ce3 (ce3 λU=>rfl) v⟩
 cases q:h.nsMap mainGlobals p.1 with
 | some u=>rw[q] at h1;exact .inl h1
 | none=>rw[q] at h1;exact .inr ⟨rfl,h1⟩
end
section
theorem bL8 {p q:Program} {loose:List Str} {Xt:Shared->Bool} {α:Type} {Yf:Shared->α} {Ya:World->α} {N:Nat} {g0:Bool} (e:opening p=plainProg p.main.scope.names) (hN:Nat.ble 600 N=true) (f:∀s,fenceModules? p s=some s)
  (h:∀(w:World) (os:OsState),(topFrom treeTable p w N ⟨boot_heap w.params,Array.mk [],boot_drawn,boot_toks,os⟩).map (λs=>(openSeen q loose (importedModules p.main.body) Xt g0 s,Yf s))=some (openGood q loose,Ya w)):LeftO p q loose Xt Yf Ya N g0:=λw=>by
 obtain⟨⟨_,_,_,_,os⟩,a,b⟩:=cY2.mp (boot_open e hN f w)
 cases b
 unfold openEnds
 rw[a]
 exact h w os
theorem bc9 {tb:String->Option Builtin} {p:Program} {w:World} {N:Nat} {s₀ s:Shared} (h0:(s₀.heap.isNs mainGlobals&&s₀.gens.size == 0)=true)
  (e:topRun tb p w s₀.heap.objs.size (s₀.heap.nsMap mainGlobals "__annotations__") N s₀ (topStub p)=some s) (h1:(staticsOk (importedModules p.main.body) s₀.heap s.heap&&namesBound p s.heap&&gensDone s&&laidKept s₀.heap s.heap)=true):topFrom tb p w N s₀=some s:=by
 unfold topFrom
 rw[h0]
 dsimp only
 rw[e]
 show(match _ with | true=>some s | false=>none)=some s
 rw[h1]
theorem bY6 (w:World):((boot_heap w.params).isNs mainGlobals&&(Array.mk ([]:List GenState)).size == 0)=true:=by kernel_rfl
theorem bi5 {α β:Type} {o:Option α} {s:α} {f:α->β} {b:β} (e:o=some s) (h:o.map f=some b):f s=b:=by subst e;exact Option.some.inj h
theorem cB6:LeftO Pr q0 lo (λU=>true) (λs=>(bt2 s.heap,bM9 s.heap)) (λU=>(aI1,bd3)) 3200:=bL8 opn rfl fnc λw os=>by
 obtain⟨s,e,h⟩:=cY2.mp (cq5 w os)
 obtain⟨h1,h2⟩:=Prod.mk.inj h
 have hc:=bi5 e (cq6 w os)
 have hf:=bi5 e (cq7 w os)
 rw[bc9 (s₀:=⟨boot_heap w.params,Array.mk [],boot_drawn,boot_toks,os⟩) (bY6 w) e h1]
 exact congrArg some (Prod.ext h2 (Prod.ext hc hf))
end
section
theorem bL9 {ns:List Str}:∀{vs:List Value},vs.length=ns.length->∀n∈ns,((ns.zip vs).lookup n).isNone=false:=by
 induction ns with
 | nil=>intro _ _ n h;exact absurd h cY8
 | cons m ns ih=>
  intro vs e n h
  cases vs with
  | nil=>cases e
  | cons v vs=>
   rw[List.zip_cons_cons,df4]
   by_cases q:n=m
   ·subst q;rw[beq_self_eq_true];rfl
   ·rw[beq_eq_false_iff_ne.mpr q];exact ih (Nat.succ.inj e) n ((cW1.mp h).resolve_left q)
theorem bM0 {ns:List Str}:∀{vs:List Value},ns.Nodup->vs.length=ns.length->ns.filterMap (λn=>((ns.zip vs).lookup n).map (n,·))=ns.zip vs:=by
 induction ns with
 | nil=>intro _ _ _;rfl
 | cons m ns ih=>
  intro vs d e
  cases vs with
  | nil=>cases e
  | cons v vs=>
   rcases cY9.mp d with⟨d1,d2⟩
   rw[List.zip_cons_cons,cZ7,df4,beq_self_eq_true]
   refine congrArg ((m,v)::·) (Eq.trans ?_ (ih d2 (Nat.succ.inj e)))
   clear ih e d d2
   generalize ns.zip vs=z
   induction ns with
   | nil=>rfl
   | cons x ns ih=>
    rw[cZ7,cZ7,df4,beq_eq_false_iff_ne.mpr (λq:x=m=>d1 (by subst q;exact List.mem_cons_self)),ih λh=>d1 (List.mem_cons_of_mem _ h)]
theorem bM1:∀l:List (Str×Value),(∀x∈l,(s.lookup x.1).isNone=false)->(forIn l s λx r=>if(r.lookup x.1).isNone=true then(pure (ForInStep.yield (r++[(x.1,x.2)])):Sem _) else pure (ForInStep.yield r))=pure s:=by
 intro l
 induction l with
 | nil=>exactλU=>rfl
 | cons x l ih=>
  intro h
  rw[List.forIn_cons,h x List.mem_cons_self]
  exact ih λy hy=>h y (List.mem_cons_of_mem _ hy)
theorem bM2 {nm q:Str} {as:List Arg} {kd:List (Option Expr)} {ds:List Expr} {b:FuncBody} {sc:Scope} {gl:Addr} {cl:List (Str×Addr)} {dv kv doc pm:Value} {an:Option Addr} {cd ct:Value} {bl:Addr} {vs:List Value} (hn:(as.map (·.arg)).Nodup) (hl:vs.length=(as.map (·.arg)).length):
  ∃k,bindArgs ⟨nm,q,⟨[],as,none,[],kd,none,ds⟩,b,sc,gl,cl,dv,kv,doc,pm,an,cd,ct,bl⟩ ⟨vs,[]⟩=seqItems? dv >>= k/\∀d,k d=pure ((as.map (·.arg)).zip vs):=by
 refine⟨_,rfl,λd=>?_⟩
 have lz:=bL9 hl
 generalize as.map (·.arg)=ns at*
 refine(if_neg (by show¬(decide (ns.length<vs.length)&&true)=true;rw[hl,decide_eq_false (de6 _)];exact cV7)).trans ?_
 refine(if_neg (by rw[List.filter_eq_nil_iff.mpr λn h=>by show¬(List.lookup n (ns.zip vs)).isNone=true;rw[lz n (db5 h)];exact cV7];exact cV7)).trans ?_
 refine(congrArg (· >>= _) (bM1 _ λx h=>lz _ (db6 (do0 h).1))).trans ?_
 exact congrArg (pure:List (Str×Value)->Sem _) ((congrArg (List.filterMap _) (cW6 _)).trans (bM0 hn hl))
theorem cn9 (x:V) (v:Value) (e:rdA v=x):VR h (λU=>none) x v:=by
 subst e
 cases v<;>first | exact⟨_,rfl⟩ | rfl
theorem cB7 (k:∀x v,R x v->VR h (λU=>none) x v):∀(xs:List V) (vs:List Value),Rl R xs vs->q9 h (λU=>none) xs vs:=by
 intro xs
 induction xs with
 | nil=>exactλU e=>e
 | cons x xs ih=>exactλvs e=>e.imp λv e=>e.imp λus e=>⟨e.1,k _ _ e.2.1,ih _ e.2.2⟩
theorem ce4 {h:Heap} {R:V->Value->Prop} (k:∀x v,R x v->VR h (λU=>none) x v) (x:V) (v:Value) (e:Rt h R x v):VR h (λU=>none) x v:=
 e.rec (λU U r=>k _ _ r) λU U U U e r=>.tup ⟨_,e⟩ rfl (cB7 k _ _ r)
inductive bM3 (s:Stmt):Prop
 | mk (as:List Arg) (kd:List (Option Expr)) (ds:List Expr) (h1:ai7 s=⟨[],as,none,[],kd,none,ds⟩) (h2:(as.map (·.arg)).Nodup) (h3:(A8 s).isCoroutine=false) (h4:(A8 s).isGenerator=false) (h5:(A8 s).kind=.function)
noncomputable def bd0 (s:Stmt):Bool:=(ai7 s).posonlyargs.isEmpty&&((ai7 s).kwonlyargs.isEmpty&&((ai7 s).vararg.isNone&&((ai7 s).kwarg.isNone&&(decide ((G8 s).Nodup)&&(!(A8 s).isCoroutine&&(!(A8 s).isGenerator&&decide ((A8 s).kind=.function)))))))
theorem co0 {p:Arguments} (h1:p.posonlyargs.isEmpty=true) (h2:p.kwonlyargs.isEmpty=true) (h3:p.vararg.isNone=true) (h4:p.kwarg.isNone=true):p=⟨[],p.args,none,[],p.kw_defaults,none,p.defaults⟩:=by
 obtain⟨a,b,c,d,e,f,g⟩:=p
 cases dk0.mp h1
 cases dk0.mp h2
 cases di1.mp h3
 cases di1.mp h4
 rfl
theorem au6 (h:bd0 s=true):bM3 s:=
 have h:=cX6.mp h
 have a:=cX6.mp h.2
 have b:=cX6.mp a.2
 have c:=cX6.mp b.2
 have d:=cX6.mp c.2
 have e:=cX6.mp d.2
 have f:=cX6.mp e.2
 ⟨_,_,_,co0 h.1 a.1 b.1 c.1,of_decide_eq_true d.1,(da4 _).mp e.1,(da4 _).mp f.1,of_decide_eq_true f.2⟩
theorem aH5 (F:FnR G.base f s fd) (h:bM3 s):aD9 f s:=by
 obtain⟨as,kd,ds,h1,h2,h3,h4,h5⟩:=h
 refine⟨fd,⟨F.at_,F.bd,F.sc,F.glob,F.clo,F.blt,F.code,h3,h4,h5⟩,λs' vs hb hl=>?_⟩
 obtain⟨nm,q,p,b,sc,gl,cl,dv,kv,doc,pm,an,cd,ct,bl⟩:=fd
 cases (show p=_ from F.par.trans h1)
 unfold G8 at hl ⊢
 rw[h1] at hl ⊢
 obtain⟨k,e,hk⟩:=bM2 (dv:=dv) h2 hl
 rcases F.dfl with d | ⟨T,o,i,n,d,ho,hd⟩
 ·cases (show dv=_ from d)
  exact .of_eq (e.trans (hk none))
 ·exact .of_defaults d (hb _ _ ho) hd e (hk _)
theorem cB8 (W:Wd G K0):Ok where
 ok:=⟨W.g,W.b,W.nolimit,W.sysm⟩
 X:=W.X
 gv:=λk p e=>(W.gv k p e).imp λU q=>⟨q.1,ce4 (ce4 cn9) _ _ q.2⟩
 fn:=λi hi=>(W.fn i hi).elim λU F=>aH5 F (au6 (cX0.mp (show fns.all (λi=>bd0 (st i))=true by decide +kernel) i (dc0.mp hi)))
 bad:=λi hi=>(W.k.bad i hi).elim λB h=>h.elim λa h=>h.elim λb h=>h.elim λc h=>⟨36,B,a,b,c,h,W.fe.elim λU F=>aH5 F (au6 (by decide +kernel))⟩
 bset:=W.k.bset
 bcode:=W.bcode
 brow:=W.brow
 bne:=by unfold fa;decide
 ch:=(W.ch _).mpr rfl
 nch:=λh=>absurd ((W.ch _).mp h) (by unfold fa;decide)
 cls:=W.k.cls
 meth:=λp hp=>⟨(W.k.meth p hp).1,(W.k.meth p hp).2,(W.fe2 p hp).elim λU F=>aH5 F (au6 (cX0.mp (show af4.all (λp=>bd0 (mt p.1 p.2.1))=true by decide +kernel) p hp))⟩
 flds:=W.k.flds
theorem bY7:∀(is:List Int) (vs:List Value),al9 is vs->q9 h (λU=>none) (is.map .int) vs:=by
 intro is
 induction is with
 | nil=>intro vs e;cases e;exact .nil
 | cons i is ih=>rintro vs ⟨t,us,rfl,h⟩;exact .cons (.int _ _) (ih _ h)
theorem bY8 (W:Wd G K0):ao2 G:=by
 intro A s a vs is h1 h2 h3 h4 h5 h6 h7 h8 h9 h10
 have c:=cN5 (own:=λU=>none) (Q:=λv U=>v=.bool true) (EX:=λU U U=>False) (cB8 W) (V:=.lst (is.map .int)) .lst h10 λU=>rfl
 refine codeAny_mono (c [] (λU=>none) A (λU=>none) s [.ref a] h1 h2 h3 h4 (λU h=>nomatch h) (λU=>.inl rfl) ⟨h5,h6,λb o e=>h7▸e,λU U U=>rfl,(λa o e=>nomatch e),(λb a e=>nomatch e)⟩
  (.cons (.lst h8 rfl (bY7 _ _ h9)) .nil)) (B9.elim (λv s' y=>?_) λe s' y=>?_)
 ·obtain⟨V,o,m,rfl,d,r,R⟩:=y
  cases r
  exact⟨rfl,R.sr.gens,R.sr.os.trans h6.symm,λb o e=>R.sr.base b o (h7▸e)⟩
 ·obtain⟨C,t,o,m,tr,q,d,X,R⟩:=y;exact q.elim
theorem bs5 (p:GC×Frag) (w:Wd p.1 p.2):ao2 p.1:=bi6 bY8 p w
end
section
theorem bY9 {h:Heap} {a:Addr} {m m':Str->Option Value} (x:h.Ns a m) (y:h.Ns a m'):m=m':=by
 obtain⟨o,es,ep,e1,e2,-,e3⟩:=x
 obtain⟨o',es',ep',f1,f2,-,f3⟩:=y
 cases e1.symm.trans f1
 cases e2.symm.trans f2
 exact funext λn=>(e3 n).symm.trans (f3 n)
theorem bs6 {P:Params} {h:Heap} {v:Value} {xs:List WData} (x:Well P h v (.list xs)):∃a vs,v=.ref a/\h.get? a=some {cls:=.type "list",data:=.seq vs.toArray}/\WellAll P h vs xs:=by
 cases x with | list h1 h2=>exact⟨_,_,rfl,h1,h2⟩
theorem bM4 {P:Params} {h:Heap} {v:Value} {i:Int} (x:Well P h v (.int i)):∃t,v=.int i t:=by
 cases x with | int=>exact⟨_,rfl⟩
theorem aT5 {P:Params} (x:WellAll P h vs []):vs=[]:=by
 cases x with | nil=>rfl
theorem aB7 {P:Params} (x:WellAll P h vs (d::ds)):∃v us,vs=v::us/\Well P h v d/\WellAll P h us ds:=by
 cases x with | cons h1 h2=>exact⟨_,_,rfl,h1,h2⟩
theorem bZ0 {P:Params}:∀(ds:List WData) (vs:List Value),WShape.hasItems R ds .int=true->WellAll P h vs ds->∃is:List Int,is.length=ds.length/\al9 is vs:=by
 intro ds
 induction ds with
 | nil=>exactλvs U w=>⟨[],rfl,aT5 w⟩
 | cons d ds ih=>
  intro vs e w
  obtain⟨v,us,rfl,w1,w2⟩:=aB7 w
  have e:=cX6.mp e
  rcases hasW_int e.1 with⟨i,rfl⟩
  obtain⟨is,hl,hi⟩:=ih _ e.2 w2
  rcases bM4 w1 with⟨t,rfl⟩
  exact⟨i::is,congrArg (·+1) hl,t,us,rfl,hi⟩
theorem bZ1 (xs:List WData):PySem.Challenge.rw_nt0034_01.row.toRowW.claim.post [WData.list xs] (WData.bool true) [WData.list xs]=true:=by kernel_rfl
noncomputable def hb (b:Bool):Bool:=WTm.holds [] (.and (.not (.lit (.bool b))) (.lit (.bool true))) {args:=[]}
theorem co1 {R:WRecords} {ds:List WData} (e:(OpenLaw.pre PySem.Challenge.rw_nt0034_01).holds R {args:=[.list ds]}=true):ds.length<=1000:=by
 have q:(OpenLaw.pre PySem.Challenge.rw_nt0034_01).holds R {args:=[.list ds]}=hb (decide (((63:Nat):Int)<ds.length)):=by kernel_rfl
 have e:=q.symm.trans e
 by_cases h:((63:Nat):Int)<ds.length
 ·rw[decide_eq_true h] at e
  exact absurd ((show hb true=false by kernel_rfl).symm.trans e) cV7
 ·exact cV2 (da7.mp (dg5.mp h)) (by decide)
theorem cB9 {w:World} {s₁:Shared} {mg mb:Str->Option Value} {K:Frag} (Y:Y1 s₁.heap mg mb K) (hn:s₁.heap.NoLimit) (hg:s₁.gens=#[]) {a:Addr} (hmg:mg "law"=some (.ref a)) {xs:List WData} {vals:List Value} {R:WRecords} (p1:WShape.hasItems R xs .int=true) (p2:xs.length<=1000)
  (hwl:WellAll w.params s₁.heap vals [.list xs]):codeAny (model Pr w) callerA (.call (.ref a) ⟨vals,[]⟩) (λr s'=>r=.ok (.ret (.bool true))/\s'.gens=#[]/\s'.os=s₁.os/\∀b o,s₁.heap.get? b=some o->s'.heap.get? b=some o) s₁:=by
 obtain⟨v,us,rfl,w1,w2⟩:=aB7 hwl
 cases aT5 w2
 obtain⟨b,vs,rfl,hb,hx⟩:=bs6 w1
 obtain⟨is,hl,hi⟩:=bZ0 xs vs p1 hx
 obtain⟨v,h1,h2⟩:=Y.gv 66 _ rfl
 have h1:mg "law"=some v:=h1.elim id λq=>nomatch q.1.symm.trans hmg
 cases Option.some.inj (hmg.symm.trans h1)
 obtain⟨_,_,h3⟩ | h3:=h2
 obtain⟨_,_,h4⟩ | h4:=h3
 cases h4
 exact bs5 (⟨Pr,w,s₁.heap,s₁.os,mg,mb,λC=>C=fa 8⟩,K) ⟨Y.g,Y.b,hn,Y.sysm,Y.X,Y.k,Y.gv,Y.fn,Y.fe,Y.fe2,λU=>.rfl,Y.bcode,Y.brow⟩ callerA s₁ b vs.toArray is rfl rfl (by decide) (by decide) hg rfl rfl ⟨_,hb⟩ hi (hl▸p2)
theorem cC0 (d:DefRec) (kwd:List (Str×Expr)) (hd:d.name="law"):WalkO q0 lo (λU U=>True) (λU h=>∃mg mb K,Y1 h mg mb K) PySem.Challenge.rw_nt0034_01.row.toRowW d kwd λf vs=>PySem.call f vs:=by
 intro w s₀ s₁ mg mb GG Y a o pm cd doc dV kV ho hdd hcd hD hmg hg args vals as hpre hlay hrd hwl hlo
 obtain⟨mg',mb',K,Y⟩:=Y
 obtain rfl:=bY9 GG.T.g Y.g
 have p:=pre_splitW hpre
 obtain⟨d1,r,rfl,p3,p4⟩:=hasAllW_cons p.1
 cases hasAllW_nil p4
 rcases hasW_list p3 with⟨xs,rfl,p5⟩
 refine wpAny_call (codeAny_mono (cB9 Y GG.T.nolimit hg (hd▸hmg) p5 (co1 p.2) hwl) λr s' y=>?_)
 cases y.1
 exact⟨.inl ⟨_,.bool true,[],rfl,λU=>rfl,.bool true,bZ1 xs,λU=>⟨.nil,λU h=>absurd h cY8⟩⟩,.of_keep y.2.2.2,y.2.2.1,.of_eq y.2.1⟩
theorem cN7:PySem.Challenge.rw_nt0034_01.Holds:=by
 refine holds_law cq4 λsaid=>?_
 refine holds_open (q:=q0) (loose:=lo) (Xt:=λU=>true) (XP:=λU U=>True) (Yf:=λs=>(bt2 s.heap,bM9 s.heap)) (Ya:=λU=>(aI1,bd3)) (YP:=λU h=>∃mg mb K,Y1 h mg mb K) (N:=3200) cB6
  (λw s e=>⟨_,_,_,cB5 (congrArg Prod.fst e) (congrArg Prod.snd e)⟩) (λw h h' ⟨mg,mb,K,y⟩ k=>⟨mg,mb,K,y.keeps k⟩) (λU U=>trivial) (λU U U U U=>trivial) (by rfl) (by rfl) (by rfl) (λs U=>recFacts_of rfl) rfl said (by decide +kernel) ⟨rfl,rfl,rfl,rfl,rfl,by decide +kernel⟩ ⟨[.list [.int 3,.int 1]],by decide +kernel,by decide +kernel⟩ (cC0 _ _ rfl)
end
end
end Mine
theorem PySem.Challenge.cw_nt0034_01_holds : PySem.Challenge.rw_nt0034_01.Holds :=
 Mine.cN7
