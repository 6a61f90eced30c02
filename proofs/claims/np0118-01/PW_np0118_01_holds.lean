import PyProof.Rows.All
import Wide.All
import OpenK.AllK
import Wide.FinOn
import Lean
import PySem.Challenge.RW_np0118_01
set_option Elab.async false
set_option maxRecDepth 100000
set_option linter.unusedVariables false
namespace KD
open PySem PySem.W PyProof.Rows
set_option maxHeartbeats 8000000
local macro_rules | `(tactic| o_head $H) => `(tactic| assumption)
theorem k(hyp:PySem.Challenge.rw_np0118_01.row.Holds):PySem.Challenge.rw_np0118_01.row.Holds:=by k_head
end KD
open PySem PySem.W PySem.Calls PyProof.Rows
namespace aV
theorem aF{n:Nat}:n≤n:=Nat.le_refl n
abbrev bE:=@if_pos
abbrev aR:=@if_neg
abbrev Br:=@List.find?_cons_of_pos
abbrev fX:=@List.nodup_cons
abbrev hZ:=@List.mem_of_getElem?
abbrev ql:=@List.find?_cons_of_neg
abbrev G4:=@List.any_cons
abbrev mu:=@Heap.get?_push_of_some
abbrev xJ:=@Heap.size_push
abbrev eZ:=@Heap.lt_size
abbrev pV:=@Nat.not_lt
abbrev fq:=@Nat.ne_of_lt
abbrev dG:=@Nat.lt_of_lt_of_le
abbrev q9:=@Nat.ne_of_gt
abbrev C3:=@Nat.lt_of_le_of_lt
abbrev g6:=@Nat.zero_le
abbrev bS:=@List.mem_cons
abbrev eF:=@List.mem_map
abbrev iE:=@congrArg
abbrev zD:=@List.mem_filterMap
abbrev gZ:=@Option.some.inj
abbrev gY:=@Heap.SameBut.update
abbrev i9:=@Heap.get?_update_self
abbrev JH:=@Array.getElem?_setIfInBounds_ne
abbrev aM:=@wpAny_bind
abbrev zC:=@wpAny_newObj_type
abbrev kK:=@wpAny_setField
abbrev kz:=@Heap.get?_update_other
abbrev mM:=@Heap.get?_push_size
abbrev fh:=@wpAny_field
abbrev pU:=@Array.getElem?_eq_some_iff
abbrev q8:=@Obj.isFreed_of_fields
abbrev i0:=@Obj.data_mapFields
abbrev bO:=@wpAny_pure
abbrev gX:=@Nat.le_trans
abbrev dU:=@Nat.le_succ
abbrev dD:=@wpAny_mono
abbrev ku:=@wpAny_holding
abbrev zB:=@wpAny_standAt
abbrev q7:=@Nat.lt_succ_self
abbrev v7:=@codeAny_mono
abbrev fj:=@List.map_cons
abbrev eP:=@List.lookup_cons
abbrev dw:=@beq_eq_false_iff_ne
abbrev fR:=@beq_self_eq_true
abbrev dJ:=@Bool.and_eq_true
abbrev v5:=@List.isEmpty_iff
abbrev dE:=@beq_iff_eq
abbrev jD:=@decide_eq_true_eq
abbrev q6:=@Bool.not_eq_true'
abbrev dC:=@List.all_eq_true
abbrev kq:=@Bool.or_eq_true
abbrev v3:=@List.map_map
abbrev C0:=@List.mem_of_find?_eq_some
abbrev vZ:=@plainGet_of
abbrev zA:=@Array.find?_toList
abbrev qZ:=@List.any_eq_true
abbrev fM:=@List.contains_iff_mem
abbrev tw:=@List.mem_of_mem_take
abbrev zz:=@looks_findIn
abbrev lr:=@List.getElem?_eq_getElem
abbrev qY:=@List.length_take
abbrev cQ:=@List.getElem?_eq_some_iff
abbrev CZ:=@Array.any_toList
abbrev oj:=@Bool.not_eq_true
abbrev vY:=@sizeLine_eq
abbrev qX:=@Nat.le_add_right
abbrev vX:=@call_meets
abbrev mL:=@List.length_append
abbrev zy:=@Array.getElem?_eq_getElem
abbrev CY:=@Array.toList_eraseIdx
abbrev vW:=@Nat.not_le_of_lt
abbrev dH:=@List.length_cons
abbrev oi:=@Array.getElem?_toList
abbrev qW:=@List.cons.inj
abbrev tv:=@if_false
abbrev fL:=@List.getElem?_map
abbrev ey:=@Option.map_eq_some_iff
abbrev mK:=@Option.isSome_iff_exists
abbrev CX:=@wpAny_storeName_local
abbrev mJ:=@Option.some.injEq
abbrev pT:=@Value.int.injEq
abbrev tr:=@Value.str.injEq
abbrev eV:=@Bool.false_ne_true
abbrev qV:=@wpAny_load
abbrev qU:=@Bool.or_eq_false_iff
abbrev tq:=@wpAny_rule
abbrev tn:=@Bool.false_eq_true
abbrev vV:=@wpAny_throw
abbrev vU:=@wpAny_attempt
abbrev vT:=@wpAny_callSpecial?_slot
abbrev vS:=@wpAny_call_entry
abbrev CW:=@Int.toNat_natCast
abbrev JG:=@F.slot_str_ascii_iterator_next
abbrev dR:=@List.mem_append
abbrev gW:=@List.map_append
abbrev lq:=@List.nodup_append
abbrev pS:=@List.length_range
abbrev CV:=@Array.getElem?_eq_none
abbrev dO:=@List.length_map
abbrev uB:=@List.forIn_cons
abbrev yu:=@List.map_congr_left
abbrev dQ:=@List.mem_singleton
abbrev ny:=@Heap.dictOf_iff
abbrev lH:=@Ne.symm
abbrev yt:=@builtinLookup_eq_fast
abbrev yr:=@PySem.F.excBase_Exception
abbrev EA:=@Array.findIdx?_eq_some_iff_getElem
abbrev uA:=@wpAny_loadPart_at
abbrev rC:=@List.length_nil
abbrev uz:=@List.contains_cons
abbrev lG:=@List.of_mem_zip
abbrev rz:=@List.getElem_mem
abbrev iL:=@List.take_of_length_le
abbrev uy:=@wpAny_operateT
abbrev yq:=@wpAny_letTemporaryGo
abbrev jq:=@List.length_drop
abbrev pE:=@List.forIn_nil
abbrev ux:=@List.zip_nil_left
abbrev yp:=@List.isEmpty_nil
abbrev lF:=@List.not_mem_nil
abbrev nv:=@Prod.mk.injEq
abbrev jY:=@Bool.and_eq_true_iff
abbrev yo:=@PySem.F.plainAttrs_list
abbrev jX:=@List.mapM_cons
abbrev yn:=@Int.eq_ofNat_of_zero_le
abbrev ym:=@List.map_eq_cons_iff
abbrev uw:=@List.all_cons
abbrev uv:=@List.any_eq_false
abbrev jo:=@List.drop_eq_getElem_cons
abbrev nq:=@bne_iff_ne
abbrev iK:=@List.zip_cons_cons
abbrev yl:=@List.zipWith_cons_cons
abbrev pD:=@stored_length_le
abbrev pC:=@Nat.le_of_ble_eq_true
abbrev yk:=@List.filterMap_cons
abbrev ry:=@List.map_nil
abbrev lE:=@List.nil_append
abbrev gE:=@List.append_nil
abbrev nk:=@List.drop_length
abbrev rv:=@Option.isNone_iff_eq_none
abbrev yj:=@List.map_fst_zip
abbrev pA:=@List.nodup_nil
abbrev uu:=@List.zip_append
abbrev ur:=@of_decide_eq_true
abbrev yi:=@PyProof.noPylong_of_log2
abbrev jm:=@List.take_succ_eq_append_getElem
abbrev nj:=@Int.fmod_eq_emod_of_nonneg
abbrev uq:=@List.cons.injEq
abbrev yh:=@List.getElem?_of_mem
abbrev nh:=@List.getElem?_concat_length
abbrev ru:=@List.getElem?_append_left
abbrev ng:=@List.length_reverse
abbrev jl:=@Bool.eq_false_iff
abbrev yg:=@Nat.ble_eq_true_of_le
abbrev gC:=@List.append_assoc
abbrev pz:=@List.foldl_cons
abbrev jW:=@List.getElem?_inj
abbrev yf:=@List.getD_eq_getElem?_getD
abbrev ye:=@List.mem_append_left
abbrev rq:=@Int.emod_nonneg
abbrev ro:=@Int.emod_lt_of_pos
abbrev uo:=@List.prefix_refl
abbrev jV:=@List.getElem?_take_of_lt
abbrev aB:=List Value
abbrev bP:=Option Addr
abbrev bQ:=List Int
abbrev gL:=Str→Option Value
abbrev bW:=List Str
abbrev cO:=List PyData
abbrev aC:=Value
abbrev aK:=Shared
abbrev fu:=List Nat
def er:aC→aC
 | .int i _=>.int i 0
 | .str x _=>.str x 0
 | .float b _=>.float b 0
 | .bytes b _=>.bytes b 0
 |v=>v
inductive AO where
 |inst (t:Nat) (C:Addr) (vs:aB)
 |exc (t:Nat) (k:Nat) (vs:aB)
 |list (t:Nat) (xs:aB)
 |tup (t:Nat) (xs:aB)
 |aX (t:Nat) (es:List (Int×aC))
 |bR (t:Nat) (es:List (Str×aC))
 |cell (t:Nat) (v:aC)
 |raw (t:Nat) (o:Obj)
def AO.tag:AO→Nat
 | .inst t _ _=>t
 | .exc t _ _=>t
 | .list t _=>t
 | .tup t _=>t
 | .aX t _=>t
 | .bR t _=>t
 | .cell t _=>t
 | .raw t _=>t
abbrev AH:=Addr→Option AO
def upd(H:AH)(a:Addr)(o:AO):AH:=fun b=>if b=a then some o else H b
theorem aA{H:AH}{a:Addr}{o:AO}:upd H a o a=some o:=bE rfl
theorem aT{H:AH}{a b:Addr}{o:AO}(h:b≠a):upd H a o b=H b:=aR h
def names(C:Addr):bW:=match C with
 |38=>["symbol","data"]
 |92=>["number","name"]
 |119=>["car","cdr"]
 |141=>["codes","spans"]
 |183=>["number","name","least","most","deed"]
 |343=>["functions","plists"]
 |418=>["name","least","most","work"]
 |458=>["name","least","most","work"]
 |580=>["defaults","automatic","permanent"]
 |636=>["values"]
 |671=>["sort","own","symbol","value"]
 |734=>["world","rows"]
 |817=>["form"]
 |869=>["head","forms","found","is_waiting"]
 |895=>["forms","place"]
 |928=>["forms","depth","place"]
 |1132=>["world","limit","frames","floor","value","steps","stack"]
 |1435=>["pairs","body","values","is_waiting"]
 |1573=>["body","depth","tag"]
 |1613=>["cleanup","depth","is_cleaning","kept","leaving"]
 |1653=>["variable","handlers","success","depth"]
 |1686=>["variable","forms","value"]
 |1921=>["rows","names"]
 |1970=>["obarray","cells","variables","bare","current","machine","last_marker"]
 |_=>[]
def ij(P:Params):List DictEntry→bW→aB→Prop
 |[],_,[]=>True
 |e::es,n::ns,v::vs=>(∃t,e.key=.str n t)∧e.hash=PyData.keyHash P n∧er e.val=v∧ij P es ns vs
 |_,_,_=>False
theorem ij.get{P:Params}:∀{es:List DictEntry} {ns:bW} {vs:aB} {i:Nat} {n:Str} {v:aC},ij P es ns vs→ns.Nodup→ns[i]?=some n→vs[i]?=some v→∃v',getL n es=some (some v')∧er v'=v
 |[],_,[],_,_,_,_,_,_,h=>by simp at h
 |e::es,m::ns,u::vs,0,n,v,⟨⟨t,hk⟩,hh,hv,hr⟩,nd,h1,h2=>by
  simp at h1 h2;subst h1 h2
  refine⟨e.val,?_,hv⟩;unfold getL;rw[Br (by rw[hk];simp[Value.isStr])]
 |e::es,m::ns,u::vs,i+1,n,v,⟨⟨t,hk⟩,hh,hv,hr⟩,nd,h1,h2=>by
  simp at h1 h2
  have vA:=fX.mp nd;obtain⟨v',g,r⟩:=ij.get hr vA.2 h1 h2;have gz:(e.key.isStr n)=false:=by
   rw[hk];simp[Value.isStr];intro c;subst c;exact vA.1 (hZ h1)
  refine⟨v',?_,r⟩;unfold getL at g⊢;rw[ql (by rw[gz];simp)]
  cases hf:es.find? (·.key.isStr n) with
  |some x=>rw[hf] at g;exact g
  |none=>
   rw[hf] at g;dsimp only at g;split at g<;>cases g
theorem ij.miss{P:Params}:∀{es:List DictEntry} {ns:bW} {vs:aB} {n:Str},ij P es ns vs→n∉ns.take vs.length→getL n es=some none
 |[],_,[],_,_,_=>rfl
 |e::es,m::ns,u::vs,n,⟨⟨t,hk⟩,hh,hv,hr⟩,nm=>by
  simp at nm
  have ih:=ij.miss hr nm.2;have gz:(e.key.isStr n)=false:=by
   rw[hk];simp[Value.isStr];intro c;exact nm.1 c.symm
  unfold getL at ih⊢;rw[ql (by rw[gz];simp)]
  cases hf:es.find? (·.key.isStr n) with
  |some x=>rw[hf] at ih;simp at ih
  |none=>
   rw[hf] at ih;dsimp only at ih⊢;have Zk:e.refKey=false:=by unfold DictEntry.refKey;rw[hk]
   rw[G4,Zk,Bool.false_or];exact ih
theorem ij.put{P:Params}:∀{es:List DictEntry} {ns:bW} {vs:aB} {i:Nat} {n:Str} {v:aC} {t:Tok},ij P es ns vs→ns.Nodup→ns[i]?=some n→i≤vs.length→
  ij P (putL n (PyData.keyHash P n) (.str n t) v es) ns (if i < vs.length then vs.set i (er v) else vs++[er v])
 |[],m::ns,[],i,n,v,t,h,nd,h1,h2=>by
  have:i=0:=by simpa using h2
  subst this;simp at h1;subst h1
  simp[putL,ij]
 |[],[],[],i,n,v,t,h,nd,h1,h2=>by simp at h1
 |e::es,m::ns,u::vs,0,n,v,t,⟨⟨t',hk⟩,hh,hv,hr⟩,nd,h1,h2=>by
  simp at h1;subst h1
  have:e.key.isStr m=true:=by rw[hk];simp[Value.isStr]
  unfold putL;rw[bE this];exact⟨⟨t',hk⟩,hh,rfl,hr⟩
 |e::es,m::ns,u::vs,i+1,n,v,t,⟨⟨t',hk⟩,hh,hv,hr⟩,nd,h1,h2=>by
  simp at h1 h2
  have vA:=fX.mp nd;have ih:=ij.put (t:=t) (v:=v) hr vA.2 h1 h2;have gz:(e.key.isStr n)=false:=by
   rw[hk];simp[Value.isStr];intro c;subst c;exact vA.1 (hZ h1)
  unfold putL;rw[aR (by rw[gz];simp)]
  by_cases q:i < vs.length
  .rw[bE q] at ih
   rw[bE (by simpa using q)]
   exact⟨⟨t',hk⟩,hh,hv,ih⟩
  .rw[aR q] at ih
   rw[aR (by simpa using q)]
   exact⟨⟨t',hk⟩,hh,hv,ih⟩
abbrev pw:Program:=PySem.Challenge.pw_np0118_01
noncomputable abbrev KK:Params→Frag:=KD.k.heap_1
inductive Role where
 |free|base|frame|own|dict (a:Addr)|gr
deriving DecidableEq
abbrev Map:=List (Str×aC)
abbrev gp(x:Str)(v:aC):Str×aC:=(x,v)
def tz:List (Str×aC):=[gp "LispSignal" (Value.ref 38),gp "OutOfSteps" (Value.ref 58),gp "standard_conditions" (Value.ref 68),gp "conditions_of" (Value.ref 75),gp "Symbol" (Value.ref 92),gp "NIL" (Value.ref 98),gp "T" (Value.ref 101),gp "Cons" (Value.ref 119),gp "Text" (Value.ref 141),gp "Vector" (Value.ref 162),gp "Subr" (Value.ref 183),gp "Opaque" (Value.ref 218),gp "list_of" (Value.ref 230),gp "split_list" (Value.ref 237),gp "items_of" (Value.ref 244),gp "text_of" (Value.ref 249),gp "MOST_LINKS" (Value.int 100 531),gp "MOST_PARTS" (Value.int 100000 533),gp "is_keyword" (Value.ref 256),gp "is_constant" (Value.ref 263),gp "Cells" (Value.ref 343),gp "MANY" (Value.int (-1) 668),gp "count_fits" (Value.ref 354),gp "Function" (Value.ref 385),gp "Caller" (Value.ref 418),gp "Special" (Value.ref 458),gp "OPTIONAL" (Value.str "&optional" 821),gp "REST" (Value.str "&rest" 823),gp "LambdaList" (Value.ref 491),gp "bad_function" (Value.ref 502),gp "read_lambda_list" (Value.ref 507),gp "values_for" (Value.ref 514),gp "bind_parameters" (Value.ref 521),gp "VOID" (Value.none),gp "LOCAL" (Value.int 0 914),gp "DEFAULT" (Value.int 1 916),gp "Variables" (Value.ref 580),gp "Locals" (Value.ref 636),gp "value_in" (Value.ref 647),gp "set_in" (Value.ref 654),gp "Bound" (Value.ref 671),gp "bind" (Value.ref 682),gp "bind_variables" (Value.ref 682),gp "unbind" (Value.ref 689),gp "BindingStack" (Value.ref 734),gp "THROW" (Value.str "throw" 1208),gp "SIGNAL" (Value.str "signal" 1210),gp "Thrown" (Value.ref 755),gp "Frame" (Value.ref 789),gp "StartFrame" (Value.ref 817),gp "CallFrame" (Value.ref 843),gp "ArgumentsFrame" (Value.ref 869),gp "SequenceFrame" (Value.ref 895),gp "BodyFrame" (Value.ref 928),gp "ExpandFrame" (Value.ref 947),gp "begins_with" (Value.ref 956),gp "is_same" (Value.ref 963),gp "Machine" (Value.ref 1132),gp "need_symbol" (Value.ref 1143),gp "progn" (Value.ref 1150),gp "quote" (Value.ref 1157),gp "IfFrame" (Value.ref 1181),gp "if_form" (Value.ref 1190),gp "when_form" (Value.ref 1197),gp "unless_form" (Value.ref 1204),gp "CondFrame" (Value.ref 1228),gp "cond" (Value.ref 1237),gp "JoinFrame" (Value.ref 1261),gp "join" (Value.ref 1270),gp "and_form" (Value.ref 1277),gp "or_form" (Value.ref 1284),gp "WhileFrame" (Value.ref 1308),gp "while_form" (Value.ref 1317),gp "Prog1Frame" (Value.ref 1341),gp "prog1" (Value.ref 1350),gp "SetFrame" (Value.ref 1374),gp "set_default" (Value.ref 1383),gp "set_pairs" (Value.ref 1390),gp "setq" (Value.ref 1397),gp "setq_default" (Value.ref 1404),gp "read_bindings" (Value.ref 1411),gp "LetFrame" (Value.ref 1435),gp "let" (Value.ref 1444),gp "LetStarFrame" (Value.ref 1475),gp "let_star" (Value.ref 1484),gp "choosing_forms" (Value.ref 1489),gp "binding_forms" (Value.ref 1494),gp "CONDITIONS" (Value.str "error-conditions" 2220),gp "MESSAGE" (Value.str "error-message" 2222),gp "conditions" (Value.ref 1499),gp "define_error" (Value.ref 1504),gp "takes_name" (Value.ref 1511),gp "is_handled" (Value.ref 1516),gp "datum_of" (Value.ref 1523),gp "error_object" (Value.ref 1528),gp "data_of" (Value.ref 1535),gp "CatchFrame" (Value.ref 1573),gp "catch" (Value.ref 1582),gp "UnwindFrame" (Value.ref 1613),gp "unwind_protect" (Value.ref 1622),gp "HandlerFrame" (Value.ref 1653),gp "go_on_with" (Value.ref 1662),gp "CaughtFrame" (Value.ref 1686),gp "condition_case" (Value.ref 1695),gp "ignore_errors" (Value.ref 1702),gp "exit_forms" (Value.ref 1707),gp "funcall" (Value.ref 1714),gp "need_list" (Value.ref 1721),gp "apply_to" (Value.ref 1728),gp "form_value" (Value.ref 1735),gp "throw" (Value.ref 1742),gp "signal" (Value.ref 1749),gp "sequence_items" (Value.ref 1756),gp "MapFrame" (Value.ref 1780),gp "mapcar" (Value.ref 1789),gp "mapc" (Value.ref 1796),gp "ExpansionFrame" (Value.ref 1820),gp "begin_expansion" (Value.ref 1829),gp "macroexpand" (Value.ref 1836),gp "macroexpand_once" (Value.ref 1843),gp "calling_functions" (Value.ref 1848),gp "Obarray" (Value.ref 1921),gp "World" (Value.ref 1970),gp "_law_conditions" (Value.ref 1975),gp "_law_deck" (Value.ref 1980),gp "_law_draw" (Value.ref 1987),gp "_law_form" (Value.ref 1992),gp "_law_datum" (Value.ref 1997),gp "_law_takes" (Value.ref 2002),gp "_law_told" (Value.ref 2009),gp "_law_noter" (Value.ref 2016),gp "_law_begun" (Value.ref 2023),gp "law" (Value.ref 2030)]
def rJ:List (Str×aC):=[gp "len" (Value.builtin "len"),gp "isinstance" (Value.builtin "isinstance"),gp "abs" (Value.builtin "abs"),gp "sum" (Value.builtin "sum"),gp "any" (Value.builtin "any"),gp "ord" (Value.builtin "ord"),gp "range" (Value.type "range"),gp "tuple" (Value.type "tuple"),gp "int" (Value.type "int"),gp "str" (Value.type "str"),gp "list" (Value.type "list")]
structure aN where
 w:World
 base:Heap
 mg:gL
 mb:gL
 os:OsState
 X:(KK w.params).In base
 g:base.Ns mainGlobals mg
 b:base.Ns builtinsNs mb
 lim:base.NoLimit
 bi:∀x:Str,x≠"__name__"→mb x=bootBuiltins x
 sys:∃o,base.get? sysModules=some o
 bmain:∃bm o,mg "__builtins__"=some (.ref bm)∧bm≠builtinsNs∧base.get? bm=some o∧o.cls=.type "module"∧o.dict=some builtinsNs∧o.data=.plain
def WV(τ:Tok→Option Int):aC→Prop
 | .int i t=>t≠0∧τ t=some i
 |_=>True
def Cw(τ mW:Tok→Option Int):Prop:=∀t i,τ t=some i→mW t=some i
theorem Cw.refl{τ:Tok→Option Int}:Cw τ τ:=fun _ _ e=>e
theorem WV.le{τ mW:Tok→Option Int}{v:aC}(x:WV τ v)(h:Cw τ mW):WV mW v:=by
 cases v with
 |int i t=>exact⟨x.1,h _ _ x.2⟩
 |_=>exact trivial
def Lc(oD:Obj)(mA:gL)(vs:aB):Prop:=(∃es ep,oD.data=.dict es ep∧StrKeys es∧UniqKeys es∧∀name,nsFind es name=mA name)∧∀y,(mA y).map er=((names 38).zip vs).lookup y
def jC(w:World)(h:Heap)(ρ:Addr→Role)(τ:Tok→Option Int)(a:Addr):AO→Prop
 | .inst t C vs=>∃d es n,ρ a=(if t=0 then .base else .own)∧h.get? a=some (instObj C d)∧ρ d=(if t=0 then .base else .dict a)∧h.get? d=some (dictOf es n)∧ij w.params es (names C) vs∧∀e∈es,WV τ e.val
 | .exc t cl vs=>∃d oD mA fs sl,t≠0∧ρ a=.own∧h.get? a=some ⟨.ref 38,some d,.fields fs,sl⟩∧ρ d=.dict a∧h.get? d=some oD∧Lc oD mA vs∧(∀y u,mA y=some u→WV τ u)∧2 < fs.size∧(cl=0→fs[1]?=some .none)∧(cl≤1→fs[2]?=some .none)
 | .list t xs=>∃vs n,ρ a=(if t=0 then .base else .own)∧h.get? a=some ⟨.type "list",none,.seq vs n,#[]⟩∧vs.toList.map er=xs∧(∀v∈vs.toList,WV τ v)∧xs.length≤1000000
 | .tup t xs=>∃vs n,ρ a=(if t=0 then .base else .own)∧h.get? a=some ⟨.type "tuple",none,.seq vs n,#[]⟩∧vs.toList.map er=xs∧(∀v∈vs.toList,WV τ v)∧xs.length≤1000000
 | .aX t Gq=>∃(o:Obj) (ks:List (Int×aC)),t≠0∧ρ a=.own∧h.get? a=some o∧o.IsDictOf (PySem.intKind pw w) ks∧ks.map (fun p=>(p.1,er p.2))=Gq∧∀p∈ks,WV τ p.2
 | .bR t Gq=>∃(o:Obj) (ks:List (Str×aC)),t≠0∧ρ a=.own∧h.get? a=some o∧o.IsDictOf (PySem.strKind pw w) ks∧ks.map (fun p=>(p.1,er p.2))=Gq∧∀p∈ks,WV τ p.2
 | .cell t v=>∃(o:Obj) (u:aC),t≠0∧ρ a=.own∧h.get? a=some o∧o.data=.cell (some u)∧er u=v∧WV τ u
 | .raw t o=>ρ a=(if t=0 then .base else .own)∧h.get? a=some o∧¬(o.cls=.ref 38∧o.dict.isSome=true)
structure cT where
 env:Env
 m:Map
 act:Bool
 pin:Option Obj:=none
def fH(fs:List cT):List Env:=(fs.filter (·.act)).map (·.env)
structure Jd(h:Heap)(ρ:Addr→Role)(τ:Tok→Option Int)(p:cT):Prop where
 frame:p.env.frame=some p.env.locals
 cells:∀x c,p.env.cells.lookup x=some c→p.env.kindOf x=some .cell→ρ c=.dict p.env.locals∧∃v,h.IsCell c v∧(∀r,p.m.lookup x=some r→v.map er=some r)∧∀u,v=some u→WV τ u
 all:∀x,p.env.kindOf x=some .cell→(p.env.cells.lookup x).isSome=true
 apart:p.env.cells.Pairwise fun x y=>x.2≠y.2
structure ue(h:Heap)(ρ:Addr→Role)(τ:Tok→Option Int)(p:cT):Prop where
 kind:p.env.scope.kind=.function
 ns:∃f,h.Ns p.env.locals f∧(∀x r,p.env.kindOf x=some .local→p.m.lookup x=some r→(f x).map er=some r)∧∀x u,p.env.kindOf x=some .local→(p.m.lookup x).isSome=true→f x=some u→WV τ u
 act:p.act=true→Jd h ρ τ p
structure jk(h:Heap)(ρ:Addr→Role)(τ:Tok→Option Int)(p:cT):Prop where
 role:ρ p.env.locals=.frame
 ok:match p.pin with
  |some o=>p.act=false∧h.get? p.env.locals=some o
  |none=>ue h ρ τ p
theorem jk.nsOk{h:Heap}{ρ:Addr→Role}{τ:Tok→Option Int}{p:cT}(l:jk h ρ τ p)(hp:p.pin=none):ue h ρ τ p:=by
 have:=l.ok;rw[hp] at this;exact this
theorem jk.there{h:Heap}{ρ:Addr→Role}{τ:Tok→Option Int}{p:cT}(l:jk h ρ τ p):∃o,h.get? p.env.locals=some o:=by
 have:=l.ok
 split at this
 .exact⟨_,this.2⟩
 .obtain⟨_,⟨f,⟨o,_,_,ho,_⟩,_,_⟩,_⟩:=this;exact⟨o,ho⟩
structure Body(S:aN)(ρ:Addr→Role)(τ:Tok→Option Int)(fs:List cT)(H:AH)(s:aK):Prop where
 gens:s.gens=#[]
 os:s.os=S.os
 old:OldK S.base s.heap
 base:∀b o,S.base.get? b=some o→ρ b=.base
 X:(KK S.w.params).In s.heap
 g:s.heap.Ns mainGlobals S.mg
 b:s.heap.Ns builtinsNs S.mb
 lim:s.heap.NoLimit
 free:∀a,s.heap.objs.size≤a→ρ a=.free
 tok:∀t i,τ t=some i→t < s.toks
 pos:0 < s.toks
 frames:∀p∈fs,jk s.heap ρ τ p
 nodup:(fs.map (·.env.locals)).Nodup
 lay:∀a o,H a=some o→jC S.w s.heap ρ τ a o
 gl:∀p∈tz,WV τ p.2
def St(S:aN)(fs:List cT)(H:AH)(vs:aB)(s:aK):Prop:=∃ρ τ,Body S ρ τ fs H s∧∀v∈vs,WV τ v
structure mI(ρ cH:Addr→Role)(x:Addr)(h h':Heap):Prop where
 keep:∀b o,b≠x→h.get? b=some o→h'.get? b=some o
 role:∀b o,b≠x→h.get? b=some o→cH b=ρ b
 free:∀a,h'.objs.size≤a→cH a=.free
theorem OldK.chg{h₀ h h':Heap}(K:OldK h₀ h)(k:∀b o o',h₀.get? b=some o→h.get? b=some o'→h'.get? b=some o'):OldK h₀ h':=by
 refine⟨fun b o e=>?_,fun b o e=>let⟨o',te⟩:=K.there b o e;⟨o',k _ _ _ e te⟩⟩
 rcases K.old b o e with x|⟨t,hc,vs,more,hv,x⟩|⟨rfl,hc,⟨o',es,n,te,r⟩,z⟩
 .exact .inl (k _ _ _ e x)
 .exact .inr (.inl ⟨t,hc,vs,more,hv,k _ _ _ e x⟩)
 .exact .inr (.inr ⟨rfl,hc,⟨o',es,n,k _ _ _ e te,r⟩,fun key=>by rw[OldK.staticOf_congr ((k _ _ _ e te).trans te.symm) key];exact z key⟩)
theorem jC.keep{w:World}{h h':Heap}{ρ cH:Addr→Role}{τ mW:Tok→Option Int}{x a:Addr}{o:AO}(qG:Cw τ mW)(c:mI ρ cH x h h')(hx:ρ x≠.base)(RA:ρ x≠.dict a)(ha:a≠x)(l:jC w h ρ τ a o):jC w h' cH mW a o:=by
 have dd:∀{d:Addr} {t:Nat},ρ d=(if t=0 then .base else .dict a)→d≠x:=fun{d t} e q=>by
  subst q;split at e;exact hx e;exact RA e
 cases o with
 |inst t C vs=>
  obtain⟨d,es,n,r1,g1,r2,g2,f,q⟩:=l;exact⟨d,es,n,(c.role _ _ ha g1).trans r1,c.keep _ _ ha g1,(c.role _ _ (dd r2) g2).trans r2,c.keep _ _ (dd r2) g2,f,fun e he=>(q e he).le qG⟩
 |exc t cl vs=>
  obtain⟨d,es,n,fs,sl,t0,r1,g1,r2,g2,f,q,f2⟩:=l;have dx:d≠x:=fun q=>by subst q;exact RA r2
  exact⟨d,es,n,fs,sl,t0,(c.role _ _ ha g1).trans r1,c.keep _ _ ha g1,(c.role _ _ dx g2).trans r2,c.keep _ _ dx g2,f,fun y u hu=>(q y u hu).le qG,f2⟩
 |list t xs=>obtain⟨vs,n,r1,g1,f,q,z⟩:=l;exact⟨vs,n,(c.role _ _ ha g1).trans r1,c.keep _ _ ha g1,f,fun e he=>(q e he).le qG,z⟩
 |tup t xs=>obtain⟨vs,n,r1,g1,f,q,z⟩:=l;exact⟨vs,n,(c.role _ _ ha g1).trans r1,c.keep _ _ ha g1,f,fun e he=>(q e he).le qG,z⟩
 |aX t es=>obtain⟨o,ks,t0,r1,g1,f,f2,q⟩:=l;exact⟨o,ks,t0,(c.role _ _ ha g1).trans r1,c.keep _ _ ha g1,f,f2,fun e he=>(q e he).le qG⟩
 |bR t es=>obtain⟨o,ks,t0,r1,g1,f,f2,q⟩:=l;exact⟨o,ks,t0,(c.role _ _ ha g1).trans r1,c.keep _ _ ha g1,f,f2,fun e he=>(q e he).le qG⟩
 |cell t v=>obtain⟨o,u,t0,r1,g1,f2,f3,q⟩:=l;exact⟨o,u,t0,(c.role _ _ ha g1).trans r1,c.keep _ _ ha g1,f2,f3,q.le qG⟩
 |raw t o=>obtain⟨r1,g1,f⟩:=l;exact⟨(c.role _ _ ha g1).trans r1,c.keep _ _ ha g1,f⟩
theorem Heap.IsCell.kept{h h':Heap}{c:Addr}{v:Option aC}(x:h.IsCell c v)(k:∀o,h.get? c=some o→h'.get? c=some o):h'.IsCell c v:=
 let⟨o,ho,hd⟩:=x;⟨o,k o ho,hd⟩
theorem jk.keep{h h':Heap}{ρ cH:Addr→Role}{τ mW:Tok→Option Int}{x:Addr}{p:cT}(qG:Cw τ mW)(c:mI ρ cH x h h')(hp:p.env.locals≠x)(hx:ρ x≠.dict p.env.locals)(l:jk h ρ τ p):jk h' cH mW p:=by
 obtain⟨o',te⟩:=l.there;refine⟨(c.role _ _ hp te).trans l.role,?_⟩;have l2:=l.ok;split at l2
 .exact⟨l2.1,c.keep _ _ hp l2.2⟩
 obtain⟨k,⟨f,⟨o,es,ep,ho,q⟩,e,ew⟩,a⟩:=l2;refine⟨k,⟨f,⟨o,es,ep,c.keep _ _ hp ho,q⟩,e,fun x u hk hm hu=>(ew x u hk hm hu).le qG⟩,fun ha=>?_⟩
 obtain⟨a1,a2,a3,a4⟩:=a ha;refine⟨a1,fun y d hy hk=>?_,a3,a4⟩
 obtain⟨r1,v,⟨o,ho,hd⟩,e1,w1⟩:=a2 y d hy hk
 have:d≠x:=fun q=>by subst q;exact hx r1
 exact⟨(c.role _ _ this ho).trans r1,v,⟨o,c.keep _ _ this ho,hd⟩,e1,fun u hu=>(w1 u hu).le qG⟩
theorem Body.chg{S:aN}{ρ cH:Addr→Role}{τ mW:Tok→Option Int}{fs fs':List cT}{H H':AH}{s s':aK}{x:Addr}(B:Body S ρ τ fs H s)(c:mI ρ cH x s.heap s'.heap)(hx:ρ x≠.base)(ht:∀t i,mW t=some i→t < s'.toks)(hp:0 < s'.toks)(hg:s'.gens=s.gens)(ho:s'.os=s.os)
  (fr:∀p∈fs',jk s'.heap cH mW p) (nd:(fs'.map (·.env.locals)).Nodup) (lay:∀a o,H' a=some o→jC S.w s'.heap cH mW a o) (qG:Cw τ mW:=by exact Cw.refl):Body S cH mW fs' H' s':=by
 have nb:∀b o,S.base.get? b=some o→b≠x:=fun b o e q=>by subst q;exact hx (B.base _ _ e)
 have kb:∀b o o',S.base.get? b=some o→s.heap.get? b=some o'→s'.heap.get? b=some o':=fun b o o' e e'=>c.keep _ _ (nb _ _ e) e'
 have ns:∀{a:Addr} {m m':gL},S.base.Ns a m'→s.heap.Ns a m→s'.heap.Ns a m:=fun⟨o,_,_,e,_⟩ ⟨o',es,ep,e',r⟩=>⟨o',es,ep,kb _ _ _ e e',r⟩
 refine⟨hg.trans B.gens,ho.trans B.os,OldK.chg B.old kb,fun b o e=>?_,fun a o e=>kb _ _ _ (S.X a o e) (B.X a o e),ns S.g B.g,ns S.b B.b,?_,c.free,ht,hp,fr,nd,lay,fun p hp=>(B.gl p hp).le qG⟩
 .obtain⟨o',e'⟩:=B.old.there b o e
  exact(c.role _ _ (nb _ _ e) e').trans (B.base _ _ e)
 .obtain⟨mc,n1,e1⟩:=B.lim
  obtain⟨Yv,n2,_⟩:=S.lim;exact⟨mc,ns n2 n1,e1⟩
theorem mI.push{S:aN}{ρ:Addr→Role}{τ:Tok→Option Int}{fs:List cT}{H:AH}{s:aK}(B:Body S ρ τ fs H s)(o:Obj)(r:Role):
  mI ρ (fun b=>if b=s.heap.objs.size then r else ρ b) s.heap.objs.size s.heap (s.heap.push o):=
 ⟨fun b o' _ e=>mu o e,fun b _ hb _=>aR hb,fun a ha=>by
  rw[xJ] at ha
  show(if a=s.heap.objs.size then r else ρ a)=.free
  rw[aR (by omega)];exact B.free a (by omega)⟩
theorem mI.same{S:aN}{ρ:Addr→Role}{τ:Tok→Option Int}{fs:List cT}{H:AH}{s:aK}{h':Heap}{x:Addr}(B:Body S ρ τ fs H s)(hs:Heap.SameBut x s.heap h'):mI ρ ρ x s.heap h':=
 ⟨fun b o hb e=>(hs.2 b hb).trans e,fun _ _ _ _=>rfl,fun a ha=>B.free a (by rw[hs.1] at ha;exact ha)⟩
theorem jC.alive{w:World}{h:Heap}{ρ:Addr→Role}{τ:Tok→Option Int}{a:Addr}{o:AO}(l:jC w h ρ τ a o):∃q,h.get? a=some q:=by
 cases o with
 |inst=>obtain⟨_,_,_,_,g,_⟩:=l;exact⟨_,g⟩
 |exc=>obtain⟨_,_,_,_,_,_,_,g,_⟩:=l;exact⟨_,g⟩
 |list=>obtain⟨_,_,_,g,_⟩:=l;exact⟨_,g⟩
 |tup=>obtain⟨_,_,_,g,_⟩:=l;exact⟨_,g⟩
 |aX=>obtain⟨_,_,_,_,g,_⟩:=l;exact⟨_,g⟩
 |bR=>obtain⟨_,_,_,_,g,_⟩:=l;exact⟨_,g⟩
 |cell=>obtain⟨_,_,_,_,g,_⟩:=l;exact⟨_,g⟩
 |raw=>exact⟨_,l.2.1⟩
theorem jC.role{w:World}{h:Heap}{ρ:Addr→Role}{τ:Tok→Option Int}{a:Addr}{o:AO}(l:jC w h ρ τ a o):ρ a=(if o.tag=0 then .base else .own):=by
 cases o with
 |inst=>obtain⟨_,_,_,r,_⟩:=l;exact r
 |exc=>obtain⟨_,_,_,_,_,t,r,_⟩:=l;exact r.trans (aR t).symm
 |list=>obtain⟨_,_,r,_⟩:=l;exact r
 |tup=>obtain⟨_,_,r,_⟩:=l;exact r
 |aX=>obtain⟨_,_,t,r,_⟩:=l;exact r.trans (aR t).symm
 |bR=>obtain⟨_,_,t,r,_⟩:=l;exact r.trans (aR t).symm
 |cell=>obtain⟨_,_,t,r,_⟩:=l;exact r.trans (aR t).symm
 |raw=>exact l.1
theorem Body.fresh{S:aN}{ρ:Addr→Role}{τ:Tok→Option Int}{fs:List cT}{H:AH}{s:aK}(B:Body S ρ τ fs H s){a:Addr}(ha:s.heap.objs.size≤a):H a=none:=by
 cases e:H a with
 |none=>rfl
 |some o=>
  obtain⟨q,hq⟩:=(B.lay _ _ e).alive;exact absurd (eZ hq) (pV.mpr ha)
theorem Body.fV{S:aN}{ρ:Addr→Role}{τ:Tok→Option Int}{fs:List cT}{H:AH}{s:aK}(B:Body S ρ τ fs H s){p:cT}(hp:p∈fs):p.env.locals < s.heap.objs.size:=by
 obtain⟨o,ho⟩:=(B.frames p hp).there;exact eZ ho
theorem Body.zE{S:aN}{ρ:Addr→Role}{τ:Tok→Option Int}{fs:List cT}{H:AH}{s:aK}(B:Body S ρ τ fs H s){q:Obj}{o:AO}
  (hl:∀cH:Addr→Role,cH s.heap.objs.size=.own→jC S.w (s.heap.push q) cH τ s.heap.objs.size o):∃cH,Body S cH τ fs (upd H s.heap.objs.size o) {s with heap:=s.heap.push q}:=by
 have c:=mI.push B q .own;refine⟨_,B.chg c (by rw[B.free _ aF];exact fun h=>by cases h) B.tok B.pos rfl rfl (fun p hp=>(B.frames p hp).keep .refl c (fq (B.fV hp)) (by rw[B.free _ aF];exact fun h=>by cases h)) B.nodup fun a o' ha=>?_⟩
 by_cases e:a=s.heap.objs.size
 .subst e;rw[aA] at ha;cases ha
  exact hl _ (bE rfl)
 .rw[aT e] at ha
  refine(B.lay _ _ ha).keep .refl c (by rw[B.free _ aF];exact fun h=>by cases h) (by rw[B.free _ aF];exact fun h=>by cases h) e
theorem Body.JI{S:aN}{ρ:Addr→Role}{τ:Tok→Option Int}{fs:List cT}{H:AH}{s:aK}(B:Body S ρ τ fs H s)(q:Obj):Body S (fun b=>if b=s.heap.objs.size then .gr else ρ b) τ fs H {s with heap:=s.heap.push q}:=by
 have c:=mI.push B q .gr;refine B.chg c (by rw[B.free _ aF];exact fun h=>by cases h) B.tok B.pos rfl rfl (fun p hp=>(B.frames p hp).keep .refl c (fq (B.fV hp)) (by rw[B.free _ aF];exact fun h=>by cases h)) B.nodup fun a o' ha=>?_
 obtain⟨q',Od⟩:=(B.lay _ _ ha).alive
 exact(B.lay _ _ ha).keep .refl c (by rw[B.free _ aF];exact fun h=>by cases h) (by rw[B.free _ aF];exact fun h=>by cases h) (fq (eZ Od))
theorem Body.CB{S:aN}{ρ:Addr→Role}{τ:Tok→Option Int}{fs:List cT}{H:AH}{s s':aK}(B:Body S ρ τ fs H s){x:Addr}{o o':AO}(h:H x=some o)(ht:o.tag≠0)(hs:Heap.SameBut x s.heap s'.heap)(hg:s'.gens=s.gens)(ho:s'.os=s.os)(gj:s.toks≤s'.toks)
  (hl:ρ x=.own→jC S.w s'.heap ρ τ x o'):Body S ρ τ fs (upd H x o') s':=by
 have r:=(B.lay _ _ h).role;rw[aR ht] at r;have c:=mI.same B hs;refine B.chg c (by rw[r];exact fun h=>by cases h) (fun t i e=>dG (B.tok t i e) gj) (dG B.pos gj) hg ho (fun p hp=>(B.frames p hp).keep .refl c (fun e=>?_) (by rw[r];exact fun h=>by cases h)) B.nodup fun a q ha=>?_
 .have:=(B.frames p hp).role;rw[e,r] at this;cases this
 .by_cases e:a=x
  .subst e;rw[aA] at ha;cases ha;exact hl r
  .rw[aT e] at ha
   exact(B.lay _ _ ha).keep .refl c (by rw[r];exact fun h=>by cases h) (by rw[r];exact fun h=>by cases h) e
theorem Body.TX{S:aN}{ρ:Addr→Role}{τ:Tok→Option Int}{fs:List cT}{H:AH}{s s':aK}(B:Body S ρ τ fs H s){x d:Addr}{o o':AO}(h:H x=some o)(hd:ρ d=.dict x)(hs:Heap.SameBut d s.heap s'.heap)(hg:s'.gens=s.gens)(ho:s'.os=s.os)(gj:s.toks≤s'.toks)
  (hl:jC S.w s'.heap ρ τ x o'):Body S ρ τ fs (upd H x o') s':=by
 have c:=mI.same B hs;refine B.chg c (by rw[hd];exact fun h=>by cases h) (fun t i e=>dG (B.tok t i e) gj) (dG B.pos gj) hg ho (fun p hp=>(B.frames p hp).keep .refl c (fun e=>?_) fun h=>?_) B.nodup fun a q ha=>?_
 .have:=(B.frames p hp).role;rw[e,hd] at this;cases this
 .have r1:=(B.frames p hp).role
  rw[hd] at h;rw[←Role.dict.inj h,(B.lay _ _ ‹H x=some o›).role] at r1;split at r1<;>cases r1
 .by_cases e:a=x
  .subst e;rw[aA] at ha;cases ha;exact hl
  .rw[aT e] at ha
   refine(B.lay _ _ ha).keep .refl c (by rw[hd];exact fun h=>by cases h) (by rw[hd];exact fun h=>e (Role.dict.inj h).symm) fun e'=>?_
   subst e'
   have:=(B.lay _ _ ha).role
   rw[hd] at this;split at this<;>cases this
theorem Body.toks{S:aN}{ρ:Addr→Role}{τ:Tok→Option Int}{fs:List cT}{H:AH}{s:aK}(B:Body S ρ τ fs H s){n:Nat}(h:s.toks≤n):Body S ρ τ fs H {s with toks:=n}:=
 ⟨B.gens,B.os,B.old,B.base,B.X,B.g,B.b,B.lim,B.free,fun t i e=>dG (B.tok t i e) h,dG B.pos h,B.frames,B.nodup,B.lay,B.gl⟩
theorem jk.le{h:Heap}{ρ:Addr→Role}{τ mW:Tok→Option Int}{p:cT}(qG:Cw τ mW)(l:jk h ρ τ p):jk h ρ mW p:=by
 refine⟨l.role,?_⟩;have l2:=l.ok;split at l2
 .exact l2
 obtain⟨k,⟨f,n,e,ew⟩,a⟩:=l2;refine⟨k,⟨f,n,e,fun x u hk hm hu=>(ew x u hk hm hu).le qG⟩,fun ha=>?_⟩
 obtain⟨a1,a2,a3,a4⟩:=a ha;refine⟨a1,fun y d hy hk=>?_,a3,a4⟩
 obtain⟨r1,v,ic,e1,w1⟩:=a2 y d hy hk;exact⟨r1,v,ic,e1,fun u hu=>(w1 u hu).le qG⟩
theorem jC.le{w:World}{h:Heap}{ρ:Addr→Role}{τ mW:Tok→Option Int}{a:Addr}{o:AO}(qG:Cw τ mW)(l:jC w h ρ τ a o):jC w h ρ mW a o:=by
 cases o with
 |inst t C vs=>obtain⟨d,es,n,r1,g1,r2,g2,f,q⟩:=l;exact⟨d,es,n,r1,g1,r2,g2,f,fun e he=>(q e he).le qG⟩
 |exc t cl vs=>obtain⟨d,es,n,fs,sl,t0,r1,g1,r2,g2,f,q,f2⟩:=l;exact⟨d,es,n,fs,sl,t0,r1,g1,r2,g2,f,fun y u hu=>(q y u hu).le qG,f2⟩
 |list t xs=>obtain⟨vs,n,r1,g1,f,q,z⟩:=l;exact⟨vs,n,r1,g1,f,fun e he=>(q e he).le qG,z⟩
 |tup t xs=>obtain⟨vs,n,r1,g1,f,q,z⟩:=l;exact⟨vs,n,r1,g1,f,fun e he=>(q e he).le qG,z⟩
 |aX t es=>obtain⟨o,ks,t0,r1,g1,f,f2,q⟩:=l;exact⟨o,ks,t0,r1,g1,f,f2,fun e he=>(q e he).le qG⟩
 |bR t es=>obtain⟨o,ks,t0,r1,g1,f,f2,q⟩:=l;exact⟨o,ks,t0,r1,g1,f,f2,fun e he=>(q e he).le qG⟩
 |cell t v=>obtain⟨o,u,t0,r1,g1,f2,f3,q⟩:=l;exact⟨o,u,t0,r1,g1,f2,f3,q.le qG⟩
 |raw t o=>exact l
theorem Body.int{S:aN}{ρ:Addr→Role}{τ:Tok→Option Int}{fs:List cT}{H:AH}{s:aK}(B:Body S ρ τ fs H s){t n:Nat}(i:Int)(h:s.toks≤t)(h':t < n):∃mW,Cw τ mW∧WV mW (.int i t)∧Body S ρ mW fs H {s with toks:=n}:=by
 have le:Cw τ (fun u=>if u=t then some i else τ u):=fun u j e=>by
  have:=B.tok u j e
  show(if u=t then some i else τ u)=some j
  rw[aR (fq (dG this h))];exact e
 refine⟨_,le,⟨q9 (dG B.pos h),bE rfl⟩,B.gens,B.os,B.old,B.base,B.X,B.g,B.b,B.lim,B.free,fun u j e=>?_,C3 (g6 _) h',fun p hp=>(B.frames p hp).le le,B.nodup,fun a o ha=>(B.lay a o ha).le le,fun p hp=>(B.gl p hp).le le⟩
 dsimp only at e⊢;split at e
 .rename_i q;rw[q];exact h'
 .exact Nat.lt_trans (dG (B.tok u j e) h) h'
theorem St.toks{S:aN}{fs:List cT}{H:AH}{vs:aB}{s:aK}(B:St S fs H vs s){n:Nat}(h:s.toks≤n):St S fs H vs {s with toks:=n}:=let⟨ρ,τ,b,q⟩:=B;⟨ρ,τ,b.toks h,q⟩
theorem St.int{S:aN}{fs:List cT}{H:AH}{vs:aB}{s:aK}(B:St S fs H vs s){t n:Nat}(i:Int)(h:s.toks≤t)(h':t < n):St S fs H (.int i t::vs) {s with toks:=n}:=by
 obtain⟨ρ,τ,b,q⟩:=B;obtain⟨mW,le,wv,b'⟩:=b.int i h h';refine⟨ρ,mW,b',fun v hv=>?_⟩
 rcases bS.mp hv with rfl|hv
 .exact wv
 .exact(q v hv).le le
theorem Body.local{S:aN}{ρ:Addr→Role}{e:Env}{m m':Map}{b:Bool}{fs:List cT}{H:AH}{s s':aK}{f:gL}(B:Body S ρ τ (⟨e,m,b,none⟩::fs) H s)(hs:Heap.SameBut e.locals s.heap s'.heap)(hg:s'.gens=s.gens)(ho:s'.os=s.os)(gj:s.toks≤s'.toks)
  (hn:s'.heap.Ns e.locals f) (hw:∀x u,e.kindOf x=some .local→(m'.lookup x).isSome=true→f x=some u→WV τ u) (hm:∀x r,e.kindOf x=some .local→m'.lookup x=some r→(f x).map er=some r) (hc:∀x r,e.kindOf x=some .cell→m'.lookup x=some r→m.lookup x=some r):Body S ρ τ (⟨e,m',b,none⟩::fs) H s':=by
 have r:=B.frames _ (.head _);have rl:ρ e.locals=.frame:=r.role;have c:=mI.same B hs;have nd:e.locals∉fs.map (·.env.locals)∧(fs.map (·.env.locals)).Nodup:=fX.mp B.nodup;refine B.chg c (by rw[rl];exact fun h=>by cases h) (fun t i e=>dG (B.tok t i e) gj) (dG B.pos gj) hg ho (fun p hp=>?_) B.nodup fun a q ha=>?_
 .rcases bS.mp hp with rfl|hp
  .refine⟨r.role,?_⟩
   refine(show ue s'.heap ρ τ _ from ?_)
   have rn:=r.nsOk rfl;refine⟨rn.kind,⟨f,hn,hm,hw⟩,fun ha=>?_⟩
   obtain⟨a1,a2,a3,a4⟩:=rn.act ha;refine⟨a1,fun y d hy hk=>?_,a3,a4⟩
   obtain⟨r1,v,ic,e1,w1⟩:=a2 y d hy hk;refine⟨r1,v,ic.sameBut hs fun q=>?_,fun r hr=>e1 r (hc y r hk hr),w1⟩
   rw[q] at r1;exact absurd (r1.symm.trans rl) (fun h=>by cases h)
  .exact(B.frames p (.tail _ hp)).keep .refl c (fun e'=>nd.1 (eF.mpr ⟨p,hp,e'⟩)) (by rw[rl];exact fun h=>by cases h)
 .refine(B.lay _ _ ha).keep .refl c (by rw[rl];exact fun h=>by cases h) (by rw[rl];exact fun h=>by cases h) fun e'=>?_
  have:=(B.lay _ _ ha).role
  rw[e',rl] at this;split at this<;>cases this
theorem Body.cell{S:aN}{ρ:Addr→Role}{e:Env}{m m':Map}{fs:List cT}{H:AH}{s s':aK}{n:Str}{c:Addr}{v:Option aC}(B:Body S ρ τ (⟨e,m,true,none⟩::fs) H s)(hn:e.cells.lookup n=some c)(hk:e.kindOf n=some .cell)(hs:Heap.SameBut c s.heap s'.heap)(hg:s'.gens=s.gens)(ho:s'.os=s.os)(gj:s.toks≤s'.toks)
  (hv:s'.heap.IsCell c v) (hw:∀u,v=some u→WV τ u) (he:∀r,m'.lookup n=some r→v.map er=some r) (hm:∀x,x≠n→m'.lookup x=m.lookup x):Body S ρ τ (⟨e,m',true,none⟩::fs) H s':=by
 have r:=B.frames _ (.head _);have rl:ρ e.locals=.frame:=r.role;have rn:=r.nsOk rfl;obtain⟨a1,a2,a3,a4⟩:=rn.act rfl;have rc:ρ c=.dict e.locals:=(a2 n c hn hk).1;have ch:=mI.same B hs;have nd:e.locals∉fs.map (·.env.locals)∧(fs.map (·.env.locals)).Nodup:=fX.mp B.nodup;refine B.chg ch (by rw[rc];exact fun h=>by cases h) (fun t i e=>dG (B.tok t i e) gj) (dG B.pos gj) hg ho (fun p hp=>?_) B.nodup fun a q ha=>?_
 .rcases bS.mp hp with rfl|hp
  .obtain⟨f,hf,hl,ZG⟩:=rn.ns
   refine⟨r.role,(show ue s'.heap ρ τ _ from ?_)⟩
   refine⟨rn.kind,⟨f,hf.sameBut hs fun q=>?_,fun x r hx hr=>hl x r hx ((hm x fun q=>by subst q;rw[hk] at hx;cases hx).symm.trans hr),fun x u Oj ZF hu=>ZG x u Oj (by rw[←hm x fun q=>by subst q;have Oj:e.kindOf x=some .local:=Oj;rw[hk] at Oj;cases Oj];exact ZF) hu⟩,fun _=>⟨a1,fun y d hy Cm=>?_,a3,a4⟩⟩
   .exact absurd (rl.symm.trans ((show ρ e.locals=ρ c from iE ρ q).trans rc)) (fun h=>by cases h)
   .by_cases q:y=n
    .subst q;have hy:e.cells.lookup y=some d:=hy;rw[hn] at hy;cases hy;exact⟨rc,v,hv,he,hw⟩
    .obtain⟨r1,v,ic,e1,w1⟩:=a2 y d hy Cm
     refine⟨r1,v,ic.sameBut hs fun z=>?_,fun r hr=>e1 r ((hm y q).symm.trans hr),w1⟩
     exact q (name_of_addr a4 (mem_of_lookup hy) (z▸mem_of_lookup hn))
  .refine(B.frames p (.tail _ hp)).keep .refl ch (fun e'=>?_) (by rw[rc];exact fun h=>nd.1 (eF.mpr ⟨p,hp,(Role.dict.inj h).symm⟩))
   have:=(B.frames p (.tail _ hp)).role;rw[e',rc] at this;cases this
 .refine(B.lay _ _ ha).keep .refl ch (by rw[rc];exact fun h=>by cases h) (fun h=>?_) fun e'=>?_
  .have r1:=(B.lay _ _ ha).role
   rw[rc] at h;rw[←Role.dict.inj h,rl] at r1;split at r1<;>cases r1
  .have:=(B.lay _ _ ha).role
   rw[e',rc] at this;split at this<;>cases this
theorem Dq{H:AH}{a:Addr}{o:AO}(h:H a=some o):upd H a o=H:=by
 funext b;by_cases e:b=a
 .subst e;rw[aA,h]
 .rw[aT e]
section
variable{S:aN}{ρ:Addr→Role}{τ:Tok→Option Int}{fs:List cT}{H:AH}{s s':aK}{x:Addr}
theorem Body.gr(B:Body S ρ τ fs H s)(hx:ρ x=.gr)(hs:Heap.SameBut x s.heap s'.heap)(hg:s'.gens=s.gens)(ho:s'.os=s.os)(gj:s'.toks=s.toks):Body S ρ τ fs H s':=by
 have c:=mI.same B hs;refine B.chg c (by rw[hx];exact fun h=>by cases h) (by rw[gj];exact B.tok) (by rw[gj];exact B.pos) hg ho (fun p hp=>(B.frames p hp).keep .refl c (fun e=>?_) (by rw[hx];exact fun h=>by cases h)) B.nodup fun a q ha=>?_
 .have:=(B.frames p hp).role;rw[e,hx] at this;cases this
 .refine(B.lay _ _ ha).keep .refl c (by rw[hx];exact fun h=>by cases h) (by rw[hx];exact fun h=>by cases h) fun e'=>?_
  have:=(B.lay _ _ ha).role
  rw[e',hx] at this;split at this<;>cases this
theorem Body.slots(B:Body S ρ τ fs H s){fr:List Addr}(oX:∀a∈fr,ρ a=.frame)(Zp:∀p∈fs,p.pin.isSome=true→p.env.locals∉fr)(hs:Heap.SlotsOnly fr s.heap s'.heap)(hg:s'.gens=s.gens)(ho:s'.os=s.os)(gj:s'.toks=s.toks):Body S ρ τ fs H s':=by
 obtain⟨h1,h2,h3⟩:=hs;have same:∀b,ρ b≠.frame→s'.heap.get? b=s.heap.get? b:=fun b hb=>h2 b fun hm=>hb (oX b hm)
 have nb:∀b o,S.base.get? b=some o→ρ b≠.frame:=fun b o e q=>by rw[B.base _ _ e] at q;cases q
 have kb:∀b o o',S.base.get? b=some o→s.heap.get? b=some o'→s'.heap.get? b=some o':=fun b o o' e e'=>(same _ (nb _ _ e)).trans e'
 have ns:∀{a:Addr} {m m':gL},S.base.Ns a m'→s.heap.Ns a m→s'.heap.Ns a m:=fun⟨o,_,_,e,_⟩ ⟨o',es,ep,e',r⟩=>⟨o',es,ep,kb _ _ _ e e',r⟩
 refine⟨hg.trans B.gens,ho.trans B.os,OldK.chg B.old kb,B.base,fun a o e=>kb _ _ _ (S.X a o e) (B.X a o e),ns S.g B.g,ns S.b B.b,?_,fun a ha=>B.free a (by rw[h1] at ha;exact ha),by rw[gj];exact B.tok,by rw[gj];exact B.pos,fun p hp=>?_,B.nodup,fun a o ha=>?_,B.gl⟩
 .obtain⟨mc,n1,e1⟩:=B.lim
  obtain⟨Yv,n2,_⟩:=S.lim;exact⟨mc,ns n2 n1,e1⟩
 .refine⟨(B.frames p hp).role,?_⟩
  have l2:=(B.frames p hp).ok;split at l2
  .rename_i o Bu
   exact⟨l2.1,(h2 _ (fun hm=>Zp p hp (by rw[Bu];rfl) hm)).trans l2.2⟩
  obtain⟨k,⟨f,⟨o,es,ep,ho,hd,q⟩,e,ew⟩,a⟩:=l2;obtain⟨sl,N8⟩:=h3 _ _ ho;refine⟨k,⟨f,⟨_,es,ep,N8,hd,q⟩,e,ew⟩,fun ha=>?_⟩
  obtain⟨a1,a2,a3,a4⟩:=a ha;refine⟨a1,fun y d hy hk=>?_,a3,a4⟩
  obtain⟨r1,v,ic,e1,w1⟩:=a2 y d hy hk;exact⟨r1,v,Heap.IsCell.kept ic fun o ho=>(same _ (by rw[r1];exact fun h=>by cases h)).trans ho,e1,w1⟩
 .have l:=B.lay _ _ ha
  have ne:∀{a:Addr} {t:Nat} {r:Role},ρ a=(if t=0 then Role.base else r)→r≠.frame→ρ a≠.frame:=fun{a t r} e hr q=>by rw[q] at e;split at e;cases e;exact hr e.symm
  cases o with
  |inst t C vs=>obtain⟨d,es,n,r1,g1,r2,g2,f⟩:=l;exact⟨d,es,n,r1,(same _ (ne r1 (by exact fun h=>by cases h))).trans g1,r2,(same _ (ne r2 (by exact fun h=>by cases h))).trans g2,f⟩
  |exc t cl vs=>obtain⟨d,es,n,fs,sl,t0,r1,g1,r2,g2,f⟩:=l;exact⟨d,es,n,fs,sl,t0,r1,(same _ (by rw[r1];exact fun h=>by cases h)).trans g1,r2,(same _ (by rw[r2];exact fun h=>by cases h)).trans g2,f⟩
  |list t xs=>obtain⟨vs,n,r1,g1,f⟩:=l;exact⟨vs,n,r1,(same _ (ne r1 (by exact fun h=>by cases h))).trans g1,f⟩
  |tup t xs=>obtain⟨vs,n,r1,g1,f⟩:=l;exact⟨vs,n,r1,(same _ (ne r1 (by exact fun h=>by cases h))).trans g1,f⟩
  |aX t es=>obtain⟨o,ks,t0,r1,g1,f⟩:=l;exact⟨o,ks,t0,r1,(same _ (by rw[r1];exact fun h=>by cases h)).trans g1,f⟩
  |bR t es=>obtain⟨o,ks,t0,r1,g1,f⟩:=l;exact⟨o,ks,t0,r1,(same _ (by rw[r1];exact fun h=>by cases h)).trans g1,f⟩
  |cell t v=>obtain⟨o,u,t0,r1,g1,f⟩:=l;exact⟨o,u,t0,r1,(same _ (by rw[r1];exact fun h=>by cases h)).trans g1,f⟩
  |raw t o=>obtain⟨r1,g1,f⟩:=l;exact⟨r1,(same _ (ne r1 (by exact fun h=>by cases h))).trans g1,f⟩
theorem Body.pop{p:cT}(B:Body S ρ τ (p::fs) H s):Body S ρ τ fs H s:=
 ⟨B.gens,B.os,B.old,B.base,B.X,B.g,B.b,B.lim,B.free,B.tok,B.pos,fun p hp=>B.frames p (.tail _ hp),(fX.mp B.nodup).2,B.lay,B.gl⟩
theorem jk.mQ{h:Heap}{p:cT}(l:jk h ρ τ p)(hp:p.act=true):ue h ρ τ p:=by
 have l2:=l.ok;split at l2
 .rw[hp] at l2;cases l2.1
 .exact l2
theorem oP{h b:Heap}(base:∀a o,b.get? a=some o→ρ a=.base):∀{fs:List cT},(∀p∈fs,jk h ρ τ p)→h.FunFrames b (fH fs)
 |[],_=>trivial
 |p::r,hb=>by
  have ih:=oP base fun q hq=>hb q (.tail _ hq)
  have l:=hb p (.head _);unfold fH;cases hp:p.act with
  |false=>rw[List.filter_cons_of_neg (by rw[hp];simp)];exact ih
  |true=>
   obtain⟨k,⟨f,⟨o,es,ep,ho,hd,q⟩,e,ew⟩,a⟩:=l.mQ hp;rw[List.filter_cons_of_pos hp];refine⟨by rw[k];exact fun h=>(by cases h),⟨p.env.locals,o,(a hp).frame,?_,ho,fun vs h=>by rw[hd] at h;cases h⟩,ih⟩
   cases z:b.get? p.env.locals with
   |none=>rfl
   |some o'=>have:=base _ _ z;rw[l.role] at this;cases this
theorem Body.BO(B:Body S ρ τ fs H s):s.heap.FunFrames S.base (fH fs):=oP B.base B.frames
theorem Body.yY(B:Body S ρ τ fs H s):∀a∈(fH fs).filterMap (·.frame),ρ a=.frame:=fun a ha=>by
 obtain⟨e,he,hf⟩:=zD.mp ha;obtain⟨p,hp,rfl⟩:=eF.mp he;obtain⟨hp,lg⟩:=List.mem_filter.mp hp;have r:=B.frames p hp;rw[((r.mQ lg).act lg).frame] at hf;cases hf;exact r.role
theorem oO{α β:Type}{f:α→β}:∀{l:List α},(l.map f).Nodup→∀{a b:α},a∈l→b∈l→f a=f b→a=b
 |x::l,nd,a,b,ha,hb,e=>by
  have vA:f x∉l.map f∧(l.map f).Nodup:=fX.mp nd;rcases bS.mp ha with h1|h1<;>rcases bS.mp hb with h2|h2
  .rw[h1,h2]
  .subst h1;exact absurd (eF.mpr ⟨b,h2,e.symm⟩) vA.1
  .subst h2;exact absurd (eF.mpr ⟨a,h1,e⟩) vA.1
  .exact oO vA.2 h1 h2 e
theorem Body.MM(B:Body S ρ τ fs H s){p:cT}(hp:p∈fs)(Bu:p.pin.isSome=true):p.env.locals∉(fH fs).filterMap (·.frame):=fun ha=>by
 obtain⟨e,he,hf⟩:=zD.mp ha;obtain⟨q,hq,rfl⟩:=eF.mp he;obtain⟨hq,lg⟩:=List.mem_filter.mp hq;have r:=(B.frames q hq).mQ lg;rw[(r.act lg).frame] at hf;have e:q.env.locals=p.env.locals:=gZ hf
 have:=oO B.nodup hq hp e
 subst this;have l:=(B.frames q hq).ok;split at l
 .rw[l.1] at lg;cases lg
 .rename_i h;rw[h] at Bu;cases Bu
def tC(ρ:Addr→Role)(x:Addr)(h:Heap)(fl:aC):Prop:=∃d vs sl T oT ts,h.get? x=some ⟨.ref 38,some d,.fields vs,sl⟩∧ρ x=.own∧2 < vs.size∧vs[1]?=some (.ref T)∧ρ T=.gr∧h.get? T=some oT∧oT.data=.fields ts∧ts[3]?=some fl
def Np(ρ:Addr→Role)(x:Addr)(h:Heap):Prop:=∃d vs sl,h.get? x=some ⟨.ref 38,some d,.fields vs,sl⟩∧ρ x=.own∧2 < vs.size∧vs[1]?=some .none
def Fly(ρ:Addr→Role)(x:Addr)(h:Heap):Prop:=Np ρ x h∨tC ρ x h .none
def rK(H:AH)(x:Addr):Prop:=∀t vs,H x≠some (.exc t 0 vs)
def zr(S:aN)(fs:List cT)(H:AH)(vs:aB)(x:Addr)(s:aK):Prop:=∃ρ τ,(Body S ρ τ fs H s∧(∀v∈vs,WV τ v)∧rK H x)∧Fly ρ x s.heap
def xB(S:aN)(fs:List cT)(H:AH)(vs:aB)(x L:Addr)(s:aK):Prop:=∃ρ τ,(Body S ρ τ fs H s∧(∀v∈vs,WV τ v)∧rK H x)∧tC ρ x s.heap (rawInt L)
theorem Body.Fk(B:Body S ρ τ fs H s)(nn:rK H x){d:Addr}{vs:Array aC}{sl:Array (Option aC)}{v:aC}(hx:s.heap.get? x=some ⟨.ref 38,some d,.fields vs,sl⟩)(hr:ρ x=.own):
  Body S ρ τ fs H {s with heap:=s.heap.update x (Obj.mapFields (·.setIfInBounds 1 v))}:=by
 have hs:Heap.SameBut x s.heap (s.heap.update x (Obj.mapFields (·.setIfInBounds 1 v))):=gY ..;have self:=i9 (Obj.mapFields (·.setIfInBounds 1 v)) hx rfl;have c:=mI.same B hs;refine B.chg (fs':=fs) c (by rw[hr];exact fun h=>by cases h) B.tok B.pos rfl rfl (fun p hp=>(B.frames p hp).keep .refl c (fun e=>?_) (by rw[hr];exact fun h=>by cases h)) B.nodup fun a q ha=>?_
 .have:=(B.frames p hp).role;rw[e,hr] at this;cases this
 .by_cases e:a=x
  .subst e
   have l:=B.lay _ _ ha;cases q with
   |exc t cl ws=>
    obtain⟨d',es,n,fs',XS,t0,r1,g1,r2,g2,f,fw,z,w⟩:=l;rw[hx] at g1;cases g1;have hd:d≠a:=fun q=>by rw[q,hr] at r2;cases r2
    refine⟨d,es,n,_,sl,t0,r1,self,r2,(hs.2 d hd).trans g2,f,fw,by rw[Array.size_setIfInBounds];exact z,(fun q=>by subst q;exact absurd ha (nn _ _)),fun q=>by rw[JH (by decide)];exact w.2 q⟩
   |inst t C ws=>obtain⟨_,_,_,_,g1,_⟩:=l;rw[hx] at g1;cases g1
   |list t xs=>obtain⟨_,_,_,g1,_⟩:=l;rw[hx] at g1;cases g1
   |tup t xs=>obtain⟨_,_,_,g1,_⟩:=l;rw[hx] at g1;cases g1
   |aX t xs=>obtain⟨o,ks,_,_,g1,⟨_,_,_,hd,_⟩,_⟩:=l;rw[hx] at g1;cases g1;cases hd
   |bR t xs=>obtain⟨o,ks,_,_,g1,⟨_,_,_,hd,_⟩,_⟩:=l;rw[hx] at g1;cases g1;cases hd
   |cell t v=>obtain⟨o,u,_,_,g1,hc,_⟩:=l;rw[hx] at g1;cases g1;cases hc
   |raw t o=>obtain⟨_,g1,hc⟩:=l;rw[hx] at g1;cases g1;exact absurd ⟨rfl,rfl⟩ hc
  .exact(B.lay _ _ ha).keep .refl c (by rw[hr];exact fun h=>by cases h) (by rw[hr];exact fun h=>by cases h) e
theorem A7{M:Model}{A:Around}{E:aC→aK→Prop}{e:Env}{m:Map}{head:aC}{b:Bool}{d:Addr}{fv:Array aC}{vs:aB}{sl:Array (Option aC)}{Q:Unit→aK→Prop}(hW:(∀v∈vs,WV τ v)∧rK H x)
  (hA:A.frames=some (e::fH fs)) (B:Body S ρ τ (⟨e,m,true,none⟩::fs) H s) (hx:s.heap.get? x=some ⟨.ref 38,some d,.fields fv,sl⟩) (hr:ρ x=.own) (hz:2 < fv.size)
  (h:∀s',xB S (⟨e,m,true,none⟩::fs) H vs x e.locals s'→Q () s'):
  wpAny M A (do let a←frameOf e;let pl←entryPlaceOf e.locals b;let t←EntryCells.newEntry head a .none (rawInt e.locals) .none pl;setField (.ref x) 1 t) Q E s:=by
 have fr:=B.yY;have hf:e.frame=some e.locals:=(((B.frames _ (.head _)).mQ rfl).act rfl).frame;refine aM (wpAny_frameOf_fun hA (by have:=B.BO;exact this) hf fun cN we=>?_)
 have iW:Body S ρ τ (⟨e,m,true,none⟩::fs) H {s with heap:=cN}:=B.slots (fr:=(e::fH fs).filterMap (·.frame)) fr (fun p hp Bu=>B.MM hp Bu) we rfl rfl rfl
 have wc:cN.get? x=some ⟨.ref 38,some d,.fields fv,sl⟩:=(we.2.1 x fun hm=>by rw[fr x hm] at hr;cases hr).trans hx
 refine aM (wpAny_entryPlaceOf fun pl qH=>?_)
 unfold EntryCells.newEntry newFields;refine aM (zC ?_ (qH.sizeOk5 _ _ _ _ _));have gv:=iW.JI {cls:=.type "traceback",dict:=none,data:=.fields ([head,.ref e.locals,.none,rawInt e.locals,.none]++(if pl.isEmpty then List.replicate 6 Value.none else pl)).toArray};dsimp only at gv;have Dc:=mu (h:=cN) {cls:=.type "traceback",dict:=none,data:=.fields ([head,.ref e.locals,.none,rawInt e.locals,.none]++(if pl.isEmpty then List.replicate 6 Value.none else pl)).toArray} wc;have gz:x≠cN.objs.size:=fq (eZ wc);have JO:(fun b=>if b=cN.objs.size then Role.gr else ρ b) x=.own:=by dsimp only;rw[aR gz];exact hr
 refine kK Dc rfl (by omega) (h _ ⟨_,_,⟨gv.Fk hW.2 Dc JO,hW⟩,?_⟩)
 have self:=i9 (Obj.mapFields (·.setIfInBounds 1 (Value.ref cN.objs.size))) Dc rfl;refine⟨d,_,sl,cN.objs.size,_,_,self,JO,by rw[Array.size_setIfInBounds];exact hz,by have Jk:1 < fv.size:=(by omega);simp[Jk],bE rfl,(kz _ _ gz).trans (mM _ rfl),rfl,?_⟩
 first|(simp;done)|(rcases qH with rfl|⟨_,_,_,_,_,_,_,rfl⟩<;>simp)
theorem gi{M:Model}{A:Around}{E:aC→aK→Prop}{e:Env}{m:Map}{vs:aB}{Q:Unit→aK→Prop}(hA:A.frames=some (e::fH fs))(B:zr S (⟨e,m,true,none⟩::fs) H vs x s)
  (h:∀s',xB S (⟨e,m,true,none⟩::fs) H vs x e.locals s'→Q () s'):wpAny M A (noteFrame (.ref x) e) Q E s:=by
 obtain⟨ρ,τ,⟨B,hW⟩,F⟩:=B;have hf:e.frame=some e.locals:=(((B.frames _ (.head _)).mQ rfl).act rfl).frame;unfold noteFrame;rw[hf];dsimp only;rcases F with ⟨d,fv,sl,hx,hr,hz,h1⟩|⟨d,fv,sl,T,oT,ts,hx,hr,hz,h1,hT,oV,kZ,h3⟩
 .refine aM (fh hx rfl h1 ?_)
  rw[aR (by decide)]
  exact A7 hW hA B hx hr hz h
 .refine aM (fh hx rfl h1 ?_)
  rw[bE (show(Value.ref T != Value.none)=true from by simp)]
  refine aM (fh oV kZ h3 ?_);rw[aR (show ¬((Value.none==rawInt e.locals)=true) from by simp[rawInt])]
  refine aM (kK oV kZ (pU.mp h3).1 ?_);have gz:T≠x:=fun q=>by rw[q,hr] at hT;cases hT
  have B':Body S ρ τ (⟨e,m,true,none⟩::fs) H {s with heap:=s.heap.update T (Obj.mapFields (·.setIfInBounds 3 Value.none))}:=B.gr hT (gY ..) rfl rfl rfl
  exact A7 hW hA B' ((kz _ _ gz).trans hx) hr hz h
theorem g9{M:Model}{A:Around}{E:aC→aK→Prop}{L:Addr}{vs:aB}{Q:Unit→aK→Prop}(B:xB S fs H vs x L s)
  (h:∀s',zr S fs H vs x s'→Q () s'):wpAny M A (setFlight (.ref x) none) Q E s:=by
 obtain⟨ρ,τ,⟨B,hW⟩,d,fv,sl,T,oT,ts,hx,hr,hz,h1,hT,oV,kZ,h3⟩:=B;unfold setFlight;refine aM (fh hx rfl h1 ?_);rw[bE (show(Value.ref T != Value.none)=true from by simp)]
 have hi:=(pU.mp h3).1;have gz:T≠x:=fun q=>by rw[q,hr] at hT;cases hT
 refine kK oV kZ hi (h _ ⟨ρ,τ,⟨B.gr hT (gY ..) rfl rfl rfl,hW⟩,.inr ⟨d,fv,sl,T,_,_,(kz _ _ gz).trans hx,hr,hz,h1,hT,i9 _ oV (q8 (i0 kZ _)),i0 kZ _,by simp[hi]⟩⟩)
theorem fm{M:Model}{A:Around}{E:aC→aK→Prop}{e:Env}{m:Map}{vs:aB}{Q:Unit→aK→Prop}(B:xB S (⟨e,m,true,none⟩::fs) H vs x e.locals s)(h:Q () s):wpAny M A (noteFrame (.ref x) e) Q E s:=by
 obtain⟨ρ,τ,⟨B,hW⟩,d,fv,sl,T,oT,ts,hx,hr,hz,h1,hT,oV,kZ,h3⟩:=B;have hf:e.frame=some e.locals:=(((B.frames _ (.head _)).mQ rfl).act rfl).frame;unfold noteFrame;rw[hf];dsimp only;refine aM (fh hx rfl h1 ?_);rw[bE (show(Value.ref T != Value.none)=true from by simp)]
 refine aM (fh oV kZ h3 ?_);rw[bE (show(rawInt e.locals==rawInt e.locals)=true from by simp)]
 exact bO h
theorem tJ{M:Model}{A:Around}{E:aC→aK→Prop}{e:Env}{m:Map}{vs:aB}{Q:Unit→aK→Prop}(hA:A.frames=some (e::fH fs))(B:zr S (⟨e,m,true,none⟩::fs) H vs x s)
  (h:∀s',zr S fs H vs x s'→Q () s'):wpAny M A (leaving e (.ref x)) Q E s:=
 aM (gi hA B fun s₁ iW=>g9 iW fun eH ⟨ρ,τ,⟨gv,hW⟩,F⟩=>h eH ⟨ρ,τ,⟨gv.pop,hW⟩,F⟩)
theorem pJ{M:Model}{Γ:Ctx}{p:Pos}{t:Sem Fin}{fs:List Frame}{s s':aK}{e:End}(h:Runs M Γ p t fs s e s'):s.toks≤s'.toks:=by
 induction h<;>(try simp only[JW] at *)<;>first|exact aF|assumption|(exact gX (by assumption) (by assumption))|(refine gX (dU _) ?_;assumption)
theorem wp_toks{α:Type}{M:Model}{Γ:Ctx}:∀(t:Sem α) {Q:α→Pos→aK→Prop} {E:aC→Pos→aK→Prop} {p:Pos} {s:aK},Sem.wp M Γ t Q E p s→
  Sem.wp M Γ t (fun a p' s'=>s.toks≤s'.toks∧Q a p' s') (fun e p' s'=>s.toks≤s'.toks∧E e p' s') p s:=by
 intro t;have up:∀{k:Sem α} {Q:α→Pos→aK→Prop} {E:aC→Pos→aK→Prop} {p:Pos} {s s₁:aK},s.toks≤s₁.toks→
   Sem.wp M Γ k (fun a p' s'=>s₁.toks≤s'.toks∧Q a p' s') (fun e p' s'=>s₁.toks≤s'.toks∧E e p' s') p s₁→Sem.wp M Γ k (fun a p' s'=>s.toks≤s'.toks∧Q a p' s') (fun e p' s'=>s.toks≤s'.toks∧E e p' s') p s₁:=
  fun l h=>Sem.wp_mono M Γ _ (fun _ _ _ x=>⟨gX l x.1,x.2⟩) (fun _ _ _ x=>⟨gX l x.1,x.2⟩) _ _ h
 induction t with
 |pure a=>intro Q E p s h;exact⟨aF,h⟩
 |raise e=>intro Q E p s h;exact⟨aF,h⟩
 |unsupported=>intro Q E p s h;exact h.elim
 |finish=>intro Q E p s h;exact h.elim
 |rule _ k ih=>intro Q E p s h;exact ih _ h
 |«at» _ k ih=>intro Q E p s h;exact ih _ h
 |load a _ k ih=>intro Q E p s h;obtain⟨o,ho,h⟩:=h;exact⟨o,ho,ih _ h⟩
 |update a _ f k ih=>intro Q E p s h;exact⟨h.1,ih _ h.2⟩
 |loadIfAlive a k ih=>intro Q E p s h;exact ih _ h
 |point _ k ih=>intro Q E p s h;exact ih _ h
 |register=>intro Q E p s h;exact h.elim
 |alloc o k ih=>intro Q E p s h;exact ih _ h
 |fresh k ih=>intro Q E p s h;exact up (s₁:={s with toks:=s.toks+1}) (dU _) (ih _ h)
 |ask k ih=>intro Q E p s h;exact ih _ h
 |choose src n k ih=>intro Q E p s h;exact⟨h.1,ih _ h.2⟩
 |os q l k ih=>intro Q E p s h;exact ih _ h
 |call c h' _ _ k ih=>
  intro Q E p s h;obtain⟨r,s',hr,h⟩:=h;exact⟨r,s',hr,up (pJ hr) (ih _ h)⟩
 |handled own k ih=>intro Q E p s h;exact ih _ h
 |genState g k ih=>intro Q E p s h;obtain⟨st,hs,h⟩:=h;exact⟨st,hs,ih _ h⟩
 |newGen c k ih=>intro Q E p s h;exact ih _ h
 |resume g r l k ih=>
  intro Q E p s h;obtain⟨res,s',hw,h⟩:=h;refine⟨res,s',hw,up ?_ (ih _ h)⟩;unfold Wakes at hw;split at hw
  .exact hw.elim
  .split at hw
   .obtain⟨Vs,s₁,hr,_,_,rfl⟩:=hw;have:=pJ hr;exact this
   .rw[hw.2];exact aF
   .rw[hw.2];exact aF
  .obtain⟨Vs,s₁,hr,_,_,rfl⟩:=hw;have:=pJ hr;exact this
  .rw[hw.2];exact aF
  .rw[hw.2];exact aF
 |yield=>intro Q E p s h;exact h.elim
 |stack k ih=>intro Q E p s h;exact ih _ h
 |fork=>intro Q E p s h;exact h.elim
 |thread k ih=>intro Q E p s h;exact ih _ h
 |await=>intro Q E p s h;exact h.elim
theorem wpAny_toks{α:Type}{M:Model}{A:Around}{t:Sem α}{Q:α→aK→Prop}{E:aC→aK→Prop}{s:aK}(h:wpAny M A t Q E s):wpAny M A t (fun a s'=>s.toks≤s'.toks∧Q a s') (fun e s'=>s.toks≤s'.toks∧E e s') s:=
 fun Γ p YY=>wp_toks t (h Γ p YY)
structure Cx where
 env:Env
 act:Bool
 A:Around
 fs:List cT
def Cx.top(c:Cx)(m:Map):List cT:=⟨c.env,m,c.act,none⟩::c.fs
def vP(n:Nat)(A:Around):Prop:=A.depth+2 * n+2 < recursionLimit∧A.units+12 * n+50 < cLine
structure Cx.Ok(c:Cx)(n:Nat)(hd:bP):Prop where
 frames:c.A.frames=some (fH (c.top []))
 handled:c.A.handled=hd.map .ref
 room:vP n c.A
theorem Cx.oL(c:Cx)(m m':Map):fH (c.top m)=fH (c.top m'):=by
 unfold Cx.top fH;cases c.act<;>rfl
def sE(S:aN)(c:Cx)(m:Map)(H:AH)(vs:aB)(x:Addr)(s:aK):Prop:=zr S (c.top m) H vs x s∨(c.act=true∧xB S (c.top m) H vs x c.env.locals s)
def T{α:Type}(S:aN)(c:Cx)(vs:aB)(m:Map)(H:AH)(t:Sem α)(Q:α→aB→Map→AH→Prop)(E:Addr→Map→AH→Prop):Prop:=
 ∀s,St S (c.top m) H vs s→wpAny (model pw S.w) c.A t (fun a s'=>∃aQ m' H',(∀v∈vs,v∈aQ)∧St S (c.top m') H' aQ s'∧Q a aQ m' H')
  (fun e s'=>∃x m' H',e=.ref x∧sE S c m' H' vs x s'∧E x m' H') s
abbrev pn:=aC→AH→Prop
abbrev EPost:=Addr→AH→Prop
def Back(S:aN)(fs:List cT)(vs:aB)(Q:pn)(E:EPost)(r:Result)(s':aK):Prop:=match r with
 | .ok (.ret v)=>∃H',St S fs H' (v::vs) s'∧Q (er v) H'
 | .ok _=>False
 | .error e=>∃x H',e=.ref x∧zr S fs H' vs x s'∧E x H'
def Sat(S:aN)(n:Nat)(hd:bP)(f:aC)(args:aB)(H:AH)(Q:pn)(E:EPost):Prop:=
 ∀(A:Around) (fs:List cT) (vs d9:aB) (s:aK),d9.map er=args→(∀v∈d9,v∈vs)→A.frames=some (fH fs)→A.handled=hd.map .ref→vP n A→St S fs H vs s→
  codeAny (model pw S.w) A (.call f ⟨d9,[]⟩) (Back S fs vs Q E) s
theorem zr.sub{S:aN}{fs:List cT}{H:AH}{vs aQ:aB}{x:Addr}{s:aK}(B:zr S fs H vs x s)(h:∀v∈aQ,v∈vs):zr S fs H aQ x s:=
 let⟨ρ,τ,⟨b,q,nn⟩,f⟩:=B;⟨ρ,τ,⟨b,fun v hv=>q v (h v hv),nn⟩,f⟩
theorem xB.sub{S:aN}{fs:List cT}{H:AH}{vs aQ:aB}{x L:Addr}{s:aK}(B:xB S fs H vs x L s)(h:∀v∈aQ,v∈vs):xB S fs H aQ x L s:=
 let⟨ρ,τ,⟨b,q,nn⟩,f⟩:=B;⟨ρ,τ,⟨b,fun v hv=>q v (h v hv),nn⟩,f⟩
theorem sE.sub{S:aN}{c:Cx}{m:Map}{H:AH}{vs aQ:aB}{x:Addr}{s:aK}(B:sE S c m H vs x s)(h:∀v∈aQ,v∈vs):sE S c m H aQ x s:=
 B.elim (fun B=>.inl (B.sub h)) fun B=>.inr ⟨B.1,B.2.sub h⟩
variable{α β:Type}{c:Cx}{vs:aB}{m:Map}{Q:α→aB→Map→AH→Prop}{E:Addr→Map→AH→Prop}
theorem bV{a:α}(h:Q a vs m H):T S c vs m H (pure a) Q E:=fun s B=>bO ⟨vs,m,H,fun _ h=>h,B,h⟩
theorem aP{t:Sem β}{f:β→Sem α}(h:T S c vs m H t (fun a aQ m' H'=>(∀v∈vs,v∈aQ)→T S c aQ m' H' (f a) Q E) E):T S c vs m H (t >>= f) Q E:=fun s B=>
 aM (dD (h s B) (fun a s' ⟨aQ,m',H',l,B',h'⟩=>dD (h' l s' B') (fun b NV ⟨kQ,xD,gJ,l',qj,Ti⟩=>⟨kQ,xD,gJ,fun v hv=>l' v (l v hv),qj,Ti⟩)
  fun e NV ⟨x,xD,gJ,e',qj,Ti⟩=>⟨x,xD,gJ,e',qj.sub l,Ti⟩) fun _ _ x=>x)
theorem cL{t:Sem α}{Q':α→aB→Map→AH→Prop}{E':Addr→Map→AH→Prop}(h:T S c vs m H t Q E)(hQ:∀a aQ m' H',(∀v∈vs,v∈aQ)→Q a aQ m' H'→Q' a aQ m' H')(hE:∀x m' H',E x m' H'→E' x m' H'):T S c vs m H t Q' E':=fun s B=>
 dD (h s B) (fun a s' ⟨aQ,m',H',l,B',h'⟩=>⟨aQ,m',H',l,B',hQ _ _ _ _ l h'⟩) fun e s' ⟨x,m',H',e',B',h'⟩=>⟨x,m',H',e',B',hE _ _ _ h'⟩
theorem bY{ws:aB}{t:Sem α}(h:T S c vs m H t Q E):T S c vs m H (holding ws t) Q E:=fun s B=>ku (h s B)
theorem ia{t t':Sem α}(e:t=t')(h:T S c vs m H t' Q E):T S c vs m H t Q E:=e▸h
theorem og{t:Sem α}(k:∀s,St S (c.top m) H vs s→wpAny (model pw S.w) c.A t (fun a s'=>St S (c.top m) H vs s'∧Q a vs m H) (fun _ _=>False) s):T S c vs m H t Q E:=fun s B=>
 dD (k s B) (fun a s' ⟨B',h⟩=>⟨vs,m,H,fun _ h=>h,B',h⟩) fun _ _ h=>h.elim
theorem aZ{pos:Pos}{Q:Unit→aB→Map→AH→Prop}(h:Q () vs m H):T S c vs m H (standAt pos) Q E:=og fun s B=>zB ⟨B,h⟩
theorem mf{Q:Unit→aB→Map→AH→Prop}(h:Q () vs m H):T S c vs m H point Q E:=og fun s B=>wpAny_point ⟨B,h⟩
theorem IY{i:Int}{Q:aC→aB→Map→AH→Prop}(h:∀t,Q (.int i t) (.int i t::vs) m H):T S c vs m H (mkInt i) Q E:=fun s B=>
 wpAny_mkInt ⟨_,m,H,fun v hv=>.tail _ hv,B.int i aF (q7 _),h _⟩
theorem xc{x:Str}{Q:aC→aB→Map→AH→Prop}(h:∀t,Q (.str x t) vs m H):T S c vs m H (mkText x) Q E:=fun s B=>wpAny_mkText ⟨vs,m,H,fun _ h=>h,B.toks (dU _),h _⟩
theorem ES{ws:aB}{t:Sem α}(h:T S c vs m H t Q E):T S c vs m H (t.keep ws) Q E:=fun s B=>Calls.wpAny_keep (h s B)
theorem js{t:Sem α}{v:aC}(hv:∀ρ τ s,Body S ρ τ (c.top m) H s→WV τ v)(h:T S c (v::vs) m H t Q E):T S c vs m H t Q E:=fun s B=>by
 obtain⟨ρ,τ,b,q⟩:=B;refine dD (h s ⟨ρ,τ,b,fun u hu=>?_⟩) (fun a s' ⟨aQ,m',H',l,B',h'⟩=>⟨aQ,m',H',fun u hu=>l u (.tail _ hu),B',h'⟩) fun e s' ⟨x,m',H',e',B',h'⟩=>⟨x,m',H',e',B'.sub fun u hu=>.tail _ hu,h'⟩
 rcases bS.mp hu with rfl|hu
 .exact hv _ _ _ b
 .exact q u hu
theorem yH{t:Sem α}{a:α}(hl:∀s,St S (c.top m) H vs s→Looks (model pw S.w) s.heap t a)(h:Q a vs m H):T S c vs m H t Q E:=og fun s B=>(hl s B).here ⟨B,h⟩
theorem K8{t:Sem α}(h:∀s,St S (c.top m) H vs s→T S c vs m H t Q E):T S c vs m H t Q E:=fun s B=>h s B s B
theorem Nm{n:Nat}{hd:bP}{f:aC}{args:aB}{Q:pn}{E:EPost}(ok:c.Ok n hd)(hv:∀v∈args,v∈vs)(h:Sat S n hd f (args.map er) H Q E):
  T S c vs m H (call f args) (fun v aQ m' H'=>v∈aQ∧m'=m∧Q (er v) H') (fun x m' H'=>m'=m∧E x H'):=fun s B=>
 wpAny_call (v7 (h c.A (c.top m) vs args s rfl hv (by rw[ok.frames,c.oL]) ok.handled ok.room B) fun r s' z=>by
  rcases r with e|(v|_|_|_)<;>first|exact z.elim|skip
  .obtain⟨x,H',e,B',hE⟩:=z;exact⟨x,m,H',e,.inl B',rfl,hE⟩
  .obtain⟨H',B',hQ⟩:=z;exact⟨_,m,H',fun u hu=>.tail _ hu,B',.head _,rfl,hQ⟩)
theorem oM{n:Nat}{hd:bP}{f:aC}{args:aB}{Q Q':pn}{E E':EPost}(h:Sat S n hd f args H Q E)(hQ:∀v H',Q v H'→Q' v H')(hE:∀x H',E x H'→E' x H'):Sat S n hd f args H Q' E':=
 fun A fs vs d9 s a hv b d e B=>v7 (h A fs vs d9 s a hv b d e B) fun r s' z=>by
  rcases r with e|(v|_|_|_)<;>first|exact z.elim|skip
  .obtain⟨x,H',e,B',h'⟩:=z;exact⟨x,H',e,B',hE _ _ h'⟩
  .obtain⟨H',B',h'⟩:=z;exact⟨H',B',hQ _ _ h'⟩
theorem vP.mono{n n':Nat}{A:Around}(h:vP n A)(l:n'≤n):vP n' A:=⟨by have:=h.1;omega,by have:=h.2;omega⟩
theorem yI{n n':Nat}{hd:bP}{f:aC}{args:aB}{Q:pn}{E:EPost}(h:Sat S n hd f args H Q E)(l:n≤n'):Sat S n' hd f args H Q E:=
 fun A fs vs d9 s a hv b d e B=>h A fs vs d9 s a hv b d (e.mono l) B
theorem nG:∀{l:List (Str×aC)} {x:Str},(l.lookup x).map er=(l.map fun p=>(p.1,er p.2)).lookup x
 |[],_=>rfl
 |(n,v)::r,x=>by
  rw[fj,eP,eP];cases h:x==n with
  |true=>rfl
  |false=>exact nG
theorem gG:∀{l:List (Str×aC)} {x:Str},x∉l.map (·.1)→l.lookup x=none
 |[],_,_=>rfl
 |(n,v)::r,x,h=>by
  rw[fj,bS,not_or] at h;rw[eP,dw.mpr h.1];exact gG h.2
theorem w7{k:Str→Option NameKind}:∀{l:List (Str×aC)} {f:gL} {x:Str},(l.map (·.1)).Nodup→k x=some .local→bindL k l f x=(match l.lookup x with|some v=>some v|none=>f x)
 |[],f,x,_,_=>rfl
 |(n,v)::r,f,x,nd,hk=>by
  have vA:n∉r.map (·.1)∧(r.map (·.1)).Nodup:=fX.mp nd;unfold bindL;rw[w7 vA.2 hk,eP]
  by_cases e:x=n
  .subst e
   rw[gG vA.1,fR,bE hk];dsimp only;rw[bE rfl]
  .rw[dw.mpr e]
   dsimp only;cases r.lookup x with
   |some _=>rfl
   |none=>
    dsimp only;split
    .exact aR e
    .rfl
theorem w8{k:Str→Option NameKind}:∀{l:List (Str×aC)} {f:gL} {x:Str},(l.map (·.1)).Nodup→k x=some .cell→bindC k l f x=(match l.lookup x with|some v=>some v|none=>f x)
 |[],f,x,_,_=>rfl
 |(n,v)::r,f,x,nd,hk=>by
  have vA:n∉r.map (·.1)∧(r.map (·.1)).Nodup:=fX.mp nd;unfold bindC;rw[w8 vA.2 hk,eP]
  by_cases e:x=n
  .subst e
   rw[gG vA.1,fR,aR (by rw[hk];exact fun h=>by cases h)]
   dsimp only;rw[bE rfl]
  .rw[dw.mpr e]
   dsimp only;cases r.lookup x with
   |some _=>rfl
   |none=>
    dsimp only;split
    .rfl
    .exact aR e
theorem tQ{k:Str→Option NameKind}:∀{l:List (Str×aC)} {f:gL} {x:Str} {u:aC},bindL k l f x=some u→f x=some u∨(x,u)∈l
 |[],f,x,u,h=>.inl h
 |(n,v)::r,f,x,u,h=>by
  unfold bindL at h;rcases tQ h with h1|h1
  .split at h1
   .by_cases e:x=n
    .subst e
     have h1:(if x=x then some v else f x)=some u:=h1;rw[bE rfl] at h1;cases h1;exact .inr (.head _)
    .have h1:(if x=n then some v else f x)=some u:=h1
     rw[aR e] at h1;exact .inl h1
   .exact .inl h1
  .exact .inr (.tail _ h1)
theorem tR{k:Str→Option NameKind}:∀{l:List (Str×aC)} {f:gL} {x:Str} {u:aC},bindC k l f x=some u→f x=some u∨(x,u)∈l
 |[],f,x,u,h=>.inl h
 |(n,v)::r,f,x,u,h=>by
  unfold bindC at h;rcases tR h with h1|h1
  .split at h1
   .exact .inl h1
   .by_cases e:x=n
    .subst e
     have h1:(if x=x then some v else f x)=some u:=h1;rw[bE rfl] at h1;cases h1;exact .inr (.head _)
    .have h1:(if x=n then some v else f x)=some u:=h1
     rw[aR e] at h1;exact .inl h1
  .exact .inr (.tail _ h1)
theorem fi:∀{names:List (Str×NameKind)} {n:Nat} {bN:List (Str×Addr)} {x:Str},(x,NameKind.cell)∈names∨(bN.lookup x).isSome=true→((cellsFrom n names bN).lookup x).isSome=true
 |[],_,_,_,h=>by rcases h with h|h;cases h;exact h
 |(a,k)::r,n,bN,x,h=>by
  unfold cellsFrom;split
  .rename_i hk
   refine fi ?_;rw[eP]
   by_cases e:x=a
   .subst e;right;rw[fR];rfl
   .rw[dw.mpr e]
    rcases h with h|h
    .rcases bS.mp h with h|h
     .cases h;exact absurd rfl e
     .exact .inl h
    .exact .inr h
  .rename_i hk
   refine fi ?_;rcases h with h|h
   .rcases bS.mp h with h|h
    .cases h;exact absurd rfl hk
    .exact .inl h
   .exact .inr h
def iN(K:Frag)(f:Addr):Option FuncData:=match K.lookup f with
 |some ⟨_,_,.func fd,_⟩=>some fd
 |_=>none
def ix(K:Frag)(fd:FuncData):Bool:=fd.closure.isEmpty&&fd.globals==mainGlobals&&fd.builtins==builtinsNs&&codeIn K fd.code fd.qualname&&decide (fd.scope.kind=.function)&&!fd.scope.isCoroutine&&!fd.scope.isGenerator
structure zO(S:aN)(fd:FuncData)(f:Addr)(e:Env):Prop where
 scope:e.scope=fd.scope
 globals:e.globals=mainGlobals
 builtins:e.builtins=builtinsNs
 qual:e.qual=fd.qualname++".<locals>."
 func:e.func=some f
 code:e.code=fd.code
 frame:e.frame=some e.locals
 cells:e.cells=cellsFrom (e.locals+1) fd.scope.names []
def o8:Flow→aC
 | .ret v=>v
 |_=>.none
def Leave(S:aN)(c:Cx)(m:Map)(H H':AH):Prop:=∀ρ τ s,Body S ρ τ (c.top m) H s→∃cH,Body S cH τ c.fs H' s
theorem AY{S:aN}{n:Nat}{hd:bP}{f:Addr}{fd:FuncData}{body:List Stmt}{args:aB}{binds:Map}{H:AH}{Q:pn}{E:EPost}
  (hf:iN (KK S.w.params) f=some fd) (hp:ix (KK S.w.params) fd=true) (hb:fd.body=.stmts body)
  (Dh:∀d9 s,d9.map er=args→(KK S.w.params).In s.heap→∃f5,BindsTo s fd ⟨d9,[]⟩ f5∧(f5.map fun p=>(p.1,er p.2))=binds∧∀p∈f5,p.2∈d9∨∃a,p.2=.ref a∨p.2=.none)
  (hk:(binds.all fun p=>fd.scope.names.lookup p.1==some .local||fd.scope.names.lookup p.1==some .cell)=true) (nd:(binds.map (·.1)).Nodup)
  (h:∀c:Cx,zO S fd f c.env→c.act=true→c.Ok n hd→∀vs,T S c vs binds H (execs body c.env) (fun fl aQ m' H'=>(∀v,fl=.ret v→v∈aQ)∧∃aH,Leave S c m' H' aH∧Q (er (o8 fl)) aH) (fun x m' H'=>E x H')):Sat S (n+1) hd (.ref f) args H Q E:=by
 intro A fs vs d9 s ha NM oX Oo om ⟨ρ,τ,B,hW⟩;unfold iN at hf;split at hf
 rotate_left
 .cases hf
 rename_i oc od W2 Ya Kb;cases hf;unfold ix at hp;simp only[dJ,v5,dE,jD,q6] at hp;obtain⟨⟨⟨⟨⟨⟨p1,p2⟩,p3⟩,p4⟩,p5⟩,p6⟩,p7⟩:=hp;obtain⟨f5,Z6,RS,S8⟩:=Dh d9 s ha B.X;have qu:∀x∈f5,fd.scope.names.lookup x.1=some .local∨(fd.scope.names.lookup x.1=some .cell∧((cellsFrom (s.heap.objs.size+1) fd.scope.names []).lookup x.1).isSome=true):=fun x hx=>by
  have:=dC.mp hk (x.1,er x.2) (by rw[←RS];exact eF.mpr ⟨x,hx,rfl⟩)
  dsimp only at this;rw[kq,dE,dE] at this;rcases this with h1|h1
  .exact .inl h1
  .exact .inr ⟨h1,fi (.inl (mem_of_lookup h1))⟩
 have vA:(f5.map (·.1)).Nodup:=by rw[←RS,v3] at nd;exact nd
 refine codeAny_call_function (by have:=om.1;omega) (B.X _ _ Kb) rfl p6 p7 hb (codeRec_of B.X p4) (Z6 _ _ _ _ ?_)
 rw[p1];refine dD (wpAny_toks (wpAny_newFunctionEnv_cells (Q:=fun env s₁=>env=newEnv fd.scope s.heap.objs.size fd.globals (cellsFrom (s.heap.objs.size+1) fd.scope.names []) (fd.qualname++".<locals>.") (some f) fd.code none fd.builtins∧InCallC s env.locals (bindL env.kindOf f5 fun _=>none) env.cells (bindC env.kindOf f5 fun _=>none) s₁) (E:=fun _ _=>False) p5 qu fun env he s₁ X=>⟨he,X⟩)) (fun env s₁ ⟨gj,he,X⟩=>?_) fun _ _ h=>h.2.elim
 obtain⟨cN,tk,rfl⟩:=X.toInCall.same;have gj:s.toks≤tk:=gj;have hL:@Eq Nat env.locals s.heap.objs.size:=by rw[he];rfl
 have lt:@LT.lt Nat _ env.locals cN.objs.size:=X.toInCall.ns.lt;refine⟨B.lim.keeps X.toInCall.keep,codeAny_func ?_⟩;obtain⟨cH,kY⟩:∃cH:Addr→Role,cH=(fun(b:Nat)=>if b < s.heap.objs.size then ρ b else if b=(env.locals:Nat) then .frame else if b < cN.objs.size then .dict env.locals else .free):=⟨_,rfl⟩
 have c0:mI ρ cH env.locals s.heap cN:=by
  rw[kY];exact(show mI ρ (fun(b:Nat)=>if b < s.heap.objs.size then ρ b else if b=(env.locals:Nat) then .frame else if b < cN.objs.size then .dict env.locals else .free) env.locals s.heap cN from
  ⟨fun b o _ e=>X.toInCall.keep _ _ e,fun b o _ e=>bE (eZ e),fun(a:Nat) hle=>by
   have hle:cN.objs.size≤a:=hle
   have:@LT.lt Nat _ env.locals a:=dG lt hle
   show(if a < s.heap.objs.size then ρ a else if a=(env.locals:Nat) then .frame else if a < cN.objs.size then .dict env.locals else .free)=Role.free
   rw[aR (by omega),aR (by omega),aR (by omega)]⟩)
 have V4:¬@LT.lt Nat _ env.locals s.heap.objs.size:=by omega
 have rf:ρ env.locals=.free:=B.free _ (by omega)
 have ek:∀x,env.kindOf x=fd.scope.names.lookup x:=fun x=>by rw[he];rfl
 have wb:∀x u,(x,u)∈f5→WV τ u:=fun x u hu=>by
  rcases S8 (x,u) hu with h1|⟨a,h1|h1⟩
  .exact hW _ (NM _ h1)
  .rw[show u=.ref a from h1];exact trivial
  .rw[show u=.none from h1];exact trivial
 have iW:Body S cH τ (⟨env,binds,true,none⟩::fs) H {s with heap:=cN,toks:=tk}:=by
  refine B.chg (s':={s with heap:=cN,toks:=tk}) c0 (by rw[rf];exact fun h=>by cases h) (fun t i e=>dG (B.tok t i e) gj) (dG B.pos gj) rfl rfl (fun p hp=>?_) ?_ fun a q ha=>?_
  .rcases bS.mp hp with rfl|hp
   .refine⟨?_,(show ue cN cH τ _ from⟨by rw[he];exact p5,⟨_,X.toInCall.ns,fun x r hx hr=>?_,fun x u _ _ hu=>?_⟩,fun _=>⟨by rw[he];rfl,fun y d hy Cm=>?_,fun x hx=>?_,X.apart⟩⟩)⟩
    .rw[kY];show(if(env.locals:Nat) < s.heap.objs.size then ρ env.locals else if(env.locals:Nat)=env.locals then Role.frame else _)=_;rw[aR V4,bE rfl]
    .rw[←hr,w7 vA hx,←RS,←nG];cases f5.lookup x<;>rfl
    .rcases tQ hu with h1|h1
     .cases h1
     .exact wb _ _ h1
    .have ic:=X.cell y d hy
     have Co:=X.above y d (mem_of_lookup hy);have Co:@LT.lt Nat _ env.locals d:=Co;have hd2:@LT.lt Nat _ d cN.objs.size:=ic.lt;refine⟨?_,_,ic,fun r hr=>?_,fun u hu=>(tR hu).elim (fun h=>by cases h) (wb y u)⟩
     .rw[kY];show(if(d:Nat) < s.heap.objs.size then ρ d else if(d:Nat)=env.locals then Role.frame else if(d:Nat) < cN.objs.size then Role.dict env.locals else _)=_;rw[aR (fun q=>V4 (Nat.lt_trans Co q)),aR (q9 Co),bE hd2]
     .rw[←hr,w8 vA Cm,←RS,←nG];cases f5.lookup y<;>rfl
    .rw[he]
     have hx:=hx;rw[ek] at hx;exact fi (.inl (mem_of_lookup hx))
   .have:@LT.lt Nat _ p.env.locals s.heap.objs.size:=B.fV hp
    exact(B.frames p hp).keep .refl c0 (fq (by omega)) (by rw[rf];exact fun h=>by cases h)
  .refine fX.mpr ⟨fun hm=>?_,B.nodup⟩
   obtain⟨p,hp,e⟩:=eF.mp hm
   have:@LT.lt Nat _ p.env.locals s.heap.objs.size:=B.fV hp
   have e:@Eq Nat p.env.locals env.locals:=e;omega
  .obtain⟨q',Od⟩:=(B.lay _ _ ha).alive
   have:@LT.lt Nat _ a s.heap.objs.size:=eZ Od
   exact(B.lay _ _ ha).keep .refl c0 (by rw[rf];exact fun h=>by cases h) (by rw[rf];exact fun h=>by cases h) (fq (by omega))
 have ok:(⟨env,true,A.deeper env,fs⟩:Cx).Ok n hd:=by
  refine⟨?_,Oo,?_⟩
  .show(A.deeper env).frames=some (env::fH fs)
   unfold Around.deeper;rw[oX];rfl
  .have:=om.1;have:=om.2
   unfold Around.deeper;exact⟨by show A.depth+1+2 * n+2 < recursionLimit;omega,by show A.units+3+12 * n+50 < cLine;omega⟩
 have eo:zO S fd f env:=by
  subst he;exact⟨rfl,p2,p3,rfl,rfl,rfl,rfl,rfl⟩
 refine dD (h ⟨env,true,A.deeper env,fs⟩ eo rfl ok vs _ ⟨cH,τ,iW,hW⟩) (fun fl s' ⟨aQ,m',H',l,B',q1,aH,lv,q2⟩=>⟨aH,?_,?_⟩) fun e s' ⟨x,m',H',e',B',q⟩=>?_
 .obtain⟨GX,Ks,b,w⟩:=B'
  obtain⟨qR,ph⟩:=lv _ _ _ b;refine⟨qR,Ks,ph,fun v hv=>?_⟩
  rcases bS.mp hv with rfl|hv
  .cases fl with
   |ret v=>exact w _ (q1 v rfl)
   |_=>exact trivial
  .exact w _ (l _ hv)
 .cases fl<;>exact q2
 .subst e'
  rcases B' with B'|⟨_,B'⟩
  .exact tJ (fs:=fs) (m:=m') (vs:=vs) (by show(A.deeper env).frames=some (env::fH fs);unfold Around.deeper;rw[oX];rfl) B' fun NV qj=>⟨x,H',rfl,qj,q⟩
  .exact aM (fm B' (g9 B' fun NV ⟨ρ,τ,⟨qj,hW⟩,F⟩=>⟨x,H',rfl,⟨ρ,τ,⟨qj.pop,hW⟩,F⟩,q⟩))
theorem Em{S:aN}{n:Nat}{hd:bP}{f:Addr}{fd:FuncData}{body:List Stmt}{args:aB}{binds:Map}{H:AH}{Q:pn}{E:EPost}
  (hf:iN (KK S.w.params) f=some fd) (hp:ix (KK S.w.params) fd=true) (hb:fd.body=.stmts body)
  (Dh:∀d9 s,d9.map er=args→(KK S.w.params).In s.heap→∃f5,BindsTo s fd ⟨d9,[]⟩ f5∧(f5.map fun p=>(p.1,er p.2))=binds∧∀p∈f5,p.2∈d9∨∃a,p.2=.ref a∨p.2=.none)
  (hk:(binds.all fun p=>fd.scope.names.lookup p.1==some .local||fd.scope.names.lookup p.1==some .cell)=true) (nd:(binds.map (·.1)).Nodup)
  (h:∀c:Cx,zO S fd f c.env→c.act=true→c.Ok n hd→∀vs,T S c vs binds H (execs body c.env) (fun fl aQ m' H'=>(∀v,fl=.ret v→v∈aQ)∧Q (er (o8 fl)) H') (fun x m' H'=>E x H')):Sat S (n+1) hd (.ref f) args H Q E:=
 AY hf hp hb Dh hk nd fun c he ha ok vs=>cL (h c he ha ok vs) (fun _ _ m' H' _ ⟨h1,h2⟩=>⟨h1,H',fun ρ _ _ b=>⟨ρ,b.pop⟩,h2⟩) fun _ _ _ h=>h
def ow(K:Frag)(C:Addr)(n:Str)(i:Nat):Bool:=
 (names C)[i]?==some n&&decide (names C).Nodup&&plainGet K C n&&hasDictIn K C&&(findIn K (.ref C) n==some none)
def storeOk(K:Frag)(C:Addr)(n:Str)(i:Nat):Bool:=
 (names C)[i]?==some n&&decide (names C).Nodup&&(findIn K (.ref C) "__setattr__"==some (some (.builtin "object.__setattr__")))&&plainOver K C&&(takerIn K C n==some none)&&hasDictIn K C&&decide ((names C).length≤900)
def yy(K:Frag)(C:Addr)(n:Str)(f:Addr):Bool:=
 !(names C).contains n&&plainGet K C n&&(findIn K (.ref C) n==some (some (.ref f)))&&isFn K (.ref f)
def yz(K:Frag)(C fI:Addr):Bool:=makesIn K C&&(findIn K (.ref C) "__init__"==some (some (.ref fI)))&&isFn K (.ref fI)
theorem tK{v v':aC}(hv:handedIn v=true)(e:er v'=v):handedIn v'=true:=by
 cases v'<;>first|rfl|(cases e;exact hv)
theorem ij.len{P:Params}:∀{es:List DictEntry} {ns:bW} {vs:aB},ij P es ns vs→es.length≤ns.length
 |[],_,_,_=>g6 _
 |e::es,n::ns,v::vs,h=>Nat.succ_le_succ (ij.len h.2.2.2)
theorem Fh{n:Str}{es:List DictEntry}{v:aC}(h:getL n es=some (some v)):∃e∈es,e.val=v:=by
 unfold getL at h;split at h
 .rename_i e he;cases h;exact⟨e,C0 he,rfl⟩
 .split at h<;>cases h
theorem wL{n:Str}{hs:Int}{k v:aC}:∀{es:List DictEntry} {e:DictEntry},e∈putL n hs k v es→e.val=v∨∃e'∈es,e'.val=e.val
 |[],e,h=>by
  rcases bS.mp h with rfl|h
  .exact .inl rfl
  .cases h
 |x::r,e,h=>by
  unfold putL at h;split at h
  .rcases bS.mp h with rfl|h
   .exact .inl rfl
   .exact .inr ⟨e,.tail _ h,rfl⟩
  .rcases bS.mp h with rfl|h
   .exact .inr ⟨_,.head _,rfl⟩
   .rcases wL h with h|⟨e',h1,h2⟩
    .exact .inl h
    .exact .inr ⟨e',.tail _ h1,h2⟩
def jS:aB→Nat→aC→aB
 |[],_,v=>[v]
 |_::r,0,v=>v::r
 |x::r,i+1,v=>x::jS r i v
theorem A0:∀{vs:aB} {i:Nat} {v:aC},i≤vs.length→jS vs i v=if i < vs.length then vs.set i v else vs++[v]
 |[],i,v,h=>by
  have:i=0:=by simpa using h
  subst this;rfl
 |x::r,0,v,h=>rfl
 |x::r,i+1,v,h=>by
  have h':i≤r.length:=by simpa using h
  show x::jS r i v=_;rw[A0 h']
  by_cases q:i < r.length
  .rw[bE q,bE (by simpa using q)];rfl
  .rw[aR q,aR (by simpa using q)];rfl
theorem isSome_of{α:Type}{o:Option α}{a:α}(h:o=some a):o.isSome=true:=by rw[h];rfl
end
section
variable{S:aN}{c:Cx}{vs:aB}{m:Map}{H:AH}{E:Addr→Map→AH→Prop}{x C:Addr}{t:Nat}{fs:aB}{name:Str}{i:Nat}{v:aC}
theorem ET{expr:Bool}{Q:aC→aB→Map→AH→Prop}(hx:H x=some (.inst t C fs))(hk:ow (KK S.w.params) C name i=true)(hv:fs[i]?=some v)(hh:handedIn v=true)
  (h:∀u,er u=v→Q u (u::vs) m H):T S c vs m H (getAttr (.ref x) name expr) Q E:=fun s B=>by
 obtain⟨ρ,τ,b,w⟩:=B;obtain⟨d,es,n,r1,g1,r2,g2,fa,wv⟩:=b.lay _ _ hx;unfold ow at hk;simp only[dJ,dE,jD] at hk;obtain⟨⟨⟨⟨k1,k2⟩,k3⟩,k4⟩,k5⟩:=hk;obtain⟨u,g,r⟩:=fa.get k2 k1 hv;obtain⟨e,he,ZT⟩:=Fh g;refine get_value b.X ⟨g1,rfl,rfl,g2⟩ (vZ k3).1 (findObj_own k4 k5 rfl (show lookIn name (dictOf es n)=_ from g)) (tK hh r) ⟨u::vs,m,H,fun _ h=>.tail _ h,⟨ρ,τ,b.toks (dU _),fun q hq=>?_⟩,h u r⟩
 rcases bS.mp hq with rfl|hq
 .rw[←ZT];exact wv e he
 .exact w q hq
theorem BJ{oD:Obj}{mA:gL}{vs:aB}(h:Lc oD mA vs)(name:Str):lookIn name oD=some (mA name):=by
 obtain⟨⟨es,ep,hd,hk,-,hf⟩,-⟩:=h;unfold lookIn;rw[hd];dsimp only
 have:=hf name
 unfold nsFind findBy at this;rw[←zA] at this;cases q:es.toList.find? (·.key.isStr name) with
 |some e=>rw[q] at this;dsimp only;rw[←this];rfl
 |none=>
  rw[q] at this;dsimp only;rw[←this,aR]
  .rfl
  .intro r
   obtain⟨e,he,hr⟩:=qZ.mp r;obtain⟨n,t,hn⟩:=hk e (by simpa using he)
   unfold DictEntry.refKey at hr;rw[hn] at hr;cases hr
theorem IZ{pl:Sem Bool}{f:Addr}{Q:aC×aB→aB→Map→AH→Prop}(hx:H x=some (.inst t C fs))(hk:yy (KK S.w.params) C name f=true)
  (h:Q (.ref f,[.ref x]) vs m H):T S c vs m H (getMethod (.ref x) name pl) Q E:=og fun s B=>by
 have B':=B;obtain⟨ρ,τ,b,w⟩:=B;obtain⟨d,es,n,r1,g1,r2,g2,fa,wv⟩:=b.lay _ _ hx;unfold yy at hk;simp only[dJ,dE,q6] at hk;obtain⟨⟨⟨k1,k2⟩,k3⟩,k4⟩:=hk
 have:name∉(names C).take fs.length:=fun hm=>by
  have:=fM.mpr (tw hm)
  rw[k1] at this;cases this
 exact method_fn (od:=some (dictOf es n)) b.X ⟨g1,rfl,rfl,g2⟩ (vZ k2).1 (vZ k2).2 k3 (dE.mp k4) (by show(lookIn name (dictOf es n)).map _=_;rw[lookIn_dict,fa.miss this];rfl) ⟨B',h⟩
theorem I0{pl:Sem Bool}{Q:aC×aB→aB→Map→AH→Prop}(hx:H x=some (.inst t C fs))(hk:ow (KK S.w.params) C name i=true)(hv:fs[i]?=some v)(hh:handedIn v=true)
  (h:∀u,er u=v→Q (u,[]) (u::vs) m H):T S c vs m H (getMethod (.ref x) name pl) Q E:=by
 have Ve:=PySem.F.canon_object_ga;refine K8 fun sJ VN=>?_
 obtain⟨ρ,τ,b,w⟩:=VN;obtain⟨d,es,n,r1,g1,r2,g2,fa,wv⟩:=b.lay _ _ hx;have qu:=hk;unfold ow at qu;simp only[dJ,dE,jD] at qu;obtain⟨⟨⟨⟨k1,k2⟩,k3⟩,k4⟩,k5⟩:=qu;have typ:∀s,St S (c.top m) H vs s→Looks (model pw S.w) s.heap (typeOf (.ref x)) (.ref C):=fun s B=>by
  obtain⟨ρ,τ,b,w⟩:=B;obtain⟨d,es,n,r1,g1,r2,g2,fa,wv⟩:=b.lay _ _ hx;exact InstAt.type (od:=some (dictOf es n)) ⟨g1,rfl,rfl,g2⟩
 have sp:∀(nm:Str) (r:Option aC),findIn (KK S.w.params) (.ref C) nm=some r→∀s,St S (c.top m) H vs s→Looks (model pw S.w) s.heap (specialOf (.ref x) nm) r:=fun nm r e s B=>by
  have:=typ s B
  obtain⟨ρ,τ,b,w⟩:=B;exact this.andThen (zz b.X e)
 unfold getMethod;refine aP (yH (sp _ _ (vZ k3).1) fun _=>?_)
 dsimp only;rw[Ve,aR (by decide)]
 refine aP (yH (sp _ _ (vZ k3).2) fun _=>?_)
 rw[aR (by decide)]
 refine aP (yH (sp _ _ k5) fun _=>?_)
 dsimp only;exact aP (ET hx hk hv hh fun u hu _=>bV (h u hu))
theorem Nd{u:aC}{Q:Unit→aB→Map→AH→Prop}(hx:H x=some (.inst t C fs))(ht:t≠0)(hk:storeOk (KK S.w.params) C name i=true)(hi:i≤fs.length)(hu:u∈vs)
  (h:Q () vs m (upd H x (.inst t C (jS fs i (er u))))):T S c vs m H (setAttr (.ref x) name u) Q E:=fun s B=>by
 obtain⟨ρ,τ,b,w⟩:=B;obtain⟨d,es,n,r1,g1,r2,g2,fa,wv⟩:=b.lay _ _ hx;unfold storeOk at hk;simp only[dJ,dE,jD] at hk;obtain⟨⟨⟨⟨⟨⟨k1,k2⟩,k3⟩,k4⟩,k5⟩,k6⟩,k7⟩:=hk;rw[aR ht] at r1 r2;have I:InstAt s.heap x (instObj C d) C (some (dictOf es n)):=⟨g1,rfl,rfl,g2⟩;have hp:=fa.put (t:=s.toks+1) (v:=u) k2 k1 hi;rw[←A0 hi] at hp;have hl:(getL name es).isSome=true:=by
  by_cases q:i < fs.length
  .obtain⟨v',g,-⟩:=fa.get k2 k1 (lr q)
   exact isSome_of g
  .refine isSome_of (fa.miss fun hm=>?_)
   obtain⟨j,hj,e⟩:=List.getElem_of_mem hm;rw[qY] at hj;rw[List.getElem_take] at e;have ZK:i≠j:=by omega
   exact ZK ((List.getElem_inj k2).mp (((cQ.mp k1).2).trans e.symm))
 have hz:(putL name (PyData.keyHash S.w.params name) (.str name (s.toks+1)) u es).length≤1000:=gX hp.len (gX k7 (by decide))
 have put:=putName_dict name (PyData.keyHash S.w.params name) (.str name (s.toks+1)) u es n;obtain⟨cd,hc,gH⟩:=any_some (show((clsIn (KK S.w.params) C).any (·.hasDict))=true from k6)
 refine set_plain b.X I k3 (osa_open (s:={s with toks:=s.toks+1}) b.X I k4 k5 fun bb=>?_)
 refine aM (bO (aM (aM (wpAny_loadPart g1 (aM (looks_clsIn (M:=model pw S.w) (h:=s.heap) b.X hc _ _ _ _ (fun _ _ e=>e) ?_))))))
 rw[gH];refine bO (a:=some d) (aM (bO (aM ?_)));unfold nsSet;refine aM (aM (wpAny_askSetting (bO (aM (wpAny_mkText (aM (wpAny_loadPart g2 ?_)))))));dsimp only;have cn:aRefKeyMayBeTheName name es.toArray=false:=by
  rw[aRefKeyMayBeTheName_at];unfold getL at hl;rw[←CZ,←CZ];split at hl
  .rename_i en he
   rw[qZ.mpr ⟨en,C0 he,List.find?_some he⟩];rfl
  .split at hl
   .cases hl
   .rename_i z;rw[oj] at z;rw[z,Bool.and_false]
 rw[cn];have hs:Heap.SameBut d s.heap (s.heap.update d (Obj.putName name (PyData.keyHash S.w.params name) (.str name (s.toks+1)) u)):=gY ..;have gd:(s.heap.update d (Obj.putName name (PyData.keyHash S.w.params name) (.str name (s.toks+1)) u)).get? d=some (dictOf (putL name (PyData.keyHash S.w.params name) (.str name (s.toks+1)) u es) (putN name es n)):=by
  rw[i9 _ g2 (by rw[put];rfl),put]
 refine wpAny_updatePart g2 ?_;refine aM (wpAny_lookBehind gd (pastItsLine_dict (by rw[List.size_toArray,vY];omega)) (bO ?_))
 have RA:x≠d:=fun q=>by rw[←q,r1] at r2;cases r2
 have lay:jC S.w (s.heap.update d (Obj.putName name (PyData.keyHash S.w.params name) (.str name (s.toks+1)) u)) ρ τ x (.inst t C (jS fs i (er u))):=by
  refine⟨d,_,_,?_,(hs.2 x RA).trans g1,?_,gd,hp,fun e he=>?_⟩
  .rw[aR ht];exact r1
  .rw[aR ht];exact r2
  .rcases wL he with h1|⟨e',h1,h2⟩
   .rw[h1];exact w u hu
   .rw[←h2];exact wv e' h1
 exact⟨vs,m,_,fun _ h=>h,⟨ρ,τ,b.TX (s':={s with heap:=(s.heap.update d (Obj.putName name (PyData.keyHash S.w.params name) (.str name (s.toks+1)) u)),toks:=s.toks+1+1}) hx r2 hs rfl rfl (qX _ 2) lay,w⟩,h⟩
abbrev IsT(h:Heap)(l:Addr)(items:Array aC)(n:Nat):Prop:=h.get? l=some {cls:=.type "tuple",dict:=none,data:=.seq items n,slots:=#[]}
abbrev Wf(τ:Tok→Option Int)(l:aB):Prop:=∀v∈l,WV τ v
end
section
variable{S:aN}{c:Cx}{vs:aB}{m:Map}{H:AH}{E:Addr→Map→AH→Prop}{t:Nat}{xs:aB}{l a:Addr}{ρ:Addr→Role}{τ:Tok→Option Int}{fs:List cT}{s:aK}
theorem Body.list(b:Body S ρ τ fs H s)(hl:H l=some (.list t xs)):∃arr n,IsL s.heap l arr n∧arr.toList.map er=xs∧Wf τ arr.toList∧xs.length≤1000000∧arr.size=xs.length:=by
 obtain⟨arr,n,_,g,e,w,z⟩:=b.lay _ _ hl;exact⟨arr,n,g,e,w,z,by rw[←e];simp⟩
theorem Body.tup(b:Body S ρ τ fs H s)(hl:H l=some (.tup t xs)):∃arr n,IsT s.heap l arr n∧arr.toList.map er=xs∧Wf τ arr.toList∧xs.length≤1000000∧arr.size=xs.length:=by
 obtain⟨arr,n,_,g,e,w,z⟩:=b.lay _ _ hl;exact⟨arr,n,g,e,w,z,by rw[←e];simp⟩
theorem Body.ot(b:Body S ρ τ fs H s)(hl:H l=some (.list t xs))(ht:t≠0){arr:Array aC}{n:Nat}(g:IsL s.heap l arr n){f:Array aC→Array aC}{ys:aB}
  (he:(f arr).toList.map er=ys) (hw:Wf τ (f arr).toList) (hz:ys.length≤1000000) {k:Nat} (hk:s.toks≤k):Body S ρ τ fs (upd H l (.list t ys)) {s with heap:=s.heap.update l (Obj.mapSeq f),toks:=k}:=
 b.CB (s':={s with heap:=s.heap.update l (Obj.mapSeq f),toks:=k}) hl ht (gY ..) rfl rfl hk fun r=>⟨f arr,_,by rw[aR ht];exact r,IsL.update g f,he,hw,hz⟩
theorem Body.newList(b:Body S ρ τ fs H s){arr:Array aC}{ys:aB}(t:Nat)(ht:t≠0)(he:arr.toList.map er=ys)(hw:Wf τ arr.toList)(hz:ys.length≤1000000):
  H s.heap.objs.size=none∧∃cH,Body S cH τ fs (upd H s.heap.objs.size (.list t ys)) {s with heap:=s.heap.push {cls:=.type "list",data:=.seq arr}}:=
 ⟨b.fresh aF,b.zE fun cH r=>⟨arr,0,by rw[aR ht];exact r,mM _ rfl,he,hw,hz⟩⟩
theorem Body.yx(b:Body S ρ τ fs H s){arr:Array aC}{ys:aB}(t:Nat)(ht:t≠0)(he:arr.toList.map er=ys)(hw:Wf τ arr.toList)(hz:ys.length≤1000000):
  H s.heap.objs.size=none∧∃cH,Body S cH τ fs (upd H s.heap.objs.size (.tup t ys)) {s with heap:=s.heap.push {cls:=.type "tuple",data:=.seq arr}}:=
 ⟨b.fresh aF,b.zE fun cH r=>⟨arr,0,by rw[aR ht];exact r,mM _ rfl,he,hw,hz⟩⟩
theorem dP{n:Nat}(h:n≤1000000):n≤sizeLine:=by rw[vY];omega
theorem Gi{u:aC}{Q:aC→aB→Map→AH→Prop}(hl:H l=some (.list t xs))(ht:t≠0)(hz:xs.length < 1000000)(hu:u∈vs)(h:Q .none (.none::vs) m (upd H l (.list t (xs++[er u])))):
  T S c vs m H (call (.builtin "list.append") [.ref l,u]) Q E:=fun s ⟨ρ,τ,b,w⟩=>by
 obtain⟨arr,n,g,e,wf,z,hs⟩:=b.list hl;refine vX F.slot_list_append ⟨_,g,rfl⟩ F.entry_list_append (F.args_list_append_2 _ _) (list_append l arr n u (dP (hs▸z))) ⟨g,?_⟩;refine⟨_,m,_,fun _ h=>.tail _ h,⟨ρ,τ,b.ot hl ht g (f:=fun x=>x.push u) (ys:=xs++[er u]) (by simp[e]) (fun v hv=>?_) (by simp;omega) aF,fun v hv=>?_⟩,h⟩
 .simp at hv
  rcases hv with hv|rfl
  .exact wf v (by simpa using hv)
  .exact w _ hu
 .rcases bS.mp hv with rfl|hv
  .exact trivial
  .exact w v hv
theorem Rg{y:aC}{Q:aC→aB→Map→AH→Prop}(hl:H l=some (.list t (xs++[y])))(ht:t≠0)(h:∀u,er u=y→Q u (u::vs) m (upd H l (.list t xs))):
  T S c vs m H (call (.builtin "list.pop") [.ref l]) Q E:=fun s ⟨ρ,τ,b,w⟩=>by
 obtain⟨arr,n,g,e,wf,z,hs⟩:=b.list hl;rw[mL,List.length_singleton] at z hs;have fT:arr.size - 1 < arr.size:=by omega
 have WH:arr.toList.length=xs.length+1:=by simpa using hs
 have hy:er arr[arr.size - 1]=y:=by
  have h1:(arr.toList.map er)[arr.size - 1]?=some y:=by
   rw[e,hs];simp
  simp at h1
  obtain⟨u,h1,h2⟩:=h1;rw[←h2];congr 1;exact gZ ((zy fT).symm.trans h1)
 refine vX F.slot_list_pop ⟨_,g,rfl⟩ F.entry_list_pop (F.args_list_pop_1 _) (MeetsSeq.list_pop_last l arr n arr[arr.size - 1] (zy fT) (dP (by omega))) ⟨g,?_⟩
 have ed:(arr.eraseIdxIfInBounds (arr.size - 1)).toList=arr.toList.dropLast:=by
  rw[Array.eraseIdxIfInBounds,dif_pos fT,CY,List.eraseIdx_eq_dropLast (by simp;omega)]
 refine⟨_,m,_,fun _ h=>.tail _ h,⟨ρ,τ,b.ot hl ht g (f:=fun x=>x.eraseIdxIfInBounds (arr.size - 1)) (ys:=xs) ?_ (fun v hv=>?_) (by omega) aF,fun v hv=>?_⟩,h _ hy⟩
 .rw[ed,List.map_dropLast,e];simp
 .rw[ed] at hv;exact wf v (List.dropLast_subset _ hv)
 .rcases bS.mp hv with rfl|hv
  .exact wf _ (by simp)
  .exact w v hv
theorem Body.grow(b:Body S ρ τ fs H s){h':Heap}(k:∀a o,s.heap.get? a=some o→h'.get? a=some o){n:Nat}(hn:s.toks≤n):
  ∃cH:Addr→Role,Body S cH τ fs H {s with heap:=h',toks:=n}∧∀a o,s.heap.get? a=some o→cH a=ρ a:=by
 obtain⟨cH,kY⟩:∃cH:Addr→Role,cH=(fun(a:Nat)=>if h'.objs.size≤a then Role.free else if a < s.heap.objs.size then ρ a else Role.gr):=⟨_,rfl⟩
 have rr:∀a o,s.heap.get? a=some o→cH a=ρ a:=fun a o e=>by
  rw[kY]
  show(if h'.objs.size≤a then Role.free else if a < s.heap.objs.size then ρ a else Role.gr)=ρ a
  rw[aR (vW (eZ (k _ _ e))),bE (eZ e)]
 have c:mI ρ cH s.heap.objs.size s.heap h':=⟨fun a o _ e=>k _ _ e,fun a o _ e=>rr a o e,fun(a:Nat) ha=>by
  rw[kY];exact bE ha⟩
 have rf:=b.free _ (Nat.le_refl s.heap.objs.size);refine⟨cH,b.chg (s':={s with heap:=h',toks:=n}) c (by rw[rf];exact fun h=>by cases h) (fun t i e=>dG (b.tok t i e) hn) (dG b.pos hn) rfl rfl
  (fun p hp=>(b.frames p hp).keep .refl c (fq (b.fV hp)) (by rw[rf];exact fun h=>by cases h)) b.nodup fun a o ha=>?_,rr⟩
 obtain⟨q,hq⟩:=(b.lay _ _ ha).alive
 exact(b.lay _ _ ha).keep .refl c (by rw[rf];exact fun h=>by cases h) (by rw[rf];exact fun h=>by cases h) (fq (eZ hq))
theorem Nf{y:aC}{i:Tok}{Q:aC→aB→Map→AH→Prop}(hl:H l=some (.list t (y::xs)))(ht:t≠0)(h:∀u,er u=y→Q u (u::vs) m (upd H l (.list t xs))):
  T S c vs m H (call (.builtin "list.pop") [.ref l,.int 0 i]) Q E:=fun s ⟨ρ,τ,b,w⟩=>by
 obtain⟨arr,n,g,e,wf,z,hs⟩:=b.list hl;rw[dH] at z hs;have fT:0 < arr.size:=by omega
 obtain⟨u,r,hr⟩:∃u r,arr.toList=u::r:=by
  cases q:arr.toList with
  |nil=>rw[q] at e;cases e
  |cons u r=>exact⟨u,r,rfl⟩
 rw[hr,fj] at e;have h0:arr[0]?=some u:=by rw[←oi,hr];rfl
 refine vX F.slot_list_pop ⟨_,g,rfl⟩ F.entry_list_pop (F.args_list_pop_2 _ _) (MeetsSeq.list_pop_at l arr n 0 i 0 u (by decide) (by unfold seqIndex?;simp[fT]) h0 (dP (by omega))) ⟨g,?_⟩
 have ed:(arr.eraseIdxIfInBounds 0).toList=r:=by
  rw[Array.eraseIdxIfInBounds,dif_pos fT,CY,hr];rfl
 refine⟨_,m,_,fun _ h=>.tail _ h,⟨ρ,τ,b.ot hl ht g (f:=fun x=>x.eraseIdxIfInBounds 0) (ys:=xs) ?_ (fun v hv=>?_) (by omega) aF,fun v hv=>?_⟩,h _ (qW e).1⟩
 .rw[ed];exact(qW e).2
 .rw[ed] at hv;exact wf v (by rw[hr];exact .tail _ hv)
 .rcases bS.mp hv with rfl|hv
  .exact wf _ (by rw[hr];exact .head _)
  .exact w v hv
theorem Gf{ys:aB}{t':Nat}{Q:aC→aB→Map→AH→Prop}(hl:H l=some (.list t xs))(ha:H a=some (.list t' ys))(ht:t≠0)(hz:xs.length+ys.length≤1000000)(h:Q .none (.none::vs) m (upd H l (.list t (xs++ys)))):
  T S c vs m H (call (.builtin "list.extend") [.ref l,.ref a]) Q E:=fun s ⟨ρ,τ,b,w⟩=>by
 obtain⟨arr,n,g,e,wf,z,hs⟩:=b.list hl;obtain⟨xR,n',g',e',NQ,z',qt⟩:=b.list ha;refine vX F.slot_list_extend ⟨_,g,rfl⟩ F.entry_list_extend (F.args_list_extend_2 _ _) (AutoSeq1.list_extend_list_list_0 l arr n a xR n' (by
  unfold Builtin.List.listTooLong
  have:¬(arr.size+xR.size > sizeLine):=by rw[vY];omega
  simp[this]) (dP (by omega)) (Nat.le_succ_of_le (dP (by omega)))) ⟨g,g',?_⟩
 refine⟨_,m,_,fun _ h=>.tail _ h,⟨ρ,τ,b.ot hl ht g (f:=fun x=>x++xR) (ys:=xs++ys) (by simp[e,e']) (fun v hv=>?_) (by simp;omega) aF,fun v hv=>?_⟩,h⟩
 .simp at hv
  rcases hv with hv|hv
  .exact wf v (by simpa using hv)
  .exact NQ v (by simpa using hv)
 .rcases bS.mp hv with rfl|hv
  .exact trivial
  .exact w v hv
theorem Cb{Q:aC→aB→Map→AH→Prop}(hl:H l=some (.list t xs))(h:∀k,Q (.int xs.length k) (.int xs.length k::vs) m H):
  T S c vs m H (call (.builtin "len") [.ref l]) Q E:=fun s ⟨ρ,τ,b,w⟩=>by
 obtain⟨arr,n,g,e,wf,z,hs⟩:=b.list hl;refine call_len_list g.isList (by omega) ?_
 rw[hs];exact⟨_,m,H,fun _ h=>.tail _ h,St.int ⟨ρ,τ,b,w⟩ _ (dU _) (q7 _),h _⟩
theorem Gb{Q:aC→aB→Map→AH→Prop}(hl:H l=some (.tup t xs))(h:∀k,Q (.int xs.length k) (.int xs.length k::vs) m H):
  T S c vs m H (call (.builtin "len") [.ref l]) Q E:=fun s ⟨ρ,τ,b,w⟩=>by
 obtain⟨arr,n,g,e,wf,z,hs⟩:=b.tup hl;refine len_tuple ⟨_,g,rfl,_,rfl⟩ (by omega) ?_
 rw[hs];exact⟨_,m,H,fun _ h=>.tail _ h,St.int ⟨ρ,τ,b,w⟩ _ (dU _) (q7 _),h _⟩
def vE(xs:aB)(i:Int):Option aC:=if 0≤i then xs[i.toNat]? else if 0≤(xs.length:Int)+i then xs[((xs.length:Int)+i).toNat]? else none
theorem seqIndex_of{n:Nat}{i:Int}{xs:aB}{y:aC}(hn:n=xs.length)(h:vE xs i=some y):∃j,seqIndex? i n=some j∧xs[j]?=some y:=by
 subst hn;unfold vE at h;unfold seqIndex?;split at h
 .rename_i h0
  have h1:=(cQ.mp h).1;have h2:¬i < 0:=by omega
  refine⟨i.toNat,?_,h⟩;simp only[h2,tv];have h3:i < (xs.length:Int):=by omega
  simp[h0,h3]
 .rename_i h0
  split at h
  .rename_i h1
   refine⟨_,?_,h⟩;have h2:i < 0:=by omega
   simp only[h2,if_true];have h3:i+(xs.length:Int) < (xs.length:Int):=by omega
   have h4:0≤i+(xs.length:Int):=by omega
   simp[h3,h4]
   omega
  .cases h
theorem Cc{y:aC}{i:Int}{k:Tok}{Q:aC→aB→Map→AH→Prop}(hl:H l=some (.tup t xs))(hi:vE xs i=some y)(h:∀u,er u=y→Q u (u::vs) m H):
  T S c vs m H (getItem (.ref l) (.int i k)) Q E:=fun s ⟨ρ,τ,b,w⟩=>by
 obtain⟨arr,n,g,e,wf,z,hs⟩:=b.tup hl;obtain⟨j,hj,hy⟩:=seqIndex_of hs hi;rw[←e,fL] at hy;obtain⟨u,hu,hr⟩:=ey.mp hy;have hb:-(2 ^ 63)≤i∧i < 2 ^ 63:=by
  unfold vE at hi;split at hi
  .have:=(cQ.mp hi).1;omega
  .split at hi
   .omega
   .cases hi
 refine getItem_tuple ⟨_,g,rfl,_,rfl⟩ hb.1 hb.2 hj (by rw[←oi];exact hu) ?_
 refine⟨_,m,H,fun _ h=>.tail _ h,⟨ρ,τ,b,fun v hv=>?_⟩,h u hr⟩
 rcases bS.mp hv with rfl|hv
 .exact wf _ (hZ hu)
 .exact w v hv
theorem zf{y:aC}{i:Int}{k:Tok}{Q:aC→aB→Map→AH→Prop}(hl:H l=some (.list t xs))(h0:0≤i)(hi:xs[i.toNat]?=some y)(h:∀u,er u=y→Q u (u::vs) m H):
  T S c vs m H (getItem (.ref l) (.int i k)) Q E:=fun s ⟨ρ,τ,b,w⟩=>by
 obtain⟨arr,n,g,e,wf,z,hs⟩:=b.list hl;have h1:=(cQ.mp hi).1;rw[←e,fL] at hi;obtain⟨u,hu,hr⟩:=ey.mp hi;refine wpAny_getItem_list g.isList h0 (by omega) (by rw[←oi];exact hu) ?_
 refine⟨_,m,H,fun _ h=>.tail _ h,⟨ρ,τ,b,fun v hv=>?_⟩,h u hr⟩
 rcases bS.mp hv with rfl|hv
 .exact wf _ (hZ hu)
 .exact w v hv
theorem B9{us:aB}{Q:aC→aB→Map→AH→Prop}(t:Nat)(ht:t≠0)(hu:∀u∈us,u∈vs)(hz:us.length≤1000000)(h:∀a,H a=none→Q (.ref a) (.ref a::vs) m (upd H a (.list t (us.map er)))):
  T S c vs m H (newList us) Q E:=fun s ⟨ρ,τ,b,w⟩=>by
 obtain⟨hn,cH,b'⟩:=b.newList (arr:=us.toArray) (ys:=us.map er) t ht (by simp) (fun v hv=>w v (hu v (by simpa using hv))) (by simpa using hz)
 refine wpAny_newList ⟨_,m,_,fun _ h=>.tail _ h,⟨cH,τ,b',fun v hv=>?_⟩,h _ hn⟩ (dP hz)
 rcases bS.mp hv with rfl|hv
 .exact trivial
 .exact w v hv
theorem FV{us:aB}{Q:aC→aB→Map→AH→Prop}(t:Nat)(ht:t≠0)(hu:∀u∈us,u∈vs)(hz:us.length≤1000000)(h:∀a,H a=none→Q (.ref a) (.ref a::vs) m (upd H a (.tup t (us.map er)))):
  T S c vs m H (newTuple us) Q E:=fun s ⟨ρ,τ,b,w⟩=>by
 obtain⟨hn,cH,b'⟩:=b.yx (arr:=us.toArray) (ys:=us.map er) t ht (by simp) (fun v hv=>w v (hu v (by simpa using hv))) (by simpa using hz)
 refine wpAny_newTuple ⟨_,m,_,fun _ h=>.tail _ h,⟨cH,τ,b',fun v hv=>?_⟩,h _ hn⟩ (dP hz)
 rcases bS.mp hv with rfl|hv
 .exact trivial
 .exact w v hv
theorem cR{vs:aB}{u:aC}(hu:WV τ u)(w:∀v∈vs,WV τ v):∀v∈u::vs,WV τ v:=fun v hv=>by
 rcases bS.mp hv with rfl|hv
 .exact hu
 .exact w v hv
theorem Cf{ys:aB}{t':Nat}{Q:aC→aB→Map→AH→Prop}(r:Nat)(hr:r≠0)(hl:H l=some (.list t xs))(ha:H a=some (.list t' ys))(hz:xs.length+ys.length≤1000000)(h:∀d,H d=none→Q (.ref d) (.ref d::vs) m (upd H d (.list r (xs++ys)))):
  T S c vs m H (binaryOp .Add (.ref l) (.ref a)) Q E:=fun s ⟨ρ,τ,b,w⟩=>by
 obtain⟨arr,n,g,e,wf,z,hs⟩:=b.list hl;obtain⟨xR,n',g',e',NQ,z',qt⟩:=b.list ha;obtain⟨hn,cH,b'⟩:=b.newList (arr:=arr++xR) (ys:=xs++ys) r hr (by simp[e,e']) (fun v hv=>by
  simp at hv
  rcases hv with hv|hv
  .exact wf v (by simpa using hv)
  .exact NQ v (by simpa using hv)) (by simpa using hz)
 exact P.add_list g g' ⟨_,m,_,fun _ h=>.tail _ h,⟨cH,τ,b',cR (u:=.ref s.heap.objs.size) trivial w⟩,h _ hn⟩ (dP (by omega))
theorem B5{Q:aC→aB→Map→AH→Prop}(r:Nat)(hr:r≠0)(hl:H l=some (.list t xs))(h:∀d,H d=none→Q (.ref d) (.ref d::vs) m (upd H d (.tup r xs))):
  T S c vs m H (call (.type "tuple") [.ref l]) Q E:=fun s ⟨ρ,τ,b,w⟩=>by
 obtain⟨arr,n,g,e,wf,z,hs⟩:=b.list hl;refine call_tuple_list g.isList (fun h' k=>?_) (dP (by omega))
 obtain⟨cH,b',rr⟩:=b.grow k aF;obtain⟨hn,GX,NP⟩:=b'.yx (arr:=arr) (ys:=xs) r hr e wf z;exact⟨_,m,_,fun _ h=>.tail _ h,⟨GX,τ,NP,cR (u:=.ref h'.objs.size) trivial w⟩,h _ hn⟩
theorem uY:∀P:Params,(tz.all fun p=>nsIn (KK P) mainGlobals p.1==some (some p.2))=true:=fun P=>by kernel_rfl
theorem Fx:∀P:Params,(rJ.all fun p=>nsIn (KK P) mainGlobals p.1==some none&&(bootBuiltins p.1==some p.2)&&!(p.1=="__name__"))=true:=fun P=>by kernel_rfl
theorem lookup_mem{l:List (Str×aC)}{x:Str}{v:aC}(h:l.lookup x=some v):(x,v)∈l:=by
 induction l with
 |nil=>cases h
 |cons p r ih=>
  obtain⟨n,u⟩:=p;rw[eP] at h;split at h
  .rename_i q;cases h;rw[eq_of_beq q];exact .head _
  .exact .tail _ (ih h)
variable{Q:aC→aB→Map→AH→Prop}{x:Str}{v:aC}
theorem Nh(hk:c.env.scope.kind=.function)(hx:c.env.kindOf x=some .globalImplicit)(hg:c.env.globals=mainGlobals)(h1:tz.lookup x=some v)(h:Q v (v::vs) m H):T S c vs m H (loadName c.env x) Q E:=fun s ⟨ρ,τ,b,w⟩=>by
 have hm:=lookup_mem h1;have e:=dE.mp (dC.mp (uY S.w.params) (x,v) hm);rw[loadName_read hk hx];exact loadGlobal_global (hg▸b.g) (mg_of b.X b.g e) ⟨_,m,H,fun _ h=>.tail _ h,⟨ρ,τ,b,cR (b.gl _ hm) w⟩,h⟩
theorem Jc(hk:c.env.scope.kind=.function)(hx:c.env.kindOf x=some .globalImplicit)(hg:c.env.globals=mainGlobals)(hb:c.env.builtins=builtinsNs)(h1:rJ.lookup x=some v)(h:Q v vs m H):T S c vs m H (loadName c.env x) Q E:=og fun s B=>by
 have B':=B;obtain⟨ρ,τ,b,w⟩:=B;have e:=dC.mp (Fx S.w.params) (x,v) (lookup_mem h1);simp only[dJ,dE,q6,dw] at e;obtain⟨⟨e1,e2⟩,e3⟩:=e;rw[loadName_read hk hx];exact loadGlobal_builtin (hg▸b.g) (mg_none_of b.X b.g e1) (hb▸b.b) ((S.bi x e3).trans e2) ⟨B',h⟩
theorem JV(hk:c.env.scope.kind=.function)(hx:c.env.kindOf x=some .local)(hv:m.lookup x=some v)(h:∀u,er u=v→Q u (u::vs) m H):T S c vs m H (loadName c.env x) Q E:=fun s ⟨ρ,τ,b,w⟩=>by
 obtain⟨f,n,e,ew⟩:=((b.frames _ (.head _)).nsOk rfl).ns;obtain⟨u,hu,hr⟩:=ey.mp (e x _ hx hv);exact wpAny_loadName_local hk hx n hu ⟨u::vs,m,H,fun _ h=>.tail _ h,⟨ρ,τ,b,cR (ew _ _ hx (isSome_of hv) hu) w⟩,h u hr⟩
theorem Nl(ha:c.act=true)(hk:c.env.scope.kind=.function)(hx:c.env.kindOf x=some .cell)(hv:m.lookup x=some v)(h:∀u,er u=v→Q u (u::vs) m H):T S c vs m H (loadName c.env x) Q E:=fun s ⟨ρ,τ,b,w⟩=>by
 obtain⟨a1,a2,a3,a4⟩:=((b.frames _ (.head _)).nsOk rfl).act ha;have a3:=a3 x hx;obtain⟨d,hd⟩:=mK.mp a3;obtain⟨_,u,ic,e,ew⟩:=a2 x d hd hx;obtain⟨u,rfl,hr⟩:=ey.mp (e _ hv);exact wpAny_loadName_cell hk hx hd ic ⟨u::vs,m,H,fun _ h=>.tail _ h,⟨ρ,τ,b,cR (ew _ rfl) w⟩,h u hr⟩
theorem VH{p:cT}{d:Addr}(hp:p∈c.fs)(ha:p.act=true)(hn:p.pin=none)(hk:c.env.scope.kind=.function)(hx:c.env.kindOf x=some .cell)(hd:c.env.cells.lookup x=some d)(gH:p.env.cells.lookup x=some d)(J5:p.env.kindOf x=some .cell)(hv:p.m.lookup x=some v)
  (h:∀u,er u=v→Q u (u::vs) m H):T S c vs m H (loadName c.env x) Q E:=fun s ⟨ρ,τ,b,w⟩=>by
 obtain⟨a1,a2,a3,a4⟩:=((b.frames p (.tail _ hp)).nsOk hn).act ha;obtain⟨_,u,ic,e,ew⟩:=a2 x d gH J5;obtain⟨u,rfl,hr⟩:=ey.mp (e _ hv);exact wpAny_loadName_cell hk hx hd ic ⟨u::vs,m,H,fun _ h=>.tail _ h,⟨ρ,τ,b,cR (ew _ rfl) w⟩,h u hr⟩
def put:Map→Str→aC→Map
 |[],x,v=>[(x,v)]
 |(y,u)::r,x,v=>if(x==y)=true then(y,v)::r else(y,u)::put r x v
theorem eN{x y:Str}{v:aC}:∀{m:Map},(put m x v).lookup y=if y=x then some v else m.lookup y
 |[]=>by
  unfold put;rw[eP]
  by_cases e:y=x
  .subst e;rw[fR,bE rfl]
  .rw[dw.mpr e,aR e]
 |(z,u)::r=>by
  unfold put
  by_cases q:x=z
  .subst q
   rw[bE (fR _)]
   by_cases e:y=x
   .subst e;rw[bE rfl,eP,fR]
   .rw[aR e,eP,eP,dw.mpr e]
  .rw[aR (by rw[dw.mpr q];simp),eP,eP,eN]
   by_cases e:y=z
   .subst e
    have q':¬y=x:=fun h=>q h.symm
    simp only[fR,aR q']
   .rw[dw.mpr e]
theorem xb{u:aC}{Q:Unit→aB→Map→AH→Prop}(hk:c.env.scope.kind=.function)(hx:c.env.kindOf x=some .local)(hu:u∈vs)(h:Q () vs (put m x (er u)) H):T S c vs m H (storeName c.env x u) Q E:=fun s ⟨ρ,τ,b,w⟩=>by
 obtain⟨f,n,e,ew⟩:=((b.frames _ (.head _)).nsOk rfl).ns;refine CX hx n (fun h' n' sb=>⟨vs,_,H,fun _ h=>h,⟨ρ,τ,?_,w⟩,h⟩) (by rw[hk];rfl)
 refine Body.local (s':={s with heap:=h',toks:=s.toks+1}) b sb rfl rfl (dU _) n' (fun y v Cm Ka hy=>?_) (fun y r hy hr=>?_) fun y r hy hr=>?_
 .have hy:(if y=x then some u else f y)=some v:=hy
  split at hy
  .cases hy;exact w _ hu
  .rename_i q;rw[eN,aR q] at Ka;exact ew y v Cm Ka hy
 .rw[eN] at hr
  show(if y=x then some u else f y).map er=_
  split
  .rename_i q;rw[bE q] at hr;exact hr
  .rename_i q;rw[aR q] at hr;exact e y r hy hr
 .rw[eN,aR] at hr
  .exact hr
  .rintro rfl
   rw[hx] at hy;cases hy
theorem B7{u:aC}{Q:Unit→aB→Map→AH→Prop}(ha:c.act=true)(hk:c.env.scope.kind=.function)(hx:c.env.kindOf x=some .cell)(hu:u∈vs)(h:Q () vs (put m x (er u)) H):T S c vs m H (storeName c.env x u) Q E:=fun s ⟨ρ,τ,b,w⟩=>by
 obtain⟨a1,a2,a3,a4⟩:=((b.frames _ (.head _)).nsOk rfl).act ha;have a3:=a3 x hx;obtain⟨d,hd⟩:=mK.mp a3;obtain⟨_,sG,ic,e,ew⟩:=a2 x d hd hx;refine wpAny_storeName_cell hk hx hd ic fun h' YW sb=>⟨vs,_,H,fun _ h=>h,⟨ρ,τ,?_,w⟩,h⟩
 obtain⟨env,act,A,fs⟩:=c;have ha:act=true:=ha;subst ha;refine Body.cell (s':={s with heap:=h'}) b hd hx sb rfl rfl aF YW (fun v hv=>?_) (fun r hr=>?_) fun y hy=>?_
 .cases hv;exact w _ hu
 .rw[eN,bE rfl] at *;assumption
 .rw[eN,aR hy]
def zp:aC→aC→Option Bool
 | .int i _,.int j _=>some (i==j)
 | .str x _,.str y _=>some (x==y)
 |_,_=>none
theorem M3{a b:aC}{r:Bool}(h:zp (er a) (er b)=some r):(∃i t j u,a=.int i t∧b=.int j u∧r=(i==j))∨∃x t y u,a=.str x t∧b=.str y u∧r=(x==y):=by
 cases a<;>cases b<;>simp only[er,zp,reduceCtorEq,mJ] at h
 .subst h;exact .inl ⟨_,_,_,_,rfl,rfl,rfl⟩
 .subst h;exact .inr ⟨_,_,_,_,rfl,rfl,rfl⟩
theorem M2{v:aC}{i:Int}(h:er v=.int i 0):∃t,v=.int i t:=by
 cases v<;>simp only[er,reduceCtorEq,pT] at h;exact⟨_,by rw[h.1]⟩
theorem MZ{v:aC}{x:Str}(h:er v=.str x 0):∃t,v=.str x t:=by
 cases v<;>simp only[er,reduceCtorEq,tr] at h;exact⟨_,by rw[h.1]⟩
theorem dM{v:aC}{a:Addr}(h:er v=.ref a):v=.ref a:=by
 cases v<;>simp only[er,reduceCtorEq,Value.ref.injEq] at h;rw[h]
theorem u0{v:aC}(h:er v=.none):v=.none:=by
 cases v<;>simp only[er,reduceCtorEq] at h
 rfl
theorem A6{v:aC}{b:Bool}(h:er v=.bool b):v=.bool b:=by
 cases v<;>simp only[er,reduceCtorEq,Value.bool.injEq] at h;rw[h]
theorem iP{t:Sem aC}{i:Int}(k:∀s (Q:aC→aK→Prop) E,(Q (.int i s.toks) {s with toks:=s.toks+1})→wpAny (model pw S.w) c.A t Q E s)(h:∀u,Q (.int i u) (.int i u::vs) m H):T S c vs m H t Q E:=fun s B=>
 k s _ _ ⟨_,m,H,fun _ h=>.tail _ h,B.int i aF (q7 _),h _⟩
theorem Gk{i j:Int}{t u:Tok}(h:∀k,Q (.int (i+j) k) (.int (i+j) k::vs) m H):T S c vs m H (binaryOp .Add (.int i t) (.int j u)) Q E:=iP (fun s Q E h=>PyProof.Rows.add_int h) h
theorem FJ{i j:Int}{t u:Tok}(h:∀k,Q (.int (i - j) k) (.int (i - j) k::vs) m H):T S c vs m H (binaryOp .Sub (.int i t) (.int j u)) Q E:=iP (fun s Q E h=>PyProof.Rows.sub_int h) h
theorem IG{a:Int}(h:a.natAbs < 2 ^ 64):Builtin.Int.intBits a≤64:=by
 unfold Builtin.Int.intBits;split
 .omega
 .rename_i q
  have:a≠0:=by simpa using q
  have:=(Nat.log2_lt (n:=a.natAbs) (k:=64) (by omega)).mpr h
  omega
theorem FZ{i j:Int}{t u:Tok}(hi:i.natAbs < 2 ^ 64)(h:∀k,Q (.int (i * j) k) (.int (i * j) k::vs) m H):T S c vs m H (binaryOp .Mult (.int i t) (.int j u)) Q E:=iP (fun s Q E h=>PyProof.Rows.mul_int h (IntMulOk.of_left (IG hi))) h
theorem rS{i j:Int}{t u:Tok}(hj:j≠0)(h:∀k,Q (.int (i.fmod j) k) (.int (i.fmod j) k::vs) m H):T S c vs m H (binaryOp .Mod (.int i t) (.int j u)) Q E:=iP (fun s Q E h=>mod_int' hj h) h
theorem Gg{i j:Int}{t u:Tok}(hj:j≠0)(hp:Builtin.divisionGoesByPylong i j=false)(h:∀k,Q (.int (i.fdiv j) k) (.int (i.fdiv j) k::vs) m H):T S c vs m H (binaryOp .FloorDiv (.int i t) (.int j u)) Q E:=iP (fun s Q E h=>floordiv_int hj h (.inl hp)) h
theorem FU{i j:Int}{t u:Tok}(hj:0≤j)(hs:(Builtin.Int.intBits i:Int) * j≤2 ^ 27)(h:∀k,Q (.int (i ^ j.toNat) k) (.int (i ^ j.toNat) k::vs) m H):T S c vs m H (binaryOp .Pow (.int i t) (.int j u)) Q E:=iP (fun s Q E h=>pow_int hj hs h) h
theorem FX{i:Int}{t:Tok}(h:∀k,Q (.int (-i) k) (.int (-i) k::vs) m H):T S c vs m H (unaryOp .USub (.int i t)) Q E:=iP (fun s Q E h=>PyProof.Rows.neg_int h) h
theorem pZ{t:Sem aC}{v:aC}(k:∀s (Q:aC→aK→Prop) E,Q v s→wpAny (model pw S.w) c.A t Q E s)(h:Q v vs m H):T S c vs m H t Q E:=fun s B=>k s _ _ ⟨vs,m,H,fun _ h=>h,B,h⟩
def KX(op:CmpOp)(i j:Int):Option Bool:=match op with
 | .Eq=>some (i==j)
 | .NotEq=>some (i != j)
 | .Lt=>some (decide (i < j))
 | .LtE=>some (decide (i≤j))
 | .Gt=>some (decide (j < i))
 | .GtE=>some (decide (j≤i))
 |_=>none
theorem Gh{op:CmpOp}{i j:Int}{t u:Tok}{b:Bool}(hb:KX op i j=some b)(h:Q (.bool b) vs m H):T S c vs m H (compareOp op (.int i t) (.int j u)) Q E:=by
 cases op<;>simp only[KX,reduceCtorEq,mJ] at hb<;>subst hb
 .exact pZ (fun s Q E h=>PyProof.Rows.eq_int h) h
 .exact pZ (fun s Q E h=>PyProof.Rows.ne_int h) h
 .exact pZ (fun s Q E h=>PyProof.Rows.lt_int h) h
 .exact pZ (fun s Q E h=>PyProof.Rows.le_int h) h
 .exact pZ (fun s Q E h=>PyProof.Rows.gt_int h) h
 .exact pZ (fun s Q E h=>PyProof.Rows.ge_int h) h
theorem I9{x y:Str}{t u:Tok}(h:Q (.bool (x==y)) vs m H):T S c vs m H (compareOp .Eq (.str x t) (.str y u)) Q E:=pZ (fun s Q E h=>PyProof.Rows.eq_str h) h
theorem IX{x y:Str}{t u:Tok}(h:Q (.bool (x != y)) vs m H):T S c vs m H (compareOp .NotEq (.str x t) (.str y u)) Q E:=pZ (fun s Q E h=>PyProof.Rows.ne_str h) h
def jr:AO→Bool
 | .tup .. =>false
 | .raw _ o=>!(o.cls==.type "tuple")
 | .aX .. =>false
 | .bR .. =>false
 | .cell .. =>false
 |_=>true
def Ct(H:AH)(a b:aC):Option Bool:=match a,b with
 | .ref x,.ref y=>if x=y then some true else match H x,H y with
  |some o,some o'=>if jr o||jr o' then some false else none
  |_,_=>none
 | .int i _,.int j _=>if i=j then(if smallInt i then some true else none) else some false
 | .none,.none=>some true
 | .none,.ref _=>some false
 | .ref _,.none=>some false
 | .int _ _,.ref _=>some false
 | .ref _,.int _ _=>some false
 | .none,.int _ _=>some false
 | .int _ _,.none=>some false
 |_,_=>none
theorem jC.jr{w:World}{h:Heap}{ρ:Addr→Role}{τ:Tok→Option Int}{a:Addr}{o:AO}(l:jC w h ρ τ a o)(n:jr o=true):∃q,h.get? a=some q∧q.cls≠.type "tuple":=by
 cases o with
 |inst=>obtain⟨_,_,_,_,g,_⟩:=l;exact⟨_,g,fun h=>by cases h⟩
 |exc=>obtain⟨_,_,_,_,_,_,_,g,_⟩:=l;exact⟨_,g,fun h=>by cases h⟩
 |list=>obtain⟨_,_,_,g,_⟩:=l;exact⟨_,g,by simp⟩
 |tup=>cases n
 |aX=>cases n
 |bR=>cases n
 |cell=>cases n
 |raw=>exact⟨_,l.2.1,by unfold aV.jr at n;simpa using n⟩
theorem xj{M:Model}{A:Around}{E:aC→aK→Prop}{s:aK}{x y:Addr}{ox oy:Obj}{Q:Bool→aK→Prop}(Sw:x≠y)(hx:s.heap.get? x=some ox)(hy:s.heap.get? y=some oy)(hn:ox.cls≠.type "tuple"∨oy.cls≠.type "tuple")(h:Q false s):wpAny M A (isSame (.ref x) (.ref y)) Q E s:=by
 unfold isSame;dsimp only;rw[aR (by rw[dw.mpr Sw];exact eV)]
 refine aM (qV hx (aM (qV hy ?_)));split
 .rename_i e1 e2 _ _
  rcases hn with hn|hn
  .exact absurd e1 hn
  .exact absurd e2 hn
 .exact bO h
theorem xd{a b:aC}{r:Bool}{Q:Bool→aB→Map→AH→Prop}(ha:a∈vs)(hb:b∈vs)(hr:Ct H (er a) (er b)=some r)(h:Q r vs m H):T S c vs m H (isSame a b) Q E:=og fun s B=>by
 have B':=B;obtain⟨ρ,τ,b',w⟩:=B;have wa:=w _ ha;have wb:=w _ hb;cases a<;>cases b<;>simp only[er,Ct,reduceCtorEq,mJ] at hr
 case none.none=>subst hr;exact bO ⟨B',h⟩
 case none.int=>subst hr;exact bO ⟨B',h⟩
 case none.ref=>subst hr;exact bO ⟨B',h⟩
 case int.none=>subst hr;exact bO ⟨B',h⟩
 case int.ref=>subst hr;exact bO ⟨B',h⟩
 case ref.none=>subst hr;exact bO ⟨B',h⟩
 case ref.int=>subst hr;exact bO ⟨B',h⟩
 case int.int i t j u=>
  unfold isSame;dsimp only;have t0:(t==0||u==0)=false:=by rw[qU];exact⟨dw.mpr wa.1,dw.mpr wb.1⟩
  by_cases e:i=j
  .rw[bE e] at hr
   split at hr
   .rename_i q
    cases hr;subst e;rw[bE (by rw[fR,q];rfl)]
    unfold isSame.cachedInt;rw[t0];exact aM (tq (bO ⟨B',h⟩))
   .cases hr
  .rw[aR e] at hr
   cases hr;rw[aR (by rw[dw.mpr e];exact eV)]
   unfold isSame.created;have tu:t≠u:=fun q=>by
    subst q
    have:=wa.2.symm.trans wb.2
    exact e (gZ this)
   simp only[t0,dw.mpr tu,dw.mpr e,tn,tv,Bool.not_false,if_true];exact bO ⟨B',h⟩
 case ref.ref x y=>
  by_cases e:x=y
  .subst e
   rw[bE rfl] at hr;cases hr;unfold isSame;dsimp only;rw[bE (fR x)];exact bO ⟨B',h⟩
  .rw[aR e] at hr
   split at hr
   .rename_i o o' h1 h2
    split at hr
    .rename_i q
     cases hr;obtain⟨ox,hx⟩:=(b'.lay _ _ h1).alive;obtain⟨oy,hy⟩:=(b'.lay _ _ h2).alive;refine xj e hx hy ?_ ⟨B',h⟩;rcases Bool.or_eq_true_iff.mp q with q|q
     .obtain⟨q',hq,hc⟩:=(b'.lay _ _ h1).jr q;rw[hx] at hq;cases hq;exact .inl hc
     .obtain⟨q',hq,hc⟩:=(b'.lay _ _ h2).jr q;rw[hy] at hq;cases hq;exact .inr hc
    .cases hr
   .cases hr
def f9(A:Around)(h:Heap):Prop:=A.handled=none∨∃x o fs,A.handled=some (.ref x)∧h.get? x=some o∧o.data=.fields fs∧fs[2]?=some .none
end
section
variable{prog:Program}{w:World}{A:Around}{E:aC→aK→Prop}{s:aK}
theorem sV:entryFor table "proto.unchain"=some Builtin.«proto.unchain»:=entryFor_of_fast (by kernel_rfl)
theorem sU:plainId "proto.unchain"=true:=by kernel_rfl
theorem sS{e h:Addr}{o:Obj}{fs:Array aC}{Q:aC→aK→Prop}(ho:s.heap.get? h=some o)(hd:o.data=.fields fs)(h2:fs[2]?=some .none)(hq:Q .none s):
  wpAny (model prog w) A (runValue (.builtin "proto.unchain" ⟨[.ref e,.ref h,.ref h,.bool false],[]⟩)) Q E s:=by
 refine wpAny_runValue (codeAny_builtin sV ?_);rw[Around.under_plainId sU _];unfold Builtin.«proto.unchain»;refine aM (fh ho hd h2 ?_);rw[bE (by simp)]
 first|exact bO hq|exact bO ⟨_,rfl,hq⟩
theorem lR{α:Type}{e:Addr}{oe:Obj}{fe:Array aC}{Q:α→aK→Prop}(c:f9 A s.heap)(he:s.heap.get? e=some oe)(Ou:oe.data=.fields fe)(hz:2 < fe.size)
  (h0:A.handled=none→E (.ref e) s) (h1:∀x,A.handled=some (.ref x)→x≠e→E (.ref e) {s with heap:=s.heap.update e (Obj.mapFields (·.setIfInBounds 2 (.ref x)))})
  (h2:A.handled=some (.ref e)→E (.ref e) s):wpAny (model prog w) A (raiseNew (.ref e):Sem α) Q E s:=by
 unfold raiseNew;refine aM (wpAny_handled ?_);rcases c with c|⟨x,o,fs,c,ho,hd,h3⟩
 .rw[c]
  exact aM (bO (vV (h0 c)))
 .rw[c]
  dsimp only
  by_cases q:x=e
  .subst q
   rw[aR (by simp)]
   exact aM (bO (vV (h2 c)))
  .rw[bE (by simpa using q)]
   refine aM (ku (sS ho hd h3 ?_));unfold updateField;refine aM (aM (qV he ?_));rw[Ou];dsimp only;rw[bE hz];exact wpAny_update he (vV (h1 x c q))
theorem j4{α:Type}{Q:α→aK→Prop}(c:f9 A s.heap)
  (h:∀e h' o,(∀b o,s.heap.get? b=some o→h'.get? b=some o)→h'.get? e=some o→o.cls=.type "StopIteration"→E (.ref e) {s with heap:=h'}):
  wpAny (model prog w) A (newExc (.type "StopIteration") [] >>= fun e=>(raiseNew e:Sem α)) Q E s:=by
 refine aM ?_;simp only[newExc,newTuple];refine aM (zC ?_ (by size_fits))
 refine aM (m:=firstArgMember _ _) (wpAny_of_eq (a:=Value.none) (by first|rfl|(simp only[firstArgMember];rfl)) ?_)
 refine zC ?_ (by size_fits)
 have up:∀b o,s.heap.get? b=some o→((s.heap.push {cls:=.type "tuple",dict:=none,data:=.seq ([]:aB).toArray}).push {cls:=.type "StopIteration",dict:=none,data:=.fields #[.ref s.heap.objs.size,.none,.none,.none,.bool false,.none]}).get? b=some o:=fun b o e=>mu _ (mu _ e)
 have self:=mM (s.heap.push {cls:=.type "tuple",dict:=none,data:=.seq ([]:aB).toArray}) (o:={cls:=.type "StopIteration",dict:=none,data:=.fields #[.ref s.heap.objs.size,.none,.none,.none,.bool false,.none]}) rfl;refine lR (c.imp id fun⟨x,o,fs,c,ho,r⟩=>⟨x,o,fs,c,up _ _ ho,r⟩) self rfl (by simp) (fun _=>h _ _ _ up self rfl) (fun x hx gz=>?_) fun _=>h _ _ _ up self rfl
 refine h _ _ _ (fun b o e=>?_) (i9 _ self rfl) rfl
 exact(kz _ _ (by
  intro q;have h1:@LT.lt Nat _ b s.heap.objs.size:=eZ e;have h2:@Eq Nat b (s.heap.push {cls:=.type "tuple",dict:=none,data:=.seq ([]:aB).toArray}).objs.size:=q.symm;rw[xJ] at h2;omega)).trans (up _ _ e)
theorem jf{it:Addr}{s₁:aK}{Q:Option aC→aK→Prop}{e:Addr}{o:Obj}(he:s₁.heap.get? e=some o)(hc:o.cls=.type "StopIteration")(hq:Q none s₁):
  wpAny (model prog w) A (do if←isInstance (.ref e) (.type "StopIteration") then pure none else throw (.ref e)) Q E s₁:=
 aM (wpAny_isInstance (T:="StopIteration") (b:=true) ⟨_,he,hc⟩ isSubtype_stop (bO hq))
theorem uD{it:Addr}{h₀ h h':Heap}(a:Heap.ExtBut it h₀ h)(k:∀b o,h.get? b=some o→h'.get? b=some o):Heap.ExtBut it h₀ h':=fun b o hb e=>k b o (a b o hb e)
theorem f9.ext{it:Addr}{h h':Heap}(c:f9 A h)(k:Heap.ExtBut it h h')(n:A.handled≠some (.ref it)):f9 A h':=
 c.imp id fun⟨x,o,fs,c,ho,r⟩=>⟨x,o,fs,c,k _ _ (fun q=>n (by rw[c,q])) ho,r⟩
theorem mS{it l:Addr}{i:Nat}{items:Array aC}{Q:Option aC→aK→Prop}(c:f9 A s.heap)(n:A.handled≠some (.ref it))(hit:s.heap.IsListIter it l i)(hl:s.heap.IsList l items)(hx:items[i]?=none)
  (hQ:∀h',Heap.ExtBut it s.heap h'→Q none {s with heap:=h'}):wpAny (model prog w) A (pyNext (.ref it)) Q E s:=by
 obtain⟨o,ho,hc,hd⟩:=id hit;obtain⟨ol,SK,_,nl,pO⟩:=hl;unfold pyNext;refine aM (vU (vT (name:=Str.ofString "__next__") hit.typeIs slot_listiter_next
  (vS slot_listiter_next hit.typeIs entry_listiter_next ?_ (args_listiter_next _))))
 show wpAny _ _ (field (.ref it) 0 >>= _) _ _ s;refine aM (fh ho hd (x:=.ref l) rfl ?_);show wpAny _ _ (if(Value.ref l==Value.none)=true then _ else _) _ _ s;rw[aR (show ¬((Value.ref l==Value.none)=true) from eV)]
 show wpAny _ _ (field (.ref it) 1 >>= _) _ _ s;refine aM (fh ho hd (x:=.int i 0) rfl ?_);show wpAny _ _ (seqItems? (.ref l) >>= _) _ _ s;refine aM (wpAny_seqItems SK pO ?_);simp only[CW,hx];refine aM (tq (aM (kK ho hd (by simp) ?_)))
 have x1:Heap.ExtBut it s.heap (s.heap.update it (Obj.mapFields (·.setIfInBounds 0 Value.none))):=(gY ..).extBut;exact j4 (c.ext x1 n) fun e h' o k he hc=>jf (it:=it) he hc (hQ _ (uD x1 k))
theorem next_tuple_end{it l:Addr}{i:Nat}{items:Array aC}{Q:Option aC→aK→Prop}(c:f9 A s.heap)(n:A.handled≠some (.ref it))(hit:s.heap.IsTupleIter it l i)(hl:s.heap.IsTuple l items)(hx:items[i]?=none)
  (hQ:∀h',Heap.ExtBut it s.heap h'→Q none {s with heap:=h'}):wpAny (model prog w) A (pyNext (.ref it)) Q E s:=by
 obtain⟨o,ho,hc,hd⟩:=id hit;obtain⟨ol,SK,_,nl,pO⟩:=hl;unfold pyNext;refine aM (vU (vT (name:=Str.ofString "__next__") hit.typeIs F.slot_tuple_iterator_next
  (vS F.slot_tuple_iterator_next hit.typeIs F.entry_tuple_iterator_next ?_ (F.args_tuple_iterator_next_1 _))))
 show wpAny _ _ (field (.ref it) 0 >>= _) _ _ s;refine aM (fh ho hd (x:=.ref l) rfl ?_);show wpAny _ _ (if(Value.ref l==Value.none)=true then _ else _) _ _ s;rw[aR (show ¬((Value.ref l==Value.none)=true) from eV)]
 show wpAny _ _ (field (.ref it) 1 >>= _) _ _ s;refine aM (fh ho hd (x:=.int i 0) rfl ?_);show wpAny _ _ (seqItems? (.ref l) >>= _) _ _ s;refine aM (wpAny_seqItems SK pO ?_);simp only[CW,hx];refine aM (tq (aM (kK ho hd (by simp) ?_)))
 have x1:Heap.ExtBut it s.heap (s.heap.update it (Obj.mapFields (·.setIfInBounds 0 Value.none))):=(gY ..).extBut;exact j4 (c.ext x1 n) fun e h' o k he hc=>jf (it:=it) he hc (hQ _ (uD x1 k))
theorem vp{it:Addr}{x:Str}{t:Tok}{i:Nat}{Q:Option aC→aK→Prop}(c:f9 A s.heap)(n:A.handled≠some (.ref it))(hit:s.heap.IsStrIter it "str_ascii_iterator" x t i)(hx:x.cps[i]?=none)
  (hQ:∀h',Heap.ExtBut it s.heap h'→Q none {s with heap:=h'}):wpAny (model prog w) A (pyNext (.ref it)) Q E s:=by
 obtain⟨o,ho,hc,hd⟩:=id hit;unfold pyNext;refine aM (vU (vT (name:=Str.ofString "__next__") hit.typeIs JG
  (vS JG hit.typeIs F.entry_str_ascii_iterator_next ?_ (F.args_str_ascii_iterator_next_1 _))))
 show wpAny _ _ (field (.ref it) 0 >>= _) _ _ s;refine aM (fh ho hd (x:=.str x t) rfl ?_);show wpAny _ _ (field (.ref it) 1 >>= _) _ _ s;refine aM (fh ho hd (x:=.int i 0) rfl ?_);simp only[CW,hx];refine aM (tq (aM (kK ho hd (by simp) (aM (wpAny_letGo ?_)))))
 have x1:Heap.ExtBut it s.heap (s.heap.update it (Obj.mapFields (·.setIfInBounds 0 Value.none))):=(gY ..).extBut;exact j4 (c.ext x1 n) fun e h' o k he hc=>jf (it:=it) he hc (hQ _ (uD x1 k))
theorem sk{it:Addr}{x left step:Int}{Q:Option aC→aK→Prop}(c:f9 A s.heap)(hit:IsRangeIter s.heap it x left step)(Q1:left≤0)
  (hQ:∀h',Heap.ExtBut it s.heap h'→Q none {s with heap:=h'}):wpAny (model prog w) A (pyNext (.ref it)) Q E s:=by
 have hT:s.TypeIs (.ref it) "range_iterator":=⟨_,hit,rfl⟩;unfold pyNext;refine aM (vU (vT (name:=Str.ofString "__next__") hT F.slot_range_iterator_next
  (vS F.slot_range_iterator_next hT F.entry_range_iterator_next ?_ (F.args_range_iterator_next_1 _))))
 show wpAny _ _ (field (.ref it) 0 >>= _) _ _ s;refine aM (fh hit rfl (x:=rawInt x) rfl ?_);show wpAny _ _ (field (.ref it) 1 >>= _) _ _ s;refine aM (fh hit rfl (x:=rawInt left) rfl ?_);show wpAny _ _ (field (.ref it) 2 >>= _) _ _ s;refine aM (fh hit rfl (x:=rawInt step) rfl ?_);show wpAny _ _ (if left≤0 then _ else _) _ _ s;rw[bE Q1];refine aM (tq ?_);refine aM ?_;exact j4 c fun e h' o k he hc=>jf (it:=it) he hc (hQ _ (uD (.refl it s.heap) k))
def MLe(m' m:Map):Prop:=∀x v,m'.lookup x=some v→m.lookup x=some v
def dT(e:Env)(it:Addr)(o:Obj):cT:=⟨{e with locals:=it},[],false,some o⟩
variable{S:aN}{ρ:Addr→Role}{τ:Tok→Option Int}{fs:List cT}{H:AH}{e:Env}{m m':Map}{b:Bool}
theorem Body.weak(B:Body S ρ τ (⟨e,m,b,none⟩::fs) H s)(h:MLe m' m):Body S ρ τ (⟨e,m',b,none⟩::fs) H s:=by
 refine{B with frames:=fun p hp=>?_}
 rcases bS.mp hp with rfl|hp
 .have r:=B.frames _ (.head _)
  obtain⟨k,⟨f,n,e1,ew⟩,a⟩:=r.nsOk rfl;refine⟨r.role,show ue _ _ _ _ from⟨k,⟨f,n,fun x v hx hv=>e1 x v hx (h x v hv),fun x u hk hm hu=>ew x u hk (by obtain⟨v,hv⟩:=mK.mp hm;exact isSome_of (h x v hv)) hu⟩,fun ha=>?_⟩⟩
  obtain⟨a1,a2,a3,a4⟩:=a ha;refine⟨a1,fun y d hy hk=>?_,a3,a4⟩
  obtain⟨r1,v,ic,e2,w2⟩:=a2 y d hy hk;exact⟨r1,v,ic,fun r hr=>e2 r (h _ _ hr),w2⟩
 .exact B.frames p (.tail _ hp)
theorem Body.locals(B:Body S ρ τ (⟨e,m,b,none⟩::fs) H s):ρ e.locals=.frame:=(B.frames _ (.head _)).role
theorem Body.rE(B:Body S ρ τ (⟨e,m,b,none⟩::fs) H s)(o:Obj)(hf:o.isFreed=false):
  ∃cH,Body S cH τ (⟨e,m,b,none⟩::dT e s.heap.objs.size o::fs) H {s with heap:=s.heap.push o}:=by
 have c:=mI.push B o .frame;have rf:=B.free _ (Nat.le_refl s.heap.objs.size);refine⟨_,B.chg c (by rw[rf];exact fun h=>by cases h) B.tok B.pos rfl rfl (fun p hp=>?_) ?_ fun a o' ha=>?_⟩
 .have old:∀p∈(⟨e,m,b,none⟩::fs:List cT),jk (s.heap.push o) (fun b=>if b=s.heap.objs.size then .frame else ρ b) τ p:=fun p hp=>(B.frames p hp).keep .refl c (fq (B.fV hp)) (by rw[rf];exact fun h=>by cases h)
  rcases bS.mp hp with rfl|hp
  .exact old _ (.head _)
  .rcases bS.mp hp with rfl|hp
   .exact⟨bE rfl,rfl,mM _ hf⟩
   .exact old _ (.tail _ hp)
 .have nd:e.locals∉fs.map (·.env.locals)∧(fs.map (·.env.locals)).Nodup:=fX.mp B.nodup
  have h1:e.locals≠s.heap.objs.size:=fq (B.fV (.head _));refine fX.mpr ⟨fun hm=>?_,fX.mpr ⟨fun hm=>?_,nd.2⟩⟩
  .rcases bS.mp hm with q|hm
   .exact h1 q
   .exact nd.1 hm
  .obtain⟨p,hp,q⟩:=eF.mp hm
   exact absurd q (fq (B.fV (.tail _ hp)))
 .obtain⟨q,hq⟩:=(B.lay _ _ ha).alive
  exact(B.lay _ _ ha).keep .refl c (by rw[rf];exact fun h=>by cases h) (by rw[rf];exact fun h=>by cases h) (fq (eZ hq))
theorem Body.rD{fr:List cT}{e':Env}{it:Addr}{o o':Obj}{s':aK}(B:Body S ρ τ (fr++dT e' it o::fs) H s)(hs:Heap.SameBut it s.heap s'.heap)(ho:s'.heap.get? it=some o')(hg:s'.gens=s.gens)(Zu:s'.os=s.os)(gj:s.toks≤s'.toks):
  Body S ρ τ (fr++dT e' it o'::fs) H s':=by
 have rp:ρ it=.frame:=(B.frames (dT e' it o) (dR.mpr (.inr (.head _)))).role;have c:=mI.same B hs;have nd:=B.nodup;rw[gW,fj,lq] at nd;obtain⟨n1,n2,n3⟩:=nd;have n2:it∉fs.map (·.env.locals)∧(fs.map (·.env.locals)).Nodup:=fX.mp n2;have kp:∀p,p∈fr++dT e' it o::fs→p.env.locals≠it→jk s'.heap ρ τ p:=fun p hp gz=>(B.frames p hp).keep .refl c gz (by rw[rp];exact fun h=>by cases h)
 refine B.chg c (by rw[rp];exact fun h=>by cases h) (fun t i e=>dG (B.tok t i e) gj) (dG B.pos gj) hg Zu (fun p hp=>?_) ?_ fun a q ha=>?_
 .rcases dR.mp hp with hp|hp
  .refine kp p (dR.mpr (.inl hp)) fun q=>?_
   exact n3 _ (eF.mpr ⟨p,hp,rfl⟩) _ (.head _) q
  .rcases bS.mp hp with rfl|hp
   .exact⟨rp,rfl,ho⟩
   .exact kp p (dR.mpr (.inr (.tail _ hp))) fun q=>n2.1 (eF.mpr ⟨p,hp,q⟩)
 .have:=B.nodup
  rw[gW,fj] at this⊢;exact this
 .refine(B.lay _ _ ha).keep .refl c (by rw[rp];exact fun h=>by cases h) (by rw[rp];exact fun h=>by cases h) fun e'=>?_
  have:=(B.lay _ _ ha).role
  rw[e',rp] at this;split at this<;>cases this
theorem Body.yv{fr:List cT}{e':Env}{it:Addr}{o:Obj}{h':Heap}{n:Nat}(B:Body S ρ τ (fr++dT e' it o::fs) H s)(hs:Heap.ExtBut it s.heap h')(hn:s.toks≤n):
  ∃cH:Addr→Role,Body S cH τ (fr++fs) H {s with heap:=h',toks:=n}:=by
 have rp:ρ it=.frame:=(B.frames (dT e' it o) (dR.mpr (.inr (.head _)))).role;obtain⟨cH,kY⟩:∃cH:Addr→Role,cH=(fun(a:Nat)=>if h'.objs.size≤a then Role.free else if a < s.heap.objs.size then ρ a else Role.gr):=⟨_,rfl⟩
 have c:mI ρ cH it s.heap h':=⟨fun a o hb e=>hs a o hb e,fun a o hb e=>by
  rw[kY]
  show(if h'.objs.size≤a then Role.free else if a < s.heap.objs.size then ρ a else Role.gr)=ρ a
  rw[aR (vW (eZ (hs a o hb e))),bE (eZ e)],fun(a:Nat) ha=>by
  rw[kY];exact bE ha⟩
 have nd:=B.nodup;rw[gW,fj,lq] at nd;obtain⟨n1,n2,n3⟩:=nd;have n2:it∉fs.map (·.env.locals)∧(fs.map (·.env.locals)).Nodup:=fX.mp n2;have kp:∀p,p∈fr++dT e' it o::fs→p.env.locals≠it→jk h' cH τ p:=fun p hp gz=>(B.frames p hp).keep .refl c gz (by rw[rp];exact fun h=>by cases h)
 refine⟨cH,B.chg (s':={s with heap:=h',toks:=n}) c (by rw[rp];exact fun h=>by cases h) (fun t i e=>dG (B.tok t i e) hn) (dG B.pos hn) rfl rfl (fun p hp=>?_) ?_ fun a q ha=>?_⟩
 .rcases dR.mp hp with hp|hp
  .refine kp p (dR.mpr (.inl hp)) fun q=>?_
   exact n3 _ (eF.mpr ⟨p,hp,rfl⟩) _ (.head _) q
  .exact kp p (dR.mpr (.inr (.tail _ hp))) fun q=>n2.1 (eF.mpr ⟨p,hp,q⟩)
 .rw[gW,lq]
  exact⟨n1,n2.2,fun a ha b hb=>n3 a ha b (.tail _ hb)⟩
 .refine(B.lay _ _ ha).keep .refl c (by rw[rp];exact fun h=>by cases h) (by rw[rp];exact fun h=>by cases h) fun e'=>?_
  have:=(B.lay _ _ ha).role
  rw[e',rp] at this;split at this<;>cases this
theorem Body.lu{fr:List cT}{e':Env}{it:Addr}{o:Obj}(B:Body S ρ τ (fr++dT e' it o::fs) H s):s.heap.get? it=some o:=(B.frames (dT e' it o) (dR.mpr (.inr (.head _)))).ok.2
inductive Src where
 |list (l:Addr)
 |tup (l:Addr)
 |range (a st:Int) (n:Nat)
 |str (x:Str)
def Src.ok(H:AH)(xs:aB):Src→Prop
 | .list l=>∃t,H l=some (.list t xs)
 | .tup l=>∃t,H l=some (.tup t xs)
 | .range a st n=>xs=(List.range n).map fun k=>Value.int (a+(k:Nat) * st) 0
 | .str x=>x.cps.all (· < 128)=true∧xs=x.cps.toList.map fun c=>Value.str ⟨#[c]⟩ 0
def Src.it:Src→Nat→Obj→Prop
 | .list l,i,o=>o.cls=.type "list_iterator"∧o.data=.fields #[.ref l,.int i 0]
 | .tup l,i,o=>o.cls=.type "tuple_iterator"∧o.data=.fields #[.ref l,.int i 0]
 | .range a st n,i,o=>o={cls:=.type "range_iterator",dict:=none,data:=.fields #[rawInt (a+i * st),rawInt ((n:Int) - i),rawInt st],slots:=#[]}
 | .str x,i,o=>∃t,o.cls=.type "str_ascii_iterator"∧o.data=.fields #[.str x t,.int i 0]
def Clean(hd:bP)(H:AH):Prop:=∀x,hd=some x→∃t k vs,H x=some (.exc t k vs)∧k≤1
theorem Clean.at{S:aN}{ρ:Addr→Role}{τ:Tok→Option Int}{fs:List cT}{H:AH}{s:aK}{hd:bP}{A:Around}(B:Body S ρ τ fs H s)(c:Clean hd H)(hh:A.handled=hd.map .ref):f9 A s.heap:=by
 cases hd with
 |none=>exact .inl hh
 |some x=>
  obtain⟨t,k,vs,hx,hk⟩:=c x rfl;obtain⟨d,es,n,fs,sl,t0,r1,g1,r2,g2,f,q,z,w⟩:=B.lay _ _ hx;exact .inr ⟨x,_,fs,hh,g1,rfl,w.2 hk⟩
variable{fr:List cT}{vs:aB}{hd:bP}{e':Env}{it:Addr}{o:Obj}{src:Src}{xs:aB}{i:Nat}
theorem next_item{v:aC}{Q:Option aC→aK→Prop}(hi:src.it i o)(hs:src.ok H xs)(hv:xs[i]?=some v)(B:St S (fr++dT e' it o::fs) H vs s)
  (h:∀u s' o',er u=v→src.it (i+1) o'→St S (fr++dT e' it o'::fs) H (u::vs) s'→Q (some u) s'):wpAny (model pw S.w) A (pyNext (.ref it)) Q E s:=by
 obtain⟨ρ,τ,b,w⟩:=B;have hit:=b.lu;cases src with
 |list l=>
  obtain⟨t,hl⟩:=hs;obtain⟨arr,n,g,e,wf,z,hz⟩:=b.list hl;rw[←e,fL] at hv;obtain⟨u,hu,hr⟩:=ey.mp hv;refine wpAny_pyNext_list_item ⟨o,hit,hi⟩ g.isList (by rw[←oi];exact hu) fun h' ⟨o',te,xF⟩ sb=>?_
  exact h u _ o' hr xF ⟨ρ,τ,b.rD (s':={s with heap:=h'}) sb te rfl rfl aF,cR (wf _ (hZ hu)) w⟩
 |tup l=>
  obtain⟨t,hl⟩:=hs;obtain⟨arr,n,g,e,wf,z,hz⟩:=b.tup hl;rw[←e,fL] at hv;obtain⟨u,hu,hr⟩:=ey.mp hv;refine wpAny_pyNext_tuple_item ⟨o,hit,hi⟩ ⟨_,g,rfl,_,rfl⟩ (by rw[←oi];exact hu) fun h' ⟨o',te,xF⟩ sb=>?_
  exact h u _ o' hr xF ⟨ρ,τ,b.rD (s':={s with heap:=h'}) sb te rfl rfl aF,cR (wf _ (hZ hu)) w⟩
 |range a st n=>
  have hs:xs=(List.range n).map fun k=>Value.int (a+(k:Nat) * st) 0:=hs
  subst hs;rw[fL] at hv;obtain⟨k,hk,hr⟩:=ey.mp hv;obtain⟨fT,hk⟩:=cQ.mp hk;rw[pS] at fT;rw[List.getElem_range] at hk;subst hk;have hi:o=_:=hi;rw[hi] at hit;refine wpAny_pyNext_range_item hit (by omega) fun h' KO sb=>?_
  have b':=b.rD (s':={s with heap:=h'}) sb KO rfl rfl aF
  obtain⟨mW,le,wv,NP⟩:=b'.int (t:=s.toks) (n:=s.toks+1) (a+(i:Nat) * st) aF (q7 _);refine h _ _ _ hr ?_ ⟨ρ,mW,NP,cR wv fun v hv=>(w v hv).le le⟩
  show _=_
  congr 3
  congr 2
  .push_cast
   rw[Int.add_mul,Int.one_mul,Int.add_assoc]
  .push_cast
   exact iE rawInt (by omega)
 |str y=>
  obtain⟨ha,hs⟩:=hs;subst hs;rw[fL] at hv;obtain⟨k,hk,hr⟩:=ey.mp hv;obtain⟨t,hi⟩:=hi;refine wpAny_pyNext_ascii_item ⟨o,hit,hi⟩ (by rw[←oi];exact hk) fun h' ⟨o',te,xF⟩ sb=>?_
  have b':=b.rD (s':={s with heap:=h'}) sb te rfl rfl aF
  exact h _ _ o' hr ⟨t,xF⟩ ⟨ρ,τ,b'.toks (dU _),cR (u:=.str ⟨#[k]⟩ s.toks) trivial w⟩
theorem next_end{Q:Option aC→aK→Prop}(hi:src.it i o)(hs:src.ok H xs)(hv:i=xs.length)(hc:Clean hd H)(hh:A.handled=hd.map .ref)(B:St S (fr++dT e' it o::fs) H vs s)
  (h:∀s',St S (fr++fs) H vs s'→Q none s'):wpAny (model pw S.w) A (pyNext (.ref it)) Q E s:=by
 obtain⟨ρ,τ,b,w⟩:=B;have hit:=b.lu;have ca:=hc.at b hh;have nn:A.handled≠some (.ref it):=fun q=>by
  rw[hh] at q;obtain⟨x,hx,q⟩:=ey.mp q;cases q;obtain⟨t,_,aQ,J5,_⟩:=hc it hx;have r1:=(b.lay _ _ J5).role;have rp:ρ it=.frame:=(b.frames (dT e' it o) (dR.mpr (.inr (.head _)))).role;rw[rp] at r1;split at r1<;>cases r1
 have fin:∀h',Heap.ExtBut it s.heap h'→Q none {s with heap:=h'}:=fun h' x=>by
  obtain⟨cH,b'⟩:=b.yv (n:=s.toks) x aF;exact h _ ⟨cH,τ,b',w⟩
 subst hv;cases src with
 |list l=>
  obtain⟨t,hl⟩:=hs;obtain⟨arr,n,g,e,wf,z,hz⟩:=b.list hl;exact mS ca nn ⟨o,hit,hi⟩ g.isList (by rw[←hz];exact CV aF) fin
 |tup l=>
  obtain⟨t,hl⟩:=hs;obtain⟨arr,n,g,e,wf,z,hz⟩:=b.tup hl;exact next_tuple_end ca nn ⟨o,hit,hi⟩ ⟨_,g,rfl,_,rfl⟩ (by rw[←hz];exact CV aF) fin
 |range a st n=>
  have hs:xs=(List.range n).map fun k=>Value.int (a+(k:Nat) * st) 0:=hs
  have hi:o=_:=hi;rw[hi] at hit;have hl:xs.length=n:=by rw[hs,dO,pS]
  exact sk ca hit (by rw[hl];omega) fin
 |str y=>
  obtain⟨ha,hs⟩:=hs;obtain⟨t,hi⟩:=hi;exact vp ca nn ⟨o,hit,hi⟩ (by rw[hs,dO,Array.length_toList];exact CV aF) fin
def Cx.pin(c:Cx)(it:Addr)(o:Obj):Cx:={c with fs:=dT c.env it o::c.fs}
theorem Cx.Fb(c:Cx)(it:Addr)(o:Obj)(m:Map):fH ((c.pin it o).top m)=fH (c.top m):=by
 unfold Cx.top Cx.pin fH dT;cases h:c.act<;>simp[h]
theorem Cx.Ok.pin{c:Cx}{n:Nat}{hd:bP}(h:c.Ok n hd)(it:Addr)(o:Obj):(c.pin it o).Ok n hd:=by
 refine⟨?_,h.handled,h.room⟩;rw[Cx.Fb];exact h.frames
def fz(a b c:Int)(t u v:Tok):Obj:={cls:=.type "range",dict:=none,data:=.fields #[.int a t,.int b u,.int c v],slots:=#[]}
def fp(H:AH)(x:aC)(xs:aB):Src→Prop
 | .list l=>x=.ref l∧∃t,H l=some (.list t xs)
 | .tup l=>x=.ref l∧∃t,H l=some (.tup t xs)
 | .range a st n=>(∃r k b t u v,x=.ref r∧H r=some (.raw k (fz a b st t u v))∧Builtin.Range.small a b st=true∧Builtin.Range.rangeSize a b st=n)∧xs=(List.range n).map fun k=>Value.int (a+(k:Nat) * st) 0
 | .str y=>x=.str y 0∧y.cps.all (· < 128)=true∧xs=y.cps.toList.map fun c=>Value.str ⟨#[c]⟩ 0
theorem Src.JJ{H:AH}{x:aC}{xs:aB}{src:Src}(h:fp H x xs src):src.ok H xs:=by
 cases src with
 |list l=>exact h.2
 |tup l=>exact h.2
 |range a st n=>exact h.2
 |str y=>exact h.2
theorem lS{target:Expr}{it:Addr}{o:Obj}{u:aC}{src:Src}{i:Nat}{M:Model}{A:Around}{E:aC→aK→Prop}{Q:Unit→aK→Prop}{s:aK}(hi:src.it i o)(ho:s.heap.get? it=some o)(h:Q () s):
  wpAny M A (letOwnedTupleGo target (.ref it) u) Q E s:=by
 have hc:∃n fs,o.cls=.type n∧o.data=.fields fs∧(["enumerate","zip","dict_itemiterator","dict_reverseitemiterator","odict_iterator","itertools.zip_longest","itertools.pairwise"].contains n)=false:=by
  cases src with
  |list l=>exact⟨_,_,hi.1,hi.2,by decide⟩
  |tup l=>exact⟨_,_,hi.1,hi.2,by decide⟩
  |range a st n=>have hi:o=_:=hi;subst hi;exact⟨_,_,rfl,rfl,by decide⟩
  |str y=>obtain⟨t,hi⟩:=hi;exact⟨_,_,hi.1,hi.2,by decide⟩
 obtain⟨n,fs,h1,h2,h3⟩:=hc;have main:∀a:Addr,wpAny M A (do
   let o←load it
   match o.cls,o.data with
   | .type n,.fields vs=>
    if["enumerate","zip","dict_itemiterator","dict_reverseitemiterator","odict_iterator","itertools.zip_longest","itertools.pairwise"].contains n&&vs[0]?==some (rawInt a) then
     rule "for.unpacks-the-owned-tuple"
     updateField it 0 .none
   |_,_=>pure ()) Q E s:=fun a=>by
  refine aM (qV ho ?_);rw[h1,h2];dsimp only;rw[aR (by rw[h3,Bool.false_and];exact eV)]
  exact bO h
 unfold letOwnedTupleGo;split
 .cases u<;>first|exact main _|exact bO h
 .cases u<;>first|exact main _|exact bO h
 .exact bO h
theorem St.Jw{S:aN}{fr fs:List cT}{H:AH}{vs:aB}{s:aK}{e':Env}{it:Addr}{o:Obj}(B:St S (fr++dT e' it o::fs) H vs s):St S (fr++fs) H vs s:=by
 obtain⟨ρ,τ,b,w⟩:=B;obtain⟨cH,b'⟩:=b.yv (h':=s.heap) (n:=s.toks) (.refl it s.heap) aF;exact⟨cH,τ,b',w⟩
variable{c:Cx}{n:Nat}
theorem nF{x:aC}{Q:aC→aK→Prop}{A:Around}{E:aC→aK→Prop}{s:aK}(hs:fp H (er x) xs src)(B:St S (c.top m) H vs s)
  (h:∀it o s',src.it 0 o→St S ((c.pin it o).top m) H vs s'→Q (.ref it) s'):wpAny (model pw S.w) A (pyIter x) Q E s:=by
 obtain⟨ρ,τ,b,w⟩:=B;cases src with
 |list l=>
  obtain⟨hx,t,hl⟩:=hs;rw[dM hx];obtain⟨arr,k,g,e,wf,z,hz⟩:=b.list hl;refine wpAny_pyIter_list g.isList ?_;obtain⟨cH,b'⟩:=b.rE {cls:=.type "list_iterator",data:=.fields #[.ref l,.int 0 0]} rfl;exact h _ _ _ ⟨rfl,rfl⟩ ⟨cH,τ,b',w⟩
 |tup l=>
  obtain⟨hx,t,hl⟩:=hs;rw[dM hx];obtain⟨arr,k,g,e,wf,z,hz⟩:=b.tup hl;refine wpAny_pyIter_tuple ⟨_,g,rfl,_,rfl⟩ ?_;obtain⟨cH,b'⟩:=b.rE {cls:=.type "tuple_iterator",data:=.fields #[.ref l,.int 0 0]} rfl;exact h _ _ _ ⟨rfl,rfl⟩ ⟨cH,τ,b',w⟩
 |range a st k=>
  obtain⟨⟨r,q,b1,t,u,v,hx,hr,SI,Jk⟩,-⟩:=hs;rw[dM hx];obtain⟨_,g,_⟩:=b.lay _ _ hr;refine wpAny_pyIter_range (show IsRange s.heap r a b1 st t u v from g) SI ?_
  rw[Jk];obtain⟨cH,b'⟩:=b.rE {cls:=.type "range_iterator",data:=.fields #[rawInt a,rawInt (k:Int),rawInt st]} rfl;refine h _ _ _ ?_ ⟨cH,τ,b',w⟩;show _=_
  simp
 |str y=>
  obtain⟨hx,ha,-⟩:=hs;obtain⟨t,rfl⟩:=MZ hx;refine wpAny_pyIter_ascii ha ?_;obtain⟨cH,b'⟩:=b.rE {cls:=.type "str_ascii_iterator",data:=.fields #[.str y t,.int 0 0]} rfl;exact h _ _ _ ⟨t,rfl,rfl⟩ ⟨cH,τ,b',w⟩
theorem Cd{x:aC}{target:Expr}{body:List Stmt}{I:Nat→Map→AH→Prop}{Q:Flow→aB→Map→AH→Prop}{E:Addr→Map→AH→Prop}(ok:c.Ok n hd)(hs:fp H (er x) xs src)(hI:I 0 m H)
  (qh:∀i m' H',I i m' H'→src.ok H' xs)
  (turn:∀i m' H' aQ it o v u,(∀v∈vs,v∈aQ)→I i m' H'→xs[i]?=some v→er u=v→u∈aQ→T S (c.pin it o) aQ m' H' (assign target c.env u) (fun _ kQ xD gJ=>T S (c.pin it o) kQ xD gJ (execs body c.env) (fun fl dB cA aO=>match fl with
   | .next=>I (i+1) cA aO
   | .cont=>I (i+1) cA aO
   | .brk=>Q .next dB cA aO
   | .ret r=>Q (.ret r) dB cA aO) fun _ _ _=>False) fun _ _ _=>False)
  (fin:∀m' H' aQ,(∀v∈vs,v∈aQ)→I xs.length m' H'→Clean hd H'∧Q .next aQ m' H'):
  T S c vs m H (holding [x] (pyIter x) >>= fun it=>runOwn (.forLoop target it body [] c.env) c.env) Q E:=fun s B=>by
 refine aM (ku (nF hs B fun it o s₁ hi iW=>wpAny_runOwn ?_))
 have su:∀(s:aK) (P:aC→aK→Prop) (e:aC),(∃(x:Addr) (m':Map) (H':AH),e=.ref x∧sE S (c.pin it o) m' H' vs x s∧False)→P e s:=fun _ _ _ ⟨_,_,_,_,_,f⟩=>f.elim
 refine codeAny_loop' rfl (fun k s=>∃i m' H' aQ o,k=xs.length+1 - i∧i≤xs.length∧(∀v∈vs,v∈aQ)∧src.it i o∧St S ((c.pin it o).top m') H' aQ s∧I i m' H') (fun k s ⟨i,m',H',aQ,o,hk,hle,vB,hi,B,hI⟩=>?_) (xs.length+1) ⟨0,m,H,vs,o,rfl,g6 _,fun _ h=>h,hi,iW,hI⟩
 show wpAny _ _ ((forTurn target (.ref it) body [] c.env).onRaise (fun x=>do noteFrame x c.env;theTreesLotGoes x)) _ _ s
 refine wpAny_noted ?_;simp only[forTurn];refine aM (zB (aM (wpAny_onRaise ?_)))
 by_cases q:i < xs.length
 .have hv:xs[i]?=some xs[i]:=lr q
  refine next_item (fr:=[⟨c.env,m',c.act,none⟩]) hi (qh _ _ _ hI) hv B fun u s' o' hu xF B'=>?_
  have at':s'.heap.get? it=some o':=let⟨ρ,τ,b,w⟩:=B';b.lu (fr:=[⟨c.env,m',c.act,none⟩]);dsimp only;refine aM (lS xF at' ?_);refine aM (dD (turn i m' H' (u::aQ) it o' _ u (fun v hv=>.tail _ (vB v hv)) hI hv hu (.head _) s' B') (fun _ eH ⟨cD,m₂,aH,l₂,gv,dA⟩=>aM (dD (dA eH gv) (fun f fW ⟨dB,cA,aO,jT,mF,eQ⟩=>?_) fun e fW ⟨_,_,_,_,_,f⟩=>f.elim)) fun e fW ⟨_,_,_,_,_,f⟩=>f.elim)
  have lv:∀v∈vs,v∈dB:=fun v hv=>jT v (l₂ v (.tail _ (vB v hv)))
  cases f with
  |next=>exact bO (.inl ⟨rfl,xs.length+1 - (i+1),by omega,i+1,cA,aO,dB,o',rfl,q,lv,xF,mF,eQ⟩)
  |cont=>exact bO (.inl ⟨rfl,xs.length+1 - (i+1),by omega,i+1,cA,aO,dB,o',rfl,q,lv,xF,mF,eQ⟩)
  |brk=>exact bO ⟨dB,cA,aO,lv,mF.Jw (fr:=[⟨c.env,cA,c.act,none⟩]),eQ⟩
  |ret r=>exact bO ⟨dB,cA,aO,lv,mF.Jw (fr:=[⟨c.env,cA,c.act,none⟩]),eQ⟩
 .have q:i=xs.length:=by omega
  obtain⟨cl,hQ⟩:=fin m' H' aQ vB (q▸hI);refine next_end (fr:=[⟨c.env,m',c.act,none⟩]) hi (qh _ _ _ hI) q cl ok.handled B fun s' B'=>?_
  exact bO (.inr ⟨rfl,codeAny_block (bO ⟨aQ,m',H',vB,B',hQ⟩)⟩)
theorem Rh{iter target:Expr}{body:List Stmt}{pos:Pos}{I:Nat→Map→AH→Prop}{Q:Flow→aB→Map→AH→Prop}{E:Addr→Map→AH→Prop}(qO:∀x,foldedSetIterable iter c.env x=pure x)
  (h:T S c vs m H (eval iter c.env) (fun x aQ m' H'=>(∀v∈vs,v∈aQ)→T S c aQ m' H' (holding [x] (pyIter x) >>= fun it=>runOwn (.forLoop target it body [] c.env) c.env) Q E) E):
  T S c vs m H (exec (.For target iter body [] pos) c.env) Q E:=by
 rw[exec_For];refine aP (aZ fun _=>aP (cL h (fun x aQ m' H' l h' _=>?_) fun _ _ _ h=>h))
 rw[qO];exact aP (bV fun _=>aP (aZ fun _=>h' l))
theorem IM{test:Expr}{body:List Stmt}{pos:Pos}(I:Nat→Map→AH→Prop){k:Nat}{Q:Flow→aB→Map→AH→Prop}{E:Addr→Map→AH→Prop}(hf:c.act=true)(ok:c.Ok n hd)(hI:I k m H)
  (turn:∀k m' H' aQ,(∀v∈vs,v∈aQ)→I k m' H'→T S c aQ m' H' (isTrue test c.env (eval test c.env)) (fun b kQ xD gJ=>if b=true then T S c kQ xD gJ (execs body c.env) (fun fl dB cA aO=>match fl with
   | .next=>∃j,j < k∧I j cA aO
   | .cont=>∃j,j < k∧I j cA aO
   | .brk=>Q .next dB cA aO
   | .ret r=>Q (.ret r) dB cA aO) E else Q .next kQ xD gJ) E):
  T S c vs m H (exec (.While test body [] pos) c.env) Q E:=fun s B=>by
 refine wpAny_While ?_;have out:∀(s:aK) (aQ:aB) (e:aC),(∀v∈vs,v∈aQ)→(∃x m' H',e=.ref x∧sE S c m' H' aQ x s∧E x m' H')→
   notedBy (model pw S.w) c.A c.env (fun e s'=>cameBackBy (model pw S.w) c.A c.env (fun e s'=>∃x m' H',e=.ref x∧sE S c m' H' vs x s'∧E x m' H') e s') e s:=fun s aQ e lv ⟨x,m',H',he,B',hE⟩=>by
  subst he;have oX:c.A.frames=some (c.env::fH c.fs):=by
   have:=ok.frames
   unfold Cx.top fH at this;rw[hf] at this;exact this
  have fin:∀s',xB S (⟨c.env,m',true,none⟩::c.fs) H' vs x c.env.locals s'→cameBackBy (model pw S.w) c.A c.env (fun e s'=>∃x m' H',e=.ref x∧sE S c m' H' vs x s'∧E x m' H') (.ref x) s':=fun s' ⟨ρ,τ,⟨b,w⟩,d,fv,sl,T,oT,ts,hx,hr,hz,h1,hT,oV,kZ,h3⟩=>by
   unfold cameBackBy;refine aM (fh hx rfl h1 ?_);rw[aR (by simp)]
   have zl:c.env.frame=some c.env.locals:=(((b.frames _ (.head _)).mQ rfl).act rfl).frame;unfold setFlight;refine aM (fh hx rfl h1 ?_);rw[bE (show(Value.ref T != Value.none)=true from by simp),zl]
   have hi:=(pU.mp h3).1;have gz:T≠x:=fun q=>by rw[q,hr] at hT;cases hT
   refine kK oV kZ hi ⟨x,m',H',rfl,.inr ⟨hf,ρ,τ,⟨?_,w⟩,d,fv,sl,T,_,_,(kz _ _ gz).trans hx,hr,hz,h1,hT,i9 _ oV (q8 (i0 kZ _)),i0 kZ _,?_⟩,hE⟩
   .have:c.top m'=(⟨c.env,m',true,none⟩::c.fs):=by unfold Cx.top;rw[hf]
    rw[this];exact b.gr hT (gY ..) rfl rfl rfl
   .simp[hi]
  unfold notedBy;have tp:c.top m'=(⟨c.env,m',true,none⟩::c.fs):=by unfold Cx.top;rw[hf]
  rcases B' with B'|⟨_,B'⟩
  .rw[tp] at B'
   exact gi oX B' fun s' qj=>fin s' (qj.sub lv)
  .rw[tp] at B'
   exact fm B' (fin s (B'.sub lv))
 refine codeAny_whileLoop (fun k s=>∃m' H' aQ,(∀v∈vs,v∈aQ)∧St S (c.top m') H' aQ s∧I k m' H') (fun k s ⟨m',H',aQ,lv,B,hI⟩=>?_) k ⟨m,H,vs,fun _ h=>h,B,hI⟩
 refine dD (turn k m' H' aQ lv hI s B) (fun b eH ⟨cD,m₂,aH,l₂,gv,dA⟩=>?_) fun e eH h=>out eH aQ e lv h
 have C7:∀v∈vs,v∈cD:=fun v hv=>l₂ v (lv v hv)
 cases b with
 |true=>
  rw[bE rfl] at dA;rw[bE rfl];refine dD (dA eH gv) (fun f fW ⟨dB,cA,aO,jT,mF,eQ⟩=>?_) fun e fW h=>out fW cD e C7 h
  have zI:∀v∈vs,v∈dB:=fun v hv=>jT v (C7 v hv)
  cases f with
  |next=>obtain⟨j,hj,eQ⟩:=eQ;exact⟨j,hj,cA,aO,dB,zI,mF,eQ⟩
  |cont=>obtain⟨j,hj,eQ⟩:=eQ;exact⟨j,hj,cA,aO,dB,zI,mF,eQ⟩
  |brk=>exact⟨dB,cA,aO,zI,mF,eQ⟩
  |ret r=>exact⟨dB,cA,aO,zI,mF,eQ⟩
 |false=>
  rw[aR (by exact eV)] at dA
  rw[aR (by exact eV)]
  exact bO ⟨cD,m₂,aH,C7,gv,dA⟩
def ly(names:List (Str×NameKind))(cells:List (Str×Addr)):List (Str×Addr)→Option (List (Str×Addr))
 |bN=>match names with
  |[]=>some bN
  |(n,k)::r=>if(k==.free)=true then(match cells.lookup n with|some d=>ly r cells ((n,d)::bN)|none=>none) else ly r cells bN
theorem iS{env:Env}:∀{names:List (Str×NameKind)} {bN cl:List (Str×Addr)},ly names env.cells bN=some cl→
  (forIn names bN fun(x:Str×NameKind) (cs:List (Str×Addr))=>(if(x.2==NameKind.free)=true then do let c←cellOf env x.1;pure (ForInStep.yield ((x.1,c)::cs)) else pure (ForInStep.yield cs):Sem (ForInStep (List (Str×Addr)))))=pure cl
 |[],bN,cl,h=>by unfold ly at h;cases h;rfl
 |(n,k)::r,bN,cl,h=>by
  unfold ly at h;rw[uB];dsimp only at h⊢;split at h
  .rename_i q
   rw[bE q];split at h
   .rename_i d hd
    have:cellOf env n=pure d:=by unfold cellOf;rw[hd]
    rw[this]
    show(pure (ForInStep.yield ((n,d)::bN)) >>= _)=_
    exact iS h
   .cases h
  .rename_i q
   rw[aR q];exact iS h
theorem mU{env:Env}{scope:Scope}{cl:List (Str×Addr)}(h:ly scope.names env.cells []=some cl):closureFor scope env=pure cl:=by
 have:=iS h
 have e:closureFor scope env=((forIn scope.names ([]:List (Str×Addr)) fun(x:Str×NameKind) (cs:List (Str×Addr))=>(if(x.2==NameKind.free)=true then do let c←cellOf env x.1;pure (ForInStep.yield ((x.1,c)::cs)) else pure (ForInStep.yield cs):Sem (ForInStep (List (Str×Addr))))) >>= fun r=>pure r):=by rfl
 rw[e,this];rfl
variable{p:cT}
theorem Body.Io{h':Heap}{n:Nat}(B:Body S ρ τ (p::fs) H s)(hs:Heap.SameBut p.env.locals s.heap h')(hn:s.toks≤n):Body S ρ τ fs H {s with heap:=h',toks:=n}:=by
 have rp:ρ p.env.locals=.frame:=(B.frames p (.head _)).role;have c:=mI.same B hs;have nd:p.env.locals∉fs.map (·.env.locals)∧(fs.map (·.env.locals)).Nodup:=fX.mp B.nodup;refine B.chg (s':={s with heap:=h',toks:=n}) c (by rw[rp];exact fun h=>by cases h) (fun t i e=>dG (B.tok t i e) hn) (dG B.pos hn) rfl rfl (fun q hq=>(B.frames q (.tail _ hq)).keep .refl c (fun e=>nd.1 (eF.mpr ⟨q,hq,e⟩)) (by rw[rp];exact fun h=>by cases h)) nd.2 fun a q ha=>?_
 refine(B.lay _ _ ha).keep .refl c (by rw[rp];exact fun h=>by cases h) (by rw[rp];exact fun h=>by cases h) fun e'=>?_
 have:=(B.lay _ _ ha).role
 rw[e',rp] at this;split at this<;>cases this
theorem Body.own{e':Env}{D:Addr}{arr:Array aC}{k:Nat}{ys:aB}(B:Body S ρ τ (fr++dT e' D {cls:=.type "list",dict:=none,data:=.seq arr k,slots:=#[]}::fs) H s)(t:Nat)(ht:t≠0)(he:arr.toList.map er=ys)(hw:Wf τ arr.toList)(hz:ys.length≤1000000):
  H D=none∧∃cH,Body S cH τ (fr++fs) (upd H D (.list t ys)) s:=by
 have hp:=B.frames (dT e' D _) (dR.mpr (.inr (.head _)));have rp:ρ D=.frame:=hp.role;have hn:H D=none:=by
  cases q:H D with
  |none=>rfl
  |some o=>have:=(B.lay _ _ q).role;rw[rp] at this;split at this<;>cases this
 have c:mI ρ (fun b=>if b=D then Role.own else ρ b) D s.heap s.heap:=⟨fun b o _ e=>e,fun b o hb _=>aR hb,fun a ha=>by
  have:a≠D:=fun q=>by
   have:=eZ hp.ok.2
   rw[q] at ha;exact Nat.lt_irrefl _ (dG this ha)
  show(if a=D then Role.own else ρ a)=.free
  rw[aR this];exact B.free a ha⟩
 have nd:=B.nodup;rw[gW,fj,lq] at nd;obtain⟨n1,n2,n3⟩:=nd;have n2:D∉fs.map (·.env.locals)∧(fs.map (·.env.locals)).Nodup:=fX.mp n2;have kp:∀p,p∈fr++dT e' D {cls:=.type "list",dict:=none,data:=.seq arr k,slots:=#[]}::fs→p.env.locals≠D→jk s.heap (fun b=>if b=D then Role.own else ρ b) τ p:=fun p hp gz=>(B.frames p hp).keep .refl c gz (by rw[rp];exact fun h=>by cases h)
 refine⟨hn,_,B.chg c (by rw[rp];exact fun h=>by cases h) B.tok B.pos rfl rfl (fun p hp=>?_) ?_ fun a q ha=>?_⟩
 .rcases dR.mp hp with hp|hp
  .exact kp p (dR.mpr (.inl hp)) fun q=>n3 _ (eF.mpr ⟨p,hp,rfl⟩) _ (.head _) q
  .exact kp p (dR.mpr (.inr (.tail _ hp))) fun q=>n2.1 (eF.mpr ⟨p,hp,q⟩)
 .rw[gW,lq]
  exact⟨n1,n2.2,fun a ha b hb=>n3 a ha b (.tail _ hb)⟩
 .by_cases e:a=D
  .subst e
   rw[aA] at ha;cases ha;exact⟨arr,k,by rw[aR ht];exact bE rfl,hp.ok.2,he,hw,hz⟩
  .rw[aT e] at ha
   exact(B.lay _ _ ha).keep .refl c (by rw[rp];exact fun h=>by cases h) (by rw[rp];exact fun h=>by cases h) e
theorem Body.block(B:Body S ρ τ fs H s){e:Env}{o:Obj}{h':Heap}{n:Nat}(hL:@Eq Nat e.locals s.heap.objs.size)(hk:e.scope.kind=.function)(hn:h'.Ns e.locals fun _=>none)(hs:Heap.SameBut e.locals (s.heap.push o) h')(hz:s.toks≤n):
  ∃cH,Body S cH τ (⟨e,[],false,none⟩::fs) H {s with heap:=h',toks:=n}:=by
 have c:mI ρ (fun b=>if b=s.heap.objs.size then Role.frame else ρ b) s.heap.objs.size s.heap h':=⟨fun b o' hb e'=>(hs.2 b (fun q=>hb (q.trans hL))).trans (mu _ e'),fun b _ hb _=>aR hb,fun a ha=>by
  have ha:h'.objs.size≤a:=ha;rw[hs.1,xJ] at ha
  show(if a=s.heap.objs.size then Role.frame else ρ a)=.free
  rw[aR (by omega)];exact B.free a (by omega)⟩
 have rf:=B.free _ (Nat.le_refl s.heap.objs.size);refine⟨_,B.chg (s':={s with heap:=h',toks:=n}) c (by rw[rf];exact fun h=>by cases h) (fun t i e=>dG (B.tok t i e) hz) (dG B.pos hz) rfl rfl (fun p hp=>?_) ?_ fun a o' ha=>?_⟩
 .rcases bS.mp hp with rfl|hp
  .exact⟨bE hL,show ue _ _ _ _ from⟨hk,⟨_,hn,(fun x r _ hr=>by cases hr),(fun x u _ _ hu=>by cases hu)⟩,(fun ha=>by cases ha)⟩⟩
  .exact(B.frames p hp).keep .refl c (fq (B.fV hp)) (by rw[rf];exact fun h=>by cases h)
 .refine fX.mpr ⟨fun hm=>?_,B.nodup⟩
  obtain⟨p,hp,q⟩:=eF.mp hm
  have:@LT.lt Nat _ p.env.locals s.heap.objs.size:=B.fV hp
  have q:@Eq Nat p.env.locals e.locals:=q;omega
 .obtain⟨q,hq⟩:=(B.lay _ _ ha).alive
  exact(B.lay _ _ ha).keep .refl c (by rw[rf];exact fun h=>by cases h) (by rw[rf];exact fun h=>by cases h) (fq (eZ hq))
theorem Body.PC{e e':Env}{m₂ m:Map}{b:Bool}(B:Body S ρ τ (⟨e,m₂,false,none⟩::⟨e',m,b,none⟩::fs) H s):∃o,Body S ρ τ (⟨e',m,b,none⟩::dT e' e.locals o::fs) H s:=by
 have r:=B.frames _ (.head _);obtain⟨o,ho⟩:=r.there;refine⟨o,{B with frames:=fun p hp=>?_,nodup:=?_}⟩
 .rcases bS.mp hp with rfl|hp
  .exact B.frames _ (.tail _ (.head _))
  .rcases bS.mp hp with rfl|hp
   .exact⟨r.role,rfl,ho⟩
   .exact B.frames p (.tail _ (.tail _ hp))
 .have nd:=B.nodup
  exact(List.Perm.swap _ _ _).nodup_iff.mp nd
structure uH(c:Cx)(m:Map)(scope:Scope)(cl:List (Str×Addr))(n:Nat)(hd:bP)(cx:Cx):Prop where
 env:∃C,cx.env=compEnvC scope cl C c.env
 act:cx.act=false
 A:cx.A=c.A
 up:(⟨c.env,m,c.act,none⟩:cT)∈cx.fs
 ok:cx.Ok n hd
def xU(ifs:List Expr)(env:Env):Sem Bool:=forIn ifs true fun c r=>if r=true then do let ok←isTrue c env (eval c env);pure (ForInStep.yield ok) else pure (ForInStep.yield r)
theorem BL{it:Addr}{o:Obj}{i:Nat}{A:Around}{E:aC→aK→Prop}{Q:aC→aK→Prop}{s:aK}(hi:src.it i o)(ho:s.heap.get? it=some o)(h:Q (.ref it) s):wpAny (model pw S.w) A (pyIter (.ref it)) Q E s:=by
 cases src with
 |list l=>exact wpAny_pyIter_listiter ⟨o,ho,hi⟩ h
 |tup l=>exact wpAny_pyIter_tupleiter ⟨o,ho,hi⟩ h
 |range a st k=>have hi:o=_:=hi;subst hi;exact wpAny_pyIter_rangeiter ho h
 |str y=>obtain⟨t,hi⟩:=hi;exact wpAny_pyIter_striter_ascii ⟨o,ho,hi⟩ h
theorem BV{target elt iter:Expr}{ifs:List Expr}{scope:Scope}{pos:Pos}{cl:List (Str×Addr)}{C D it:Addr}{t8:Nat}{mY:Obj}{R:Result→aK→Prop}{I:Nat→aB→AH→Prop}{s:aK}
  (ok:c.Ok n hd) (Q2:src.it 0 mY) (hI:I 0 [] H) (hz:xs.length≤1000000)
  (qh:∀i bN H',I i bN H'→src.ok H' xs)
  (turn:∀i bN H' aQ v u cx,uH c m scope cl n hd cx→(∀v∈vs,v∈aQ)→I i bN H'→xs[i]?=some v→er u=v→u∈aQ→T S cx aQ [] H' (assign target cx.env u) (fun _ cD m₂ aH=>T S cx cD m₂ aH (xU ifs cx.env) (fun ok dB cA aO=>
   if ok=true then T S cx dB cA aO (eval elt cx.env) (fun y qT xK bI=>y∈qT∧I (i+1) (bN++[er y]) bI) (fun _ _ _=>False) else I (i+1) bN aO) fun _ _ _=>False) fun _ _ _=>False)
  (Gx:∀bN H',I xs.length bN H'→Clean hd H')
  (B:St S (⟨compEnvC scope cl C c.env,[],false,none⟩::⟨c.env,m,c.act,none⟩::dT c.env D {cls:=.type "list",dict:=none,data:=.seq #[] t8,slots:=#[]}::dT c.env it mY::c.fs) H vs s)
  (fin:∀bN H' aQ arr k m₂ s',(∀v∈vs,v∈aQ)→I xs.length bN H'→arr.toList.map er=bN→(∀v∈arr.toList,v∈aQ)→bN.length≤1000000→
   St S (⟨compEnvC scope cl C c.env,m₂,false,none⟩::⟨c.env,m,c.act,none⟩::dT c.env D {cls:=.type "list",dict:=none,data:=.seq arr k,slots:=#[]}::c.fs) H' aQ s'→R (.ok .next) s'):
  codeAny (model pw S.w) c.A (.compLoop (.ListComp elt [⟨target,iter,ifs,0⟩] scope pos) 0 (.ref it) (.ref D) (compEnvC scope cl C c.env)) R s:=by
 refine codeAny_loop rfl (fun k s=>∃i bN H' aQ m₂ arr kk o,k=xs.length+1 - i∧i≤xs.length∧(∀v∈vs,v∈aQ)∧src.it i o∧arr.toList.map er=bN∧(∀v∈arr.toList,v∈aQ)∧bN.length≤i∧
  St S (⟨compEnvC scope cl C c.env,m₂,false,none⟩::⟨c.env,m,c.act,none⟩::dT c.env D {cls:=.type "list",dict:=none,data:=.seq arr kk,slots:=#[]}::dT c.env it o::c.fs) H' aQ s∧I i bN H')
  (fun k s ⟨i,bN,H',aQ,m₂,arr,kk,o,hk,hle,vB,hi,he,hw,GW,B,hI⟩=>?_) (xs.length+1) ⟨0,[],H,vs,[],#[],t8,mY,rfl,g6 _,fun _ h=>h,Q2,rfl,(fun v hv=>by cases hv),g6 _,B,hI⟩
 show wpAny _ c.A ((compTurn (.ListComp elt [⟨target,iter,ifs,0⟩] scope pos) 0 (.ref it) (.ref D) (compEnvC scope cl C c.env)).onRaise (fun x=>do noteFrame x (compEnvC scope cl C c.env);theTreesLotGoes x)) _ _ s
 refine wpAny_noted ?_;rw[compTurn_list];refine aM (zB (aM ?_))
 by_cases q:i < xs.length
 .have hv:xs[i]?=some xs[i]:=lr q
  refine next_item (fr:=[⟨compEnvC scope cl C c.env,m₂,false,none⟩,⟨c.env,m,c.act,none⟩,dT c.env D {cls:=.type "list",dict:=none,data:=.seq arr kk,slots:=#[]}]) hi (qh _ _ _ hI) hv B fun u s' o' hu xF B'=>?_
  have at':s'.heap.get? it=some o':=let⟨ρ,τ,b,w⟩:=B';b.lu (fr:=[⟨compEnvC scope cl C c.env,m₂,false,none⟩,⟨c.env,m,c.act,none⟩,dT c.env D {cls:=.type "list",dict:=none,data:=.seq arr kk,slots:=#[]}]);dsimp only;refine aM (lS xF at' ?_);have cx:uH c m scope cl n hd ⟨compEnvC scope cl C c.env,false,c.A,⟨c.env,m,c.act,none⟩::dT c.env D {cls:=.type "list",dict:=none,data:=.seq arr kk,slots:=#[]}::dT c.env it o'::c.fs⟩:=by
   refine⟨⟨C,rfl⟩,rfl,rfl,.head _,?_,ok.handled,ok.room⟩;rw[ok.frames];unfold Cx.top fH dT;cases h:c.act<;>simp[h]
  have B':St S (Cx.top ⟨compEnvC scope cl C c.env,false,c.A,⟨c.env,m,c.act,none⟩::dT c.env D {cls:=.type "list",dict:=none,data:=.seq arr kk,slots:=#[]}::dT c.env it o'::c.fs⟩ []) H' (u::aQ) s':=
   let⟨ρ,τ,b,w⟩:=B';⟨ρ,τ,Body.weak b (fun x v h=>by cases h),w⟩
  have no:∀(P:Prop) (s:aK) (vs:aB) (e:aC),(∃(x:Addr) (m':Map) (H':AH),e=.ref x∧sE S ⟨compEnvC scope cl C c.env,false,c.A,⟨c.env,m,c.act,none⟩::dT c.env D {cls:=.type "list",dict:=none,data:=.seq arr kk,slots:=#[]}::dT c.env it o'::c.fs⟩ m' H' vs x s∧False)→P:=fun P _ _ _ ⟨_,_,_,_,_,f⟩=>f.elim
  refine aM (dD (turn i bN H' (u::aQ) _ u _ cx (fun v hv=>.tail _ (vB v hv)) hI hv hu (.head _) s' B') (fun _ eH ⟨cD,m₂,aH,l₂,gv,dA⟩=>aM (dD (dA eH gv) (fun ok fW ⟨dB,cA,aO,jT,mF,eQ⟩=>?_) fun e fW h=>no _ _ _ _ h)) fun e fW h=>no _ _ _ _ h)
  have lv:∀v∈aQ,v∈dB:=fun v hv=>jT v (l₂ v (.tail _ hv))
  cases ok with
  |false=>
   rw[aR eV] at eQ;exact bO ⟨rfl,xs.length+1 - (i+1),by omega,i+1,bN,aO,dB,cA,arr,kk,o',rfl,q,fun v hv=>lv v (vB v hv),xF,he,fun v hv=>lv v (hw v hv),by omega,mF,eQ⟩
  |true=>
   rw[bE rfl] at eQ;refine aM (aM (dD (eQ fW mF) (fun y lb ⟨qT,xK,bI,G9,Lf,hy,CG⟩=>?_) fun e lb h=>no _ _ _ _ h))
   obtain⟨ρ,τ,b,w⟩:=Lf;have g:IsL lb.heap D arr kk:=b.lu (fr:=[⟨compEnvC scope cl C c.env,xK,false,none⟩,⟨c.env,m,c.act,none⟩]);have Jk:arr.size=bN.length:=by rw[←he];simp
   refine aM (vX F.slot_list_append ⟨_,g,rfl⟩ F.entry_list_append (F.args_list_append_2 _ _) (list_append D arr kk y (dP (by omega))) ⟨g,bO (bO ?_)⟩)
   have b':=b.rD (fr:=[⟨compEnvC scope cl C c.env,xK,false,none⟩,⟨c.env,m,c.act,none⟩]) (s':={lb with heap:=lb.heap.update D (Obj.mapSeq fun x=>x.push y)}) (gY ..) (IsL.update g fun x=>x.push y) rfl rfl aF
   refine⟨rfl,xs.length+1 - (i+1),by omega,i+1,bN++[er y],bI,qT,xK,arr.push y,_,o',rfl,q,fun v hv=>G9 v (lv v (vB v hv)),xF,by simp[he],fun v hv=>?_,by simp;omega,⟨ρ,τ,b',w⟩,CG⟩
   simp at hv
   rcases hv with hv|rfl
   .exact G9 v (lv v (hw v (by simpa using hv)))
   .exact hy
 .have q:i=xs.length:=by omega
  subst q;refine next_end (fr:=[⟨compEnvC scope cl C c.env,m₂,false,none⟩,⟨c.env,m,c.act,none⟩,dT c.env D {cls:=.type "list",dict:=none,data:=.seq arr kk,slots:=#[]}]) hi (qh _ _ _ hI) rfl (Gx _ _ hI) ok.handled B fun s' B'=>?_
  exact bO (fin bN H' aQ arr kk m₂ s' vB hI he hw (by omega) B')
def Dp(S:aN)(c:Cx)(m:Map)(n:Nat)(hd:bP)(elt target:Expr)(ifs:List Expr)(scope:Scope)(cl:List (Str×Addr))(x:aC)(vs:aB)(H:AH)(F:aB→AH→Prop):Prop:=
 ∃(src:Src) (xs:aB) (I:Nat→aB→AH→Prop),fp H (er x) xs src∧xs.length≤1000000∧I 0 [] H∧(∀i bN H',I i bN H'→src.ok H' xs)∧
  (∀i bN H' aQ v u cx,uH c m scope cl n hd cx→(∀v∈vs,v∈aQ)→I i bN H'→xs[i]?=some v→er u=v→u∈aQ→T S cx aQ [] H' (assign target cx.env u) (fun _ cD m₂ aH=>T S cx cD m₂ aH (xU ifs cx.env) (fun ok dB cA aO=>
   if ok=true then T S cx dB cA aO (eval elt cx.env) (fun y qT xK bI=>y∈qT∧I (i+1) (bN++[er y]) bI) (fun _ _ _=>False) else I (i+1) bN aO) fun _ _ _=>False) fun _ _ _=>False)∧
  ∀bN H',I xs.length bN H'→Clean hd H'∧F bN H'
theorem rX{target elt iter:Expr}{ifs:List Expr}{scope:Scope}{pos:Pos}{cl:List (Str×Addr)}{x:aC}{F:aB→AH→Prop}{RR:aC→Addr→Result→aK→Prop}{E:aC→aK→Prop}{s:aK}
  (ok:c.Ok n hd) (ri:∀y∈scope.names,y.2≠.cell) (kL:scope.kind=.function) (V:Dp S c m n hd elt target ifs scope cl x vs H F) (B:St S (c.top m) H vs s)
  (fin:∀bN H' aQ arr k m₂ C D s',(∀v∈vs,v∈aQ)→F bN H'→arr.toList.map er=bN→(∀v∈arr.toList,v∈aQ)→bN.length≤1000000→
   St S (⟨compEnvC scope cl C c.env,m₂,false,none⟩::⟨c.env,m,c.act,none⟩::dT c.env D {cls:=.type "list",dict:=none,data:=.seq arr k,slots:=#[]}::c.fs) H' aQ s'→RR (.ref D) C (.ok .next) s'):
  wpAny (model pw S.w) c.A (pyIter x) (fun it eH=>wpAny (model pw S.w) c.A (newList []) (fun bN fW=>wpAny (model pw S.w) c.A (newFunctionEnv scope c.env.globals cl [] c.env.qual none .none (some c.env)) (fun Pn lb=>
   codeAny (model pw S.w) c.A (.compStart (.ListComp elt [⟨target,iter,ifs,0⟩] scope pos) 0 it bN {Pn with scope:=relabel scope c.env}) (RR bN Pn.locals) lb) E fW) E eH) E s:=by
 obtain⟨src,xs,I,hs,hz,hI,qh,turn,hF⟩:=V;refine nF hs B fun it o s₁ hi ⟨ρ,τ,b,w⟩=>?_
 have sQ:Body S ρ τ (⟨c.env,m,c.act,none⟩::dT c.env it o::c.fs) H s₁:=b;obtain⟨Xe,xO⟩:=sQ.rE {cls:=.type "list",dict:=none,data:=.seq #[],slots:=#[]} rfl;refine wpAny_newList (items:=[]) ?_ (g6 _);refine wpAny_newFunctionEnv ri (by intro y hy;simp at hy) (fun cN EI EH=>?_) kL
 dsimp only at EI EH xO⊢;obtain⟨qR,ph⟩:=xO.block (e:=compEnvC scope cl (s₁.heap.push {cls:=.type "list",dict:=none,data:=.seq #[],slots:=#[]}).objs.size c.env) (n:=s₁.toks) rfl kL EI EH aF;have ho:cN.get? it=some o:=ph.lu (fr:=[⟨_,[],false,none⟩,⟨c.env,m,c.act,none⟩,dT c.env s₁.heap.objs.size {cls:=.type "list",dict:=none,data:=.seq #[],slots:=#[]}]);have loop:∀lb:aK,lb={s₁ with heap:=cN,toks:=s₁.toks+([]:List (Str×aC)).length}→codeAny (model pw S.w) c.A (.compLoop (.ListComp elt [⟨target,iter,ifs,0⟩] scope pos) 0 (.ref it) (.ref s₁.heap.objs.size) (compEnvC scope cl (s₁.heap.push {cls:=.type "list",dict:=none,data:=.seq #[],slots:=#[]}).objs.size c.env))
   (RR (.ref s₁.heap.objs.size) (s₁.heap.push {cls:=.type "list",dict:=none,data:=.seq #[],slots:=#[]}).objs.size) lb:=fun lb e=>by
  subst e;exact BV ok hi hI hz qh turn (fun bN H' h=>(hF bN H' h).1) ⟨qR,τ,ph,w⟩ fun bN H' aQ arr k m₂ s' vB hI he hw hl B'=>fin bN H' aQ arr k m₂ _ _ s' vB (hF bN H' hI).2 he hw hl B'
 exact codeAny_compStart_list (loop _ rfl) (BL hi ho (loop _ rfl))
theorem Nk{target elt iter:Expr}{ifs:List Expr}{scope:Scope}{pos:Pos}{cl:List (Str×Addr)}{Q:aC→aB→Map→AH→Prop}{E:Addr→Map→AH→Prop}
  (ok:c.Ok n hd) (Gx:ly scope.names c.env.cells []=some cl) (ri:∀y∈scope.names,y.2≠.cell) (kL:scope.kind=.function) (yB:∀y∈scope.names,y.2=.local→scope.names.lookup y.1=some .local) (qO:∀x,foldedSetIterable iter c.env x=pure x)
  (h:T S c vs m H (eval iter c.env) (fun x aQ m' H'=>m'=m∧Dp S c m n hd elt target ifs scope cl x aQ H' fun bN gJ=>∃t,t≠0∧∀D kQ,gJ D=none→(∀v∈aQ,v∈kQ)→Q (.ref D) (.ref D::kQ) m (upd gJ D (.list t bN))) E):
  T S c vs m H (eval (.ListComp elt [⟨target,iter,ifs,0⟩] scope pos) c.env) Q E:=fun s B=>by
 rw[eval_ListComp];refine wpAny_comprehension_free (cl:=cl) rfl qO (mU Gx) kL yB (dD (h s B) (fun x s₁ ⟨aQ,m',H',lv,B',e,V⟩=>?_) fun _ _ h=>h)
 subst e;refine rX ok ri kL V B' fun bN gJ kQ arr k m₂ C D s' NY ⟨t,ht,hF⟩ he hw hl ⟨ρ,τ,b,w⟩=>?_
 obtain⟨f,hn,-,-⟩:=((b.frames _ (.head _)).nsOk rfl).ns;refine⟨f,hn,fun h' sb=>?_⟩
 have xO:=b.Io (n:=s'.toks) sb aF;obtain⟨hD,cH,ph⟩:=Body.own (fr:=[⟨c.env,m',c.act,none⟩]) xO t ht he (fun v hv=>w v (hw v hv)) hl
 exact⟨_,m',_,fun v hv=>.tail _ (NY v (lv v hv)),⟨cH,τ,ph,cR (u:=.ref D) trivial w⟩,hF D kQ hD NY⟩
theorem Ce{target elt iter:Expr}{ifs:List Expr}{scope:Scope}{pos:Pos}{cl:List (Str×Addr)}{use:aC→Sem Unit}{Q:Unit→aB→Map→AH→Prop}{E:Addr→Map→AH→Prop}
  (ok:c.Ok n hd) (Gx:ly scope.names c.env.cells []=some cl) (ri:∀y∈scope.names,y.2≠.cell) (kL:scope.kind=.function) (yB:∀y∈scope.names,y.2=.local→scope.names.lookup y.1=some .local) (qO:∀x,foldedSetIterable iter c.env x=pure x)
  (h:T S c vs m H (eval iter c.env) (fun x aQ m' H'=>m'=m∧Dp S c m n hd elt target ifs scope cl x aQ H' fun bN gJ=>∃t,t≠0∧∀D C o kQ,gJ D=none→(∀v∈aQ,v∈kQ)→T S (c.pin C o) (.ref D::kQ) m (upd gJ D (.list t bN)) (use (.ref D)) (fun _ dB cA aO=>Q () dB cA aO) fun _ _ _=>False) E):
  T S c vs m H (evalThenUse (.ListComp elt [⟨target,iter,ifs,0⟩] scope pos) c.env use) Q E:=fun s B=>by
 show wpAny _ _ (comprehension (.ListComp elt [⟨target,iter,ifs,0⟩] scope pos) scope c.env (firstIterPos [⟨target,iter,ifs,0⟩] pos) (newList []) (firstAsync [⟨target,iter,ifs,0⟩]) (firstIter [⟨target,iter,ifs,0⟩] c.env) (some use) >>= fun _=>pure ()) _ _ s
 refine aM ?_;refine wpAny_comprehension_free (cl:=cl) rfl qO (mU Gx) kL yB (dD (h s B) (fun x s₁ ⟨aQ,m',H',lv,B',e,V⟩=>?_) fun _ _ h=>h)
 subst e;refine rX ok ri kL V B' fun bN gJ kQ arr k m₂ C D s' NY ⟨t,ht,hF⟩ he hw hl ⟨ρ,τ,b,w⟩=>?_
 obtain⟨hD,cH,xO⟩:=Body.own (fr:=[⟨compEnvC scope cl C c.env,m₂,false,none⟩,⟨c.env,m',c.act,none⟩]) b t ht he (fun v hv=>w v (hw v hv)) hl
 obtain⟨f,hn,-,-⟩:=((xO.frames _ (.head _)).nsOk rfl).ns;obtain⟨oC,ph⟩:=Body.PC xO;have SM:s'.heap.get? C=some oC:=ph.lu (fr:=[⟨c.env,m',c.act,none⟩]);refine dD (hF D C oC kQ hD NY s' ⟨cH,τ,ph,cR (u:=.ref D) trivial w⟩) (fun _ fW ⟨dB,cA,aO,jT,⟨CQ,zu,qP,Ku⟩,hQ⟩=>?_) fun e fW ⟨_,_,_,_,_,f⟩=>f.elim
 have MS:fW.heap.get? C=some oC:=qP.lu (fr:=[⟨c.env,cA,c.act,none⟩]);have QV:fW.heap.Ns C f:=hn.at' fun o ho=>by have:some o=some oC:=ho.symm.trans SM;rw[this];exact MS
 refine⟨f,QV,fun h' sb=>?_⟩
 obtain⟨Pz,K0⟩:=Body.yv (fr:=[⟨c.env,cA,c.act,none⟩]) (n:=fW.toks) qP sb.extBut aF;exact bO ⟨dB,cA,aO,fun v hv=>jT v (.tail _ (NY v (lv v hv))),⟨Pz,zu,K0,Ku⟩,hQ⟩
end
open PySem.SeqAt
theorem yF{arr:Array aC}{xs:aB}{f:aC→Bool}(e:arr.toList.map er=xs):arr.any (fun y=>f (er y))=xs.any f:=by
 rw[←e,←CZ,List.any_map];rfl
theorem j5{arr:Array aC}{xs:aB}(e:arr.toList.map er=xs):arr.isEmpty=xs.isEmpty:=by
 rw[←e];cases arr with|mk l=>cases l<;>rfl
def jZ:List Addr:=[92,119,141,183,418,458,671]
def iC:aB:=[.ref 119,.ref 92,.ref 671,.ref 458,.ref 183,.ref 385,.type "int",.type "str",.type "list",.type "tuple"]
def sH(H:AH):aC→Option aC
 | .int _ _=>some (.type "int")
 | .str _ _=>some (.type "str")
 | .none=>some (.type "NoneType")
 | .ref a=>match H a with
  |some (.inst _ C _)=>if jZ.contains C=true then some (.ref C) else none
  |some (.list _ _)=>some (.type "list")
  |some (.tup _ _)=>some (.type "tuple")
  |_=>none
 |_=>none
def xE:aC→aC→Bool
 | .ref a,.ref b=>a==b||(a==418&&b==385)
 | .type x,.type y=>x==y
 |_,_=>false
theorem QQ:∀P:Params,((Value.type "int"::.type "str"::.type "NoneType"::.type "list"::.type "tuple"::jZ.map Value.ref).all fun t=>iC.all fun c=>kitOne (KK P) t c==some (xE t c))=true:=fun P=>by kernel_rfl
theorem QI:∀P:Params,(jZ.all fun D=>plainGet (KK P) D "__class__"&&hasDictIn (KK P) D&&(findIn (KK P) (.ref D) "__class__"==some (some (.builtin "object.__class__")))&&(specialIn (KK P) (.builtin "object.__class__") "__get__"==some (some (.builtin "getset_descriptor.__get__")))&&
  (takesIn (KK P) (.builtin "object.__class__")==some true)&&(mroIn (KK P) D (.type "object")==some true))=true:=fun P=>by kernel_rfl
theorem pF{P:Params}{t c:aC}(ht:t∈(Value.type "int"::.type "str"::.type "NoneType"::.type "list"::.type "tuple"::jZ.map Value.ref))(hc:c∈iC):kitOne (KK P) t c=some (xE t c):=
 dE.mp (dC.mp (dC.mp (QQ P) t ht) c hc)
section
variable{S:aN}{c:Cx}{vs:aB}{m:Map}{H:AH}{n:Nat}{hd:bP}{E:Addr→Map→AH→Prop}{t:Nat}{xs:aB}{l a:Addr}{Q:aC→aB→Map→AH→Prop}
theorem Gd{u k tt:aC}(hk:k∈iC)(ht:sH H (er u)=some tt)(h:Q (.bool (xE tt k)) vs m H):T S c vs m H (call (.builtin "isinstance") [u,k]) Q E:=fun s B=>by
 have B':=B;obtain⟨ρ,τ,b,w⟩:=B;have fin:∀tk,s.toks≤tk→∃aQ m' H',(∀v∈vs,v∈aQ)∧St S (c.top m') H' aQ {s with toks:=tk}∧Q (.bool (xE tt k)) aQ m' H':=fun tk h'=>⟨vs,m,H,fun _ h=>h,B'.toks h',h⟩
 have grow:∀{Q:aC→aK→Prop} {E:aC→aK→Prop},(∀E',wpAny (model pw S.w) c.A (call (.builtin "isinstance") [u,k]) (fun v s'=>v=.bool (xE tt k)∧∃tk,s'={s with toks:=tk}) E' s)→(∀tk,s.toks≤tk→Q (.bool (xE tt k)) {s with toks:=tk})→wpAny (model pw S.w) c.A (call (.builtin "isinstance") [u,k]) Q E s:=fun h1 h2=>
  dD (wpAny_toks (h1 fun _ _=>False)) (fun v s' ⟨hs,e,tk,e'⟩=>by subst e e';exact h2 tk hs) fun _ _ h=>h.2.elim
 refine grow (fun E'=>?_) fin
 cases u<;>simp only[er,sH,reduceCtorEq,mJ] at ht
 case none=>subst ht;exact kia_one kitx_none b.X trivial (pF (by decide) hk) (by simp) fun tk=>⟨rfl,tk,rfl⟩
 case int i t=>subst ht;exact kia_one kitx_int b.X trivial (pF (by decide) hk) (by simp) fun tk=>⟨rfl,tk,rfl⟩
 case str x t=>subst ht;exact kia_one kitx_str b.X trivial (pF (by decide) hk) (by simp) fun tk=>⟨rfl,tk,rfl⟩
 case ref a=>
  split at ht
  .rename_i hx
   split at ht
   .rename_i hC
    cases ht;obtain⟨d,es,k',r1,g1,r2,g2,fa,wv⟩:=b.lay _ _ hx;have hm:=fM.mp hC;have o:=dC.mp (QI S.w.params) _ hm;simp only[dJ,dE] at o;obtain⟨⟨⟨⟨⟨o1,o2⟩,o3⟩,o4⟩,o5⟩,o6⟩:=o;exact kia_one (kitx_own o1 o2 o3 o4 o5 o6) b.X ⟨g1,rfl,rfl,g2⟩ (pF (by simp[hm]) hk) (by simp) fun tk=>⟨rfl,tk,rfl⟩
   .cases ht
  .rename_i hx
   cases ht;obtain⟨arr,k',g,_⟩:=b.list hx;exact kia_one kitx_list b.X ⟨_,g,rfl⟩ (pF (by decide) hk) (by simp) fun tk=>⟨rfl,tk,rfl⟩
  .rename_i hx
   cases ht;obtain⟨arr,k',g,_⟩:=b.tup hx;exact kia_one kitx_tuple b.X ⟨_,g,rfl⟩ (pF (by decide) hk) (by simp) fun tk=>⟨rfl,tk,rfl⟩
  .cases ht
def truth(H:AH):aC→Option Bool
 | .bool b=>some b
 | .none=>some false
 | .int i _=>some (i != 0)
 | .ref a=>match H a with
  |some (.list _ xs)=>some (!xs.isEmpty)
  |some (.tup _ xs)=>some (!xs.isEmpty)
  |_=>none
 |_=>none
theorem Bd{u:aC}{b:Bool}{Q:Bool→aB→Map→AH→Prop}(ht:truth H (er u)=some b)(h:Q b vs m H):T S c vs m H (truthy u) Q E:=fun s B=>by
 have B':=B;obtain⟨ρ,τ,bb,w⟩:=B;cases u<;>simp only[er,truth,reduceCtorEq,mJ] at ht
 case none=>subst ht;exact truthy_none ⟨vs,m,H,fun _ h=>h,B',h⟩
 case bool=>subst ht;exact wpAny_truthy_bool ⟨vs,m,H,fun _ h=>h,B',h⟩
 case int=>subst ht;exact PyProof.Rows.truthy_int ⟨vs,m,H,fun _ h=>h,B',h⟩
 case ref a=>
  split at ht
  .rename_i hx
   cases ht;obtain⟨arr,k',g,e,_,z,hz⟩:=bb.list hx;refine wpAny_truthy_list g.isList (by omega) ⟨vs,m,H,fun _ h=>h,B'.toks (qX _ 2),?_⟩
   rw[j5 e];exact h
  .rename_i hx
   cases ht;obtain⟨arr,k',g,e,_,z,hz⟩:=bb.tup hx;refine truthy_tuple ⟨_,g,rfl,_,rfl⟩ (by omega) ⟨vs,m,H,fun _ h=>h,B'.toks (qX _ 2),?_⟩
   rw[j5 e];exact h
  .cases ht
def tW(x:aC)(xs:aB):Option Bool:=if xs.all (fun y=>(zp y x).isSome)=true then some (xs.any fun y=>zp y x==some true) else none
theorem vc{A:Around}{s:aK}{y x:aC}(h:(zp (er y) (er x)).isSome=true):EqAt A s y x (zp (er y) (er x)==some true):=by
 obtain⟨r,hr⟩:=mK.mp h;rw[hr];rcases M3 hr with ⟨i,t,j,u,rfl,rfl,rfl⟩|⟨p,t,q,u,rfl,rfl,rfl⟩
 .rw[show(some (i==j)==some true)=(i==j) from by cases (i==j)<;>rfl];exact EqAt.int_int _ _ _ _
 .rw[show(some (p==q)==some true)=(p==q) from by cases (p==q)<;>rfl];exact EqAt.str_str _ _ _ _
theorem Ge{u:aC}{b:Bool}(hl:H l=some (.list t xs))(hb:tW (er u) xs=some b)(h:Q (.bool b) vs m H):T S c vs m H (compareOp .In u (.ref l)) Q E:=fun s B=>by
 have B':=B;obtain⟨ρ,τ,bb,w⟩:=B;obtain⟨arr,k',g,e,_,z,hz⟩:=bb.list hl;unfold tW at hb;split at hb
 .rename_i q
  cases hb;refine PySem.SeqAt.in_listAt (fun y=>zp (er y) (er u)==some true) g.isList (fun y hy=>vc (dC.mp q _ ?_)) ⟨vs,m,H,fun _ h=>h,B',?_⟩
  .rw[←e];exact eF.mpr ⟨y,by simpa using hy,rfl⟩
  .rw[yF (f:=fun y=>zp y (er u)==some true) e];exact h
 .cases hb
theorem xr{u:aC}{b:Bool}(hl:H l=some (.list t xs))(hb:tW (er u) xs=some b)(h:Q (.bool (!b)) vs m H):T S c vs m H (compareOp .NotIn u (.ref l)) Q E:=fun s B=>by
 have B':=B;obtain⟨ρ,τ,bb,w⟩:=B;obtain⟨arr,k',g,e,_,z,hz⟩:=bb.list hl;unfold tW at hb;split at hb
 .rename_i q
  cases hb;refine PySem.SeqAt.notIn_listAt (fun y=>zp (er y) (er u)==some true) g.isList (fun y hy=>vc (dC.mp q _ ?_)) ⟨vs,m,H,fun _ h=>h,B',?_⟩
  .rw[←e];exact eF.mpr ⟨y,by simpa using hy,rfl⟩
  .rw[yF (f:=fun y=>zp y (er u)==some true) e];exact h
 .cases hb
theorem I3{u:aC}{b:Bool}(hl:H l=some (.tup t xs))(hb:tW (er u) xs=some b)(h:Q (.bool b) vs m H):T S c vs m H (compareOp .In u (.ref l)) Q E:=fun s B=>by
 have B':=B;obtain⟨ρ,τ,bb,w⟩:=B;obtain⟨arr,k',g,e,_,z,hz⟩:=bb.tup hl;unfold tW at hb;split at hb
 .rename_i q
  cases hb;refine PySem.SeqAt.in_tupleAt (fun y=>zp (er y) (er u)==some true) ⟨_,g,rfl,_,rfl⟩ (fun y hy=>vc (dC.mp q _ ?_)) ⟨vs,m,H,fun _ h=>h,B',?_⟩
  .rw[←e];exact eF.mpr ⟨y,by simpa using hy,rfl⟩
  .rw[yF (f:=fun y=>zp y (er u)==some true) e];exact h
 .cases hb
theorem Ca(ok:c.Ok n hd)(hl:H l=some (.list t xs)){t':Nat}(ha:H a=some (.list t' []))(h:Q (.bool (!xs.isEmpty)) vs m H):T S c vs m H (compareOp .NotEq (.ref l) (.ref a)) Q E:=fun s B=>by
 have B':=B;obtain⟨ρ,τ,bb,w⟩:=B;obtain⟨arr,k',g,e,_,z,hz⟩:=bb.list hl;obtain⟨VE,k2,g2,e2,_,z2,Ry⟩:=bb.list ha;have hu:c.A.units < cLine:=by have:=ok.room.2;omega
 have Ry:VE.size=0:=Ry;show wpAny _ _ (richCompare .NotEq _ _) _ _ s;cases xs with
 |nil=>
  have hz:arr.size=0:=hz;refine RcNeAt.lists (e:=fun _=>true) g.isList g2.isList (hz.trans Ry.symm) hu (fun j h1 _=>absurd h1 (by omega)) pw S.w _ _ ⟨vs,m,H,fun _ h=>h,B',?_⟩
  rw[hz];exact h
 |cons y r=>
  have hz:arr.size=r.length+1:=hz;exact RcNeAt.lists_lengths g.isList g2.isList (by rw[hz,Ry];simp) hu pw S.w _ _ ⟨vs,m,H,fun _ h=>h,B',h⟩
end
section
variable{K:Type}[DecidableEq K]
theorem rU{ks:List (K×aC)}{k:K}:(valueAt ks k).map er=valueAt (ks.map fun p=>(p.1,er p.2)) k:=by
 unfold valueAt
 induction ks with
 |nil=>rfl
 |cons p r ih=>
  rw[fj]
  by_cases e:p.1=k
  .rw[Br (by simpa using e),Br (by simpa using e)];rfl
  .rw[ql (by simpa using e),ql (by simpa using e)];exact ih
theorem pH{ks:List (K×aC)}{k:K}{v:aC}:(stored ks k v).map (fun p=>(p.1,er p.2))=stored (ks.map fun p=>(p.1,er p.2)) k (er v):=by
 unfold stored
 have:(ks.map fun p=>(p.1,er p.2)).any (fun kv=>decide (kv.1=k))=ks.any (fun kv=>decide (kv.1=k)):=by rw[List.any_map];rfl
 rw[this];split
 .rw[v3,v3]
  refine yu fun p hp=>?_
  show _=_;simp only[Function.comp];split<;>rfl
 .rw[gW];rfl
theorem nE{ks:List (K×aC)}{k:K}{v:aC}{p:K×aC}(h:p∈stored ks k v):p.2=v∨p∈ks:=by
 unfold stored at h;split at h
 .obtain⟨q,hq,e⟩:=eF.mp h
  split at e
  .rw[←e];exact .inl rfl
  .rw[←e];exact .inr hq
 .rcases dR.mp h with h|h
  .exact .inr h
  .rw[dQ.mp h];exact .inl rfl
theorem xe{ks:List (K×aC)}{k:K}{v:aC}(h:valueAt ks k=some v):(k,v)∈ks:=by
 unfold valueAt at h;obtain⟨p,hp,e⟩:=ey.mp h
 have:=List.find?_some hp
 have hm:=C0 hp
 have:p.1=k:=by simpa using this
 obtain⟨a,b⟩:=p;dsimp only at this e;subst this e;exact hm
end
section
variable{S:aN}{c:Cx}{vs:aB}{m:Map}{H:AH}{n:Nat}{E:Addr→Map→AH→Prop}{t:Nat}{xs:aB}{l a d:Addr}{Q:aC→aB→Map→AH→Prop}
theorem yw{o:AO}{fs:List cT}{ρ:Addr→Role}{τ:Tok→Option Int}{s:aK}(b:Body S ρ τ fs H s)(h:H d=some o)(ht:o.tag≠0):(d==sysModules)=false:=by
 rw[dw];intro e;subst e;obtain⟨ob,q⟩:=S.sys;have r:=b.base _ _ q;rw[(b.lay _ _ h).role,aR ht] at r;cases r
theorem Body.dI{fs:List cT}{ρ:Addr→Role}{τ:Tok→Option Int}{s:aK}{es:List (Int×aC)}(b:Body S ρ τ fs H s)(h:H d=some (.aX t es)):t≠0∧∃ks,s.heap.DictOf (intKind pw S.w) d ks∧ks.map (fun p=>(p.1,er p.2))=es∧∀p∈ks,WV τ p.2:=by
 obtain⟨o,ks,t0,r,g,i,e,w⟩:=b.lay _ _ h;exact⟨t0,ks,ny.mpr ⟨o,g,i⟩,e,w⟩
theorem Body.dS{fs:List cT}{ρ:Addr→Role}{τ:Tok→Option Int}{s:aK}{es:List (Str×aC)}(b:Body S ρ τ fs H s)(h:H d=some (.bR t es)):t≠0∧∃ks,s.heap.DictOf (PySem.strKind pw S.w) d ks∧ks.map (fun p=>(p.1,er p.2))=es∧∀p∈ks,WV τ p.2:=by
 obtain⟨o,ks,t0,r,g,i,e,w⟩:=b.lay _ _ h;exact⟨t0,ks,ny.mpr ⟨o,g,i⟩,e,w⟩
theorem get_dict{KT:Type}[DecidableEq KT]{knd:KeyKind pw S.w KT}{k:KT}{key u:aC}{ks:List (KT×aC)}{es:List (KT×aC)}(KN:knd.is k key=true){A:Around}{s:aK}{τ:Tok→Option Int}{R:aC→aK→Prop}{E:aC→aK→Prop}
  (hs:(d==sysModules)=false) (D:s.heap.DictOf knd d ks) (e:ks.map (fun p=>(p.1,er p.2))=es) (wk:∀p∈ks,WV τ p.2) (hu:WV τ u)
  (h:∀r,er r=(valueAt es k).getD (er u)→WV τ r→R r {s with toks:=s.toks+1}):wpAny (model pw S.w) A (call (.builtin "dict.get") [.ref d,key,u]) R E s:=by
 refine call_meetsIn F.slot_dict_get D.mapOf.typeIs F.entry_dict_get (F.args_dict_get_3 _ _ _) (meets_dict_get_default knd d KN hs u) ⟨_,D.mapOf,?_⟩;refine h _ ?_ ?_
 .rw[←e,←rU];cases valueAt ks k<;>rfl
 .cases q:valueAt ks k with
  |none=>exact hu
  |some v=>exact wk _ (xe q)
theorem I7{es:List (Int×aC)}{k:Int}{kt:Tok}{u:aC}(hl:H d=some (.aX t es))(hu:u∈vs)(h:∀r,er r=(valueAt es k).getD (er u)→Q r (r::vs) m H):T S c vs m H (call (.builtin "dict.get") [.ref d,.int k kt,u]) Q E:=fun s ⟨ρ,τ,b,w⟩=>by
 obtain⟨t0,ks,D,e,wk⟩:=b.dI hl;exact get_dict (τ:=τ) (k:=k) (by simp[intKind,Value.isInt]) (yw b hl t0) D e wk (w _ hu) fun r hr wr=>⟨_,m,H,fun _ h=>.tail _ h,⟨ρ,τ,b.toks (dU _),cR wr w⟩,h r hr⟩
theorem I6{es:List (Str×aC)}{k:Str}{kt:Tok}{u:aC}(hl:H d=some (.bR t es))(hu:u∈vs)(h:∀r,er r=(valueAt es k).getD (er u)→Q r (r::vs) m H):T S c vs m H (call (.builtin "dict.get") [.ref d,.str k kt,u]) Q E:=fun s ⟨ρ,τ,b,w⟩=>by
 obtain⟨t0,ks,D,e,wk⟩:=b.dS hl;exact get_dict (τ:=τ) (k:=k) (by simp[PySem.strKind,Value.isStrOf]) (yw b hl t0) D e wk (w _ hu) fun r hr wr=>⟨_,m,H,fun _ h=>.tail _ h,⟨ρ,τ,b.toks (dU _),cR wr w⟩,h r hr⟩
theorem Ng{es:List (Int×aC)}{k:Int}{kt:Tok}(hl:H d=some (.aX t es))(h:Q (.bool (valueAt es k).isSome) vs m H):T S c vs m H (compareOp .In (.int k kt) (.ref d)) Q E:=fun s B=>by
 have B':=B;obtain⟨ρ,τ,b,w⟩:=B;obtain⟨t0,ks,D,e,wk⟩:=b.dI hl;refine wpAny_in_of (knd:=intKind pw S.w) (k:=k) (by simp[intKind,Value.isInt]) (yw b hl t0) D.mapOf ⟨vs,m,H,fun _ h=>h,B'.toks (dU _),?_⟩
 rw[show(valueAt ks k).isSome=(valueAt es k).isSome from by rw[←e,←rU];cases valueAt ks k<;>rfl]
 exact h
theorem IU{es:List (Int×aC)}{k:Int}{kt:Tok}{u:aC}{Q:Unit→aB→Map→AH→Prop}(hl:H d=some (.aX t es))(hz:es.length≤1000000)(hu:u∈vs)(h:Q () vs m (upd H d (.aX t (stored es k (er u))))):T S c vs m H (setItem (.ref d) (.int k kt) u) Q E:=fun s ⟨ρ,τ,b,w⟩=>by
 obtain⟨t0,ks,D,e,wk⟩:=b.dI hl;refine wpAny_setItem_pairs (knd:=intKind pw S.w) (k:=k) (by simp[intKind,Value.isInt]) D (fun h' D' sb=>⟨vs,m,_,fun _ h=>h,⟨ρ,τ,?_,w⟩,h⟩) (by rw[←e,dO] at hz;exact dP hz)
 obtain⟨o',g',i'⟩:=ny.mp D';exact b.CB (s':={s with heap:=h',toks:=s.toks+1}) hl t0 sb rfl rfl (dU _) fun r=>⟨o',_,t0,r,g',i',by rw[←e];exact pH,fun p hp=>(nE hp).elim (fun q=>q▸w _ hu) (wk p)⟩
theorem IT{es:List (Str×aC)}{k:Str}{kt:Tok}{u:aC}{Q:Unit→aB→Map→AH→Prop}(hl:H d=some (.bR t es))(hz:es.length≤1000000)(hu:u∈vs)(h:Q () vs m (upd H d (.bR t (stored es k (er u))))):T S c vs m H (setItem (.ref d) (.str k kt) u) Q E:=fun s ⟨ρ,τ,b,w⟩=>by
 obtain⟨t0,ks,D,e,wk⟩:=b.dS hl;refine wpAny_setItem_pairs (knd:=PySem.strKind pw S.w) (k:=k) (by simp[PySem.strKind,Value.isStrOf]) D (fun h' D' sb=>⟨vs,m,_,fun _ h=>h,⟨ρ,τ,?_,w⟩,h⟩) (by rw[←e,dO] at hz;exact dP hz)
 obtain⟨o',g',i'⟩:=ny.mp D';exact b.CB (s':={s with heap:=h',toks:=s.toks+1}) hl t0 sb rfl rfl (dU _) fun r=>⟨o',_,t0,r,g',i',by rw[←e];exact pH,fun p hp=>(nE hp).elim (fun q=>q▸w _ hu) (wk p)⟩
theorem Body.newDict{fs:List cT}{ρ:Addr→Role}{τ:Tok→Option Int}{s:aK}(b:Body S ρ τ fs H s){o:AO}(ho:(∃t,t≠0∧o=.aX t [])∨∃t,t≠0∧o=.bR t []):
  H s.heap.objs.size=none∧∃cH,Body S cH τ fs (upd H s.heap.objs.size o) {s with heap:=s.heap.push {cls:=.type "dict",data:=.dict #[]}}:=by
 refine⟨b.fresh aF,b.zE fun cH r=>?_⟩
 rcases ho with ⟨t,ht,rfl⟩|⟨t,ht,rfl⟩
 .obtain⟨o,g,i⟩:=ny.mp (Heap.DictOf.new (knd:=intKind pw S.w) s.heap)
  exact⟨o,[],ht,r,g,i,rfl,fun p hp=>by cases hp⟩
 .obtain⟨o,g,i⟩:=ny.mp (Heap.DictOf.new (knd:=PySem.strKind pw S.w) s.heap)
  exact⟨o,[],ht,r,g,i,rfl,fun p hp=>by cases hp⟩
theorem xt{pos:Pos}(o:AO)(ho:(∃t,t≠0∧o=.aX t [])∨∃t,t≠0∧o=.bR t [])(h:∀a,H a=none→Q (.ref a) (.ref a::vs) m (upd H a o)):T S c vs m H (eval (.Dict [] [] pos) c.env) Q E:=fun s ⟨ρ,τ,b,w⟩=>by
 obtain⟨hn,cH,b'⟩:=b.newDict ho;exact wpAny_Dict_empty ⟨_,m,_,fun _ h=>.tail _ h,⟨cH,τ,b',cR (u:=.ref s.heap.objs.size) trivial w⟩,h _ hn⟩
theorem sT{s:aK}{A:Around}{E:aC→aK→Prop}{arr:Array aC}{n:Nat}{i:Nat}{k:Int}{it:Tok}{v:aC}{Q:Unit→aK→Prop}(g:IsL s.heap l arr n)(hi:i < arr.size)(hz:arr.size≤1000000)(h0:0≤k)(hk:k < 2 ^ 63)(ZI:k=i)
  (h:Q () {s with heap:=s.heap.update l (Obj.mapSeq (·.setIfInBounds i v))}):wpAny (model pw S.w) A (setItem (.ref l) (.int k it) v) Q E s:=by
 unfold setItem
 try with_reducible refine ku ?_
 first|refine aM (bO ?_)|skip
 refine aM (wpAny_sequenceKey g.isList.typeIs (by decide) ?_)
 refine aM (vT (name:=Str.ofString "__setitem__") g.isList.typeIs slot_list_setitem (vS slot_list_setitem g.isList.typeIs entry_list_setitem ?_ (args_list_setitem _ _ _)));show wpAny _ _ (Builtin.List.listSubscript? (.int k it) >>= _) _ _ s;refine aM (wpAny_listSubscript_int (fitsIndex_of h0 hk) ?_);subst ZI
 clear h0 hk
 show wpAny _ _ ((seqItemAt l i >>= fun r=>pure (r.map (i,·))) >>= _) _ _ s
 refine aM (aM (wpAny_seqItemAt g rfl (bO ?_)));rw[zy hi];show wpAny _ _ (setSeqItemAt l i v >>= _) _ _ s;refine aM (wpAny_setSeqItemAt g rfl ?_)
 first
  |exact aM (bO (bO ⟨.none,rfl,bO h⟩))
  |exact bO ⟨.none,rfl,bO h⟩
theorem B6{i:Nat}{it:Tok}{u:aC}{Q:Unit→aB→Map→AH→Prop}(hl:H l=some (.list t xs))(ht:t≠0)(hi:i < xs.length)(hu:u∈vs)(h:Q () vs m (upd H l (.list t (xs.set i (er u))))):T S c vs m H (setItem (.ref l) (.int i it) u) Q E:=fun s ⟨ρ,τ,b,w⟩=>by
 obtain⟨arr,k,g,e,wf,z,hz⟩:=b.list hl;refine sT (i:=i) g (by omega) (by omega) (by omega) (by omega) rfl ⟨vs,m,_,fun _ h=>h,⟨ρ,τ,b.ot hl ht g (f:=(·.setIfInBounds i u)) (ys:=xs.set i (er u)) ?_ (fun v hv=>?_) (by rw[List.length_set];exact z) aF,w⟩,h⟩
 .rw[Array.toList_setIfInBounds,List.map_set,e]
 .rw[Array.toList_setIfInBounds] at hv
  rcases List.mem_or_eq_of_mem_set hv with hv|rfl
  .exact wf v hv
  .exact w _ hu
theorem Gj{ys:aB}{t':Nat}(r:Nat)(hr:r≠0)(hl:H l=some (.tup t xs))(ha:H a=some (.tup t' ys))(h1:xs≠[])(h2:ys≠[])(hz:xs.length+ys.length≤1000000)(h:∀d,H d=none→Q (.ref d) (.ref d::vs) m (upd H d (.tup r (xs++ys)))):
  T S c vs m H (binaryOp .Add (.ref l) (.ref a)) Q E:=fun s ⟨ρ,τ,b,w⟩=>by
 obtain⟨arr,n,g,e,wf,z,hs⟩:=b.tup hl;obtain⟨xR,n',g',e',NQ,z',qt⟩:=b.tup ha;obtain⟨hn,cH,b'⟩:=b.yx (arr:=arr++xR) (ys:=xs++ys) r hr (by simp[e,e']) (fun v hv=>by
  simp at hv
  rcases hv with hv|hv
  .exact wf v (by simpa using hv)
  .exact NQ v (by simpa using hv)) (by simpa using hz)
 refine P.add_tuple g g' (by rw[j5 e];simpa using h1) (by rw[j5 e'];simpa using h2) ⟨_,m,_,fun _ h=>.tail _ h,⟨cH,τ,b',cR (u:=.ref s.heap.objs.size) trivial w⟩,h _ hn⟩ (dP (by omega))
theorem wV{s:aK}{A:Around}{E:aC→aK→Prop}{ρ:Addr→Role}{τ:Tok→Option Int}{fs:List cT}{lo hi:Option Int}{vl vu:aC}{Q:aC→aK→Prop}{ys:aB}(r:Nat)(hr:r≠0)(hl:H l=some (.list t xs))(b:Body S ρ τ fs H s)
  (pl:IsPart vl lo) (pu:IsPart vu hi) {sl:Addr} (hs:s.heap.IsSliceOf sl vl vu .none) (hp:∀arr:Array aC,arr.toList.map er=xs→(slicePick arr lo hi none).toList.map er=ys∧∀v∈(slicePick arr lo hi none).toList,v∈arr.toList) (Y0:ys.length≤1000000)
  (h:∀d cH h',H d=none→Body S cH τ fs (upd H d (.list r ys)) {s with heap:=h'}→Q (.ref d) {s with heap:=h'}):wpAny (model pw S.w) A (getItem (.ref l) (.ref sl)) Q E s:=by
 obtain⟨arr,n,g,e,wf,z,hz⟩:=b.list hl;obtain⟨p1,p2⟩:=hp arr e;obtain⟨hn,cH,b'⟩:=b.newList (arr:=slicePick arr lo hi none) (ys:=ys) r hr p1 (fun v hv=>wf v (p2 v hv)) Y0
 exact wpAny_getItem_list_slice g.isList hs pl pu .none (by simp) (h _ cH _ hn b') (dP (by omega))
variable{ρ:Addr→Role}{τ:Tok→Option Int}{fs:List cT}{s:aK}
theorem Body.dead(B:Body S ρ τ fs H s){e:Addr}(he:s.heap.get? e=none):Body S (fun b=>if b=e then .free else ρ b) τ fs H s:=by
 have al:∀b o,s.heap.get? b=some o→b≠e:=fun b o q r=>by subst r;rw[he] at q;cases q
 have rr:∀b o r,s.heap.get? b=some o→ρ b=r→(fun b=>if b=e then Role.free else ρ b) b=r:=fun b o r q h=>by
  show(if b=e then Role.free else ρ b)=r
  rw[aR (al _ _ q)];exact h
 refine{B with base:=fun b o q=>?_,free:=fun a ha=>?_,frames:=fun p hp=>?_,lay:=fun a o ha=>?_}
 .obtain⟨o',q'⟩:=B.old.there b o q
  exact rr _ _ _ q' (B.base _ _ q)
 .show(if a=e then Role.free else ρ a)=.free
  split
  .rfl
  .exact B.free a ha
 .have l:=B.frames p hp
  obtain⟨o,ho⟩:=l.there;refine⟨rr _ _ _ ho l.role,?_⟩;have l2:=l.ok;split at l2
  .exact l2
  .obtain⟨k,n,a⟩:=l2
   refine⟨k,n,fun ha=>?_⟩
   obtain⟨a1,a2,a3,a4⟩:=a ha;refine⟨a1,fun y d hy hk=>?_,a3,a4⟩
   obtain⟨r1,v,⟨oc,WA,hd⟩,e2,w2⟩:=a2 y d hy hk;exact⟨rr _ _ _ WA r1,v,⟨oc,WA,hd⟩,e2,w2⟩
 .have l:=B.lay a o ha
  cases o with
  |inst t C vs=>obtain⟨d,es,n,r1,g1,r2,g2,f⟩:=l;exact⟨d,es,n,rr _ _ _ g1 r1,g1,rr _ _ _ g2 r2,g2,f⟩
  |exc t cl vs=>obtain⟨d,es,n,fs,sl,t0,r1,g1,r2,g2,f⟩:=l;exact⟨d,es,n,fs,sl,t0,rr _ _ _ g1 r1,g1,rr _ _ _ g2 r2,g2,f⟩
  |list t xs=>obtain⟨vs,n,r1,g1,f⟩:=l;exact⟨vs,n,rr _ _ _ g1 r1,g1,f⟩
  |tup t xs=>obtain⟨vs,n,r1,g1,f⟩:=l;exact⟨vs,n,rr _ _ _ g1 r1,g1,f⟩
  |aX t es=>obtain⟨o,ks,t0,r1,g1,f⟩:=l;exact⟨o,ks,t0,rr _ _ _ g1 r1,g1,f⟩
  |bR t es=>obtain⟨o,ks,t0,r1,g1,f⟩:=l;exact⟨o,ks,t0,rr _ _ _ g1 r1,g1,f⟩
  |cell t v=>obtain⟨o,u,t0,r1,g1,f⟩:=l;exact⟨o,u,t0,rr _ _ _ g1 r1,g1,f⟩
  |raw t o=>obtain⟨r1,g1,f⟩:=l;exact⟨rr _ _ _ g1 r1,g1,f⟩
theorem Body.EK(B:Body S ρ τ fs H s){h':Heap}{n:Nat}{e d:Addr}{o:AO}(k:∀a o,s.heap.get? a=some o→h'.get? a=some o)(hn:s.toks≤n)(he:s.heap.get? e=none)(hd:s.heap.get? d=none)(RN:d≠e)(Jk:@LT.lt Nat _ d h'.objs.size)
  (hl:∀cH:Addr→Role,cH e=.own→cH d=.dict e→jC S.w h' cH τ e o):H e=none∧∃cH,Body S cH τ fs (upd H e o) {s with heap:=h',toks:=n}:=by
 have B:=(B.dead he).dead hd;obtain⟨qS,EF⟩:∃qS:Addr→Role,qS=(fun b=>if b=d then Role.free else(fun b=>if b=e then Role.free else ρ b) b):=⟨_,rfl⟩
 rw[←EF] at B;have f1:qS e=.free:=by rw[EF];show(if e=d then Role.free else if e=e then Role.free else ρ e)=.free;rw[aR (lH RN),bE rfl]
 have hx:H e=none:=by
  cases q:H e with
  |none=>rfl
  |some o'=>have:=(B.lay _ _ q).role;rw[f1] at this;split at this<;>cases this
 obtain⟨cH,kY⟩:∃cH:Addr→Role,cH=(fun(a:Nat)=>if a=(e:Nat) then Role.own else if a=(d:Nat) then Role.dict e else if h'.objs.size≤a then Role.free else if a < s.heap.objs.size then qS a else Role.gr):=⟨_,rfl⟩
 have re:cH e=.own:=by rw[kY];exact bE rfl
 have rd:cH d=.dict e:=by rw[kY];show(if(d:Nat)=e then Role.own else if(d:Nat)=d then Role.dict e else _)=_;rw[aR RN,bE rfl]
 have l:=hl cH re rd;have le:@LT.lt Nat _ e h'.objs.size:=let⟨q,hq⟩:=l.alive;eZ hq;have al:∀b o,s.heap.get? b=some o→b≠e∧b≠d:=fun b o q=>⟨(fun r=>by rw[r,he] at q;cases q),(fun r=>by rw[r,hd] at q;cases q)⟩
 have c:mI qS cH e s.heap h':=⟨fun a o _ q=>k _ _ q,fun a o _ q=>by
  obtain⟨h1,h2⟩:=al _ _ q;rw[kY]
  show(if(a:Nat)=e then Role.own else if(a:Nat)=d then Role.dict e else if h'.objs.size≤a then Role.free else if a < s.heap.objs.size then qS a else Role.gr)=qS a
  rw[aR h1,aR h2,aR (vW (eZ (k _ _ q))),bE (eZ q)],fun(a:Nat) ha=>by
  rw[kY]
  show(if(a:Nat)=e then Role.own else if(a:Nat)=d then Role.dict e else if h'.objs.size≤a then Role.free else _)=Role.free
  have ha:h'.objs.size≤a:=ha;have h1:¬a=(e:Nat):=by omega
  have h2:¬a=(d:Nat):=by omega
  rw[aR h1,aR h2,bE ha]⟩
 refine⟨hx,cH,B.chg (s':={s with heap:=h',toks:=n}) c (by rw[f1];exact fun h=>by cases h) (fun t i q=>dG (B.tok t i q) hn) (dG B.pos hn) rfl rfl (fun p hp=>?_) B.nodup fun a q ha=>?_⟩
 .obtain⟨o,ho⟩:=(B.frames p hp).there
  exact(B.frames p hp).keep .refl c (al _ _ ho).1 (by rw[f1];exact fun h=>by cases h)
 .by_cases q':a=e
  .subst q';rw[aA] at ha;cases ha;exact l
  .rw[aT q'] at ha
   exact(B.lay _ _ ha).keep .refl c (by rw[f1];exact fun h=>by cases h) (by rw[f1];exact fun h=>by cases h) q'
end
section
variable{S:aN}{n:Nat}{hd:bP}{H:AH}{args:aB}{C fI:Addr}{Q:pn}{E:EPost}
theorem vP.under{A:Around}{C:Addr}{r:aB}{kw:List (Str×aC)}(h:vP (n+1) A):vP n (A.under (.builtin "type.__call__" ⟨.ref C::r,kw⟩)):=by
 obtain⟨h1,h2⟩:=h;have w:(Code.builtin "type.__call__" ⟨.ref C::r,kw⟩).weight=1:=by kernel_rfl
 have u:(Code.builtin "type.__call__" ⟨.ref C::r,kw⟩).cUnits=1:=by kernel_rfl
 constructor
 .show A.depth+(Code.builtin "type.__call__" ⟨.ref C::r,kw⟩).weight+2 * n+2 < recursionLimit
  omega
 .show A.units+(Code.builtin "type.__call__" ⟨.ref C::r,kw⟩).cUnits+12 * n+50 < cLine
  omega
theorem HN(t:Nat)(ht:t≠0)(hk:yz (KK S.w.params) C fI=true)
  (h:∀x,H x=none→Sat S n hd (.ref fI) (.ref x::args) (upd H x (.inst t C [])) (fun r H'=>r=.none∧Q (.ref x) H') E):Sat S (n+1) hd (.ref C) args H Q E:=by
 intro A fs vs d9 s ha NM oX Oo om ⟨ρ,τ,B,hW⟩;unfold yz at hk;simp only[dJ,dE] at hk;obtain⟨⟨k1,k2⟩,k3⟩:=hk;obtain⟨hh,g,d,tk,os⟩:=s;obtain⟨hx,cH,B'⟩:=B.EK (h':=(hh.push emptyDict).push (instObj C hh.objs.size)) (n:=tk) (e:=hh.objs.size+1) (d:=hh.objs.size) (o:=.inst t C []) (fun a o e=>mu _ (mu _ e)) aF
  (Heap.get?_none_of_le (dU _)) (Heap.get?_none_of_le aF) (fq (q7 _)) (by rw[xJ,xJ];omega)
  (fun cH r1 r2=>⟨hh.objs.size,[],0,by rw[aR ht];exact r1,by heap_get,by rw[aR ht];exact r2,by heap_get,trivial,fun e he=>by cases he⟩)
 refine make_core (makes_of B.X k1) (zz B.X k2) (fun self=>bind_fn B.X self (dE.mp k3)) (.inl rfl) ?_
 refine v7 (h _ hx (A.under (.builtin "type.__call__" ⟨.ref C::d9,[]⟩)) fs (.ref (hh.objs.size+1)::vs) (.ref (hh.objs.size+1)::d9) _ (by rw[fj,ha];rfl) (fun v hv=>?_) ?_ ?_ om.under ⟨cH,τ,B',cR (u:=.ref (hh.objs.size+1)) trivial hW⟩) fun r s' z=>?_
 .rcases bS.mp hv with rfl|hv
  .exact .head _
  .exact .tail _ (NM v hv)
 .show pushEnvs (Code.builtin "type.__call__" ⟨.ref C::d9,[]⟩).envs A.frames=_
  rw[oX];rfl
 .exact Oo
 .rcases r with e|(v|_|_|_)<;>first|exact z.elim|skip
  .obtain⟨x,H',e',qj,hE⟩:=z;exact⟨x,H',e',qj.sub fun v hv=>.tail _ hv,hE⟩
  .obtain⟨H',qj,hr,hQ⟩:=z
   refine⟨u0 hr,H',?_,hQ⟩;obtain⟨qR,CP,ph,Kv⟩:=qj;exact⟨qR,CP,ph,cR (u:=.ref (hh.objs.size+1)) trivial fun v hv=>Kv v (.tail _ (.tail _ hv))⟩
abbrev xW:Obj:=excClassObj "LispSignal" "LispSignal" 38 37 [.type "Exception"] [.type "Exception",.type "BaseException",.type "object"] true [] [] false none none (some (.ref 22)) none (some (.str "LispSignal" 196)) (some (.str "LispSignal" 204)) (some (.bool true)) "Exception.__new__"
theorem Ln:∀P:Params,(KK P).lookup 38=some xW:=fun P=>by kernel_rfl
def wG(es:Array DictEntry):Bool:=es.toList.all fun e=>match e.key with| .str _ _=>true|_=>false
theorem yM{es:Array DictEntry}(h:wG es=true):StrKeys es:=fun e he=>by
 have:=dC.mp h e (by simpa using he)
 split at this
 .rename_i n t q;exact⟨n,t,q⟩
 .cases this
def C5(K:Frag)(N:Addr):Bool:=match K.lookup N with
 |some ⟨_,_,.dict es _,_⟩=>wG es
 |_=>false
theorem QJ{K:Frag}{h:Heap}{N:Addr}(X:K.In h)(e:C5 K N=true):∃mN,h.Ns N mN:=by
 unfold C5 at e;split at e
 .rename_i q;exact⟨_,_,_,_,X _ _ q,rfl,yM e,fun _=>rfl⟩
 .cases e
theorem zH{K:Frag}{h:Heap}{N:Addr}{mN:gL}{x:Str}{r:Option aC}(X:K.In h)(n:h.Ns N mN)(e:nsIn K N x=some r):mN x=r:=by
 obtain⟨o,es,ep,ho,hd,hk,hf⟩:=n;unfold nsIn at e;split at e
 .rename_i q
  have:=X _ _ q
  rw[ho] at this;cases this;cases hd;have f:=hf x;unfold nsFind findBy at f;rw[←zA] at f;split at e
  .rename_i en he
   rw[he] at f;cases e;exact f.symm
  .rename_i he
   rw[he] at f;split at e
   .cases e
   .cases e;exact f.symm
 .cases e
theorem PG:∀P:Params,(C5 (KK P) 37&&(nsIn (KK P) 37 "__init__"==some (some (.ref 35)))&&(nsIn (KK P) 37 "__setattr__"==some none)&&(nsIn (KK P) 37 "symbol"==some none)&&(nsIn (KK P) 37 "data"==some none)&&isFn (KK P) (.ref 35))=true:=fun P=>by kernel_rfl
theorem xm:typeLookup (.type "Exception") "symbol"=pure none:=by rw[typeLookup_type,yt];kernel_rfl
theorem BQ:typeLookup (.type "Exception") "data"=pure none:=by rw[typeLookup_type,yt];kernel_rfl
def xM(t:Addr):Obj:=⟨.ref 38,none,.fields #[.ref t,.none,.none,.none,.bool false,.none],#[]⟩
structure Gl(S:aN)(h:Heap)(mN:gL):Prop where
 cls:h.get? 38=some xW
 ns:h.Ns 37 mN
 init:mN "__init__"=some (.ref 35)
 sa:mN "__setattr__"=none
 sym:mN "symbol"=none
 dat:mN "data"=none
 fn:∃o,h.get? 35=some o∧o.cls=.type "function"
theorem lO{S:aN}{h:Heap}(X:(KK S.w.params).In h):∃mN,Gl S h mN:=by
 have e:=PG S.w.params;simp only[dJ,dE] at e;obtain⟨⟨⟨⟨⟨e1,e2⟩,e3⟩,e4⟩,e5⟩,e6⟩:=e;obtain⟨mN,n⟩:=QJ X e1;refine⟨mN,X _ _ (Ln _),n,zH X n e2,zH X n e3,zH X n e4,zH X n e5,?_⟩;have ty:=dE.mp e6;unfold typeIn at ty;dsimp only at ty;obtain⟨o,ho,hc⟩:=ey.mp ty;exact⟨o,X _ _ ho,hc⟩
end
section
variable{S:aN}{c:Cx}{vs:aB}{m:Map}{H:AH}{n:Nat}{hd:bP}{E:Addr→Map→AH→Prop}{t:Nat}{d:Addr}{Q:aC→aB→Map→AH→Prop}
theorem FW{us:aB}{Q:aC→aB→Map→AH→Prop}(t:Nat)(ht:t≠0)(ok:c.Ok (n+1) hd)(hv:∀v∈us,v∈vs)(hz:us.length≤1000000)
  (h:∀e tt,H e=none→Sat S n hd (.ref 35) (.ref e::us.map er) (upd H e (.raw t (xM tt))) (fun r H'=>r=.none∧∀aQ,(∀v∈vs,v∈aQ)→Q (.ref e) (.ref e::aQ) m H') fun x H'=>E x m H'):
  T S c vs m H (call (.ref 38) us) Q E:=fun s ⟨ρ,τ,b,w⟩=>by
 obtain⟨mN,F⟩:=lO b.X;obtain⟨oI,hI,hIc⟩:=F.fn;obtain⟨hh,g,d,tk,os⟩:=s;refine wpAny_call_exc_init yr F.cls F.ns F.init hI hIc (fun h' e hm=>?_) (dP hz)
 obtain⟨tt,he,Zd,Jj⟩:=hm.there;have fT:@LT.lt Nat _ tt h'.objs.size:=by
  exact eZ Jj
 have gz:tt≠e:=fun q=>by
  rw[q,he] at Jj;cases Jj
 obtain⟨hx,cH,b'⟩:=b.EK (h':=h') (n:=tk) (e:=e) (d:=tt) (o:=.raw t (xM tt)) hm.keeps aF hm.new Zd gz fT fun cH r1 r2=>⟨by rw[aR ht];exact r1,he,by rintro⟨-,q⟩;cases q⟩
 have S0:=h e tt hx (c.A.under (.builtin "type.__call__" ⟨.ref 38::us,[]⟩)) (c.top m) (.ref e::vs) (.ref e::us) ⟨h',g,d,tk,os⟩ rfl (fun v Bl=>?_) ?_ ok.handled ok.room.under ⟨cH,τ,b',cR (u:=.ref e) trivial w⟩
 .refine wpAny_call (v7 S0 fun r s' z=>?_)
  rcases r with e'|(v|_|_|_)<;>first|exact z.elim|skip
  .obtain⟨x,H',e',qj,hE⟩:=z;exact⟨x,m,H',e',.inl (qj.sub fun v hv=>.tail _ hv),hE⟩
  .obtain⟨H',qj,hr,hQ⟩:=z
   refine⟨u0 hr,_,m,H',fun v hv=>.tail _ hv,?_,hQ vs fun _ h=>h⟩
   obtain⟨qR,CP,ph,Kv⟩:=qj;exact⟨qR,CP,ph,cR (u:=.ref e) trivial fun v hv=>Kv v (.tail _ (.tail _ hv))⟩
 .rcases bS.mp Bl with rfl|Bl
  .exact .head _
  .exact .tail _ (hv v Bl)
 .show pushEnvs (Code.builtin "type.__call__" ⟨.ref 38::us,[]⟩).envs c.A.frames=_
  rw[ok.frames,c.oL [] m];rfl
theorem mT{α:Type}{p:α→Bool}:∀{l:List α} {i:Nat},(∀x,l[i]?=some x→p x=false)→(l.eraseIdx i).find? p=l.find? p
 |[],_,_=>by simp
 |x::r,0,h=>by
  rw[List.eraseIdx_cons_zero,ql (by rw[h x rfl];simp)]
 |x::r,i+1,h=>by
  rw[List.eraseIdx_cons_succ,List.find?_cons,List.find?_cons,mT fun y hy=>h y (by simpa using hy)]
theorem MN{M:Model}{A:Around}{E:aC→aK→Prop}{s:aK}{a:Addr}{m:gL}{name:Str}{Q:Bool→aK→Prop}(hn:s.heap.Ns a m)(hs:(m name).isSome=true)
  (hQ:∀h' m',h'.Ns a m'→Heap.SameBut a s.heap h'→(∀x,x≠name→m' x=m x)→Q true {s with heap:=h'}):wpAny M A (nsDel a name) Q E s:=by
 obtain⟨o,es,ep,ho,hd,hk,hm⟩:=id hn;have QT:∃i,es.findIdx? (·.key.isStr name)=some i:=by
  rw[←hm name] at hs;unfold nsFind findBy at hs;rw[Option.isSome_map] at hs;cases q:es.findIdx? (·.key.isStr name) with
  |some i=>exact⟨i,rfl⟩
  |none=>
   rw[Array.findIdx?_eq_none_iff] at q;obtain⟨x,hx,hp⟩:=Array.find?_isSome.mp hs
   have:=q x hx
   have hp:x.key.isStr name=true:=hp;rw[hp] at this;cases this
 obtain⟨i,hi⟩:=QT;have KV:es.any (fun x=>x.key.isStr name)=true:=by
  obtain⟨h1,h2⟩:=EA.mp hi;exact Array.any_eq_true.mpr ⟨i,h1,h2.1⟩
 have U0:nsHas name o=pure true:=by
  rw[nsHas_eq];unfold nsHasByArray;rw[hd]
  show(if(es.any fun x=>x.key.isStr name)=true then _ else _)=_
  rw[bE KV]
 unfold nsDel;refine aM (wpAny_loadPart ho ?_);rw[U0];refine aM (bO ?_);rw[bE rfl];refine aM (wpAny_updatePart ho (bO ?_));obtain⟨cl,d,dt,sl⟩:=o;have hd:dt=.dict es ep:=hd;subst hd;have ed:Obj.dropName name ⟨cl,d,.dict es ep,sl⟩=⟨cl,d,.dict (es.eraseIdxIfInBounds i) (ep+1),sl⟩:=by
  rw[Obj.dropName_eq];simp only[Obj.dropNameByArray,hi]
 refine hQ _ (fun x=>nsFind (es.eraseIdxIfInBounds i) x) ⟨⟨cl,d,.dict (es.eraseIdxIfInBounds i) (ep+1),sl⟩,_,_,?_,rfl,hk.erase i,fun _=>rfl⟩ (gY ..) fun x hx=>?_
 .rw[i9 _ ho (by rw[ed];rfl),ed]
 .show nsFind (es.eraseIdxIfInBounds i) x=m x
  rw[←hm x];unfold nsFind findBy;obtain⟨h1,h2⟩:=EA.mp hi;rw[←zA,←zA,Array.eraseIdxIfInBounds,dif_pos h1,CY,mT];intro y hy
  have:y=es[i]:=by
   rw[oi,zy h1] at hy
   exact(gZ hy).symm
  subst this;obtain⟨n',t',KN⟩:=hk _ (Array.getElem_mem h1);have e1:=h2.1;rw[KN] at e1⊢;simp only[Value.isStr,dE] at e1⊢
  simp
  intro q;exact hx (q.symm.trans e1 |>.symm▸rfl)
def mP(m:Map)(n:Str):Map:=m.filter fun p=>!(p.1==n)
theorem kg{m:Map}{n x:Str}{v:aC}(h:(mP m n).lookup x=some v):x≠n∧m.lookup x=some v:=by
 induction m with
 |nil=>cases h
 |cons p r ih=>
  obtain⟨y,u⟩:=p;unfold mP at h;rw[List.filter_cons] at h
  by_cases e:y=n
  .subst e
   rw[aR (by simp)] at h
   obtain⟨h1,h2⟩:=ih h;exact⟨h1,by rw[eP,dw.mpr h1];exact h2⟩
  .rw[bE (by simpa using e),eP] at h
   by_cases q:x=y
   .subst q
    rw[fR] at h;exact⟨e,by rw[eP,fR];exact h⟩
   .rw[dw.mpr q] at h
    obtain⟨h1,h2⟩:=ih h;exact⟨h1,by rw[eP,dw.mpr q];exact h2⟩
theorem wN{A:Around}{x:Str}{pos:Pos}{s:aK}{fs:List cT}{b:Bool}{env:Env}{E:aC→aK→Prop}{Q:Unit→aK→Prop}{ρ:Addr→Role}{τ:Tok→Option Int}(hk:env.scope.kind=.function)(hx:env.kindOf x=some .local)(B:Body S ρ τ (⟨env,m,b,none⟩::fs) H s)
  (h:∀s',Body S ρ τ (⟨env,mP m x,b,none⟩::fs) H s'→Heap.SameBut env.locals s.heap s'.heap→Q () s'):wpAny (model pw S.w) A (do bindName env x .none;unbindBehindTheSuite env x pos) Q E s:=by
 obtain⟨f,n,e,ew⟩:=((B.frames _ (.head _)).nsOk rfl).ns;have Wz:(env.scope.kind==.class||(env.scope.kind==.module&&env.locals != env.globals))=false:=by rw[hk];rfl
 refine aM (wpAny_bindName (CX hx n (fun cN QX we=>?_) Wz))
 unfold unbindBehindTheSuite;refine wpAny_onRaise ?_;unfold unbindName;refine aM (wpAny_point (aM ?_));unfold deleteName;simp only[hx,Wz];rw[aR (by decide)]
 refine aM (MN QX (by rw[bE rfl];rfl) fun dA m₂ QW Dd Dg=>?_)
 simp only[Bool.not_true,tn,tv];have EJ:∀y,y≠x→m₂ y=f y:=fun y hy=>(Dg y hy).trans (aR hy)
 refine bO (wpAny_point (h {s with heap:=dA,toks:=s.toks+1} ?_ (we.trans Dd)))
 refine Body.local (s':={s with heap:=dA,toks:=s.toks+1}) B (we.trans Dd) rfl rfl (dU _) QW (fun y u Cm Ka hu=>?_) (fun y r Cm hr=>?_) fun y r Cm hr=>(kg hr).2
 .obtain⟨v,hv⟩:=mK.mp Ka
  obtain⟨h1,h2⟩:=kg hv;rw[EJ y h1] at hu;exact ew y u Cm (isSome_of h2) hu
 .obtain⟨h1,h2⟩:=kg hr
  rw[EJ y h1];exact e y r Cm h2
end
section
open Builtin Builtin.ObjectAttr
variable{prog:Program}{w:World}{A:Around}{E:aC→aK→Prop}{h:Heap}{g:Array GenState}{d:Drawn}{t:Nat}{os:OsState}{x:Addr}{o:Obj}{name:Str}{v:aC}{mN:gL}
variable{nm q:Str}{C N:Addr}{bs bm:aB}{sn:bW}{sub:aB}{ab:Bool}{col:Option Bool}{dd:bP}{k0 k1 k2 k3 k5:Option aC}{B newId sa owner:String}
theorem xf{tk:Tok}{Q:Fin→aK→Prop}(SF:StoreFacts B bm sa owner)(hC:h.get? C=some (excClassObj nm q C N bs bm true sn sub ab col dd k0 k1 k2 k3 k5 newId))(hn:h.Ns N mN)(Oi:mN name=none)(hB:typeLookup (.type B) name=pure none)
  (hx:h.get? x=some o) (hc:o.cls=.ref C) (Oh:∀c,o.data≠.cls c) (GU:o.dict=none)
  (hq:∀h' GG,h'.Ns1 h.objs.size (fun y=>if y=name then some v else none)→h'.get? x=some {o with dict:=some h.objs.size}→(∀b ob,b≠x→h.get? b=some ob→h'.get? b=some ob)→Q (.done (.ret .none)) ⟨h',g,d,GG,os⟩):
  wpAny (model prog w) A (Builtin.«object.__setattr__» ⟨[.ref x,.str name tk,v],[]⟩) Q E ⟨h,g,d,t,os⟩:=by
 have QU:=SF.passes (.ref x);unfold Builtin.«object.__setattr__»
 repeat (first|rw[refuse_eq]|(rw[refuseLoop_ref,QU])|(with_reducible refine uA hx ?_;rw[hc])|with_reducible refine wpAny_mroOf_exc hC ?_|(with_reducible refine wpAny_typeLookup_exc hC hn SF.mro hB ?_;rw[Oi])|wp_step)
 rw[GU,aR (by simp[typeHasDict])]
 split
 .rename_i RQ
  cases RQ
 split
 .rename_i c RQ
  exact absurd RQ (Oh c)
 have wc:(h.push {cls:=.type "dict",data:=.dict #[]}).get? x=some o:=mu _ hx;have Rz:x≠h.objs.size:=fq (eZ hx);refine aM (wpAny_alloc' ?_);refine aM (wpAny_update' wc ?_);refine bO ?_;have ZO:((h.push {cls:=.type "dict",data:=.dict #[]}).update x fun o=>{cls:=o.cls,dict:=some h.objs.size,data:=o.data,slots:=o.slots}).get? h.objs.size=some {cls:=.type "dict",data:=.dict #[]}:=
  (Heap.get?_update_ne _ _ _ _ Rz.symm).trans (Heap.get?_push_at rfl rfl)
 have pN:((h.push {cls:=.type "dict",data:=.dict #[]}).update x fun o=>{cls:=o.cls,dict:=some h.objs.size,data:=o.data,slots:=o.slots}).Ns h.objs.size (fun _=>none):=
  ⟨_,#[],_,ZO,rfl,fun e he=>absurd he (by simp),fun _=>rfl⟩
 show wpAny _ _ (storeInDict h.objs.size (.str name tk) name v) _ _ _;unfold storeInDict newKeyGuard;refine aM (bO (aM (wpAny_nsSet1 (Heap.Ns1.of_empty pN) fun h' J9 hs=>?_)))
 obtain⟨oD,esD,epD,Zv,ZY,Z3⟩:=J9.count (Within.cons name v Within.nil);refine aM (wpAny_lookBehind Zv (by rw[ZY];exact pastItsLine_dict (gX Z3 (by rw[dH,rC,vY];omega))) ?_)
 wp_walk
 refine hq h' _ J9 ((hs.2 x Rz).trans (i9 _ wc ?_)) fun b ob Z5 hb=>(hs.2 b (fq (eZ hb))).trans ((Heap.get?_update_ne _ _ _ _ Z5).trans (mu _ hb))
 have oX:=(Heap.get?_some_iff.mp hx).2;obtain⟨oc,od,Yj,Ya⟩:=o;cases Yj<;>first|rfl|exact oX
theorem vn{tk:Tok}{R:Result→aK→Prop}(SF:StoreFacts B bm sa owner)(hC:h.get? C=some (excClassObj nm q C N bs bm true sn sub ab col dd k0 k1 k2 k3 k5 newId))(hn:h.Ns N mN)(Oi:mN name=none)(hB:typeLookup (.type B) name=pure none)
  (hx:h.get? x=some o) (hc:o.cls=.ref C) (Oh:∀c,o.data≠.cls c) (GU:o.dict=none)
  (hq:∀h' GG,h'.Ns1 h.objs.size (fun y=>if y=name then some v else none)→h'.get? x=some {o with dict:=some h.objs.size}→(∀b ob,b≠x→h.get? b=some ob→h'.get? b=some ob)→R (.ok (.ret .none)) ⟨h',g,d,GG,os⟩):
  codeAny (model prog w) A (.call (.builtin sa) ⟨[.ref x,.str name tk,v],[]⟩) R ⟨h,g,d,t,os⟩:=
 codeAny_call_builtin SF.slot.plain SF.entry (wpAny_check_sa SF hC hx hc (xf SF hC hn Oi hB hx hc Oh GU hq))
theorem vo{Q:Unit→aK→Prop}(SF:StoreFacts B bm sa owner)(hC:h.get? C=some (excClassObj nm q C N bs bm true sn sub ab col dd k0 k1 k2 k3 k5 newId))(hn:h.Ns N mN)(iZ:mN "__setattr__"=none)(Oi:mN name=none)(hB:typeLookup (.type B) name=pure none)
  (hx:h.get? x=some o) (hc:o.cls=.ref C) (Oh:∀c,o.data≠.cls c) (GU:o.dict=none)
  (hq:∀h' GG,h'.Ns1 h.objs.size (fun y=>if y=name then some v else none)→h'.get? x=some {o with dict:=some h.objs.size}→(∀b ob,b≠x→h.get? b=some ob→h'.get? b=some ob)→Q () ⟨h',g,d,GG,os⟩):
  wpAny (model prog w) A (setAttr (.ref x) name v) Q E ⟨h,g,d,t,os⟩:=by
 have f3:=SF.slot.bind (.ref x);unfold setAttr callSpecial? specialOf
 repeat (any_goals (first|assumption|(with_reducible refine uA hx ?_;rw[hc])|(with_reducible refine wpAny_typeLookup_exc hC hn SF.mro SF.slot.lookup ?_;rw[iZ])|wp_step))
 refine vn SF hC hn Oi hB hx hc Oh GU (fun h' GG a b k=>?_)
 repeat (any_goals (first|assumption|wp_step))
 exact hq h' GG a b k
end
section
variable{S:aN}{c:Cx}{vs:aB}{m:Map}{H:AH}{n:Nat}{hd:bP}{E:Addr→Map→AH→Prop}
theorem A3{h:Heap}{d:Addr}{mA:gL}{vs:aB}(n:h.Ns1 d mA)(e:∀y,(mA y).map er=((names 38).zip vs).lookup y):∃oD,h.get? d=some oD∧Lc oD mA vs:=
 let⟨o,es,ep,ho,hd,hk,hu,hf⟩:=n;⟨o,ho,⟨es,ep,hd,hk,hu,hf⟩,e⟩
theorem IQ{e tt:Addr}{t:Nat}{u:aC}{Q:Unit→aB→Map→AH→Prop}(ht:t≠0)(he:H e=some (.raw t (xM tt)))(hu:u∈vs)(h:Q () vs m (upd H e (.exc t 0 [er u]))):T S c vs m H (setAttr (.ref e) "symbol" u) Q E:=fun s ⟨ρ,τ,b,w⟩=>by
 obtain⟨mN,F⟩:=lO b.X;obtain⟨r,g,-⟩:=b.lay _ _ he;rw[aR ht] at r;have key:=wpAny_toks (vo (A:=c.A) (E:=fun _ _=>False) (g:=s.gens) (d:=s.drawn) (t:=s.toks) (os:=s.os) (Q:=fun _ s'=>s'.gens=s.gens∧s'.drawn=s.drawn∧s'.os=s.os∧s'.heap.Ns1 s.heap.objs.size (fun y=>if y="symbol" then some u else none)∧s'.heap.get? e=some {xM tt with dict:=some s.heap.objs.size}∧∀b ob,b≠e→s.heap.get? b=some ob→s'.heap.get? b=some ob)
  (prog:=pw) (w:=S.w) PySem.F.store_Exception F.cls F.ns F.sa F.sym xm g rfl (fun c h=>by cases h) rfl fun h' GG a b k=>⟨rfl,rfl,rfl,a,b,k⟩)
 refine dD key (fun _ s' ⟨gj,q1,q2,q3,g1,g2,k⟩=>?_) fun _ _ h=>h.2.elim
 have gj:s.toks≤s'.toks:=gj;obtain⟨oD,gD,eD⟩:=A3 (vs:=[er u]) g1 fun y=>by
  show _=List.lookup y [(("symbol":Str),er u)];rw[eP]
  by_cases q:y="symbol"
  .rw[bE q,q,fR];rfl
  .rw[aR q,dw.mpr q];rfl
 have qL:e≠s.heap.objs.size:=fq (eZ g);obtain⟨cH,kY⟩:∃cH:Addr→Role,cH=(fun(a:Nat)=>if s'.heap.objs.size≤a then Role.free else if a=s.heap.objs.size then Role.dict e else if a < s.heap.objs.size then ρ a else Role.gr):=⟨_,rfl⟩
 have le:@LT.lt Nat _ e s'.heap.objs.size:=eZ g2;have ld:@LT.lt Nat _ s.heap.objs.size s'.heap.objs.size:=eZ gD;have ls:@LT.lt Nat _ e s.heap.objs.size:=eZ g;have Bq:∀a:Addr,@LT.lt Nat _ a s.heap.objs.size→@LT.lt Nat _ a s'.heap.objs.size→cH a=ρ a:=fun a h1 h2=>by
  rw[kY]
  show(if s'.heap.objs.size≤(a:Nat) then Role.free else if(a:Nat)=s.heap.objs.size then Role.dict e else if(a:Nat) < s.heap.objs.size then ρ a else Role.gr)=ρ a
  rw[aR (vW h2),aR (fq h1),bE h1]
 have rd:cH s.heap.objs.size=.dict e:=by
  rw[kY]
  show(if s'.heap.objs.size≤s.heap.objs.size then Role.free else if s.heap.objs.size=s.heap.objs.size then Role.dict e else _)=_
  rw[aR (by omega),bE rfl]
 have cg:mI ρ cH e s.heap s'.heap:=⟨fun a o hb q=>k a o hb q,fun a o hb q=>Bq a (eZ q) (eZ (k a o hb q)),fun(a:Nat) ha=>by rw[kY];exact bE ha⟩
 have re:cH e=.own:=(Bq e ls le).trans r;refine⟨vs,m,_,fun _ h=>h,⟨cH,τ,b.chg (s':=s') cg (by rw[r];exact fun h=>by cases h) (fun t i q=>dG (b.tok t i q) gj) (dG b.pos gj) q1 q3 (fun p hp=>(b.frames p hp).keep .refl cg (fun q=>?_) (by rw[r];exact fun h=>by cases h)) b.nodup fun a q ha=>?_,w⟩,h⟩
 .have:=(b.frames p hp).role;rw[q,r] at this;cases this
 .by_cases q':a=e
  .subst q';rw[aA] at ha;cases ha
   exact⟨s.heap.objs.size,oD,_,_,_,ht,re,g2,rd,gD,eD,(fun y v hv=>by
    have hv:(if y="symbol" then some u else none)=some v:=hv;split at hv
    .cases hv;exact w _ hu
    .cases hv),by simp,(fun _=>by simp),fun _=>by simp⟩
  .rw[aT q'] at ha
   exact(b.lay _ _ ha).keep .refl cg (by rw[r];exact fun h=>by cases h) (by rw[r];exact fun h=>by cases h) q'
theorem IP{e:Addr}{t:Nat}{k:Nat}{u sG:aC}{Q:Unit→aB→Map→AH→Prop}(he:H e=some (.exc t k [sG]))(hu:u∈vs)(h:Q () vs m (upd H e (.exc t k [sG,er u]))):T S c vs m H (setAttr (.ref e) "data" u) Q E:=fun s ⟨ρ,τ,b,w⟩=>by
 obtain⟨mN,F⟩:=lO b.X;obtain⟨d,oD,mA,fv,sl,t0,r1,g1,r2,g2,⟨⟨es,ep,hd,hk,Zb,hf⟩,W3⟩,wv,f2⟩:=b.lay _ _ he;have Ou:d≠e:=fun q=>by rw[q,r1] at r2;cases r2
 have U6:e≠38:=fun q=>by
  have g':=F.cls;rw[q] at g1
  have:some (⟨.ref 38,some d,.fields fv,sl⟩:Obj)=some xW:=g1.symm.trans g'
  cases this
 have ZE:s.heap.Ns1 d mA:=⟨oD,es,ep,g2,hd,hk,Zb,hf⟩;have wi:Within mA ["symbol"]:=fun y hy=>by
  cases q:mA y with
  |none=>exact absurd q hy
  |some v=>
   have:=W3 y
   rw[q] at this;have this:some (er v)=List.lookup y [(("symbol":Str),sG)]:=this;rw[eP] at this
   by_cases z:y="symbol"
   .rw[z];exact .head _
   .rw[dw.mpr z] at this;cases this
 have key:=wpAny_toks (store_attr (A:=c.A) (E:=fun _ _=>False) (g:=s.gens) (d:=s.drawn) (t:=s.toks) (os:=s.os) (Q:=fun _ s'=>s'.gens=s.gens∧s'.drawn=s.drawn∧s'.os=s.os∧s'.heap.Inst e 38 (fun y=>if y="data" then some u else mA y)∧
   (∀b o,b≠e→(∀mY dx,s.heap.get? e=some mY→mY.dict=some dx→b≠dx)→s.heap.get? b=some o→s'.heap.get? b=some o)∧(∀mY,s.heap.get? e=some mY→∃o₁,s'.heap.get? e=some o₁∧o₁.cls=mY.cls∧o₁.data=mY.data∧o₁.slots=mY.slots∧∀dx,mY.dict=some dx→o₁.dict=some dx))
  (prog:=pw) (w:=S.w) (ns:=["symbol"]) PySem.F.store_Exception F.cls F.ns F.sa F.dat BQ U6 ⟨_,g1,rfl,(fun c h=>by cases h),.inr ⟨d,rfl,Ou,ZE⟩⟩ (fun h' GG a b k=>⟨rfl,rfl,rfl,a,b,k⟩) wi (by rw[vY];decide))
 refine dD key (fun _ s' ⟨gj,q1,q2,q3,I,k1,k2⟩=>?_) fun _ _ h=>h.2.elim
 have gj:s.toks≤s'.toks:=gj;have ge:s'.heap.get? e=some ⟨.ref 38,some d,.fields fv,sl⟩:=by
  obtain⟨⟨c1,d1,dt1,sl1⟩,h1,h2,h3,h4,h5⟩:=k2 _ g1;dsimp only at h2 h3 h4
  have:=h5 d rfl
  dsimp only at this;subst h2 h3 h4 this;exact h1
 have gn:s'.heap.Ns1 d (fun y=>if y="data" then some u else mA y):=by
  obtain⟨o,h1,h2,h3,h4⟩:=I;rw[ge] at h1;cases h1;rcases h4 with ⟨h4,_⟩|⟨d',h4,_,h5⟩
  .cases h4
  .cases h4;exact h5
 obtain⟨Yk,gD,eD⟩:=A3 (vs:=[sG,er u]) gn fun y=>by
  show _=List.lookup y [(("symbol":Str),sG),(("data":Str),er u)];have f:=W3 y;have f:(mA y).map er=List.lookup y [(("symbol":Str),sG)]:=f;rw[eP] at f⊢
  by_cases z:y="data"
  .rw[bE z,z,show(("data":Str)=="symbol")=false from by decide];rfl
  .rw[aR z,f]
   by_cases z':y="symbol"
   .rw[z',fR]
   .rw[dw.mpr z',eP,dw.mpr z]
 obtain⟨cH,kY⟩:∃cH:Addr→Role,cH=(fun(a:Nat)=>if s'.heap.objs.size≤a then Role.free else if a < s.heap.objs.size then ρ a else Role.gr):=⟨_,rfl⟩
 have kk:∀b o,b≠d→s.heap.get? b=some o→s'.heap.get? b=some o:=fun b o hb q=>by
  by_cases z:b=e
  .rw[z] at q⊢;rw[g1] at q;cases q;exact ge
  .exact k1 b o z (fun mY dx z1 z2=>by rw[g1] at z1;cases z1;cases z2;exact hb) q
 have Bq:∀a o o',s.heap.get? a=some o→s'.heap.get? a=some o'→cH a=ρ a:=fun a o o' h1 h2=>by
  rw[kY]
  show(if s'.heap.objs.size≤(a:Nat) then Role.free else if(a:Nat) < s.heap.objs.size then ρ a else Role.gr)=ρ a
  rw[aR (vW (eZ h2)),bE (eZ h1)]
 have cg:mI ρ cH d s.heap s'.heap:=⟨kk,fun a o hb q=>Bq _ _ _ q (kk a o hb q),fun(a:Nat) ha=>by rw[kY];exact bE ha⟩
 refine⟨vs,m,_,fun _ h=>h,⟨cH,τ,b.chg (s':=s') cg (by rw[r2];exact fun h=>by cases h) (fun t i q=>dG (b.tok t i q) gj) (dG b.pos gj) q1 q3 (fun p hp=>(b.frames p hp).keep .refl cg (fun q=>?_) (fun q=>?_)) b.nodup fun a q ha=>?_,w⟩,h⟩
 .have:=(b.frames p hp).role;rw[q,r2] at this;cases this
 .rw[r2] at q
  have:=(b.frames p hp).role;rw[←Role.dict.inj q,r1] at this;cases this
 .by_cases q':a=e
  .subst q';rw[aA] at ha;cases ha
   exact⟨d,Yk,_,_,_,t0,(Bq _ _ _ g1 ge).trans r1,ge,(Bq _ _ _ g2 gD).trans r2,gD,eD,(fun y v hv=>by
    have hv:(if y="data" then some u else mA y)=some v:=hv;split at hv
    .cases hv;exact w _ hu
    .exact wv y v hv),f2⟩
  .rw[aT q'] at ha
   exact(b.lay _ _ ha).keep .refl cg (by rw[r2];exact fun h=>by cases h) (by rw[r2];exact fun h=>q' (Role.dict.inj h).symm) fun z=>by
    have:=(b.lay _ _ ha).role
    rw[z,r2] at this;split at this<;>cases this
theorem IW{x:Sem aC}{Q:Flow→aB→Map→AH→Prop}(ok:c.Ok n hd)
  (h:T S c vs m H x (fun v aQ m' H'=>∃e t fs,v=.ref e∧H' e=some (.exc t 0 fs)∧Clean hd H'∧E e m' (upd H' e (.exc t (if hd=none then 1 else 2) fs))) E):T S c vs m H (raiseStmt c.env (some x) none) Q E:=fun s B=>by
 unfold raiseStmt;refine aM (dD (h s B) (fun v s₁ ⟨aQ,m',H',lv,⟨ρ,τ,b,w⟩,e,t,fs,hv,he,cl,hE⟩=>?_) fun _ _ x=>x)
 subst hv;obtain⟨mN,F⟩:=lO b.X;obtain⟨d,oD,mA,fv,sl,t0,r1,g1,r2,g2,fa,wv,z,f1,f2⟩:=b.lay _ _ he;have ca:=cl.at b ok.handled;have hC:=F.cls;have RW:=f1 rfl;have Z4:(Value.ref 38::[Value.type "Exception",.type "BaseException",.type "object"]).contains (.type "BaseException")=true:=by rw[uz,yr.hasBase,Bool.or_true]
 have fin:∀eH k Jr,(∀a o,a≠e→s₁.heap.get? a=some o→eH.heap.get? a=some o)→Heap.SameBut e s₁.heap eH.heap→eH.gens=s₁.gens→eH.os=s₁.os→s₁.toks≤eH.toks→eH.heap.get? e=some ⟨.ref 38,some d,.fields Jr,sl⟩→Jr.size=fv.size→Jr[1]?=some .none→(k≤1→Jr[2]?=some .none)→k≠0→k=(if hd=none then 1 else 2)→∃x m' H',Value.ref e=.ref x∧sE S c m' H' vs x eH∧E x m' H':=fun eH k Jr kk sb q1 q2 q3 g' hz h1 h2 RG hk=>by
  have Ou:d≠e:=fun q=>by rw[q,r1] at r2;cases r2
  have b':Body S ρ τ (c.top m') (upd H' e (.exc t k fs)) eH:=b.CB (s':=eH) he t0 sb q1 q2 q3 fun r=>⟨d,oD,mA,Jr,sl,t0,r1,g',r2,kk _ _ Ou g2,fa,wv,by rw[hz];exact z,(fun q=>absurd q RG),h2⟩
  refine⟨e,m',_,rfl,.inl ⟨ρ,τ,⟨b',fun v hv=>w v (lv v hv),fun t' aQ q=>?_⟩,.inl ⟨d,Jr,sl,g',r1,by rw[hz];exact z,h1⟩⟩,by rw[hk];exact hE⟩
  rw[aA] at q;cases q;exact RG rfl
 obtain⟨hp,g,dr,tk,os⟩:=s₁
 repeat (first|with_reducible refine uA g1 ?_|with_reducible refine uA hC ?_|(with_reducible refine wpAny_isSubtype_exc hC ?_;rw[Z4])|wp_step)
 rw[RW];refine bO ?_;rw[aR (by simp)]
 refine bO ?_;refine lR ca g1 rfl z (fun q=>?_) (fun x' q gz=>?_) fun q=>?_
 .have Gw:hd=none:=by
   rw[ok.handled] at q;cases hd with
   |none=>rfl
   |some y=>cases q
  exact fin _ 1 fv (fun _ _ _ h=>h) (.refl ..) rfl rfl aF g1 rfl RW (fun _=>f2 (by omega)) (by decide) (by rw[bE Gw])
 .have Co:hd≠none:=fun q'=>by rw[ok.handled,q'] at q;cases q
  exact fin _ 2 (fv.setIfInBounds 2 (.ref x')) (fun a o ha ho=>(kz _ _ (lH ha)).trans ho) (gY ..) rfl rfl aF (i9 _ g1 rfl) (by simp) (by rw[JH (by decide)];exact RW) (fun h=>absurd h (by decide)) (by decide) (by rw[aR Co])
 .have Co:hd≠none:=fun q'=>by rw[ok.handled,q'] at q;cases q
  exact fin _ 2 fv (fun _ _ _ h=>h) (.refl ..) rfl rfl aF g1 rfl RW (fun h=>absurd h (by decide)) (by decide) (by rw[aR Co])
theorem BH{A:Around}{s:aK}{vs aQ:aB}{x:Addr}{m':Map}{H':AH}(hf:c.act=true)(hA:A.frames=some (fH (c.top m)))(lv:∀v∈vs,v∈aQ)(B:sE S c m' H' aQ x s){P:aC→aK→Prop}{A':Around}
  (h:∀s',sE S c m' H' vs x s'→P (.ref x) s'):notedBy (model pw S.w) A c.env (cameBackBy (model pw S.w) A' c.env P) (.ref x) s:=by
 have oX:A.frames=some (c.env::fH c.fs):=by
  unfold Cx.top fH at hA;rw[hf] at hA;exact hA
 have tp:c.top m'=(⟨c.env,m',true,none⟩::c.fs):=by unfold Cx.top;rw[hf]
 have fin:∀s',xB S (⟨c.env,m',true,none⟩::c.fs) H' vs x c.env.locals s'→cameBackBy (model pw S.w) A' c.env P (.ref x) s':=fun s' ⟨ρ,τ,⟨b,w⟩,d,fv,sl,T,oT,ts,hx,hr,hz,h1,hT,oV,kZ,h3⟩=>by
  unfold cameBackBy;refine aM (fh hx rfl h1 ?_);rw[aR (by simp)]
  have zl:c.env.frame=some c.env.locals:=(((b.frames _ (.head _)).mQ rfl).act rfl).frame;unfold setFlight;refine aM (fh hx rfl h1 ?_);rw[bE (show(Value.ref T != Value.none)=true from by simp),zl]
  have hi:=(pU.mp h3).1;have gz:T≠x:=fun q=>by rw[q,hr] at hT;cases hT
  refine kK oV kZ hi (h _ (.inr ⟨hf,ρ,τ,⟨?_,w⟩,d,fv,sl,T,_,_,(kz _ _ gz).trans hx,hr,hz,h1,hT,i9 _ oV (q8 (i0 kZ _)),i0 kZ _,?_⟩))
  .rw[tp]
   exact b.gr hT (gY ..) rfl rfl rfl
  .simp[hi]
 unfold notedBy;rcases B with B|⟨_,B⟩
 .rw[tp] at B
  exact gi oX B fun s' qj=>fin s' (qj.sub lv)
 .rw[tp] at B
  exact fm B (fin s (B.sub lv))
def Cx.mark(c:Cx)(x:Addr):Cx:={c with A:=c.A.mark (some (.ref x))}
theorem Cx.Ok.mark(ok:c.Ok n hd)(x:Addr):(c.mark x).Ok n (some x):=⟨ok.frames,rfl,ok.room⟩
theorem BI{s:aK}{x:Addr}{Q:Unit→aK→Prop}{E:aC→aK→Prop}(hf:c.act=true)(ok:c.Ok n hd)(B:sE S c m H vs x s)(h:∀s',zr S (c.top m) H vs x s'→Q () s'):
  wpAny (model pw S.w) c.A (noteFrame (.ref x) c.env) (fun _ eH=>wpAny (model pw S.w) c.A (setFlight (.ref x) none) Q E eH) E s:=by
 have oX:c.A.frames=some (c.env::fH c.fs):=by
  have:=ok.frames
  unfold Cx.top fH at this;rw[hf] at this;exact this
 have tp:c.top m=(⟨c.env,m,true,none⟩::c.fs):=by unfold Cx.top;rw[hf]
 rw[tp] at h;rcases B with B|⟨_,B⟩
 .rw[tp] at B
  exact gi oX B fun s' qj=>g9 qj h
 .rw[tp] at B
  exact fm B (g9 B h)
theorem wipe{s:aK}{fs:List cT}{x:Addr}{A:Around}{Q:Unit→aK→Prop}{E:aC→aK→Prop}(B:zr S fs H vs x s)(h:∀s',zr S fs H vs x s'→Q () s'):wpAny (model pw S.w) A (setFlight (.ref x) none) Q E s:=by
 obtain⟨ρ,τ,⟨b,w⟩,F⟩:=B;unfold setFlight;rcases F with ⟨d,fv,sl,hx,hr,hz,h1⟩|⟨d,fv,sl,T,oT,ts,hx,hr,hz,h1,hT,oV,kZ,h3⟩
 .refine aM (fh hx rfl h1 ?_)
  rw[aR (by simp)]
  exact bO (h s ⟨ρ,τ,⟨b,w⟩,.inl ⟨d,fv,sl,hx,hr,hz,h1⟩⟩)
 .refine aM (fh hx rfl h1 ?_)
  rw[bE (show(Value.ref T != Value.none)=true from by simp)]
  have hi:=(pU.mp h3).1;have gz:T≠x:=fun q=>by rw[q,hr] at hT;cases hT
  refine kK oV kZ hi (h _ ⟨ρ,τ,⟨b.gr hT (gY ..) rfl rfl rfl,w⟩,.inr ⟨d,fv,sl,T,_,_,(kz _ _ gz).trans hx,hr,hz,h1,hT,i9 _ oV (q8 (i0 kZ _)),i0 kZ _,by simp[hi]⟩⟩)
theorem xg{s:aK}{A:Around}{E:aC→aK→Prop}{Q:Bool→aK→Prop}{ρ:Addr→Role}{τ:Tok→Option Int}{fs:List cT}{x:Addr}{t k:Nat}{ws:aB}(b:Body S ρ τ fs H s)(hx:H x=some (.exc t k ws))(h:Q true s):wpAny (model pw S.w) A (excMatches (.ref x) (.ref 38)) Q E s:=by
 obtain⟨mN,F⟩:=lO b.X;obtain⟨d,oD,mA,fv,sl,t0,r1,g1,_⟩:=b.lay _ _ hx;obtain⟨hp,g,dr,tk,os⟩:=s;exact wpAny_excMatches_sub_self F.cls g1 rfl yr.hasBase h
theorem B8{A:Around}{s:aK}{env:Env}{b:Bool}{fs:List cT}{x:Str}{u:aC}{ρ:Addr→Role}{τ:Tok→Option Int}{Q:Unit→aK→Prop}{E:aC→aK→Prop}(hk:env.scope.kind=.function)(hx:env.kindOf x=some .local)(hw:WV τ u)(B:Body S ρ τ (⟨env,m,b,none⟩::fs) H s)
  (h:∀s',Body S ρ τ (⟨env,put m x (er u),b,none⟩::fs) H s'→Heap.SameBut env.locals s.heap s'.heap→Q () s'):wpAny (model pw S.w) A (storeName env x u) Q E s:=by
 obtain⟨f,n,e,ew⟩:=((B.frames _ (.head _)).nsOk rfl).ns;refine CX hx n (fun h' n' sb=>h {s with heap:=h',toks:=s.toks+1} ?_ sb) (by rw[hk];rfl)
 refine Body.local (s':={s with heap:=h',toks:=s.toks+1}) B sb rfl rfl (dU _) n' (fun y v Cm Ka hy=>?_) (fun y r hy hr=>?_) fun y r hy hr=>?_
 .have hy:(if y=x then some u else f y)=some v:=hy
  split at hy
  .cases hy;exact hw
  .rename_i q;rw[eN,aR q] at Ka;exact ew y v Cm Ka hy
 .rw[eN] at hr
  show(if y=x then some u else f y).map er=_
  split
  .rename_i q;rw[bE q] at hr;exact hr
  .rename_i q;rw[aR q] at hr;exact e y r hy hr
 .rw[eN,aR] at hr
  .exact hr
  .rintro rfl
   rw[hx] at hy;cases hy
theorem tC.same{ρ:Addr→Role}{x L:Addr}{h h':Heap}{fl:aC}(F:tC ρ x h fl)(sb:Heap.SameBut L h h')(hL:ρ L=.frame):tC ρ x h' fl:=by
 obtain⟨d,fv,sl,T,oT,ts,hx,hr,hz,h1,hT,oV,kZ,h3⟩:=F;refine⟨d,fv,sl,T,oT,ts,(sb.2 x fun q=>?_).trans hx,hr,hz,h1,hT,(sb.2 T fun q=>?_).trans oV,kZ,h3⟩
 .rw[q,hL] at hr;cases hr
 .rw[q,hL] at hT;cases hT
theorem Ia{α:Type}{Kw:String}{s:aK}{A:Around}{x:Addr}{E:aC→aK→Prop}{Q:α→aK→Prop}{env:Env}{b:Bool}{fs:List cT}(B:xB S (⟨env,m,true,none⟩::fs) H vs x env.locals s)(h:∀s',xB S (⟨env,m,true,none⟩::fs) H vs x env.locals s'→E (.ref x) s'):
  wpAny (model pw S.w) A (PySem.passOn Kw (.ref x) env:Sem α) Q E s:=by
 obtain⟨ρ,τ,⟨b,w⟩,d,fv,sl,T,oT,ts,hx,hr,hz,h1,hT,oV,kZ,h3⟩:=B;unfold PySem.passOn;refine aM (fh hx rfl h1 ?_);rw[aR (by simp)]
 have zl:env.frame=some env.locals:=(((b.frames _ (.head _)).mQ rfl).act rfl).frame;unfold setFlight;refine aM (aM (fh hx rfl h1 ?_));rw[bE (show(Value.ref T != Value.none)=true from by simp),zl]
 have hi:=(pU.mp h3).1;have gz:T≠x:=fun q=>by rw[q,hr] at hT;cases hT
 exact kK oV kZ hi (vV (h _ ⟨ρ,τ,⟨b.gr hT (gY ..) rfl rfl rfl,w⟩,d,fv,sl,T,_,_,(kz _ _ gz).trans hx,hr,hz,h1,hT,i9 _ oV (q8 (i0 kZ _)),i0 kZ _,by simp[hi]⟩))
theorem FF{body pR orelse:List Stmt}{sQ:Stmt}{hV:Str}{CE pos pos':Pos}{rest:List ExceptHandler}{Q:Flow→aB→Map→AH→Prop}
  (hf:c.act=true) (ok:c.Ok n hd) (hk:c.env.scope.kind=.function) (hx:c.env.kindOf hV=some .local) (hg:c.env.kindOf "LispSignal"=some .globalImplicit) (ZN:c.env.globals=mainGlobals)
  (hb:T S c vs m H (execs body c.env) Q (fun x m' H'=>(∃t k fs,H' x=some (.exc t k fs))∧∀aQ,(∀v∈vs,v∈aQ)→T S (c.mark x) (.ref x::aQ) (put m' hV (.ref x)) H' (execs (sQ::pR) c.env) (fun fl dB cA aO=>Q fl dB (mP cA hV) aO) (fun y cA aO=>E y (mP cA hV) aO))):
  T S c vs m H (exec (.Try body (.ExceptHandler (some (.Name "LispSignal" CE)) (some hV) (sQ::pR) pos'::rest) [] [] pos) c.env) Q E:=fun s B=>by
 refine wpAny_Try_except (dD (hb s B) (fun fl s₁ ⟨aQ,m',H',lv,B',hQ⟩=>?_) fun e s₁ ⟨x,m',H',he,B',⟨t,k,ws,hex⟩,hS⟩=>?_)
 .cases fl with
  |next=>exact bO ⟨aQ,m',H',lv,B',hQ⟩
  |cont=>exact⟨aQ,m',H',lv,B',hQ⟩
  |brk=>exact⟨aQ,m',H',lv,B',hQ⟩
  |ret v=>exact⟨aQ,m',H',lv,B',hQ⟩
 subst he;have oX:c.A.frames=some (fH (c.top m)):=by rw[ok.frames,c.oL]
 have Hf:(c.mark x).A.frames=some (c.env::fH c.fs):=by
  show c.A.frames=_;rw[oX];unfold Cx.top fH;rw[hf];rfl
 have tp:∀m',c.top m'=(⟨c.env,m',true,none⟩::c.fs):=fun m'=>by unfold Cx.top;rw[hf]
 refine BI hf ok B' fun eH gv=>?_
 have gv:zr S (⟨c.env,m',true,none⟩::c.fs) H' vs x eH:=by rw[←tp];exact gv
 refine wpAny_handleBy_cons (codeAny_handlers_test ?_) (by intro q;cases q)
 refine wpAny_Name (x:="LispSignal") ?_;rw[loadName_read hk hg];obtain⟨ρ,τ,⟨b,w,nn⟩,F⟩:=gv;have em:=lookup_mem (show tz.lookup ("LispSignal":Str)=some (Value.ref 38) from by kernel_rfl)
 have e:=dE.mp (dC.mp (uY S.w.params) _ em);refine loadGlobal_global (ZN▸b.g) (mg_of b.X b.g e) (xg b hex ?_);show codeAny _ _ _ _ _;refine codeAny_handlers_suite_as (wipe ⟨ρ,τ,⟨b,w,nn⟩,F⟩ fun fW ⟨CQ,zu,⟨qP,Ku,Xi⟩,abe⟩=>?_)
 refine B8 hk hx (u:=.ref x) trivial qP fun lb K0 Xh=>?_
 have Lf:St S ((c.mark x).top (put m' hV (.ref x))) H' (.ref x::vs) lb:=by
  show St S (c.top _) _ _ _;rw[tp];exact⟨CQ,zu,K0,cR (u:=.ref x) trivial Ku⟩
 refine dD (hS vs (fun _ h=>h) lb Lf) (fun fl qk ⟨CR,qN,cI,G8,lp,hQ⟩=>?_) fun abd qk ⟨y,qN,cI,Q4,lp,hE⟩=>?_
 .have lp:St S (c.top qN) cI CR qk:=lp
  rw[tp] at lp;obtain⟨zv,tm,xN,GY⟩:=lp;refine wN hk hx xN fun xI Hj Xg=>⟨CR,_,cI,fun v hv=>G8 v (.tail _ hv),?_,hQ⟩
  rw[tp];exact⟨zv,tm,Hj,GY⟩
 .subst Q4
  have fin:∀xI,xB S (⟨c.env,qN,true,none⟩::c.fs) cI vs y c.env.locals xI→wpAny (model pw S.w) (c.mark x).A (do bindName c.env hV .none;unbindBehindTheSuite c.env hV pos')
    (fun _ lb=>wpAny (model pw S.w) (c.mark x).A (PySem.passOn "try.except-as" (.ref y) c.env:Sem Flow) (fun _ _=>False) (notedBy (model pw S.w) (c.mark x).A c.env (cameBackBy (model pw S.w) c.A c.env fun e s'=>∃x m' H',e=.ref x∧sE S c m' H' vs x s'∧E x m' H')) lb)
    (fun z lb=>wpAny (model pw S.w) (c.mark x).A (setFlight (.ref y) none) (fun _ qk=>(notedBy (model pw S.w) (c.mark x).A c.env (cameBackBy (model pw S.w) c.A c.env fun e s'=>∃x m' H',e=.ref x∧sE S c m' H' vs x s'∧E x m' H')) z qk) (notedBy (model pw S.w) (c.mark x).A c.env (cameBackBy (model pw S.w) c.A c.env fun e s'=>∃x m' H',e=.ref x∧sE S c m' H' vs x s'∧E x m' H')) lb) xI:=fun xI ⟨Py,Px,⟨Hj,TA⟩,VK⟩=>by
   refine wN hk hx Hj fun aa0 VD PH=>?_
   have VJ:=VK.same PH Hj.locals;refine Ia (b:=true) ⟨Py,Px,⟨VD,TA⟩,VJ⟩ fun aaZ VM=>?_
   refine BH (A:=(c.mark x).A) hf oX (fun _ h=>h) (m':=mP qN hV) (H':=cI) (.inr ⟨hf,by rw[tp];exact VM⟩) fun aaY VL=>⟨y,_,cI,rfl,VL,hE⟩
  rcases lp with lp|⟨_,lp⟩
  .have lp:zr S (c.top qN) cI (.ref x::vs) y qk:=lp
   rw[tp] at lp;exact gi Hf lp fun xI Le=>fin xI (Le.sub fun v hv=>.tail _ hv)
  .have lp:xB S (c.top qN) cI (.ref x::vs) y c.env.locals qk:=lp
   rw[tp] at lp;exact fm lp (fin qk (lp.sub fun v hv=>.tail _ hv))
def del(H:AH)(a:Addr):AH:=fun b=>if b=a then none else H b
theorem EP{H:AH}{a b:Addr}(h:b≠a):del H a b=H b:=aR h
theorem wY{H:AH}{a b:Addr}{o:AO}(h:del H a b=some o):b≠a∧H b=some o:=by
 unfold del at h;split at h
 .cases h
 .rename_i q;exact⟨q,h⟩
variable{ρ:Addr→Role}{τ:Tok→Option Int}{fs:List cT}{s:aK}{e:Env}{b:Bool}
theorem Body.del(B:Body S ρ τ fs H s)(a:Addr):Body S ρ τ fs (del H a) s:={B with lay:=fun x o hx=>B.lay x o (wY hx).2}
theorem Body.C4(B:Body S ρ τ (⟨e,m,b,none⟩::fs) H s){a:Addr}{o:Obj}(ha:s.heap.get? a=some o)(h1:ρ a≠.base)(h2:ρ a≠.frame)(h3:∀p∈(⟨e,m,b,none⟩::fs:List cT),ρ a≠.dict p.env.locals)(h4:H a=none)(h5:∀x q,H x=some q→ρ a≠.dict x):
  Body S (fun x=>if x=a then .frame else ρ x) τ (⟨e,m,b,none⟩::dT e a o::fs) H s:=by
 have c:mI ρ (fun x=>if x=a then .frame else ρ x) a s.heap s.heap:=⟨fun _ _ _ h=>h,fun x _ hx _=>aR hx,fun x hx=>by
  have:x≠a:=fun q=>by subst q;exact absurd (eZ ha) (pV.mpr hx)
  show(if x=a then Role.frame else ρ x)=.free
  rw[aR this];exact B.free x hx⟩
 have ne:∀p∈(⟨e,m,b,none⟩::fs:List cT),p.env.locals≠a:=fun p hp q=>h2 (q▸(B.frames p hp).role)
 have old:∀p∈(⟨e,m,b,none⟩::fs:List cT),jk s.heap (fun x=>if x=a then .frame else ρ x) τ p:=fun p hp=>(B.frames p hp).keep .refl c (ne p hp) (h3 p hp)
 have nd:e.locals∉fs.map (·.env.locals)∧(fs.map (·.env.locals)).Nodup:=fX.mp B.nodup;refine B.chg c h1 B.tok B.pos rfl rfl (fun p hp=>?_) ?_ fun x q hx=>?_
 .rcases bS.mp hp with rfl|hp
  .exact old _ (.head _)
  .rcases bS.mp hp with rfl|hp
   .exact⟨bE rfl,rfl,ha⟩
   .exact old _ (.tail _ hp)
 .refine fX.mpr ⟨fun hm=>?_,fX.mpr ⟨fun hm=>?_,nd.2⟩⟩
  .rcases bS.mp hm with q|hm
   .exact ne _ (.head _) q
   .exact nd.1 hm
  .obtain⟨p,hp,q⟩:=eF.mp hm
   exact ne _ (.tail _ hp) q
 .exact(B.lay _ _ hx).keep .refl c h1 (h5 x q hx) fun q=>by rw[q,h4] at hx;cases hx
theorem Body.uJ{fr:List cT}{e':Env}{a:Addr}{o:Obj}(B:Body S ρ τ (fr++dT e' a o::fs) H s)(r:Role)(H':AH)(hH:∀x q,H' x=some q→x≠a→H x=some q)
  (hl:∀cH:Addr→Role,cH a=r→(∀x,x≠a→cH x=ρ x)→∀q,H' a=some q→jC S.w s.heap cH τ a q):Body S (fun x=>if x=a then r else ρ x) τ (fr++fs) H' s:=by
 have hp:=B.frames (dT e' a o) (dR.mpr (.inr (.head _)));have rp:ρ a=.frame:=hp.role;have ha:s.heap.get? a=some o:=hp.ok.2;have c:mI ρ (fun x=>if x=a then r else ρ x) a s.heap s.heap:=⟨fun _ _ _ h=>h,fun x _ hx _=>aR hx,fun x hx=>by
  have:x≠a:=fun q=>by subst q;exact absurd (eZ ha) (pV.mpr hx)
  show(if x=a then r else ρ x)=.free
  rw[aR this];exact B.free x hx⟩
 have nd:=B.nodup;rw[gW,fj,lq] at nd;obtain⟨n1,n2,n3⟩:=nd;have n2:a∉fs.map (·.env.locals)∧(fs.map (·.env.locals)).Nodup:=fX.mp n2;have kp:∀p,p∈fr++dT e' a o::fs→p.env.locals≠a→jk s.heap (fun x=>if x=a then r else ρ x) τ p:=fun p hp gz=>(B.frames p hp).keep .refl c gz (by rw[rp];exact fun h=>by cases h)
 refine B.chg c (by rw[rp];exact fun h=>by cases h) B.tok B.pos rfl rfl (fun p hp=>?_) ?_ fun x q hx=>?_
 .rcases dR.mp hp with hp|hp
  .exact kp p (dR.mpr (.inl hp)) fun q=>n3 _ (eF.mpr ⟨p,hp,rfl⟩) _ (.head _) q
  .exact kp p (dR.mpr (.inr (.tail _ hp))) fun q=>n2.1 (eF.mpr ⟨p,hp,q⟩)
 .rw[gW,lq]
  exact⟨n1,n2.2,fun a ha b hb=>n3 a ha b (.tail _ hb)⟩
 .by_cases z:x=a
  .subst z
   exact hl _ (bE rfl) (fun y hy=>aR hy) q hx
  .exact(B.lay _ _ (hH _ _ hx z)).keep .refl c (by rw[rp];exact fun h=>by cases h) (by rw[rp];exact fun h=>by cases h) z
theorem Ho{ns:bW}{vs:aB}{y:Str}{v:aC}(h:(ns.zip vs).lookup y=some v):y∈ns:=by
 have:=lookup_mem h
 exact(lG this).1
theorem Fc{α:Type}{Kw:String}{s:aK}{A:Around}{x:Addr}{fl:aC}{ρ:Addr→Role}{τ:Tok→Option Int}{E:aC→aK→Prop}{Q:α→aK→Prop}{env:Env}{fs:List cT}(b:Body S ρ τ (⟨env,m,true,none⟩::fs) H s)(w:(∀v∈vs,WV τ v)∧rK H x)(F:tC ρ x s.heap fl)
  (h:∀s',xB S (⟨env,m,true,none⟩::fs) H vs x env.locals s'→E (.ref x) s'):
  wpAny (model pw S.w) A (PySem.passOn Kw (.ref x) env:Sem α) Q E s:=by
 obtain⟨d,fv,sl,T,oT,ts,hx,hr,hz,h1,hT,oV,kZ,h3⟩:=F;unfold PySem.passOn;refine aM (fh hx rfl h1 ?_);rw[aR (by simp)]
 have zl:env.frame=some env.locals:=(((b.frames _ (.head _)).mQ rfl).act rfl).frame;unfold setFlight;refine aM (aM (fh hx rfl h1 ?_));rw[bE (show(Value.ref T != Value.none)=true from by simp),zl]
 have hi:=(pU.mp h3).1;have gz:T≠x:=fun q=>by rw[q,hr] at hT;cases hT
 exact kK oV kZ hi (vV (h _ ⟨ρ,τ,⟨b.gr hT (gY ..) rfl rfl rfl,w⟩,d,fv,sl,T,_,_,(kz _ _ gz).trans hx,hr,hz,h1,hT,i9 _ oV (q8 (i0 kZ _)),i0 kZ _,by simp[hi]⟩))
theorem Body.OF{fr fs:List cT}{ρ:Addr→Role}{τ:Tok→Option Int}{s:aK}{e':Env}{a:Addr}{o:Obj}(B:Body S ρ τ (fr++dT e' a o::fs) H s):H a=none:=by
 have rp:ρ a=.frame:=(B.frames (dT e' a o) (dR.mpr (.inr (.head _)))).role;cases q:H a with
 |none=>rfl
 |some o=>have:=(B.lay _ _ q).role;rw[rp] at this;split at this<;>cases this
theorem FA{body:List Stmt}{mZ:Stmt}{fin:List Stmt}{pos:Pos}{Q:Flow→aB→Map→AH→Prop}(hf:c.act=true)(ok:c.Ok n hd)
  (hb:T S c vs m H (execs body c.env) (fun fl aQ m' H'=>T S c aQ m' H' (execs (mZ::fin) c.env) (fun g cD m₂ aH=>match g with
   | .next=>Q fl cD m₂ aH
   |g=>Q g cD m₂ aH) fun _ _ _=>False)
   (fun x m' H'=>∃t k fs,H' x=some (.exc t k fs)∧k≠0∧∀aQ cx,cx.env=c.env→cx.act=true→cx.Ok n (some x)→T S cx aQ m' (del H' x) (execs (mZ::fin) c.env) (fun g cD m₂ aH=>g=.next∧E x m₂ (upd aH x (.exc t k fs))) fun _ _ _=>False)):
  T S c vs m H (exec (.Try body [] [] (mZ::fin) pos) c.env) Q E:=fun s B=>by
 have oX:c.A.frames=some (fH (c.top m)):=by rw[ok.frames,c.oL]
 have tp:∀m',c.top m'=(⟨c.env,m',true,none⟩::c.fs):=fun m'=>by unfold Cx.top;rw[hf]
 have Hf:c.A.frames=some (c.env::fH c.fs):=by rw[oX,tp];rfl
 refine wpAny_Try_finally (dD (hb s B) (fun fl s₁ ⟨aQ,m',H',lv,B',hT⟩=>?_) fun e s₁ ⟨x,m',H',he,B',t,k,ws,hex,hk,hTT⟩=>?_)
 .have plain:wpAny (model pw S.w) c.A (execs (mZ::fin) c.env) (fun g s'=>match g with
    | .next=>∃aQ m' H',(∀v∈vs,v∈aQ)∧St S (c.top m') H' aQ s'∧Q fl aQ m' H'
    |g=>∃aQ m' H',(∀v∈vs,v∈aQ)∧St S (c.top m') H' aQ s'∧Q g aQ m' H') (notedBy (model pw S.w) c.A c.env (cameBackBy (model pw S.w) c.A c.env fun e s'=>∃x m' H',e=.ref x∧sE S c m' H' vs x s'∧E x m' H')) s₁:=
   dD (hT s₁ B') (fun g eH ⟨cD,m₂,aH,l₂,gv,dA⟩=>by
    cases g<;>exact⟨cD,m₂,aH,fun v hv=>l₂ v (lv v hv),gv,dA⟩) fun _ _ ⟨_,_,_,_,_,f⟩=>f.elim
  cases fl with
  |next=>exact bO plain
  |cont=>exact plain
  |brk=>exact plain
  |ret v=>exact plain
 .subst he
  have main:∀eH,xB S (⟨c.env,m',true,none⟩::c.fs) H' vs x c.env.locals eH→FinallyRaised pw S.w c.A (fun e s'=>∃x m' H',e=.ref x∧sE S c m' H' vs x s'∧E x m' H') c.env (mZ::fin) (fun fl s'=>∃aQ m' H',(∀v∈vs,v∈aQ)∧St S (c.top m') H' aQ s'∧Q fl aQ m' H') (.ref x) eH:=fun eH gv=>by
   refine⟨ref_ne_byPass _,fm gv ?_⟩;obtain⟨ρ,τ,⟨b,w,nn⟩,d,fv,sl,T,oT,ts,hx,hr,hz,h1,hT,oV,kZ,h3⟩:=gv;unfold setFlight;refine aM (fh hx rfl h1 ?_);rw[bE (show(Value.ref T != Value.none)=true from by simp)]
   have hi:=(pU.mp h3).1;have gz:T≠x:=fun q=>by rw[q,hr] at hT;cases hT
   refine kK oV kZ hi ?_;show wpAny (model pw S.w) (c.A.mark (some (.ref x))) (execs (mZ::fin) c.env) _ _ {eH with heap:=eH.heap.update T (Obj.mapFields (·.setIfInBounds 3 Value.none))}
   have qP:Body S ρ τ (⟨c.env,m',true,none⟩::c.fs) H' {eH with heap:=eH.heap.update T (Obj.mapFields (·.setIfInBounds 3 Value.none))}:=b.gr hT (gY ..) rfl rfl rfl
   have C9:(eH.heap.update T (Obj.mapFields (·.setIfInBounds 3 Value.none))).get? x=some ⟨.ref 38,some d,.fields fv,sl⟩:=(kz _ _ gz).trans hx;have Di:(eH.heap.update T (Obj.mapFields (·.setIfInBounds 3 Value.none))).get? T=some (Obj.mapFields (·.setIfInBounds 3 Value.none) oT):=i9 _ oV (q8 (i0 kZ _));have yC:(Obj.mapFields (·.setIfInBounds 3 Value.none) oT).data=.fields (ts.setIfInBounds 3 Value.none):=i0 kZ _;have JP:(ts.setIfInBounds 3 Value.none)[3]?=some Value.none:=by simp[hi]
   generalize eH.heap.update T (Obj.mapFields (·.setIfInBounds 3 Value.none))=eQ at qP C9 Di⊢
   generalize Obj.mapFields (·.setIfInBounds 3 Value.none) oT=v8 at Di yC
   generalize ts.setIfInBounds 3 Value.none=PB at yC JP
   clear h3 hi kZ oV
   obtain⟨d',oD,mA,Jr,XS,t0,r1,g1,r2,g2,fa,wv,z,f1,f2⟩:=qP.lay _ _ hex;have g1:eQ.get? x=_:=g1;rw[C9] at g1;cases g1;have g2:eQ.get? d=some oD:=g2;have WK:d≠x:=fun q=>by rw[q,r1] at r2;cases r2
   have Pf:d≠T:=fun q=>by rw[q,hT] at r2;cases r2
   have nf:∀p∈(⟨c.env,m',true,none⟩::c.fs:List cT),p.env.locals≠x:=fun p hp q=>by have:=(qP.frames p hp).role;rw[q,r1] at this;cases this
   have p1:=(qP.del x).C4 (a:=d) g2 (by rw[r2];exact fun h=>by cases h) (by rw[r2];exact fun h=>by cases h) (fun p hp=>by rw[r2];exact fun h=>nf p hp (Role.dict.inj h).symm) (by
    cases q:(aV.del H' x) d with
    |none=>rfl
    |some o=>have:=((qP.del x).lay _ _ q).role;rw[r2] at this;split at this<;>cases this) (fun y q hy=>by rw[r2];exact fun h=>(wY hy).1 (Role.dict.inj h).symm)
   have rT:(fun y=>if y=d then Role.frame else ρ y) T=.gr:=(aR (lH Pf)).trans hT
   have p2:=p1.C4 (a:=T) Di (fun h=>by cases rT.symm.trans h) (fun h=>by cases rT.symm.trans h) (fun p hp h=>by cases rT.symm.trans h) (by
    cases q:(aV.del H' x) T with
    |none=>rfl
    |some o=>have:=((qP.del x).lay _ _ q).role;rw[hT] at this;split at this<;>cases this) (fun y q hy h=>by cases rT.symm.trans h)
   have rx:(fun y=>if y=T then Role.frame else(fun y=>if y=d then Role.frame else ρ y) y) x=.own:=(aR (lH gz)).trans ((aR (lH WK)).trans r1)
   have p3:=p2.C4 (a:=x) C9 (fun h=>by cases rx.symm.trans h) (fun h=>by cases rx.symm.trans h) (fun p hp h=>by cases rx.symm.trans h) (by unfold aV.del;exact bE rfl) (fun y q hy h=>by cases rx.symm.trans h)
   have Yd:(⟨c.env,true,c.A.mark (some (.ref x)),dT c.env x ⟨.ref 38,some d,.fields fv,sl⟩::dT c.env T v8::dT c.env d oD::c.fs⟩:Cx).Ok n (some x):=⟨by
    show c.A.frames=_;rw[Hf];rfl,rfl,ok.room⟩
   refine dD (hTT ((names 38).filterMap mA++vs) ⟨c.env,true,c.A.mark (some (.ref x)),dT c.env x ⟨.ref 38,some d,.fields fv,sl⟩::dT c.env T v8::dT c.env d oD::c.fs⟩ rfl rfl Yd _ ⟨_,τ,p3,fun v hv=>?_⟩) (fun g qk ⟨CR,qN,cI,G8,⟨zv,tm,xN,GY⟩,hg,hE⟩=>?_) fun e qk ⟨_,_,_,_,_,f⟩=>f.elim
   .rcases dR.mp hv with hv|hv
    .obtain⟨y,hy,hv⟩:=zD.mp hv
     exact wv y v hv
    .exact w v hv
   subst hg;dsimp only;have xN:Body S zv tm ([⟨c.env,qN,true,none⟩,dT c.env x ⟨.ref 38,some d,.fields fv,sl⟩,dT c.env T v8]++dT c.env d oD::c.fs) cI qk:=xN;have Q9:=xN.lu;have q1:=xN.uJ (.dict x) cI (fun _ _ h _=>h) (fun cH _ _ q hq=>by rw[xN.OF] at hq;cases hq)
   have Sh:Body S _ tm ([⟨c.env,qN,true,none⟩,dT c.env x ⟨.ref 38,some d,.fields fv,sl⟩]++dT c.env T v8::c.fs) cI qk:=q1;have Ra:=Sh.lu;have q2:=Sh.uJ .gr cI (fun _ _ h _=>h) (fun cH _ _ q hq=>by rw[Sh.OF] at hq;cases hq)
   have VY:Body S _ tm ([⟨c.env,qN,true,none⟩]++dT c.env x ⟨.ref 38,some d,.fields fv,sl⟩::c.fs) cI qk:=q2;have JQ:=VY.lu;have PA:∀y u,mA y=some u→WV tm u:=fun y u hy=>by
    refine GY u (G8 u (dR.mpr (.inl (zD.mpr ⟨y,?_,hy⟩))))
    have:=fa.2 y
    rw[hy] at this;exact Ho this.symm
   have q3:=VY.uJ .own (upd cI x (.exc t k ws)) (fun y q hy YZ=>by rw[aT YZ] at hy;exact hy) (fun cH Uw Uv q hq=>by
    rw[aA] at hq;cases hq;refine⟨d,oD,mA,fv,sl,t0,Uw,JQ,?_,Q9,fa,PA,z,f1,f2⟩;rw[Uv d WK]
    show(if d=T then Role.gr else if d=d then Role.dict x else zv d)=_
    rw[aR Pf,bE rfl])
   refine Fc (fl:=.none) (vs:=vs) q3 ⟨fun v hv=>GY v (G8 v (dR.mpr (.inr hv))),fun t' aQ q=>?_⟩ ⟨d,fv,sl,T,v8,PB,JQ,bE rfl,hz,h1,?_,Ra,yC,JP⟩ fun xI Le=>⟨x,qN,_,rfl,.inr ⟨hf,by rw[tp];exact Le⟩,hE⟩
   .rw[aA] at q;cases q;exact hk rfl
   .show(if T=x then Role.own else if T=T then Role.gr else _)=_
    rw[aR gz,bE rfl]
  rcases B' with B'|⟨_,B'⟩
  .rw[tp] at B'
   exact gi Hf B' main
  .rw[tp] at B'
   exact fm B' (main s₁ B')
variable{t:Nat}{l a d:Addr}{Q:aC→aB→Map→AH→Prop}
theorem yK{A:Around}{I ax:Addr}{items:Array aC}(hl:List Addr)(ca:∀h,(∃h₀,f9 A h₀∧∀b∈hl,∀o,h₀.get? b=some o→h.get? b=some o)→f9 A h)(nn:A.handled≠some (.ref I))(hI:I∉hl)(gz:ax≠I){w:World}:
  Walks pw w A I (I::ax::hl) [I] items.size (fun i v=>items[i]?=some v) (fun i h=>(h.IsListIter I ax i∧h.IsList ax items)∧f9 A h) where
 sub:=fun b hb=>by simp at hb;simp[hb]
 frame:=fun _ h h' st hk=>⟨⟨st.1.1.at fun o e=>hk I (by simp) o e,st.1.2.at fun o e=>hk ax (by simp) o e⟩,ca _ ⟨h,st.2,fun b hb o e=>hk b (by simp[hb]) o e⟩⟩
 item:=fun i s Q E hi st hQ=>by
  refine wpAny_pyNext_list_item st.1.1 st.1.2 (x:=items[i]) (by simp[hi]) fun h' KO qt=>?_
  exact hQ _ h' s.toks (by simp[hi]) ⟨⟨KO,st.1.2.extBut qt.extBut gz⟩,st.2.ext qt.extBut nn⟩ fun b o hb e=>qt.extBut b o (fun h=>hb (by simp[h])) e
 done:=fun s Q E st hQ=>mS st.2 nn st.1.1 st.1.2 (by simp) fun h' S2=>hQ h' s.toks fun b o hb e=>S2 b o (fun h=>hb (by simp[h])) e
 self:=fun _ _ _ _ st hQ=>wpAny_pyIter_listiter st.1.1 hQ
theorem Ri{bs:List Bool}(ok:c.Ok n hd)(hl:H l=some (.list t (bs.map Value.bool)))(cl:Clean hd H)(h:Q (.bool (bs.any id)) vs m H):T S c vs m H (call (.builtin "any") [.ref l]) Q E:=fun s B=>by
 have B':=B;obtain⟨ρ,τ,b,w⟩:=B;obtain⟨arr,k,g,e,wf,z,hz⟩:=b.list hl;have ca:=cl.at b ok.handled;have fT:@LT.lt Nat _ l s.heap.objs.size:=eZ g;have key:wpAny (model pw S.w) c.A (call (.builtin "any") [.ref l]) (fun v s'=>v=.bool (bs.any id)∧∃h' tk,s'={s with heap:=h',toks:=tk}∧∀b o,s.heap.get? b=some o→h'.get? b=some o) (fun _ _=>False) s:=by
  refine call_any_walk (wpAny_pyIter_list g.isList ?_);have up:∀b o,s.heap.get? b=some o→(s.heap.push {cls:=.type "list_iterator",data:=.fields #[.ref l,.int 0 0]}).get? b=some o:=fun b o q=>mu _ q
  have Wr:∀x,c.A.handled=some (.ref x)→(∃o,s.heap.get? x=some o)→x≠s.heap.objs.size:=fun x _ ⟨o,q⟩=>fq (eZ q)
  obtain⟨RD,Gx,hI,hn⟩:∃RD:List Addr,(∀h,(∃h₀,f9 c.A.in1 h₀∧∀b∈RD,∀o,h₀.get? b=some o→h.get? b=some o)→f9 c.A.in1 h)∧s.heap.objs.size∉RD∧c.A.in1.handled≠some (.ref s.heap.objs.size):=by
   rcases ca with ca|⟨x,o,fs,ca,ho,r⟩
   .exact⟨[],fun h _=>.inl ca,by simp,by show c.A.handled≠_;rw[ca];simp⟩
   .refine⟨[x],fun h ⟨h₀,c₀,k⟩=>?_,by simpa using(Wr x ca ⟨o,ho⟩).symm,by show c.A.handled≠_;rw[ca];simpa using Wr x ca ⟨o,ho⟩⟩
    rcases c₀ with c₀|⟨x',o',fs',c₀,te,r'⟩
    .exact .inl c₀
    .have:(some (Value.ref x):Option aC)=some (.ref x'):=ca.symm.trans c₀
     cases this;exact .inr ⟨x,o',fs',c₀,k x (.head _) _ te,r'⟩
  refine⟨s.heap.objs.size,_,_,arr.size,_,_,fun i=>(bs[i]?).getD false,rfl,yK (items:=arr) (ax:=l) RD Gx hn hI (fq fT),⟨⟨⟨_,mM _ rfl,rfl,rfl⟩,g.isList.push _⟩,?_⟩,fun i v s Q E hv hQ=>?_,fun h' tk hk=>⟨?_,h',tk,rfl,fun b o q=>hk b o (fun hb=>?_) (up b o q)⟩⟩
  .exact ca.imp id fun⟨x,o,fs,c,ho,r⟩=>⟨x,o,fs,c,up _ _ ho,r⟩
  .have hv:arr[i]?=some v:=hv
   have e1:(arr.toList.map er)[i]?=some (er v):=by rw[fL,oi,hv];rfl
   rw[e,fL] at e1;obtain⟨bb,h1,h2⟩:=ey.mp e1;rw[A6 h2.symm];refine wpAny_truthy_bool ?_;have hQ:Q ((bs[i]?).getD false) s:=hQ;rw[h1] at hQ;exact hQ
  .congr 1
   have vI:arr.size=bs.length:=by rw[hz];simp
   rw[vI,Bool.eq_iff_iff,qZ,qZ]
   constructor
   .rintro⟨i,hi,hb⟩
    rw[List.mem_range] at hi;rw[lr hi] at hb;exact⟨bs[i],rz hi,hb⟩
   .rintro⟨x,hx,hb⟩
    obtain⟨i,hi,rfl⟩:=List.getElem_of_mem hx;exact⟨i,List.mem_range.mpr hi,by rw[lr hi];exact hb⟩
  .simp at hb;subst hb;exact Nat.lt_irrefl _ (eZ q)
 refine dD (wpAny_toks key) (fun v s' ⟨gj,e,h',tk,e',k⟩=>?_) fun _ _ h=>h.2.elim
 subst e e';obtain⟨cH,b',-⟩:=b.grow k (n:=tk) gj;exact⟨vs,m,H,fun _ h=>h,⟨cH,τ,b',w⟩,h⟩
theorem Rf{is:bQ}(hh:c.A.handled=none)(hl:H l=some (.list t (is.map fun i=>Value.int i 0)))(h:∀u,Q (.int is.sum u) vs m H):T S c vs m H (call (.builtin "sum") [.ref l]) Q E:=fun s B=>by
 have B':=B;obtain⟨ρ,τ,b,w⟩:=B;obtain⟨arr,k,g,e,wf,z,hz⟩:=b.list hl;have n7:AllInts arr:=fun v hv=>by
  have:er v∈arr.toList.map er:=eF.mpr ⟨v,by simpa using hv,rfl⟩
  rw[e] at this;obtain⟨i,_,q⟩:=eF.mp this;obtain⟨u,rfl⟩:=M2 q.symm;exact⟨i,u,rfl⟩
 obtain⟨ys,rfl⟩:=n7.items;have es:ys.toList.map (·.1)=is:=by
  have:(intItems ys).toList.map er=(ys.toList.map (·.1)).map fun i=>Value.int i 0:=by simp[intItems];intros;rfl
  rw[this] at e
  exact(List.map_inj_right fun a b q=>by cases q;rfl).mp e
 refine dD (wpAny_toks (sum_intListG (Q:=fun v s'=>(∃u,v=.int is.sum u)∧∃h' tk,s'={s with heap:=h',toks:=tk}∧∀b o,s.heap.get? b=some o→h'.get? b=some o) (E:=fun _ _=>False) hh g.isList fun h' tk t' hk=>⟨⟨t',?_⟩,h',tk,rfl,hk⟩)) (fun v s' ⟨gj,⟨u,e⟩,h',tk,e',k⟩=>?_) fun _ _ h=>h.2.elim
 .rw[preSum_eq,iL (by simp),es]
 subst e e';obtain⟨cH,b',-⟩:=b.grow k (n:=tk) gj;exact⟨vs,m,H,fun _ h=>h,⟨cH,τ,b',w⟩,h u⟩
theorem Rj{i:Int}{u:Tok}(h:∀k,Q (.int (if i < 0 then -i else i) k) vs m H):T S c vs m H (call (.builtin "abs") [.int i u]) Q E:=fun s B=>by
 refine dD (wpAny_toks (call_abs_int (Q:=fun v s'=>(∃k,v=.int (if i < 0 then -i else i) k)∧∃tk,s'={s with toks:=tk}) (E:=fun _ _=>False) fun k tk=>⟨⟨k,rfl⟩,tk,rfl⟩)) (fun v s' ⟨gj,⟨k,e⟩,tk,e'⟩=>?_) fun _ _ h=>h.2.elim
 subst e e';exact⟨vs,m,H,fun _ h=>h,B.toks gj,h k⟩
theorem Body.EC{fs:List cT}{ρ:Addr→Role}{τ:Tok→Option Int}{s:aK}(b:Body S ρ τ fs H s){o:Obj}(t:Nat)(ht:t≠0)(hf:o.isFreed=false)(h38:¬(o.cls=.ref 38∧o.dict.isSome=true)):H s.heap.objs.size=none∧∃cH,Body S cH τ fs (upd H s.heap.objs.size (.raw t o)) {s with heap:=s.heap.push o}:=
 ⟨b.fresh aF,b.zE fun cH r=>⟨by rw[aR ht];exact r,mM _ hf,h38⟩⟩
theorem FT{i:Int}{u:Tok}(h:∀d a b c,H d=none→Q (.ref d) (.ref d::vs) m (upd H d (.raw 1 (fz 0 i 1 a b c)))):T S c vs m H (call (.type "range") [.int i u]) Q E:=fun s ⟨ρ,τ,b,w⟩=>by
 obtain⟨hn,cH,b'⟩:=b.EC (o:=fz 0 i 1 s.toks u (s.toks+1)) 1 (by decide) rfl (by rintro⟨q,-⟩;cases q)
 exact call_range_1 ⟨_,m,_,fun _ h=>.tail _ h,⟨cH,τ,b'.toks (n:=s.toks+1+1) (by show s.toks≤_;omega),cR (u:=.ref s.heap.objs.size) trivial w⟩,h _ _ _ _ hn⟩
theorem FK{i j k:Int}{u v x:Tok}(hk:k≠0)(hp:Builtin.divisionGoesByPylong (j - i) k=false)(h:∀d a b c,H d=none→Q (.ref d) (.ref d::vs) m (upd H d (.raw 1 (fz i j k a b c)))):T S c vs m H (call (.type "range") [.int i u,.int j v,.int k x]) Q E:=fun s ⟨ρ,τ,b,w⟩=>by
 obtain⟨hn,cH,b'⟩:=b.EC (o:=fz i j k u v x) 1 (by decide) rfl (by rintro⟨q,-⟩;cases q)
 exact call_range_3 hk ⟨_,m,_,fun _ h=>.tail _ h,⟨cH,τ,b',cR (u:=.ref s.heap.objs.size) trivial w⟩,h _ _ _ _ hn⟩ (.inl hp)
variable{xs:aB}
theorem gh{ws:aB}{t:Sem aC}(h:T S c vs m H t Q E):T S c vs m H (operate ws t) Q E:=fun s B=>uy (h s B)
theorem Bf{base:Expr}{o r:aC}{Q:Unit→aB→Map→AH→Prop}(h:Q () vs m H):T S c vs m H (letTemporaryGo base o r) Q E:=og fun s B=>yq ⟨B,h⟩
theorem tS{ws ks:aB}{Q:Unit→aB→Map→AH→Prop}(h:Q () vs m H):T S c vs m H (release ws ks) Q E:=og fun s B=>PySem.wpAny_release ⟨B,h⟩
theorem jK{s:aK}{M:Model}{A:Around}{E:aC→aK→Prop}{o:aC}{T id:String}{Q:Bool→aK→Prop}(hT:s.TypeIs o T)(hl:typeLookup (.type T) "__getitem__"=pure (some (.builtin id)))(h:Q false s):wpAny M A (getitemInPython o) Q E s:=by
 rw[getitemInPython_of_ne hT.not_modules];exact aM (wpAny_specialOf hT hl (bO h))
def v9(H:AH):aC→Bool
 | .ref a=>match H a with
  |some (.list _ _)=>true
  |some (.tup _ _)=>true
  |some (.aX _ _)=>true
  |some (.bR _ _)=>true
  |_=>false
 |_=>false
theorem I4{o:aC}{Q:Bool→aB→Map→AH→Prop}(ho:v9 H (er o)=true)(h:Q false vs m H):T S c vs m H (getitemInPython o) Q E:=og fun s B=>by
 have B':=B;obtain⟨ρ,τ,b,w⟩:=B;cases o<;>simp only[er,v9,tn] at ho;rename_i a;split at ho
 .rename_i q;obtain⟨arr,k,g,_⟩:=b.list q;exact jK (T:="list") ⟨_,g,rfl⟩ PySem.F.slot_list_getitem.lookup ⟨B',h⟩
 .rename_i q;obtain⟨arr,k,g,_⟩:=b.tup q;exact jK (T:="tuple") ⟨_,g,rfl⟩ PySem.F.slot_tuple_getitem.lookup ⟨B',h⟩
 .rename_i q;obtain⟨t0,ks,D,_⟩:=b.dI q;exact jK (T:="dict") D.mapOf.typeIs PySem.F.slot_dict_getitem.lookup ⟨B',h⟩
 .rename_i q;obtain⟨t0,ks,D,_⟩:=b.dS q;exact jK (T:="dict") D.mapOf.typeIs PySem.F.slot_dict_getitem.lookup ⟨B',h⟩
 .cases ho
def Nn(S:aN)(c:Cx)(o l u:aC)(vs:aB)(m:Map)(H:AH)(Q:aC→aB→Map→AH→Prop):Prop:=
 (∃a t xs k ys r,o=.ref a∧H a=some (.list t xs)∧r≠0∧((∃tk,l=.int (k:Nat) tk∧u=.none∧ys=xs.drop k)∨(∃tk,l=.none∧u=.int (k:Nat) tk∧ys=xs.take k))∧∀d,H d=none→Q (.ref d) (.ref d::vs) m (upd H d (.list r ys)))∨
 (∃x t j tj,o=.str x t∧l=.none∧u=.int j tj∧x.length≤1000000∧∀t',Q (.str (Txt.slice x none (some j)) t') vs m H)
theorem sf{value:Expr}{lo hi:Option Expr}{p pos:Pos}
  (h:T S c vs m H (eval value c.env) (fun o bZ m₁ aE=>T S c bZ m₁ aE (evalPart lo c.env) (fun l cD m₂ aH=>T S c cD m₂ aH (evalPart hi c.env) (fun u dB cA aO=>Nn S c o l u dB cA aO Q) E) E) E):
  T S c vs m H (eval (.Subscript value (.Slice lo hi none p) pos) c.env) Q E:=fun s B=>by
 rw[eval_Subscript];have up:∀{s:aK} {vs aQ:aB} {e:aC},(∀v∈vs,v∈aQ)→(∃x m' H',e=.ref x∧sE S c m' H' aQ x s∧E x m' H')→∃x m' H',e=.ref x∧sE S c m' H' vs x s∧E x m' H':=fun l ⟨x,m',H',e,B,q⟩=>⟨x,m',H',e,B.sub l,q⟩
 refine aM (dD (h s B) (fun o s₁ ⟨bZ,m₁,aE,l₁,iW,cN⟩=>aM (ku (wpAny_Slice (dD (cN s₁ iW) (fun l eH ⟨cD,m₂,aH,l₂,gv,dA⟩=>dD (dA eH gv) (fun u fW ⟨dB,cA,aO,jT,⟨ρ,τ,b,w⟩,eQ⟩=>?_) fun e fW q=>up (fun v hv=>l₂ v (l₁ v hv)) q) fun e eH q=>up l₁ q)))) fun _ _ q=>q)
 have lv:∀v∈vs,v∈dB:=fun v hv=>jT v (l₂ v (l₁ v hv))
 have bj:=b.JI {cls:=.type "slice",data:=.fields #[l,u,.none]};refine bO ?_;refine aM (zB ?_);refine aM ?_;have hs:(fW.heap.push {cls:=.type "slice",data:=.fields #[l,u,.none]}).IsSliceOf fW.heap.objs.size l u .none:=Heap.IsSliceOf.new ..;rcases eQ with ⟨a,t,xs,k,ys,r,ho,hl,hr,hp,hQ⟩|⟨x,t,j,tj,ho,rfl,rfl,hx,hQ⟩
 .subst ho
  obtain⟨arr,kk,g,e,_,z,hz⟩:=bj.list hl;refine jK (T:="list") ⟨_,g,rfl⟩ PySem.F.slot_list_getitem.lookup ?_;have fin:∀d cH h',aO d=none→Body S cH τ (c.top cA) (upd aO d (.list r ys)) {fW with heap:=h'}→wpAny (model pw S.w) c.A (letTemporaryGo value (.ref a) (.ref d) >>= fun _=>pure (Value.ref d)) (fun a s'=>∃aQ m' H',(∀v∈vs,v∈aQ)∧St S (c.top m') H' aQ s'∧Q a aQ m' H') (fun e s'=>∃x m' H',e=.ref x∧sE S c m' H' vs x s'∧E x m' H') {fW with heap:=h'}:=fun d cH h' hd b'=>
   aM (yq (bO ⟨_,cA,_,fun v hv=>.tail _ (lv v hv),⟨cH,τ,b',cR (u:=.ref d) trivial w⟩,hQ d hd⟩))
  refine aM ?_;show wpAny _ _ (operate [.ref fW.heap.objs.size,.ref a] (getItem (.ref a) (.ref fW.heap.objs.size))) _ _ _;rcases hp with ⟨tk,rfl,rfl,rfl⟩|⟨tk,rfl,rfl,rfl⟩
  .refine uy (wV (lo:=some (k:Int)) (hi:=none) (ys:=xs.drop k) r hr hl bj (.int _ _) .none hs (fun arr e=>?_) (by rw[jq];omega) fun d cH h' hd b'=>fin d cH h' hd b')
   rw[slicePick_from'];exact⟨by rw[←e];simp,fun v hv=>List.mem_of_mem_drop (by simpa using hv)⟩
  .refine uy (wV (lo:=none) (hi:=some (k:Int)) (ys:=xs.take k) r hr hl bj .none (.int _ _) hs (fun arr e=>?_) (by rw[qY];omega) fun d cH h' hd b'=>fin d cH h' hd b')
   rw[slicePick_upto'];exact⟨by rw[←e];simp,fun v hv=>tw (by simpa using hv)⟩
 .subst ho
  refine jK (T:="str") (typeIs_str _ _ _) PySem.F.slot_str_getitem.lookup ?_;refine aM ?_;show wpAny _ _ (operate [.ref fW.heap.objs.size,.str x t] (getItem (.str x t) (.ref fW.heap.objs.size))) _ _ _;refine uy (dD (wpAny_toks (wpAny_getItem_str_slice (Q:=fun v s'=>(∃t',v=.str (Txt.slice x none (some j)) t')∧∃tk,s'={fW with heap:=fW.heap.push {cls:=.type "slice",data:=.fields #[.none,.int j tj,.none]},toks:=tk}) (E:=fun _ _=>False) (l:=none) (u:=some (j,tj)) (st:=none) ⟨_,mM _ rfl,rfl,rfl⟩ rfl
   (post_val_or_str ⟨gX (Txt.slice_le x _ _) (dP hx),fun t' k=>⟨⟨t',rfl⟩,k,rfl⟩⟩))) (fun v s' ⟨gj,⟨t',e⟩,tk,e'⟩=>?_) fun _ _ q=>q.2.elim)
  subst e e';exact aM (yq (bO ⟨dB,cA,aO,lv,⟨_,τ,bj.toks gj,w⟩,hQ t'⟩))
theorem MT:Slot "Exception" "__getattribute__" "BaseException.__getattribute__":=
 .of (owner:="BaseException") (n:="__getattribute__") (by rw[typeLookup_type,yt];kernel_rfl) (by decide+kernel) (by decide+kernel) (by decide+kernel)
  (by first|exact .inl (by decide+kernel)|exact .inr (by decide+kernel)) (by rw[isSubtype_type];kernel_rfl)
def l0(K:Frag)(name:Str):Bool:=(findIn K (.ref 38) "__getattribute__"==some (some (.builtin "BaseException.__getattribute__")))&&(findIn K (.ref 38) "__getattr__"==some none)&&hasDictIn K 38&&(findIn K (.ref 38) name==some none)&&(mroIn K 38 (.type "BaseException")==some true)
theorem Ik:∀P:Params,(l0 (KK P) "symbol"&&l0 (KK P) "data")=true:=fun P=>by kernel_rfl
end
section
variable{S:aN}{c:Cx}{vs:aB}{m:Map}{H:AH}{E:Addr→Map→AH→Prop}{t:Nat}{fs:aB}
theorem Fg{s:aK}{A:Around}{E:aC→aK→Prop}{x:Addr}{ox:Obj}{od:Option Obj}{name:Str}{v:aC}{expr:Bool}{ga:String}{Q:aC→aK→Prop}(X:(KK S.w.params).In s.heap)(I:InstAt s.heap x ox 38 od)
  (slot:Slot "Exception" "__getattribute__" ga) (entry:entryFor table ga=some Builtin.«object.__getattribute__») (kind:builtinKind ga=some .slot) (split:splitId ga=some ("BaseException","__getattribute__")) (args:∀a b,argsOk ga ⟨[a,b],[]⟩) (gz:(Value.builtin ga==Value.builtin "object.__getattribute__")=false)
  (k1:findIn (KK S.w.params) (.ref 38) "__getattribute__"=some (some (.builtin ga))) (k2:findIn (KK S.w.params) (.ref 38) "__getattr__"=some none) (k5:mroIn (KK S.w.params) 38 (.type "BaseException")=some true) (hf:findObj (KK S.w.params) 38 od name=some (.value v)) (hh:handedIn v=true)
  (h:Q v {s with toks:=s.toks+1}):wpAny (model pw S.w) A (getAttr (.ref x) name expr) Q E s:=by
 obtain⟨hp,g,d,tk,os⟩:=s;have L0:=I.type (M:=model pw S.w);have L1:=zz (M:=model pw S.w) X k1;have L2:=zz (M:=model pw S.w) X k2;have L3:=looks_find (M:=model pw S.w) X I hf;have sub:Looks (model pw S.w) hp (isInstance (.ref x) (.type "BaseException")) true:=L0.andThen (looks_mroIn X k5);unfold getAttr getAttrBy;refine aM (wpAny_mkText (ku (aM (L0.at (aM (L1.at ?_))))));dsimp only;rw[aR (by rw[gz,Bool.and_false];exact eV)]
 unfold getAttrByItsOwn hookBefore;rw[bE (show onTheHeap (.ref 38)=true from rfl)]
 refine aM (L2.at ?_);refine aM (vU (ku ?_));unfold callGetattribute;rw[aR (show ¬((expr&&onTheHeap (Value.builtin ga))=true) from by cases expr<;>exact eV)]
 unfold boundAndCalled;rw[slot.bind];refine aM (bO ?_);refine wpAny_call (codeAny_call_builtin slot.plain entry ?_);refine check_slot kind split sub (args _ _) ?_;unfold Builtin.«object.__getattribute__»;refine aM (bO (aM (bO (aM (L0.at (aM (L3.at ?_)))))));refine bO ?_;show wpAny _ _ (handedOut v) _ _ _;rw[handedOut_of hh];exact bO h
theorem Ij{s:aK}{A:Around}{E:aC→aK→Prop}{x:Addr}{ox:Obj}{od:Option Obj}{name:Str}{v:aC}{expr:Bool}{Q:aC→aK→Prop}(X:(KK S.w.params).In s.heap)(I:InstAt s.heap x ox 38 od)(hk:l0 (KK S.w.params) name=true)(hf:findObj (KK S.w.params) 38 od name=some (.value v))(hh:handedIn v=true)
  (h:Q v {s with toks:=s.toks+1}):wpAny (model pw S.w) A (getAttr (.ref x) name expr) Q E s:=by
 unfold l0 at hk;simp only[dJ,dE] at hk;obtain⟨⟨⟨⟨k1,k2⟩,k3⟩,k4⟩,k5⟩:=hk;exact Fg X I MT PySem.F.entry_bexc_ga (by decide+kernel) (by decide+kernel) PySem.F.args_bexc_ga (by decide+kernel) k1 k2 k5 hf hh h
theorem Bg{x:Addr}{k:Nat}{name:Str}{expr:Bool}{v:aC}{Q:aC→aB→Map→AH→Prop}(hx:H x=some (.exc t k fs))(hk:l0 (KK S.w.params) name=true)(hv:((names 38).zip fs).lookup name=some v)(hh:handedIn v=true)
  (h:∀u,er u=v→Q u (u::vs) m H):T S c vs m H (getAttr (.ref x) name expr) Q E:=fun s ⟨ρ,τ,b,w⟩=>by
 obtain⟨d,oD,mA,fv,sl,t0,r1,g1,r2,g2,fa,wv,_⟩:=b.lay _ _ hx;have qu:=hk;unfold l0 at qu;simp only[dJ,dE] at qu;obtain⟨⟨⟨⟨k1,k2⟩,k3⟩,k4⟩,k5⟩:=qu;have e:=fa.2 name;rw[hv] at e;obtain⟨u,g,r⟩:=ey.mp e;exact Ij (ox:=⟨.ref 38,some d,.fields fv,sl⟩) (od:=some oD) b.X ⟨g1,rfl,rfl,g2⟩ hk (findObj_own k3 k4 rfl (by rw[BJ fa,g])) (tK hh r) ⟨u::vs,m,H,fun _ h=>.tail _ h,⟨ρ,τ,b.toks (dU _),cR (wv _ _ g) w⟩,h u r⟩
end
section
variable{S:aN}{ρ:Addr→Role}{τ:Tok→Option Int}{fs:List cT}{H:AH}{s:aK}
theorem Body.Ig(B:Body S ρ τ fs H s){h':Heap}{n:Nat}{x e d:Addr}{t:Nat}{mY o₁ oe od:Obj}(hx:H x=some (.raw t mY))(ht:t≠0)(k:∀b o,b≠x→s.heap.get? b=some o→h'.get? b=some o)(gx:h'.get? x=some o₁)(nx:¬(o₁.cls=.ref 38∧o₁.dict.isSome=true))
  (hn:s.toks≤n) (he:@LE.le Nat _ s.heap.objs.size e) (hd:@LE.le Nat _ s.heap.objs.size d) (RN:d≠e) (ge:h'.get? e=some oe) (gd:h'.get? d=some od) (ne:¬(oe.cls=.ref 38∧oe.dict.isSome=true)) (nd:¬(od.cls=.ref 38∧od.dict.isSome=true)):
  H e=none∧H d=none∧e≠x∧d≠x∧∃cH,Body S cH τ fs (upd (upd (upd H x (.raw t o₁)) e (.raw 1 oe)) d (.raw 1 od)) {s with heap:=h',toks:=n}:=by
 have lx:@LT.lt Nat _ x s.heap.objs.size:=let⟨q,hq⟩:=(B.lay _ _ hx).alive;eZ hq;have rx:ρ x=.own:=by rw[(B.lay _ _ hx).role];exact aR ht
 have ex:e≠x:=q9 (dG lx he);have dx:d≠x:=q9 (dG lx hd);obtain⟨cH,kY⟩:∃cH:Addr→Role,cH=(fun(a:Nat)=>if a < s.heap.objs.size then ρ a else if a=(e:Nat) then Role.own else if a=(d:Nat) then Role.own else if h'.objs.size≤a then Role.free else Role.gr):=⟨_,rfl⟩
 have re:cH e=.own:=by
  rw[kY];show(if(e:Nat) < s.heap.objs.size then ρ e else if(e:Nat)=e then Role.own else _)=_;rw[aR (pV.mpr he),bE rfl]
 have rd:cH d=.own:=by
  rw[kY];show(if(d:Nat) < s.heap.objs.size then ρ d else if(d:Nat)=e then Role.own else if(d:Nat)=d then Role.own else _)=_;rw[aR (pV.mpr hd),aR RN,bE rfl]
 have le:@LT.lt Nat _ e h'.objs.size:=eZ ge;have ld:@LT.lt Nat _ d h'.objs.size:=eZ gd;have old:∀(b:Addr) o,s.heap.get? b=some o→cH b=ρ b:=fun b o q=>by rw[kY];exact bE (eZ q)
 have c:mI ρ cH x s.heap h':=⟨k,fun b o _ q=>old b o q,fun(a:Nat) ha=>by
  have ha:h'.objs.size≤a:=ha;have l:s.heap.objs.size≤h'.objs.size:=Nat.le_of_lt (C3 he le);rw[kY]
  show(if a < s.heap.objs.size then ρ a else if a=(e:Nat) then Role.own else if a=(d:Nat) then Role.own else if h'.objs.size≤a then Role.free else Role.gr)=Role.free
  rw[aR (by omega),aR (by omega),aR (by omega),bE ha]⟩
 have hb:ρ x≠.base:=by rw[rx];exact fun h=>by cases h
 refine⟨B.fresh he,B.fresh hd,ex,dx,cH,B.chg (s':={s with heap:=h',toks:=n}) c hb (fun t i q=>dG (B.tok t i q) hn) (dG B.pos hn) rfl rfl (fun p hp=>?_) B.nodup fun a q ha=>?_⟩
 .refine(B.frames p hp).keep .refl c (fun q=>?_) (by rw[rx];exact fun h=>by cases h)
  have:=(B.frames p hp).role;rw[q,rx] at this;cases this
 .by_cases q1:a=d
  .subst q1;rw[aA] at ha;cases ha;exact⟨rd,gd,nd⟩
  rw[aT q1] at ha
  by_cases q2:a=e
  .subst q2;rw[aA] at ha;cases ha;exact⟨re,ge,ne⟩
  rw[aT q2] at ha
  by_cases q3:a=x
  .subst q3;rw[aA] at ha;cases ha
   have:cH a=.own:=by rw[kY];exact(bE lx).trans rx
   exact⟨by rw[aR ht];exact this,gx,nx⟩
  rw[aT q3] at ha
  exact(B.lay _ _ ha).keep .refl c hb (by rw[rx];exact fun h=>by cases h) q3
theorem yW{c:Cx}{m:Map}{y:Str}{d:Addr}{v:aC}{t:Nat}(ht:t≠0)(ha:c.act=true)(hy:c.env.cells.lookup y=some d)(hk:c.env.kindOf y=some .cell)(hm:m.lookup y=some v):Leave S c m H (upd H d (.cell t v)):=fun ρ τ s B=>by
 have F:=B.frames _ (.head _);have FC:=(F.nsOk rfl).act ha;obtain⟨rd,u,⟨o,ho,S3⟩,e,w⟩:=FC.cells y d hy hk;have rd:ρ d=.dict c.env.locals:=rd;have eu:=e v hm;cases u with
 |none=>cases eu
 |some u=>
  have eu:er u=v:=gZ eu;obtain⟨cH,kY⟩:∃cH:Addr→Role,cH=(fun b=>if b=d then Role.own else ρ b):=⟨_,rfl⟩
  have iW:=B.pop;have rl:ρ c.env.locals=.frame:=F.role;have nd:c.env.locals∉c.fs.map (·.env.locals):=(fX.mp B.nodup).1;have c0:mI ρ cH d s.heap s.heap:=⟨fun b o _ q=>q,fun b o hb q=>by rw[kY];exact aR hb,fun a ha=>by
   rw[kY]
   have:a≠d:=fun q=>by subst q;exact absurd (eZ ho) (pV.mpr ha)
   exact(aR this).trans (B.free a ha)⟩
  refine⟨cH,iW.chg (s':=s) c0 (by rw[rd];exact fun h=>by cases h) B.tok B.pos rfl rfl (fun p hp=>?_) iW.nodup fun a q ha=>?_⟩
  .refine(iW.frames p hp).keep .refl c0 (fun q=>?_) (fun q=>?_)
   .have:=(iW.frames p hp).role;rw[q,rd] at this;cases this
   .rw[rd] at q
    exact nd (eF.mpr ⟨p,hp,(Role.dict.inj q).symm⟩)
  .by_cases q1:a=d
   .subst q1;rw[aA] at ha;cases ha
    exact⟨o,u,ht,by rw[kY];exact bE rfl,ho,S3,eu,w u rfl⟩
   rw[aT q1] at ha
   refine(B.lay _ _ ha).keep .refl c0 (by rw[rd];exact fun h=>by cases h) (fun q=>?_) q1
   rw[rd] at q;have r1:=(B.lay _ _ ha).role;rw[←Role.dict.inj q,rl] at r1;split at r1<;>cases r1
theorem tN{c:Cx}{m:Map}{y:Str}{d:Addr}(B:Body S ρ τ (c.top m) H s)(ha:c.act=true)(hy:c.env.cells.lookup y=some d)(hk:c.env.kindOf y=some .cell):H d=none:=by
 have F:=B.frames _ (.head _);obtain⟨rd,_⟩:=((F.nsOk rfl).act ha).cells y d hy hk;have rd:ρ d=.dict c.env.locals:=rd;cases q:H d with
 |none=>rfl
 |some o=>
  have r1:=(B.lay _ _ q).role;rw[rd] at r1;split at r1<;>cases r1
def vd(K:Frag)(c P:Addr):Bool:=match K.lookup c with
 |some o=>(match o.cls,o.data with
  | .type ty,.fields vs=>ty=="code"&&c != P&&(match(vs[11]?:Option aC),vs.getD 11 Value.none,vs.getD 18 .none,vs.getD 7 .none,vs.getD 9 .none,vs.getD 10 .none with
   |some (.ref Pt),.ref Pr,.str _ _,.int _ _,.bool _,.int _ _=>Pt==P&&Pr==P
   |_,_,_,_,_,_=>false)
  |_,_=>false)
 |none=>false
theorem tM{K:Frag}{h:Heap}{c P:Addr}(X:K.In h)(e:vd K c P=true):CodeHd h c P:=by
 unfold vd at e;split at e
 .rename_i o ho
  split at e
  .rename_i ty vs hc hd
   rw[dJ,dJ,dE] at e;obtain⟨⟨e1,e2⟩,e3⟩:=e;split at e3
   .rename_i Pt Pr f tf fl tg b tx tt h1 h2 h3 h4 h5 h6
    rw[dJ,dE,dE] at e3;obtain⟨rfl,rfl⟩:=e3;subst e1;exact⟨o,vs,f,tf,fl,tg,b,tx,tt,X _ _ ho,hc,hd,h1,h2,h3,h4,h5,h6,by simpa using e2⟩
   .cases e3
  .cases e
 .cases e
def kN:Stmt→Arguments
 | .FunctionDef _ a .. =>a
 |_=>⟨[],[],none,[],[],none,[]⟩
def jF:Stmt→List Stmt
 | .FunctionDef _ _ b .. =>b
 |_=>[]
def eK:Stmt→Scope
 | .FunctionDef _ _ _ _ _ _ s .. =>s
 |_=>{kind:=.module,names:=[],isGenerator:=false,isCoroutine:=false,more:=[]}
def Bw:Stmt→Pos
 | .FunctionDef _ _ _ _ _ _ _ _ _ p=>p
 |_=>⟨0,0,0,0⟩
def JK:aC→Bool
 | .none=>true
 |_=>false
def A1(fd:FuncData):Bool:=fd.params.posonlyargs.isEmpty&&fd.params.kwonlyargs.isEmpty&&fd.params.vararg.isNone&&fd.params.kwarg.isNone&&JK fd.defaults
def Ro:Stmt:=.Pass ⟨0,0,0,0⟩
noncomputable def iz:Stmt:=((jF ((pw.main.body[146]?).getD Ro))[0]?).getD Ro
noncomputable def G7:Stmt:=((jF ((pw.main.body[146]?).getD Ro))[1]?).getD Ro
def OD:Stmt→Pos×Pos
 | .Return (some (.Name _ p)) q=>(p,q)
 |_=>(⟨0,0,0,0⟩,⟨0,0,0,0⟩)
theorem MO:iz=.FunctionDef "deed" (kN iz) (jF iz) [] none [] (eK iz) none "deed" (Bw iz):=by kernel_rfl
theorem Ib:G7=.Return (some (.Name "deed" (OD G7).1)) (OD G7).2:=by kernel_rfl
theorem QK:PlainDefTree "deed" (kN iz) (jF iz) (eK iz) (Bw iz):=fun env=>by kernel_rfl
theorem MP:(eK iz).names.map (fun p=>(p.1,p.2==.free))=[(("world_own":Str),false),("values",false),("found",false),("at",false),("notes",true),("isinstance",false),("int",false),("NIL",false),("tuple",false)]:=by kernel_rfl
theorem Ul(env:Env):closureFor (eK iz) env=(do let a←cellOf env "notes";pure [(("notes":Str),a)]):=by
 have e:closureFor (eK iz) env=(do
   let mut cs:=[]
   for (name,kind) in (eK iz).names.map (fun p=>(p.1,p.2==.free)) do
    if kind=true then cs:=(name,←cellOf env name)::cs
   return cs):=by
  unfold closureFor;dsimp only;rw[List.forIn_map]
 rw[e,MP]
 simp[uB,pE]
theorem Uk:docOf (jF iz)=none:=by kernel_rfl
theorem V7:(kN iz).kwonlyargs=[]:=by kernel_rfl
abbrev C6:Addr:=2015
abbrev eb:Addr:=2011
theorem Yr(P:Params):(iN (KK P) 2016).map (fun fd=>(fd.body,ix (KK P) fd,fd.code,fd.scope.names.lookup ("notes":Str),fd.scope.names.lookup ("deed":Str),A1 fd,fd.params.args.map (·.arg)))=
 some (.stmts [iz,G7],true,.ref C6,some .cell,some .local,true,[("notes":Str)]):=by kernel_rfl
theorem V8(P:Params):vd (KK P) C6 eb=true:=by kernel_rfl
variable{c:Cx}{vs:aB}{m:Map}{n:Nat}{E:Addr→Map→AH→Prop}{Q:aC→aB→Map→AH→Prop}
structure yJ(fd:FuncData)(c' d:Addr)(q:Str):Prop where
 body:fd.body=.stmts (jF iz)
 scope:fd.scope=eK iz
 params:fd.params=kN iz
 globals:fd.globals=mainGlobals
 builtins:fd.builtins=builtinsNs
 closure:fd.closure=[(("notes":Str),d)]
 code:fd.code=.ref c'
 qual:fd.qualname=q
 dflt:fd.defaults=.none
theorem Ga{d:Addr}{t:Nat}{q:Str}(hg:c.env.globals=mainGlobals)(Q7:c.env.code=.ref C6)(ri:c.env.cells.lookup ("notes":Str)=some d)(hP:H eb=some (.raw t (tabObj #[])))(ht:t≠0)
  (h:∀f c' fd oc us tt ps,H f=none→H c'=none→f≠c'→f≠eb→c'≠eb→yJ fd c' d q→oc.data=.fields us→us[1]?=some (.str q tt)→Q (.ref f) (.ref f::vs) m (upd (upd (upd H eb (.raw t (tabObj ps))) c' (.raw 1 oc)) f (.raw 1 {cls:=.type "function",data:=.func fd}))):
  T S c vs m H (makeFunction "deed" q (kN iz) (.stmts (jF iz)) (eK iz) c.env [] [] [] (Bw iz) (Bw iz).line) Q E:=fun s ⟨ρ,τ,b,w⟩=>by
 have lay:=b.lay _ _ hP;have WR:s.heap.get? eb=some (tabObj #[]):=lay.2.1;have rP:ρ eb=.own:=lay.1.trans (aR ht);have nb:∀a o,S.base.get? a=some o→a≠eb:=fun a o e q=>by have:=b.base a o e;rw[q,rP] at this;cases this
 have hH:=tM b.X (V8 S.w.params);have tab:=hH.tab WR;have cod:=hH.code WR trivial;have hc:closureFor (eK iz) c.env=pure [(("notes":Str),d)]:=by
  rw[Ul];unfold cellOf;rw[ri];rfl
 have key:wpAny (model pw S.w) c.A (makeFunction "deed" q (kN iz) (.stmts (jF iz)) (eK iz) c.env [] [] [] (Bw iz) (Bw iz).line) (fun v s'=>∃(h':Heap) (tk:Nat) (c':Addr) (fd:FuncData) (ps:Array aC),v=.ref h'.objs.size∧s'={s with heap:=h'.push {cls:=.type "function",data:=.func fd},toks:=tk}∧
   (∀b o,b≠eb→s.heap.get? b=some o→h'.get? b=some o)∧h'.get? eb=some (tabObj ps)∧@LE.le Nat _ s.heap.objs.size c'∧@LT.lt Nat _ c' h'.objs.size∧(∃oc us tt,h'.get? c'=some oc∧oc.cls=.type "code"∧oc.data=.fields us∧us[1]?=some (.str q tt))∧yJ fd c' d q) (fun _ _=>False) s:=by
  simp only[makeFunction,V7,ux,List.filterMap_nil,yp,if_true,pure_bind,hc,Uk,List.isEmpty_cons,tn,tv];refine aM (wpAny_newTextTuple ?_);refine aM (wpAny_functionCodeX Q7 (cod.push _) (tab.keeps fun a o e=>mu _ e) rfl fun c' h' tk hx RJ fT qh UJ UC ⟨P',hP',aa7,QS⟩=>?_)
  have kp:∀b o,b≠eb→s.heap.get? b=some o→h'.get? b=some o:=fun b o hb e=>hx b o hb (mu _ e)
  obtain⟨go,ges,gep,ge1,ge2⟩:=b.g;have gne:mainGlobals≠eb:=by
   obtain⟨o,_,_,e,_⟩:=S.g;exact nb _ _ e
  have iZ:h'.Ns c.env.globals S.mg:=by rw[hg];exact⟨go,ges,gep,kp _ _ gne ge1,ge2⟩
  obtain⟨bm,bo,Z7,UT,WO,Pg,Q5,Q6⟩:=S.bmain;have Vf:=kp _ _ (nb _ _ WO) (b.old.get_of_cls WO (by rw[Pg];exact fun h=>by cases h))
  refine aM (wpAny_builtinsFor iZ Z7 UT Vf Pg Q5 Q6 ?_);refine aM (wpAny_nsGet iZ ?_);refine zC ?_ (by size_fits)
  obtain⟨c₂,oc,us,tt,e2,g2,d2,i2⟩:=UJ;cases e2;obtain⟨⟨oc',us',g3,cl3,_,_⟩,_⟩:=QS;rw[g2] at g3;cases g3;refine⟨h',tk,c',_,_,rfl,rfl,kp,UC.2,?_,fT,⟨oc,us,tt,g2,cl3,d2,i2⟩,?_⟩
  .refine gX ?_ RJ
   show s.heap.objs.size≤(s.heap.push _).objs.size;rw[xJ];omega
  .exact⟨rfl,rfl,rfl,hg,rfl,rfl,rfl,rfl,rfl⟩
 refine dD (wpAny_toks key) (fun v s' ⟨gj,h',tk,c',fd,ps,hv,hs,kp,gp,RJ,fT,⟨oc,us,tt,gc,cl,dc,ic⟩,Ot⟩=>?_) fun _ _ h=>h.2.elim
 subst hs hv;have Jk:@LE.le Nat _ s.heap.objs.size h'.objs.size:=Nat.le_of_lt (C3 RJ fT);obtain⟨n1,n2,n3,n4,cH,b'⟩:=b.Ig (h':=h'.push {cls:=.type "function",data:=.func fd}) (n:=tk) (e:=c') (d:=h'.objs.size) (o₁:=tabObj ps) (oe:=oc) (od:={cls:=.type "function",data:=.func fd}) hP ht (fun a o ha e=>mu _ (kp a o ha e)) (mu _ gp) (fun h=>by cases h.1) gj RJ Jk (q9 fT) (mu _ gc) (mM _ rfl) (fun h=>by rw[cl] at h;cases h.1) (fun h=>by cases h.1)
 exact⟨.ref h'.objs.size::vs,m,_,fun _ h=>.tail _ h,⟨cH,τ,b',cR (u:=.ref h'.objs.size) trivial w⟩,h _ _ _ _ _ _ _ n2 n1 (q9 fT) n4 n3 Ot dc ic⟩
def lK:List ((Addr×Str)×Nat):=[((92,("number":Str)),0),((92,("name":Str)),1),((119,("car":Str)),0),((119,("cdr":Str)),1),((141,("codes":Str)),0),((141,("spans":Str)),1),((183,("number":Str)),0),((183,("name":Str)),1),((183,("least":Str)),2),((183,("most":Str)),3),((183,("deed":Str)),4),((343,("functions":Str)),0),((343,("plists":Str)),1),((418,("name":Str)),0),((418,("least":Str)),1),((418,("most":Str)),2),((418,("work":Str)),3),((458,("name":Str)),0),((458,("least":Str)),1),((458,("most":Str)),2),((458,("work":Str)),3),((580,("defaults":Str)),0),((580,("automatic":Str)),1),((580,("permanent":Str)),2),((636,("values":Str)),0),((671,("sort":Str)),0),((671,("own":Str)),1),((671,("symbol":Str)),2),((671,("value":Str)),3),((734,("world":Str)),0),((734,("rows":Str)),1),((817,("form":Str)),0),((869,("head":Str)),0),((869,("forms":Str)),1),((869,("found":Str)),2),((869,("is_waiting":Str)),3),((895,("forms":Str)),0),((895,("place":Str)),1),((928,("forms":Str)),0),((928,("depth":Str)),1),((928,("place":Str)),2),((1132,("world":Str)),0),((1132,("limit":Str)),1),((1132,("frames":Str)),2),((1132,("floor":Str)),3),((1132,("value":Str)),4),((1132,("steps":Str)),5),((1132,("stack":Str)),6),((1435,("pairs":Str)),0),((1435,("body":Str)),1),((1435,("values":Str)),2),((1435,("is_waiting":Str)),3),((1573,("body":Str)),0),((1573,("depth":Str)),1),((1573,("tag":Str)),2),((1613,("cleanup":Str)),0),((1613,("depth":Str)),1),((1613,("is_cleaning":Str)),2),((1613,("kept":Str)),3),((1613,("leaving":Str)),4),((1653,("variable":Str)),0),((1653,("handlers":Str)),1),((1653,("success":Str)),2),((1653,("depth":Str)),3),((1686,("variable":Str)),0),((1686,("forms":Str)),1),((1686,("value":Str)),2),((1921,("rows":Str)),0),((1921,("names":Str)),1),((1970,("obarray":Str)),0),((1970,("cells":Str)),1),((1970,("variables":Str)),2),((1970,("bare":Str)),3),((1970,("current":Str)),4),((1970,("machine":Str)),5),((1970,("last_marker":Str)),6)]
def gS:List ((Addr×Str)×Addr):=[((343,("function_of":Str)),284),((343,("is_defined":Str)),291),((343,("set_function":Str)),298),((343,("indirect_function":Str)),305),((343,("plist_of":Str)),312),((343,("set_plist":Str)),319),((343,("place_of":Str)),326),((343,("get":Str)),333),((343,("put":Str)),340),((418,("shown":Str)),408),((418,("begin":Str)),415),((418,("kind":Str)),382),((418,("same_as":Str)),215),((458,("shown":Str)),441),((458,("kind":Str)),448),((458,("begin":Str)),455),((458,("same_as":Str)),215),((580,("default_value":Str)),542),((580,("set_default":Str)),549),((580,("make_automatic":Str)),556),((580,("make_permanent":Str)),563),((580,("is_automatic":Str)),570),((580,("is_permanent":Str)),577),((636,("is_local":Str)),605),((636,("names":Str)),612),((636,("make_local":Str)),619),((636,("kill":Str)),626),((636,("kill_all":Str)),633),((734,("depth":Str)),710),((734,("bind":Str)),717),((734,("note":Str)),724),((734,("unbind_to":Str)),731),((817,("step":Str)),814),((817,("leave":Str)),779),((817,("wants":Str)),786),((869,("step":Str)),866),((869,("leave":Str)),779),((869,("wants":Str)),786),((895,("step":Str)),892),((895,("leave":Str)),779),((895,("wants":Str)),786),((928,("step":Str)),918),((928,("leave":Str)),925),((928,("wants":Str)),786),((1132,("tell":Str)),984),((1132,("push":Str)),991),((1132,("pop":Str)),998),((1132,("done":Str)),1005),((1132,("refuse_count":Str)),1012),((1132,("value_of":Str)),1019),((1132,("set_value":Str)),1026),((1132,("look":Str)),1033),((1132,("forms_of":Str)),1040),((1132,("look_at_call":Str)),1047),((1132,("expanded":Str)),1054),((1132,("function_of":Str)),1061),((1132,("apply":Str)),1068),((1132,("enter":Str)),1075),((1132,("leave":Str)),1082),((1132,("throw":Str)),1087),((1132,("signal":Str)),1094),((1132,("step":Str)),1101),((1132,("run":Str)),1108),((1132,("eval":Str)),1115),((1132,("call":Str)),1122),((1132,("reset":Str)),1129),((1435,("step":Str)),1432),((1435,("leave":Str)),779),((1435,("wants":Str)),786),((1573,("step":Str)),1556),((1573,("wants":Str)),1563),((1573,("leave":Str)),1570),((1613,("step":Str)),1603),((1613,("leave":Str)),1610),((1613,("wants":Str)),786),((1653,("step":Str)),1643),((1653,("leave":Str)),1650),((1653,("wants":Str)),786),((1686,("step":Str)),1683),((1686,("leave":Str)),779),((1686,("wants":Str)),786),((1921,("intern":Str)),1869),((1921,("soft":Str)),1876),((1921,("fresh":Str)),1883),((1921,("by_number":Str)),1890),((1921,("is_interned":Str)),1897),((1921,("unintern":Str)),1904),((1921,("all_names":Str)),1911),((1921,("size":Str)),1918),((1970,("symbol":Str)),1946),((1970,("own":Str)),1953),((1970,("fresh_marker":Str)),1960),((1970,("put_functions":Str)),1967)]
def lZ:List (Addr×Addr):=[(38,35),(92,89),(119,116),(141,138),(183,180),(343,277),(418,401),(458,434),(580,535),(636,598),(671,668),(734,703),(817,807),(869,859),(895,885),(928,911),(1132,977),(1435,1425),(1573,1549),(1613,1596),(1653,1636),(1686,1676),(1921,1862),(1970,1939)]
def wh:List Addr:=[21,35,55,68,75,89,116,138,159,180,201,208,215,230,237,244,249,256,263,277,284,291,298,305,312,319,326,333,340,354,368,375,382,401,408,415,434,441,448,455,474,481,488,502,507,514,521,535,542,549,556,563,570,577,598,605,612,619,626,633,647,654,668,682,689,703,710,717,724,731,752,772,779,786,807,814,833,840,859,866,885,892,911,918,925,944,956,963,977,984,991,998,1005,1012,1019,1026,1033,1040,1047,1054,1061,1068,1075,1082,1087,1094,1101,1108,1115,1122,1129,1143,1150,1157,1171,1178,1190,1197,1204,1218,1225,1237,1251,1258,1270,1277,1284,1298,1305,1317,1331,1338,1350,1364,1371,1383,1390,1397,1404,1411,1425,1432,1444,1458,1465,1472,1484,1489,1494,1499,1504,1511,1516,1523,1528,1535,1549,1556,1563,1570,1582,1596,1603,1610,1622,1636,1643,1650,1662,1676,1683,1695,1702,1707,1714,1721,1728,1735,1742,1749,1756,1770,1777,1789,1796,1810,1817,1829,1836,1843,1848,1862,1869,1876,1883,1890,1897,1904,1911,1918,1939,1946,1953,1960,1967,1980,1987,1992,1997,2002,2009,2016,2023,2030]
theorem yD:∀P:Params,(lK.all fun x=>ow (KK P) x.1.1 x.1.2 x.2&&storeOk (KK P) x.1.1 x.1.2 x.2)=true:=fun P=>by kernel_rfl
theorem Ic:∀P:Params,(gS.all fun x=>yy (KK P) x.1.1 x.1.2 x.2)=true:=fun P=>by kernel_rfl
theorem Ie:∀P:Params,(lZ.all fun x=>x.1==38||yz (KK P) x.1 x.2)=true:=fun P=>by kernel_rfl
def ER(K:Frag)(a:Addr):Bool:=(clsIn K a).isSome&&specialIn K (.ref a) "__call__"==some (some (.builtin "type.__call__"))
theorem M5:∀P:Params,(lZ.all fun x=>ER (KK P) x.1)=true:=fun P=>by kernel_rfl
theorem MU:∀P:Params,(wh.filter fun a=>!(iN (KK P) a).isSome)=[]:=fun P=>by kernel_rfl
structure XC where
 S:aN
 n:Nat
 hd:bP
 sc:List (Str×NameKind)
 act:Bool
 up:Map
 fr:List (Str×Addr)
abbrev KQ:=aC→AH→Prop
abbrev EM:=Addr→Map→AH→Prop
def XC.look(X:XC)(m:Map)(H:AH)(x:Str)(Q:aC→Prop):Prop:=match X.sc.lookup x with
 |some .local=>match m.lookup x with
  |some v=>Q v
  |none=>False
 |some .cell=>match(if X.act=true then m else X.up).lookup x with
  |some v=>Q v
  |none=>False
 |some .globalImplicit=>match tz.lookup x with
  |some v=>Q (er v)
  |none=>match rJ.lookup x with
   |some v=>Q v
   |none=>False
 |some .free=>match X.fr.lookup x with
  |some d=>(x==("__classdict__":Str))=false∧(match H d with
   |some (.cell _ v)=>Q v
   |_=>False)
  |none=>False
 |_=>False
def aL(H:AH)(o:aC)(n:Str)(Q:aC→Prop):Prop:=match o with
 | .ref a=>match H a with
  |some (.inst _ C fs)=>(match lK.lookup (C,n) with
   |some i=>(match fs[i]? with
    |some v=>handedIn v=true∧Q v
    |none=>False)
   |none=>False)
  |some (.exc _ _ fs)=>(match((names 38).zip fs).lookup n with
   |some v=>handedIn v=true∧(n="symbol"∨n="data")∧Q v
   |none=>False)
  |_=>False
 |_=>False
def bU(H:AH)(o:aC)(n:Str)(v:aC)(Q:AH→Prop):Prop:=match o with
 | .ref a=>match H a with
  |some (.inst t C fs)=>(match lK.lookup (C,n) with
   |some i=>t≠0∧i≤fs.length∧Q (upd H a (.inst t C (jS fs i v)))
   |none=>False)
  |some (.raw t o)=>n="symbol"∧t≠0∧(∃tt,o=xM tt)∧Q (upd H a (.exc t 0 [v]))
  |some (.exc t k [sG])=>n="data"∧Q (upd H a (.exc t k [sG,v]))
  |_=>False
 |_=>False
def getM(H:AH)(o:aC)(n:Str)(Q:aC→aB→Prop):Prop:=match o with
 | .ref a=>match H a with
  |some (.inst _ C fs)=>(match gS.lookup (C,n) with
   |some f=>Q (.ref f) [o]
   |none=>match lK.lookup (C,n) with
    |some i=>(match fs[i]? with
     |some v=>handedIn v=true∧Q v []
     |none=>False)
    |none=>False)
  |some (.list _ _)=>if n="append" then Q (.builtin "list.append") [o] else if n="pop" then Q (.builtin "list.pop") [o] else if n="extend" then Q (.builtin "list.extend") [o] else False
  |some (.aX _ _)=>if n="get" then Q (.builtin "dict.get") [o] else False
  |some (.bR _ _)=>if n="get" then Q (.builtin "dict.get") [o] else False
  |_=>False
 |_=>False
def Ha(H:AH)(v:aC)(Q:KQ):Prop:=match v with
 | .ref a=>match H a with
  |some (.list _ xs)=>Q (.int xs.length 0) H
  |some (.tup _ xs)=>Q (.int xs.length 0) H
  |_=>False
 |_=>False
def uW(H:AH)(u k:aC)(Q:Bool→Prop):Prop:=iC.contains k=true∧match sH H u with
 |some t=>Q (xE t k)
 |none=>False
def qC(H:AH)(l u:aC)(Q:KQ):Prop:=match l with
 | .ref a=>match H a with
  |some (.list t xs)=>t≠0∧xs.length < 1000000∧Q .none (upd H a (.list t (xs++[u])))
  |_=>False
 |_=>False
def Ky(H:AH)(l:aC)(Q:KQ):Prop:=match l with
 | .ref a=>∃t xs y,H a=some (.list t (xs++[y]))∧t≠0∧Q y (upd H a (.list t xs))
 |_=>False
def zF(H:AH)(l:aC)(Q:KQ):Prop:=match l with
 | .ref a=>match H a with
  |some (.list t (y::xs))=>t≠0∧Q y (upd H a (.list t xs))
  |_=>False
 |_=>False
def qz(H:AH)(l r:aC)(Q:KQ):Prop:=match l,r with
 | .ref a,.ref b=>match H a,H b with
  |some (.list t xs),some (.list _ ys)=>t≠0∧xs.length+ys.length≤1000000∧Q .none (upd H a (.list t (xs++ys)))
  |_,_=>False
 |_,_=>False
def tB(H:AH)(d k u:aC)(Q:KQ):Prop:=match d with
 | .ref a=>match H a,k with
  |some (.aX _ es),.int i _=>Q ((valueAt es i).getD u) H
  |some (.bR _ es),.str x _=>Q ((valueAt es x).getD u) H
  |_,_=>False
 |_=>False
def K7(hd:bP)(H:AH)(l:aC)(Q:KQ):Prop:=match l with
 | .ref a=>∃(t:Nat) (bs:List Bool),H a=some (.list t (bs.map Value.bool))∧Clean hd H∧Q (.bool (bs.any id)) H
 |_=>False
def uf(H:AH)(l:aC)(Q:KQ):Prop:=match l with
 | .ref a=>match H a with
  |some (.list _ xs)=>∃r,r≠0∧∀d,H d=none→Q (.ref d) (upd H d (.tup r xs))
  |_=>False
 |_=>False
def um(H:AH)(args:aB)(Q:KQ):Prop:=match args with
 |[.int i _]=>∀d a b c,H d=none→Q (.ref d) (upd H d (.raw 1 (fz 0 i 1 a b c)))
 |[.int i _,.int j _,.int k _]=>k≠0∧Builtin.divisionGoesByPylong (j - i) k=false∧∀d a b c,H d=none→Q (.ref d) (upd H d (.raw 1 (fz i j k a b c)))
 |_=>False
def jd(H:AH)(a:Addr):Bool:=wh.contains a||(lZ.lookup a).isSome||(match H a with
 |some (.raw _ o)=>(match o.data with
  | .func _=>true
  |_=>false)
 |_=>false)
def iJ(X:XC)(H:AH)(f:aC)(args:aB)(Q:KQ)(E:EPost):Prop:=match f with
 | .ref a=>jd H a=true∧Sat X.S X.n X.hd f args H Q E
 | .builtin id=>
  if id="len" then(match args with
   |[v]=>Ha H v Q
   |_=>False)
  else if id="isinstance" then(match args with
   |[u,k]=>uW H u k fun b=>Q (.bool b) H
   |_=>False)
  else if id="list.append" then(match args with
   |[l,u]=>qC H l u Q
   |_=>False)
  else if id="list.pop" then(match args with
   |[l]=>Ky H l Q
   |[l,.int i _]=>if i=0 then zF H l Q else False
   |_=>False)
  else if id="list.extend" then(match args with
   |[l,r]=>qz H l r Q
   |_=>False)
  else if id="dict.get" then(match args with
   |[d,k,u]=>tB H d k u Q
   |_=>False)
  else if id="any" then(match args with
   |[l]=>K7 X.hd H l Q
   |_=>False)
  else if id="ord" then(match args with
   |[.str x _]=>x.length=1∧Q (.int (x.cps.getD 0 0:Nat) 0) H
   |_=>False)
  else False
 | .type ty=>
  if ty="tuple" then(match args with
   |[l]=>uf H l Q
   |_=>False)
  else if ty="range" then um H args Q
  else False
 |_=>False
def ml:Nat→AH→aC→Option PyData
 |0,_,_=>none
 |k+1,H,v=>match v with
  | .none=>some .none
  | .bool b=>some (.bool b)
  | .int i _=>some (.int i)
  | .str x _=>some (.str x)
  | .ref a=>(match H a with
   |some (.list _ xs)=>(xs.mapM (ml k H)).map .list
   |some (.tup _ xs)=>(xs.mapM (ml k H)).map .tuple
   |_=>none)
  |_=>none
def bD(H:AH)(op:CmpOp)(a b:aC)(Q:Bool→Prop):Prop:=match op with
 | .Is=>match Ct H a b with
  |some r=>Q r
  |none=>False
 | .IsNot=>match Ct H a b with
  |some r=>Q (!r)
  |none=>False
 | .In=>match b with
  | .ref l=>(match H l with
   |some (.list _ xs)=>(match tW a xs with
    |some r=>Q r
    |none=>False)
   |some (.tup _ xs)=>(match tW a xs with
    |some r=>Q r
    |none=>False)
   |some (.aX _ es)=>(match a with
    | .int k _=>Q (valueAt es k).isSome
    |_=>False)
   |_=>False)
  |_=>False
 | .NotIn=>match b with
  | .ref l=>(match H l with
   |some (.list _ xs)=>(match tW a xs with
    |some r=>Q (!r)
    |none=>False)
   |_=>False)
  |_=>False
 |op=>match a,b with
  | .int i _,.int j _=>(match KX op i j with
   |some r=>Q r
   |none=>False)
  | .str x _,.str y _=>(match op with
   | .Eq=>Q (x==y)
   | .NotEq=>Q (x != y)
   |_=>False)
  | .ref l,.ref r=>(match op,H l,H r with
   | .NotEq,some (.list _ xs),some (.list _ [])=>Q (!xs.isEmpty)
   | .NotEq,_,_=>∃k da db,ml k H (.ref l)=some da∧ml k H (.ref r)=some db∧da.canLay0=true∧db.canLay0=true∧da.depth≤40∧Q (!PyData.eqv da db)
   |_,_,_=>False)
  |_,_=>False
def dK(H:AH)(op:Operator)(a b:aC)(Q:KQ):Prop:=match op,a,b with
 | .Add,.int i _,.int j _=>Q (.int (i+j) 0) H
 | .Sub,.int i _,.int j _=>Q (.int (i - j) 0) H
 | .Mult,.int i _,.int j _=>i.natAbs < 2 ^ 64∧Q (.int (i * j) 0) H
 | .Mod,.int i _,.int j _=>j≠0∧Q (.int (i.fmod j) 0) H
 | .FloorDiv,.int i _,.int j _=>j≠0∧Builtin.divisionGoesByPylong i j=false∧Q (.int (i.fdiv j) 0) H
 | .Pow,.int i _,.int j _=>0≤j∧(Builtin.Int.intBits i:Int) * j≤2 ^ 27∧Q (.int (i ^ j.toNat) 0) H
 | .Add,.ref l,.ref r=>(match H l,H r with
  |some (.list _ xs),some (.list _ ys)=>xs.length+ys.length≤1000000∧∃t,t≠0∧∀d,H d=none→Q (.ref d) (upd H d (.list t (xs++ys)))
  |some (.tup _ xs),some (.tup _ ys)=>xs≠[]∧ys≠[]∧xs.length+ys.length≤1000000∧∃t,t≠0∧∀d,H d=none→Q (.ref d) (upd H d (.tup t (xs++ys)))
  |_,_=>False)
 |_,_,_=>False
def aW(H:AH)(v:aC)(Q:Bool→Prop):Prop:=match truth H v with
 |some b=>Q b
 |none=>False
def aS(H:AH)(o i:aC)(Q:aC→Prop):Prop:=match o,i with
 | .ref a,.int k _=>match H a with
  |some (.list _ xs)=>(match vE xs k with
   |some y=>Q y
   |none=>False)
  |some (.tup _ xs)=>(match vE xs k with
   |some y=>Q y
   |none=>False)
  |_=>False
 |_,_=>False
def cJ(H:AH)(o i v:aC)(Q:AH→Prop):Prop:=match o with
 | .ref a=>match H a,i with
  |some (.list t xs),.int k _=>t≠0∧0≤k∧k.toNat < xs.length∧Q (upd H a (.list t (xs.set k.toNat v)))
  |some (.aX t es),.int k _=>es.length≤1000000∧Q (upd H a (.aX t (stored es k v)))
  |some (.bR t es),.str k _=>es.length≤1000000∧Q (upd H a (.bR t (stored es k v)))
  |_,_=>False
 |_=>False
def bJ(H:AH)(us:aB)(Q:KQ):Prop:=us.length≤1000000∧∃t,t≠0∧∀a,H a=none→Q (.ref a) (upd H a (.list t us))
def bM(H:AH)(us:aB)(Q:KQ):Prop:=us.length≤1000000∧∃t,t≠0∧∀a,H a=none→Q (.ref a) (upd H a (.tup t us))
def pW(H:AH)(Q:KQ):Prop:=∃o:AO,((∃t,t≠0∧o=.aX t [])∨∃t,t≠0∧o=.bR t [])∧∀a,H a=none→Q (.ref a) (upd H a o)
def ja:List (Option Expr)→Option (bW)
 |[]=>some []
 |some (.Constant (.str x) _ _)::ks=>(ja ks).map (x::·)
 |_=>none
def oo(H:AH)(a:Addr)(Gq:List (Str×aC))(Q:KQ):Prop:=match H a with
 |some (.bR t es)=>es.length+Gq.length≤1000000∧Q (.ref a) (upd H a (.bR t (Gq.foldl (fun es p=>stored es p.1 p.2) es)))
 |_=>False
def uE(ev:Expr→Map→AH→KQ→EM→Prop):List Expr→Map→AH→(aB→AH→Prop)→EM→Prop
 |[],_,H,Q,_=>Q [] H
 |e::es,m,H,Q,E=>ev e m H (fun v H=>uE ev es m H (fun vs H=>Q (v::vs) H) E) E
def eM(H:AH)(o l:aC)(Q:KQ):Prop:=match o,l with
 | .ref a,.int k _=>match H a with
  |some (.list _ xs)=>0≤k∧∃r,r≠0∧∀d,H d=none→Q (.ref d) (upd H d (.list r (xs.drop k.toNat)))
  |_=>False
 |_,_=>False
def gb(H:AH)(o u:aC)(Q:KQ):Prop:=match o,u with
 | .ref a,.int k _=>match H a with
  |some (.list _ xs)=>0≤k∧∃r,r≠0∧∀d,H d=none→Q (.ref d) (upd H d (.list r (xs.take k.toNat)))
  |_=>False
 | .str x _,.int k _=>x.length≤1000000∧Q (.str (Txt.slice x none (some k)) 0) H
 |_,_=>False
def cS(H:AH)(hd:bP)(v:aC)(k:Nat)(Q:aB→Prop):Prop:=match v with
 | .ref a=>match H a with
  |some (.tup _ xs)=>xs.length=k∧Clean hd H∧Q xs
  |some (.list _ xs)=>xs.length=k∧Clean hd H∧Q xs
  |_=>False
 |_=>False
def G2(H:AH)(hd:bP)(v:aC)(Q:Int→Prop):Prop:=match v with
 | .ref a=>∃(t:Nat) (is:bQ),H a=some (.list t (is.map fun i=>Value.int i 0))∧hd=none∧Q is.sum
 |_=>False
def vO:Nat→(aB→Prop)→Prop
 |0,P=>P []
 |k+1,P=>∀u,vO k fun us=>P (u::us)
def jj(m:Map)(us:aB):Map:=List.zipWith (fun p u=>(p.1,u)) m us
def projM(m m':Map):aB:=m.map fun p=>(m'.lookup p.1).getD .none
def oq(X:XC)(x:Str):Bool:=X.sc.lookup x==some .local||(X.act&&X.sc.lookup x==some .cell)
def ip(X:XC):List Expr→aB→Map→Option Map
 |[],[],m=>some m
 | .Name x _::ts,v::vs,m=>if oq X x=true then ip X ts vs (put m x v) else none
 |_,_,_=>none
def iX(us:aB)(f:aC→aB→Prop):Prop:=match us with
 |[]=>False
 |u::r=>f u r
def jB(us:aB)(P:Prop):Prop:=match us with
 |[]=>P
 |_=>False
def ub(X:XC):List Expr→aB→Map→(Map→Prop)→Prop
 |[],us,m,Q=>jB us (Q m)
 | .Name x _::ts,us,m,Q=>iX us fun u r=>oq X x=true∧ub X ts r (put m x u) Q
 |_,_,_,_=>False
def qm(X:XC)(H:AH)(t:Expr)(v:aC)(m:Map)(Q:Map→Prop):Prop:=match t with
 | .Name x _=>oq X x=true∧Q (put m x v)
 | .Tuple ts _ _=>cS H X.hd v ts.length fun us=>ub X ts us m Q
 |_=>False
def vK:Flow→Flow
 | .ret v=>.ret (er v)
 |f=>f
def uC:Expr→Bool
 | .Set .. =>false
 |_=>true
def zJ:Expr→Bool
 | .Slice .. =>false
 |_=>true
def ou:Expr→Bool
 | .Call (.Name id _) [] [] _=>id != "super"
 |_=>true
def CD(sc names:List (Str×NameKind)):List (Str×NameKind):=names.map fun(n,k)=>if(k==.free&&sc.lookup n==some .cell)=true then(n,.cell) else(n,k)
def me(X:XC)(scope:Scope)(iter:Expr):Bool:=
 X.act&&uC iter&&decide (scope.kind=.function)&&scope.names.all (fun y=>y.2 != .cell&&(y.2 != .free||X.sc.lookup y.1==some .cell)&&(y.2 != .local||scope.names.lookup y.1==some .local))
def XC.comp(X:XC)(scope:Scope)(m:Map):XC:={X with sc:=CD X.sc scope.names,act:=false,up:=m,fr:=[]}
abbrev su:EM:=fun _ _ _=>False
def dz(es:List Expr):Bool:=es.all fun
 | .Starred .. =>false
 |_=>true
def lY(b:Bool)(P:Prop):Prop:=match b with
 |true=>P
 |false=>False
def Bv(b:Bool)(P:Prop):Prop:=match b with
 |true=>False
 |false=>P
theorem bX{b:Bool}{P:Prop}(h:lY b P):b=true∧P:=by
 cases b
 .exact h.elim
 .exact⟨rfl,h⟩
theorem iy{b:Bool}{P:Prop}(h:Bv b P):b=false∧P:=by
 cases b
 .exact⟨rfl,h⟩
 .exact h.elim
def oZ(op:BoolOp)(c:Bool)(A B:Prop):Prop:=match op with
 | .And=>(match c with
  |false=>A
  |true=>B)
 | .Or=>(match c with
  |false=>B
  |true=>A)
def gk(op:BoolOp)(c:Bool)(F T R:Prop):Prop:=match op with
 | .And=>(match c with
  |false=>F
  |true=>R)
 | .Or=>(match c with
  |false=>R
  |true=>T)
mutual
def ee:Nat→XC→Expr→Map→AH→KQ→EM→Prop
 |0,_,_,_,_,_,_=>False
 |k+1,X,e,m,H,Q,E=>match e with
  | .Constant c _ _=>(match c with
   | .none=>Q .none H
   | .bool b=>Q (.bool b) H
   | .int i=>Q (.int i 0) H
   | .str x=>Q (.str x 0) H
   |_=>False)
  | .Name id _=>Bv (id==("__debug__":Str)) (X.look m H id fun v=>Q v H)
  | .IfExp t a b _=>Cr k X t m H (fun c H=>if c=true then ee k X a m H Q E else ee k X b m H Q E) E
  | .BoolOp op [a,b] _=>ee k X a m H (fun v H=>aW H v fun c=>oZ op c (Q v H) (ee k X b m H Q E)) E
  | .BoolOp op [a,b,d] _=>ee k X a m H (fun v H=>aW H v fun c=>oZ op c (Q v H) (ee k X b m H (fun v H=>aW H v fun c=>oZ op c (Q v H) (ee k X d m H Q E)) E)) E
  | .BinOp (.Call (.Name f p) [x] [] _) .Mod r _=>lY (dz [x]) (Bv (f==("__debug__":Str)) (X.look m H f fun fv=>(match fv with
   | .builtin id=>if id="abs" then ee k X x m H (fun v H=>match v with
     | .int i _=>ee k X r m H (fun w H=>match w with
      | .int j _=>j≠0∧Q (.int ((if i < 0 then -i else i).fmod j) 0) H
      |_=>False) E
     |_=>False) E
    else if id="sum" then ee k X x m H (fun v H=>G2 H X.hd v fun i=>ee k X r m H (fun w H=>match w with
     | .int j _=>j≠0∧Q (.int (i.fmod j) 0) H
     |_=>False) E) E
    else ee k X x m H (fun v H=>iJ X H (.builtin id) [v] (fun a H=>ee k X r m H (fun b H=>dK H .Mod a b Q) E) fun x H=>E x m H) E
   |fv=>ee k X x m H (fun v H=>iJ X H fv [v] (fun a H=>ee k X r m H (fun b H=>dK H .Mod a b Q) E) fun x H=>E x m H) E)))
  | .BinOp l op r _=>ee k X l m H (fun a H=>ee k X r m H (fun b H=>dK H op a b Q) E) E
  | .UnaryOp .USub x _=>ee k X x m H (fun v H=>match v with
   | .int i _=>Q (.int (-i) 0) H
   |_=>False) E
  | .Compare l [op] [r] _=>Bv (behindInMarks op r) (ee k X l m H (fun a H=>ee k X r m H (fun b H=>bD H op a b fun c=>Q (.bool c) H) E) E)
  | .List elts _=>lY (dz elts) (n9 k X elts m H (fun us H=>bJ H us Q) E)
  | .Tuple elts _ _=>lY (dz elts) (n9 k X elts m H (fun us H=>bM H us Q) E)
  | .Dict [] [] _=>pW H Q
  | .Dict ks vals _=>(match ja ks with
   |some xs=>lY (Nat.beq ks.length vals.length&&!ks.isEmpty&&Nat.ble ks.length 15) (∃t,t≠0∧∀a,H a=none→uE (fun e m H Q E=>ee k X e m H Q E) vals m (upd H a (.bR t [])) (fun us H=>oo H a (xs.zip us) Q) E)
   |none=>False)
  | .ListComp elt [⟨target,iter,ifs,0⟩] scope _=>lY (me X scope iter) (ee k X iter m H (fun x H=>∃(src:Src) (xs:aB) (I:Nat→aB→AH→Prop),fp H x xs src∧xs.length≤1000000∧I 0 [] H∧(∀i bN aE,I i bN aE→src.ok aE xs)∧
   (∀i bN aE v,I i bN aE→xs[i]?=some v→qm (X.comp scope m) aE target v [] fun m₂=>l9 k (X.comp scope m) ifs m₂ aE (fun ok aH=>if ok=true then ee k (X.comp scope m) elt m₂ aH (fun y aO=>I (i+1) (bN++[y]) aO) su else I (i+1) bN aH) su)∧
   ∀bN aE,I xs.length bN aE→Clean X.hd aE∧∃t,t≠0∧∀D,aE D=none→Q (.ref D) (upd aE D (.list t bN))) E)
  | .Attribute v attr _=>lY (ou v) (ee k X v m H (fun o H=>aL H o attr fun v=>Q v H) E)
  | .Subscript v (.Slice (some l) none none _) _=>ee k X v m H (fun o H=>ee k X l m H (fun l H=>eM H o l Q) E) E
  | .Subscript v (.Slice none (some u) none _) _=>ee k X v m H (fun o H=>ee k X u m H (fun u H=>gb H o u Q) E) E
  | .Subscript v i _=>lY (zJ i) (ee k X v m H (fun o H=>ee k X i m H (fun i H=>aS H o i fun v=>Q v H) E) E)
  | .Call (.Attribute o name ap) args [] p=>lY (ou o) (lY (dz args) (lY (decide (args.length < 30)) (lY (ap.endLine==p.line) (ee k X o m H (fun ov H=>getM H ov name fun f first=>n9 k X args m H (fun us H=>iJ X H f (first++us) Q fun x H=>E x m H) E) E))))
  | .Call (.Name f p) args [] _=>lY (dz args) (lY (decide (args.length < 30)) (ee k X (.Name f p) m H (fun fv H=>n9 k X args m H (fun us H=>iJ X H fv us Q fun x H=>E x m H) E) E))
  |_=>False
def n9:Nat→XC→List Expr→Map→AH→(aB→AH→Prop)→EM→Prop
 |0,_,_,_,_,_,_=>False
 |k+1,X,es,m,H,Q,E=>match es with
  |[]=>Q [] H
  |e::es=>ee k X e m H (fun v H=>n9 k X es m H (fun vs H=>Q (v::vs) H) E) E
def Cr:Nat→XC→Expr→Map→AH→(Bool→AH→Prop)→EM→Prop
 |0,_,_,_,_,_,_=>False
 |k+1,X,e,m,H,Q,E=>match e with
  | .UnaryOp .Not x _=>Cr k X x m H (fun b H=>Q (!b) H) E
  | .BoolOp op es _=>CJ k X op es m H Q E
  | .Compare l [op] [r] _=>Bv (behindInMarks op r) (ee k X l m H (fun a H=>ee k X r m H (fun b H=>bD H op a b fun c=>Q c H) E) E)
  | .IfExp .. =>False
  | .Compare .. =>False
  |e=>ee k X e m H (fun v H=>aW H v fun c=>Q c H) E
def CJ:Nat→XC→BoolOp→List Expr→Map→AH→(Bool→AH→Prop)→EM→Prop
 |0,_,_,_,_,_,_,_=>False
 |k+1,X,op,es,m,H,Q,E=>match es with
  |[]=>Q (op==.And) H
  |e::es=>Cr k X e m H (fun c H=>gk op c (Q false H) (Q true H) (CJ k X op es m H Q E)) E
def l9:Nat→XC→List Expr→Map→AH→(Bool→AH→Prop)→EM→Prop
 |0,_,_,_,_,_,_=>False
 |k+1,X,es,m,H,Q,E=>match es with
  |[]=>Q true H
  |[e]=>Cr k X e m H Q E
  |_=>False
end
theorem fE{α:Type}[BEq α][LawfulBEq α]{β:Type}{l:List (α×β)}{x:α}{v:β}(h:l.lookup x=some v):(x,v)∈l:=by
 induction l with
 |nil=>cases h
 |cons p r ih=>
  obtain⟨n,u⟩:=p;rw[eP] at h;split at h
  .rename_i q;cases h;rw[eq_of_beq q];exact .head _
  .exact .tail _ (ih h)
structure gy(X:XC)(c:Cx):Prop where
 kind:c.env.scope.kind=.function
 names:∀x,c.env.kindOf x=X.sc.lookup x
 glob:c.env.globals=mainGlobals
 Oz:c.env.builtins=builtinsNs
 ok:c.Ok X.n X.hd
 act:c.act=X.act
 up:X.act=false→∃p∈c.fs,p.act=true∧p.pin=none∧p.m=X.up∧∀x,X.sc.lookup x=some .cell→∃d,c.env.cells.lookup x=some d∧p.env.cells.lookup x=some d∧p.env.kindOf x=some .cell
 fr:∀x d,X.fr.lookup x=some d→X.sc.lookup x=some .free→c.env.cells.lookup x=some d
variable{X:XC}
theorem Ni{x:Str}{d:Addr}{t:Nat}{v:aC}{S:aN}{Q:aC→aB→Map→AH→Prop}(hk:c.env.scope.kind=.function)(hx:c.env.kindOf x=some .free)(hd:c.env.cells.lookup x=some d)(hn:(x==("__classdict__":Str))=false)(hH:H d=some (.cell t v))
  (h:∀u,er u=v→Q u (u::vs) m H):T S c vs m H (loadName c.env x) Q E:=fun s ⟨ρ,τ,b,w⟩=>by
 obtain⟨o,u,t0,r,g,S3,e,wu⟩:=b.lay _ _ hH;exact wpAny_loadName_free hk hx hd ⟨o,g,S3⟩ ⟨u::vs,m,H,fun _ h=>.tail _ h,⟨ρ,τ,b,cR wu w⟩,h u e⟩ hn
theorem vj{x:Str}{P:aC→Prop}{Q:aC→aB→Map→AH→Prop}(ok:gy X c)(h:X.look m H x P)(k:∀u aQ,P (er u)→u∈aQ→(∀v∈vs,v∈aQ)→Q u aQ m H):T X.S c vs m H (loadName c.env x) Q E:=by
 unfold XC.look at h;have nm:=ok.names x;have tl:∀(u:aC),∀v∈vs,v∈u::vs:=fun _ _ h=>.tail _ h
 split at h
 .rename_i e
  split at h
  .rename_i v hv
   exact JV ok.kind (nm.trans e) hv fun u hu=>k u _ (hu▸h) (.head _) (tl u)
  .exact h.elim
 .rename_i e
  split at h
  .rename_i v hv
   cases ha:X.act with
   |true=>
    rw[ha,bE rfl] at hv;exact Nl (ok.act.trans ha) ok.kind (nm.trans e) hv fun u hu=>k u _ (hu▸h) (.head _) (tl u)
   |false=>
    rw[ha,aR eV] at hv;obtain⟨p,hp,pa,pp,pm,pc⟩:=ok.up ha;obtain⟨d,d1,d2,d3⟩:=pc x e;exact VH hp pa pp ok.kind (nm.trans e) d1 d2 d3 (pm▸hv) fun u hu=>k u _ (hu▸h) (.head _) (tl u)
  .exact h.elim
 .rename_i e
  split at h
  .rename_i v hv
   exact Nh ok.kind (nm.trans e) ok.glob hv (k v _ h (.head _) (tl v))
  .split at h
   .rename_i v hv
    refine js (v:=v) (fun ρ τ s b=>?_) (Jc ok.kind (nm.trans e) ok.glob ok.Oz hv (k v _ ?_ (.head _) (tl v)))
    .have:=lookup_mem hv
     unfold rJ at this;simp only[bS,lF,or_false,gp,nv] at this;rcases this with ⟨-,rfl⟩|⟨-,rfl⟩|⟨-,rfl⟩|⟨-,rfl⟩|⟨-,rfl⟩|⟨-,rfl⟩|⟨-,rfl⟩|⟨-,rfl⟩|⟨-,rfl⟩|⟨-,rfl⟩|⟨-,rfl⟩<;>exact trivial
    .have:=lookup_mem hv
     unfold rJ at this;simp only[bS,lF,or_false,gp,nv] at this;rcases this with ⟨-,rfl⟩|⟨-,rfl⟩|⟨-,rfl⟩|⟨-,rfl⟩|⟨-,rfl⟩|⟨-,rfl⟩|⟨-,rfl⟩|⟨-,rfl⟩|⟨-,rfl⟩|⟨-,rfl⟩|⟨-,rfl⟩<;>exact h
   .exact h.elim
 .rename_i e
  split at h
  .rename_i d hd
   obtain⟨hn,h⟩:=h;split at h
   .rename_i t v hH
    exact Ni ok.kind (nm.trans e) (ok.fr x d hd e) hn hH fun u hu=>k u _ (hu▸h) (.head _) (tl u)
   .exact h.elim
  .exact h.elim
 .exact h.elim
theorem I8{o:aC}{n:Str}{P:aC→Prop}{Q:aC→aB→Map→AH→Prop}(h:aL H (er o) n P)(k:∀u,P (er u)→Q u (u::vs) m H):T X.S c vs m H (getAttr o n true) Q E:=by
 unfold aL at h;split at h
 .rename_i a ho
  rw[dM ho];split at h
  .rename_i t C fs hx
   split at h
   .rename_i i hi
    split at h
    .rename_i v hv
     have e:=dC.mp (yD X.S.w.params) _ (fE hi);exact ET hx (jY.mp e).1 hv h.1 fun u hu=>k u (hu▸h.2)
    .exact h.elim
   .exact h.elim
  .rename_i t kk fs hx
   split at h
   .rename_i v hv
    obtain⟨h1,h2,h3⟩:=h;have e:=jY.mp (Ik X.S.w.params);rcases h2 with rfl|rfl
    .exact Bg hx e.1 hv h1 fun u hu=>k u (hu▸h3)
    .exact Bg hx e.2 hv h1 fun u hu=>k u (hu▸h3)
   .exact h.elim
  .exact h.elim
 .exact h.elim
theorem IV{o u:aC}{n:Str}{P:AH→Prop}{Q:Unit→aB→Map→AH→Prop}(hu:u∈vs)(h:bU H (er o) n (er u) P)(k:∀H',P H'→Q () vs m H'):T X.S c vs m H (setAttr o n u) Q E:=by
 unfold bU at h;split at h
 .rename_i a ho
  rw[dM ho];split at h
  .rename_i t C fs hx
   split at h
   .rename_i i hi
    obtain⟨t0,hle,h⟩:=h;have e:=dC.mp (yD X.S.w.params) _ (fE hi);exact Nd hx t0 (jY.mp e).2 hle hu (k _ h)
   .exact h.elim
  .rename_i t o' hx
   obtain⟨rfl,t0,⟨tt,rfl⟩,h⟩:=h;exact IQ t0 hx hu (k _ h)
  .rename_i t kk sG hx
   obtain⟨rfl,h⟩:=h;exact IP hx hu (k _ h)
  .exact h.elim
 .exact h.elim
theorem oB{o:aC}{n:Str}{id ty:String}{pl:Sem Bool}{S:aN}{Q:aC×aB→aB→Map→AH→Prop}(pa:PlainAttrs ty)(slot:Slot ty n id)(SA:typeOf (.builtin id)=pure (.type "method_descriptor"))
  (ha:∀s,St S (c.top m) H vs s→s.TypeIs o ty∧∀a,o=.ref a→∃ob,s.heap.get? a=some ob∧ob.dict=none) (h:Q (.builtin id,[o]) vs m H):T S c vs m H (getMethod o n pl) Q E:=og fun s B=>
 getMethod_builtin (ha s B).1 pa slot SA (ha s B).2 ⟨B,h⟩
theorem I5{o:aC}{n:Str}{pl:Sem Bool}{P:aC→aB→Prop}{Q:aC×aB→aB→Map→AH→Prop}(te:o∈vs)(h:getM H (er o) n P)(k:∀f first aQ,P (er f) (first.map er)→f∈aQ→(∀v∈first,v∈aQ)→(∀v∈vs,v∈aQ)→Q (f,first) aQ m H):T X.S c vs m H (getMethod o n pl) Q E:=by
 unfold getM at h;have bi:∀(id:String),∀ρ τ s,Body X.S ρ τ (c.top m) H s→WV τ (.builtin id):=fun _ _ _ _ _=>trivial
 split at h
 .rename_i a ho
  have ho:=dM ho;subst ho;split at h
  .rename_i t C fs hx
   split at h
   .rename_i f hf
    have e:=dC.mp (Ic X.S.w.params) _ (fE hf);exact js (v:=.ref f) (fun _ _ _ _=>trivial) (IZ hx e (k (.ref f) [.ref a] _ h (.head _) (fun v hv=>by rw[dQ.mp hv];exact .tail _ te) fun v hv=>.tail _ hv))
   .split at h
    .rename_i i hi
     split at h
     .rename_i v hv
      have e:=dC.mp (yD X.S.w.params) _ (fE hi);exact I0 hx (jY.mp e).1 hv h.1 fun u hu=>k u [] _ (hu▸h.2) (.head _) (fun v hv=>by cases hv) fun v hv=>.tail _ hv
     .exact h.elim
    .exact h.elim
  .rename_i t xs hx
   have ty:∀aQ s,St X.S (c.top m) H aQ s→s.TypeIs (.ref a) "list"∧∀b,Value.ref a=.ref b→∃ob,s.heap.get? b=some ob∧ob.dict=none:=fun aQ s ⟨ρ,τ,b,w⟩=>by
    obtain⟨arr,kk,g,_⟩:=b.list hx;exact⟨⟨_,g,rfl⟩,fun b e=>by cases e;exact⟨_,g,rfl⟩⟩
   have fin:∀id,P (.builtin id) [.ref a]→Q (.builtin id,[.ref a]) (.builtin id::vs) m H:=fun id hp=>k (.builtin id) [.ref a] _ hp (.head _) (fun v hv=>by rw[dQ.mp hv];exact .tail _ te) fun v hv=>.tail _ hv
   split at h
   .rename_i e;subst e;exact js (bi _) (oB yo PySem.F.slot_list_append PySem.F.type_list_append (ty _) (fin _ h))
   .split at h
    .rename_i e;subst e;exact js (bi _) (oB yo PySem.F.slot_list_pop PySem.F.type_list_pop (ty _) (fin _ h))
    .split at h
     .rename_i e;subst e;exact js (bi _) (oB yo PySem.F.slot_list_extend PySem.F.type_list_extend (ty _) (fin _ h))
     .exact h.elim
  .rename_i t es hx
   split at h
   .rename_i e;subst e
    refine js (bi _) (oB PySem.F.plainAttrs_dict PySem.F.slot_dict_get PySem.F.type_dict_get (fun s ⟨ρ,τ,b,w⟩=>?_) (k (.builtin "dict.get") [.ref a] _ h (.head _) (fun v hv=>by rw[dQ.mp hv];exact .tail _ te) fun v hv=>.tail _ hv))
    obtain⟨t0,ks,D,_⟩:=b.dI hx;exact⟨D.mapOf.typeIs,D.mapOf.noDict⟩
   .exact h.elim
  .rename_i t es hx
   split at h
   .rename_i e;subst e
    refine js (bi _) (oB PySem.F.plainAttrs_dict PySem.F.slot_dict_get PySem.F.type_dict_get (fun s ⟨ρ,τ,b,w⟩=>?_) (k (.builtin "dict.get") [.ref a] _ h (.head _) (fun v hv=>by rw[dQ.mp hv];exact .tail _ te) fun v hv=>.tail _ hv))
    obtain⟨t0,ks,D,_⟩:=b.dS hx;exact⟨D.mapOf.typeIs,D.mapOf.noDict⟩
   .exact h.elim
  .exact h.elim
 .exact h.elim
variable{hd:bP}
abbrev Sub(vs aQ:aB):Prop:=∀v∈vs,v∈aQ
theorem Sub.tl{vs:aB}{u:aC}:Sub vs (u::vs):=fun _ h=>.tail _ h
theorem Sub.rf{vs:aB}:Sub vs vs:=fun _ h=>h
theorem xa{u:aC}{P:Bool→Prop}{Q:Bool→aB→Map→AH→Prop}(h:aW H (er u) P)(k:∀b,P b→Q b vs m H):T S c vs m H (truthy u) Q E:=by
 unfold aW at h;split at h
 .rename_i b hb;exact Bd hb (k b h)
 .exact h.elim
theorem vh{α:Type}{t:Sem α}{b:Bool}{Q:α→aB→Map→AH→Prop}(h:T S c (.bool b::vs) m H t Q E):T S c vs m H t Q E:=js (v:=.bool b) (fun _ _ _ _=>trivial) h
theorem yd{f:aC→Option PyData}{h:Heap}(step:∀u d,f (er u)=some d→∃as,Reads h u d as):∀{us:aB} {ds:cO},(us.map er).mapM f=some ds→∃as,ReadsAll h us ds as
 |[],ds,e=>by
  simp at e;subst e;exact⟨_,.nil⟩
 |u::us,ds,e=>by
  rw[fj,jX] at e;obtain⟨d,h1,e⟩:=Option.bind_eq_some_iff.mp e;obtain⟨xA,h2,e⟩:=Option.bind_eq_some_iff.mp e;cases e;obtain⟨a1,r1⟩:=step u d h1;obtain⟨a2,r2⟩:=yd step h2;exact⟨_,.cons r1 r2⟩
theorem oF{fs:List cT}{ρ:Addr→Role}{τ:Tok→Option Int}{s:aK}(b:Body S ρ τ fs H s):∀{j:Nat} {u:aC} {d:PyData},ml j H (er u)=some d→∃as,Reads s.heap u d as
 |0,_,_,e=>by cases e
 |j+1,u,d,e=>by
  unfold ml at e;split at e
  .rename_i hu;rw[u0 hu];cases e;exact⟨_,.none⟩
  .rename_i hu;rw[A6 hu];cases e;exact⟨_,.bool _⟩
  .rename_i i t hu
   obtain⟨t,rfl⟩:∃tk,u=.int i tk:=by
    cases u<;>simp only[er,reduceCtorEq,pT] at hu;exact⟨_,by rw[hu.1]⟩
   cases e;exact⟨_,.int _ _⟩
  .rename_i x t hu
   obtain⟨t,rfl⟩:∃tk,u=.str x tk:=by
    cases u<;>simp only[er,reduceCtorEq,tr] at hu;exact⟨_,by rw[hu.1]⟩
   cases e;exact⟨_,.str _ _⟩
  .rename_i a hu
   rw[dM hu];split at e
   .rename_i t xs hx
    obtain⟨ds,h1,rfl⟩:=ey.mp e;obtain⟨arr,n,g,e1,_⟩:=b.list hx;rw[←e1] at h1;obtain⟨as,r⟩:=yd (fun u d h=>oF b h) h1
    exact⟨_,.list g rfl rfl r⟩
   .rename_i t xs hx
    obtain⟨ds,h1,rfl⟩:=ey.mp e;obtain⟨arr,n,g,e1,_⟩:=b.tup hx;rw[←e1] at h1;obtain⟨as,r⟩:=yd (fun u d h=>oF b h) h1
    exact⟨_,.tuple g rfl rfl r⟩
   .cases e
  .cases e
theorem FY{a b:aC}{j:Nat}{da db:PyData}(ok:c.Ok n hd)(r1:ml j H (er a)=some da)(r2:ml j H (er b)=some db)(c1:da.canLay0=true)(c2:db.canLay0=true)(c3:da.depth≤40)(h:Q (.bool (!PyData.eqv da db)) vs m H):T S c vs m H (compareOp .NotEq a b) Q E:=og fun s B=>by
 have B':=B;obtain⟨ρ,τ,b,w⟩:=B;obtain⟨as,ra⟩:=oF b r1;obtain⟨bs,rb⟩:=oF b r2;refine compareNe_reads ra rb c1 c2 ?_ ⟨B',h⟩
 have:=ok.room.2
 have h2:min da.depth db.depth≤da.depth:=Nat.min_le_left _ _;omega
theorem EU{op:CmpOp}{a b:aC}{P:Bool→Prop}(ok:c.Ok n hd)(ha:a∈vs)(hb:b∈vs)(h:bD H op (er a) (er b) P)(k:∀r,P r→Q (.bool r) vs m H):T S c vs m H (compareOp op a b) Q E:=by
 unfold bD at h;split at h
 .split at h
  .rename_i r hr
   exact aP (xd ha hb hr fun _=>bV (k r h))
  .exact h.elim
 .split at h
  .rename_i r hr
   exact aP (xd ha hb hr fun _=>bV (k _ h))
  .exact h.elim
 .split at h
  .rename_i l hl
   rw[dM hl];split at h
   .rename_i t xs hx
    split at h
    .rename_i r hr;exact Ge hx hr (k r h)
    .exact h.elim
   .rename_i t xs hx
    split at h
    .rename_i r hr;exact I3 hx hr (k r h)
    .exact h.elim
   .rename_i t es hx
    split at h
    .rename_i i _ hi
     obtain⟨tk,rfl⟩:∃tk,a=.int i tk:=by
      cases a<;>simp only[er,reduceCtorEq,pT] at hi;exact⟨_,by rw[hi.1]⟩
     exact Ng hx (k _ h)
    .exact h.elim
   .exact h.elim
  .exact h.elim
 .split at h
  .rename_i l hl
   rw[dM hl];split at h
   .rename_i t xs hx
    split at h
    .rename_i r hr;exact xr hx hr (k _ h)
    .exact h.elim
   .exact h.elim
  .exact h.elim
 .rename_i n1 n2 n3 n4
  split at h
  .rename_i i _ j _ hi hj
   obtain⟨t,rfl⟩:∃tk,a=.int i tk:=by
    cases a<;>simp only[er,reduceCtorEq,pT] at hi;exact⟨_,by rw[hi.1]⟩
   obtain⟨u,rfl⟩:∃tk,b=.int j tk:=by
    cases b<;>simp only[er,reduceCtorEq,pT] at hj;exact⟨_,by rw[hj.1]⟩
   split at h
   .rename_i r hr;exact Gh hr (k r h)
   .exact h.elim
  .rename_i x _ y _ hi hj
   obtain⟨t,rfl⟩:∃tk,a=.str x tk:=by
    cases a<;>simp only[er,reduceCtorEq,tr] at hi;exact⟨_,by rw[hi.1]⟩
   obtain⟨u,rfl⟩:∃tk,b=.str y tk:=by
    cases b<;>simp only[er,reduceCtorEq,tr] at hj;exact⟨_,by rw[hj.1]⟩
   split at h
   .exact I9 (k _ h)
   .exact IX (k _ h)
   .exact h.elim
  .rename_i l r hl hr
   rw[dM hl,dM hr];split at h
   .rename_i h1 h2;exact Ca ok h1 h2 (k _ h)
   .obtain⟨j,da,db,r1,r2,c1,c2,c3,h⟩:=h
    exact FY ok (a:=.ref l) (b:=.ref r) r1 r2 c1 c2 c3 (k _ h)
   .exact h.elim
  .exact h.elim
theorem du{v:aC}{i:Int}{t:Tok}(h:er v=.int i t):∃u,v=.int i u:=by
 cases v<;>simp only[er,reduceCtorEq,pT] at h;exact⟨_,by rw[h.1]⟩
theorem qA{v:aC}{x:Str}{t:Tok}(h:er v=.str x t):∃u,v=.str x u:=by
 cases v<;>simp only[er,reduceCtorEq,tr] at h;exact⟨_,by rw[h.1]⟩
theorem EV{op:Operator}{a b:aC}{P:KQ}(h:dK H op (er a) (er b) P)(k:∀u aQ H',P (er u) H'→u∈aQ→Sub vs aQ→Q u aQ m H'):T S c vs m H (binaryOp op a b) Q E:=by
 unfold dK at h;split at h
 .rename_i hi hj
  obtain⟨t,rfl⟩:=du hi;obtain⟨u,rfl⟩:=du hj;exact Gk fun x=>k _ _ _ h (.head _) .tl
 .rename_i hi hj
  obtain⟨t,rfl⟩:=du hi;obtain⟨u,rfl⟩:=du hj;exact FJ fun x=>k _ _ _ h (.head _) .tl
 .rename_i hi hj
  obtain⟨t,rfl⟩:=du hi;obtain⟨u,rfl⟩:=du hj;exact FZ h.1 fun x=>k _ _ _ h.2 (.head _) .tl
 .rename_i hi hj
  obtain⟨t,rfl⟩:=du hi;obtain⟨u,rfl⟩:=du hj;exact rS h.1 fun x=>k _ _ _ h.2 (.head _) .tl
 .rename_i hi hj
  obtain⟨t,rfl⟩:=du hi;obtain⟨u,rfl⟩:=du hj;exact Gg h.1 h.2.1 fun x=>k _ _ _ h.2.2 (.head _) .tl
 .rename_i hi hj
  obtain⟨t,rfl⟩:=du hi;obtain⟨u,rfl⟩:=du hj;exact FU h.1 h.2.1 fun x=>k _ _ _ h.2.2 (.head _) .tl
 .rename_i l r hl hr
  rw[dM hl,dM hr];split at h
  .rename_i h1 h2
   obtain⟨hz,t,ht,h⟩:=h;exact Cf t ht h1 h2 hz fun d hd=>k _ _ _ (h d hd) (.head _) .tl
  .rename_i h1 h2
   obtain⟨e1,e2,hz,t,ht,h⟩:=h;exact Gj t ht h1 h2 e1 e2 hz fun d hd=>k _ _ _ (h d hd) (.head _) .tl
  .exact h.elim
 .exact h.elim
theorem tb{l:Addr}{t:Nat}{xs:aB}{y:aC}{i:Int}{k:Tok}(hl:H l=some (.list t xs))(hi:vE xs i=some y)(h:∀u,er u=y→Q u (u::vs) m H):T S c vs m H (getItem (.ref l) (.int i k)) Q E:=by
 by_cases h0:0≤i
 .unfold vE at hi
  rw[bE h0] at hi;exact zf hl h0 hi h
 .intro s ⟨ρ,τ,b,w⟩
  unfold vE at hi;rw[aR h0] at hi;split at hi
  .rename_i h1
   obtain⟨arr,n,g,e,wf,z,hs⟩:=b.list hl;rw[←e,fL] at hi;obtain⟨u,hu,hr⟩:=ey.mp hi;have ez:((List.map er arr.toList).length:Int)=arr.size:=by simp
   rw[ez] at hu;refine wpAny_getItem_list_neg g.isList (by omega) (by omega) (by omega) (by rw[←oi,Int.add_comm];exact hu) ?_
   exact⟨_,m,H,fun _ h=>.tail _ h,⟨ρ,τ,b,cR (wf _ (hZ hu)) w⟩,h u hr⟩
  .cases hi
theorem I2{o i:aC}{P:aC→Prop}(h:aS H (er o) (er i) P)(k:∀u,P (er u)→Q u (u::vs) m H):v9 H (er o)=true∧T S c vs m H (getItem o i) Q E:=by
 unfold aS at h;split at h
 .rename_i a kk _ ho hi
  rw[ho];obtain⟨t,rfl⟩:=du hi;rw[dM ho];split at h
  .rename_i t xs hx
   split at h
   .rename_i y hy
    exact⟨by unfold v9;simp only[hx],tb hx hy fun u hu=>k u (hu▸h)⟩
   .exact h.elim
  .rename_i t xs hx
   split at h
   .rename_i y hy
    exact⟨by unfold v9;simp only[hx],Cc hx hy fun u hu=>k u (hu▸h)⟩
   .exact h.elim
  .exact h.elim
 .exact h.elim
theorem ze{o i u:aC}{P:AH→Prop}{Q:Unit→aB→Map→AH→Prop}(hu:u∈vs)(h:cJ H (er o) (er i) (er u) P)(k:∀H',P H'→Q () vs m H'):T S c vs m H (setItem o i u) Q E:=by
 unfold cJ at h;split at h
 .rename_i a ho
  rw[dM ho];split at h
  .rename_i t xs kk _ hx hi
   obtain⟨tk,rfl⟩:=du hi;obtain⟨h1,h2,h3,h4⟩:=h;obtain⟨j,rfl⟩:=yn h2;exact B6 hx h1 (by simpa using h3) hu (k _ (by simpa using h4))
  .rename_i t es kk _ hx hi
   obtain⟨tk,rfl⟩:=du hi;exact IU hx h.1 hu (k _ h.2)
  .rename_i t es kk _ hx hi
   obtain⟨tk,rfl⟩:=qA hi;exact IT hx h.1 hu (k _ h.2)
  .exact h.elim
 .exact h.elim
theorem nz{us:aB}{a:aC}(h:us.map er=[a]):∃u,us=[u]∧er u=a:=by
 obtain⟨u,r,rfl,hu,hr⟩:=ym.mp h;rw[List.map_eq_nil_iff] at hr;subst hr;exact⟨u,rfl,hu⟩
theorem rk{us:aB}{a b:aC}(h:us.map er=[a,b]):∃u v,us=[u,v]∧er u=a∧er v=b:=by
 obtain⟨u,r,rfl,hu,hr⟩:=ym.mp h;obtain⟨v,rfl,hv⟩:=nz hr;exact⟨u,v,rfl,hu,hv⟩
theorem wD{us:aB}{a b c:aC}(h:us.map er=[a,b,c]):∃u v w,us=[u,v,w]∧er u=a∧er v=b∧er w=c:=by
 obtain⟨u,r,rfl,hu,hr⟩:=ym.mp h;obtain⟨v,w,rfl,hv,hw⟩:=rk hr;exact⟨u,v,w,rfl,hu,hv,hw⟩
theorem Jb{X:XC}{f:aC}{us:aB}{P:KQ}{EE:EPost}(ok:c.Ok X.n X.hd)(hv:∀u∈us,u∈vs)(h:iJ X H (er f) (us.map er) P EE):
  T X.S c vs m H (call f us) (fun v aQ m' H'=>v∈aQ∧m'=m∧P (er v) H') (fun x m' H'=>m'=m∧EE x H'):=by
 unfold iJ at h;have fin:∀{u:aC} {aQ:aB} {H':AH},P (er u) H'→u∈aQ→(u∈aQ∧m=m∧P (er u) H'):=fun h1 h2=>⟨h2,rfl,h1⟩
 split at h
 .rename_i a hf
  have ZS:=dM hf;subst ZS;exact Nm ok hv h.2
 .rename_i id hf
  have hf:f=.builtin id:=by cases f<;>simp only[er,reduceCtorEq,Value.builtin.injEq] at hf;rw[hf]
  subst hf;split at h
  .rename_i e;subst e
   split at h
   .rename_i v jQ
    obtain⟨u,rfl,hu⟩:=nz jQ;unfold Ha at h;split at h
    .rename_i a
     rw[dM hu];split at h
     .rename_i t xs hx;exact Cb hx fun k=>fin h (.head _)
     .rename_i t xs hx;exact Gb hx fun k=>fin h (.head _)
     .exact h.elim
    .exact h.elim
   .exact h.elim
  split at h
  .rename_i e;subst e
   split at h
   .rename_i u k jQ
    obtain⟨u',k',rfl,hu,hk⟩:=rk jQ;unfold uW at h;obtain⟨h1,h2⟩:=h;have hm:=fM.mp h1;have SP:k'=k:=by
     unfold iC at hm;simp only[bS,lF,or_false] at hm;subst hk;cases k'<;>simp[er] at hm⊢
    subst SP;split at h2
    .rename_i tt Jj
     subst hu;exact vh (Gd hm Jj (fin h2 (.head _)))
    .exact h2.elim
   .exact h.elim
  split at h
  .rename_i e;subst e
   split at h
   .rename_i l u jQ
    obtain⟨a,b,rfl,ha,hb⟩:=rk jQ;unfold qC at h;split at h
    .rw[dM ha]
     split at h
     .rename_i t xs hx
      subst hb;exact Gi hx h.1 h.2.1 (hv _ (.tail _ (.head _))) (fin h.2.2 (.head _))
     .exact h.elim
    .exact h.elim
   .exact h.elim
  split at h
  .rename_i e;subst e
   split at h
   .rename_i l jQ
    obtain⟨a,rfl,ha⟩:=nz jQ;unfold Ky at h;split at h
    .rw[dM ha]
     obtain⟨t,xs,y,hx,ht,h⟩:=h;exact Rg hx ht fun u hu=>fin (hu▸h) (.head _)
    .exact h.elim
   .rename_i l i _ jQ
    obtain⟨a,b,rfl,ha,hb⟩:=rk jQ;split at h
    .rename_i Om
     subst Om;unfold zF at h;split at h
     .rw[dM ha]
      obtain⟨tk,rfl⟩:=du hb;split at h
      .rename_i t y xs hx
       exact Nf hx h.1 fun u hu=>fin (hu▸h.2) (.head _)
      .exact h.elim
     .exact h.elim
    .exact h.elim
   .exact h.elim
  split at h
  .rename_i e;subst e
   split at h
   .rename_i l r jQ
    obtain⟨a,b,rfl,ha,hb⟩:=rk jQ;unfold qz at h;split at h
    .rw[dM ha,dM hb]
     split at h
     .rename_i h1 h2;exact Gf h1 h2 h.1 h.2.1 (fin h.2.2 (.head _))
     .exact h.elim
    .exact h.elim
   .exact h.elim
  split at h
  .rename_i e;subst e
   split at h
   .rename_i d k u jQ
    obtain⟨a,b,e,rfl,ha,hb,he⟩:=wD jQ;subst he;unfold tB at h;split at h
    .rw[dM ha]
     split at h
     .rename_i h1
      obtain⟨tk,rfl⟩:=du hb;exact I7 h1 (hv _ (.tail _ (.tail _ (.head _)))) fun r hr=>fin (hr▸h) (.head _)
     .rename_i h1
      obtain⟨tk,rfl⟩:=qA hb;exact I6 h1 (hv _ (.tail _ (.tail _ (.head _)))) fun r hr=>fin (hr▸h) (.head _)
     .exact h.elim
    .exact h.elim
   .exact h.elim
  split at h
  .rename_i e;subst e
   split at h
   .rename_i l jQ
    obtain⟨a,rfl,ha⟩:=nz jQ;unfold K7 at h;split at h
    .rw[dM ha]
     obtain⟨t,bs,hx,cl,h⟩:=h;exact vh (Ri ok hx cl (fin h (.head _)))
    .exact h.elim
   .exact h.elim
  split at h
  .rename_i e;subst e
   split at h
   .rename_i x t jQ
    obtain⟨a,rfl,ha⟩:=nz jQ;obtain⟨tk,rfl⟩:=qA ha;exact fun s B=>PyProof.Rows.ord_of_one h.1 ⟨_,m,H,fun v hv=>.tail _ hv,B.int _ aF (q7 _),fin (u:=.int (x.cps.getD 0 0:Nat) s.toks) h.2 (.head _)⟩
   .exact h.elim
  .exact h.elim
 .rename_i ty hf
  have hf:f=.type ty:=by cases f<;>simp only[er,reduceCtorEq,Value.type.injEq] at hf;rw[hf]
  subst hf;split at h
  .rename_i e;subst e
   split at h
   .rename_i l jQ
    obtain⟨a,rfl,ha⟩:=nz jQ;unfold uf at h;split at h
    .rw[dM ha]
     split at h
     .rename_i hx
      obtain⟨r,hr,h⟩:=h;exact B5 r hr hx fun d hd=>fin (h d hd) (.head _)
     .exact h.elim
    .exact h.elim
   .exact h.elim
  split at h
  .rename_i e;subst e
   unfold um at h;split at h
   .rename_i i _ jQ
    obtain⟨a,rfl,ha⟩:=nz jQ;obtain⟨tk,rfl⟩:=du ha;exact FT fun d a b c hd=>fin (h d a b c hd) (.head _)
   .rename_i i _ j _ k _ jQ
    obtain⟨a,b,e,rfl,ha,hb,he⟩:=wD jQ;obtain⟨t1,rfl⟩:=du ha;obtain⟨t2,rfl⟩:=du hb;obtain⟨t3,rfl⟩:=du he;exact FK h.1 h.2.1 fun d a b c hd=>fin (h.2.2 d a b c hd) (.head _)
   .exact h.elim
  .exact h.elim
 .exact h.elim
theorem yZ{P:Params}{a:Addr}(h:wh.contains a=true):(iN (KK P) a).isSome=true:=by
 have hm:=fM.mp h;cases q:(iN (KK P) a).isSome with
 |true=>rfl
 |false=>
  have:a∈wh.filter fun a=>!(iN (KK P) a).isSome:=List.mem_filter.mpr ⟨hm,by rw[q];rfl⟩
  rw[MU P] at this;cases this
theorem Gc{a:Addr}{Q:Keeper→aB→Map→AH→Prop}(ha:jd H a=true)(h:∀k,Q k vs m H):T S c vs m H (keeperOf (.ref a)) Q E:=og fun s B=>by
 have B':=B;obtain⟨ρ,τ,b,w⟩:=B;unfold jd at ha;rw[kq,kq] at ha;rcases ha with (ha|ha)|ha
 .have:=yZ (P:=S.w.params) ha
  unfold iN at this;split at this
  .rename_i oc od fd sl Kb
   unfold keeperOf;refine aM (qV (b.X _ _ Kb) ?_);exact bO ⟨B',h _⟩
  .cases this
 .obtain⟨f,hf⟩:=mK.mp ha
  have e:=dC.mp (M5 S.w.params) _ (fE hf);unfold ER at e;simp only[dJ,dE] at e;obtain⟨e1,e2⟩:=e;unfold clsIn at e1;split at e1
  .rename_i oc od cd sl Kb
   unfold keeperOf;refine aM (qV (b.X _ _ Kb) ?_);refine aM ((looks_specialIn b.X e2).here ?_);exact bO ⟨B',h _⟩
  .cases e1
 .split at ha
  .rename_i t o hx
   split at ha
   .rename_i fd hd
    obtain⟨r,g,_⟩:=b.lay _ _ hx;unfold keeperOf;refine aM (qV g ?_);rw[hd];exact bO ⟨B',h _⟩
   .cases ha
  .cases ha
theorem zg{f:aC}{args:List (Bool×Sem aC)}{Q:Args→aB→Map→AH→Prop}(hp:args.any (·.1)=false)(h:T S c vs m H (spliced args) (fun us aQ m' H'=>Q ⟨us,[]⟩ aQ m' H') E):T S c vs m H (evalArgs f true args []) Q E:=fun s B=>by
 cases args with
 |nil=>
  unfold evalArgs;show wpAny _ _ (spliced [] >>= _) _ _ s;refine aM (dD (h s B) (fun us s' h'=>?_) fun _ _ x=>x)
  refine aM (bO ?_);refine ku ?_;exact aM (bO (aM (bO (bO h'))))
 |cons p r=>
  obtain⟨b,t⟩:=p;have hb:b=false:=by
   cases b with
   |false=>rfl
   |true=>simp at hp
  subst hb;exact evalArgs_plain (h s B)
def rL(H:AH)(f:aC):Prop:=match f with
 | .ref a=>jd H a=true
 |_=>True
theorem I1{f:aC}{Q:Keeper→aB→Map→AH→Prop}(hf:rL H f)(h:∀k,Q k vs m H):T S c vs m H (keeperOf f) Q E:=by
 unfold rL at hf;split at hf
 .exact Gc hf h
 .rename_i hn
  cases f<;>first|exact bV (h _)|exact absurd rfl (hn _)
theorem jh{pos:Pos}{f:aC}{first:aB}{args:List (Bool×Sem aC)}(hp:args.any (·.1)=false)
  (h:T S c vs m H (spliced args) (fun us bZ m₁ aE=>rL aE f∧T S c bZ m₁ aE (call f (first++us)) Q E) E):T S c vs m H (callWith pos f first args []) Q E:=by
 unfold callWith;refine aP (bY (zg hp (cL h (fun us bZ m₁ aE l₁ ⟨hk,hc⟩ _=>?_) fun _ _ _ h=>h)))
 refine aP (aZ fun _=>?_)
 simp only[hp,List.any_nil,Bool.or_false];have tail:∀{t:Sem aC},T S c bZ m₁ aE t Q E→T S c bZ m₁ aE (t >>= fun r=>holding [r] point >>= fun _=>pure r) Q E:=fun ht=>
  aP (cL ht (fun v aQ m' H' l q _=>aP (bY (mf fun _=>bV q))) fun _ _ _ h=>h)
 refine aP (I1 hk fun k _=>?_)
 cases k
 .dsimp only
  split
  .exact tail hc
  .exact tail (by unfold callMarked;exact ES hc)
 .dsimp only
  split
  .exact tail hc
  .exact tail (by unfold callMarked;exact ES hc)
 .exact tail hc
 .exact tail (gh hc)
theorem BK{X:XC}{f:aC}{args:aB}{P:KQ}{EE:EPost}(h:iJ X H (er f) args P EE):rL H f:=by
 unfold iJ at h;unfold rL;split
 .exact h.1
 .trivial
theorem nO{X:XC}{pos:Pos}{f:aC}{first:aB}{args:List (Bool×Sem aC)}{P:KQ}{EE:EPost}{Q:aC→aB→Map→AH→Prop}{E:Addr→Map→AH→Prop}(ok:c.Ok X.n X.hd)(hp:args.any (·.1)=false)(SX:∀v∈first,v∈vs)
  (h:T X.S c vs m H (spliced args) (fun us aQ m' H'=>(∀u∈us,u∈aQ)∧m'=m∧iJ X H' (er f) (first.map er++us.map er) P EE) E) (hQ:∀u aQ H',u∈aQ→Sub vs aQ→P (er u) H'→Q u aQ m H') (hE:∀x H',EE x H'→E x m H'):T X.S c vs m H (callWith pos f first args []) Q E:=by
 refine jh hp (cL h (fun us bZ m₁ aE l₁ ⟨hu,hm,hc⟩=>?_) fun _ _ _ h=>h)
 subst hm;rw[←gW] at hc;refine⟨BK hc,cL (Jb ok (fun u GK=>(dR.mp GK).elim (fun h=>l₁ u (SX u h)) (hu u)) hc) (fun v aQ m' H' l ⟨h1,h2,h3⟩=>?_) fun x m' H' ⟨e,q⟩=>by subst e;exact hE x H' q⟩
 subst h2;exact hQ v aQ H' h1 (fun w hw=>l w (l₁ w hw)) h3
def SE(k:Nat):Prop:=∀(X:XC) (c:Cx) (e:Expr) (m:Map) (H:AH) (Q:KQ) (E:EM) (vs:aB),gy X c→ee k X e m H Q E→T X.S c vs m H (eval e c.env) (fun v aQ m' H'=>v∈aQ∧m'=m∧Q (er v) H') E
def Ju(k:Nat):Prop:=∀(X:XC) (c:Cx) (es:List Expr) (m:Map) (H:AH) (Q:aB→AH→Prop) (E:EM) (vs:aB) (pos:Pos),gy X c→dz es=true→n9 k X es m H Q E→T X.S c vs m H (spliced (backTo pos (starEach es c.env))) (fun us aQ m' H'=>(∀u∈us,u∈aQ)∧m'=m∧Q (us.map er) H') E
def ST(k:Nat):Prop:=∀(X:XC) (c:Cx) (e:Expr) (m:Map) (H:AH) (Q:Bool→AH→Prop) (E:EM) (vs:aB),gy X c→Cr k X e m H Q E→T X.S c vs m H (isTrue e c.env (eval e c.env)) (fun b aQ m' H'=>m'=m∧Q b H') E
def R9(k:Nat):Prop:=∀(X:XC) (c:Cx) (op:BoolOp) (es:List Expr) (m:Map) (H:AH) (Q:Bool→AH→Prop) (E:EM) (vs:aB),gy X c→CJ k X op es m H Q E→T X.S c vs m H (allTrue op es c.env) (fun b aQ m' H'=>m'=m∧Q b H') E
def R8(k:Nat):Prop:=∀(X:XC) (c:Cx) (es:List Expr) (m:Map) (H:AH) (Q:Bool→AH→Prop) (E:EM) (vs:aB),gy X c→l9 k X es m H Q E→T X.S c vs m H (xU es c.env) (fun b aQ m' H'=>m'=m∧Q b H') E
end
section
variable{S:aN}{c:Cx}{vs:aB}{m:Map}{H:AH}{E:EM}
theorem d6{α:Type}{t:Sem aC}{f:aC→Sem α}{P:KQ}{Q:α→aB→Map→AH→Prop}(h:T S c vs m H t (fun v aQ m' H'=>v∈aQ∧m'=m∧P (er v) H') E)(k:∀v aQ H',v∈aQ→Sub vs aQ→P (er v) H'→T S c aQ m H' (f v) Q E):T S c vs m H (t >>= f) Q E:=
 aP (cL h (fun v aQ m' H' l ⟨h1,h2,h3⟩ _=>by subst h2;exact k v aQ H' h1 l h3) fun _ _ _ h=>h)
theorem qE{α:Type}{t:Sem Bool}{f:Bool→Sem α}{P:Bool→AH→Prop}{Q:α→aB→Map→AH→Prop}(h:T S c vs m H t (fun v aQ m' H'=>m'=m∧P v H') E)(k:∀v aQ H',Sub vs aQ→P v H'→T S c aQ m H' (f v) Q E):T S c vs m H (t >>= f) Q E:=
 aP (cL h (fun v aQ m' H' l ⟨h2,h3⟩ _=>by subst h2;exact k v aQ H' l h3) fun _ _ _ h=>h)
theorem yG{t:Sem aC}{Q:aC→aB→Map→AH→Prop}(h:T S c vs m H t (fun v aQ m' H'=>(∀i u,v≠.int i u)∧Q v (v::aQ) m' H') E):T S c vs m H t Q E:=fun s B=>
 dD (h s B) (fun v s' ⟨aQ,m',H',l,⟨ρ,τ,b,w⟩,hn,hq⟩=>⟨v::aQ,m',H',fun u hu=>.tail _ (l u hu),⟨ρ,τ,b,cR (by cases v<;>first|trivial|exact absurd rfl (hn _ _)) w⟩,hq⟩) fun _ _ h=>h
theorem Ja{X:XC}{cc:Const}{Q:KQ}(h:match cc with
   | .none=>Q .none H
   | .bool b=>Q (.bool b) H
   | .int i=>Q (.int i 0) H
   | .str x=>Q (.str x 0) H
   |_=>False):T S c vs m H (constValue c.env cc) (fun v aQ m' H'=>v∈aQ∧m'=m∧Q (er v) H') E:=by
 cases cc with
 |none=>exact js (v:=.none) (fun _ _ _ _=>trivial) (bV ⟨.head _,rfl,h⟩)
 |bool b=>exact vh (bV ⟨.head _,rfl,h⟩)
 |int i=>exact IY fun t=>⟨.head _,rfl,h⟩
 |str x=>exact yG (xc fun t=>⟨fun i u q=>(by cases q),.head _,rfl,h⟩)
 |_=>exact h.elim
theorem r8{o:Expr}{attr:Str}{env:Env}{w:Sem aC}(h:ou o=true):attributeBase o attr env w=w:=by
 unfold attributeBase;split
 .rename_i id p1 p2
  have h:(id != "super")=true:=h;rw[h]
  rfl
 .rfl
theorem iQ:∀{es:List Expr} {env:Env} {pos:Pos},dz es=true→(backTo pos (starEach es env)).any (·.1)=false
 |[],_,_,_=>rfl
 |e::r,env,pos,h=>by
  unfold dz at h;rw[uw,dJ] at h;have ih:=iQ (es:=r) (env:=env) (pos:=pos) h.2;unfold backTo at ih⊢;cases e<;>first|(cases h.1;done)|(show(false||_)=false;exact ih)
theorem tH{e:Expr}{r:List Expr}{env:Env}(h:dz (e::r)=true):starEach (e::r) env=(false,eval e env)::starEach r env∧dz r=true:=by
 unfold dz at h;rw[uw,dJ] at h;refine⟨?_,h.2⟩;cases e<;>first|(cases h.1;done)|rfl
theorem E6{k:Nat}{X:XC}(se:SE k)(st:ST k)(ok:gy X c){t a b:Expr}{pos:Pos}{Q:KQ}(h:Cr k X t m H (fun c H=>if c=true then ee k X a m H Q E else ee k X b m H Q E) E):T X.S c vs m H (eval (.IfExp t a b pos) c.env) (fun v aQ m' H'=>v∈aQ∧m'=m∧Q (er v) H') E:=by
 refine ia (t':=isTrue t c.env (eval t c.env) >>= fun x=>if x=true then eval a c.env else eval b c.env) rfl (qE (st X c t m H _ E vs ok h) fun x aQ H' l hx=>?_)
 cases x with
 |true=>rw[bE rfl] at hx⊢;exact se X c a m H' Q E aQ ok hx
 |false=>rw[aR eV] at hx⊢;exact se X c b m H' Q E aQ ok hx
theorem yS{k:Nat}{X:XC}(se:SE k)(ok:gy X c){l r:Expr}{op:CmpOp}{pos:Pos}{Q:KQ}(hm:behindInMarks op r=false)(h:ee k X l m H (fun a H=>ee k X r m H (fun b H=>bD H op a b fun c=>Q (.bool c) H) E) E):
  T X.S c vs m H (eval (.Compare l [op] [r] pos) c.env) (fun v aQ m' H'=>v∈aQ∧m'=m∧Q (er v) H') E:=by
 rw[eval_Compare1,markedBehindIn_of_false hm];refine d6 (se X c l m H _ E vs ok h) fun a bZ aE ha l₁ cN=>d6 (bY (se X c r m aE _ E bZ ok cN)) fun b cD aH hb l₂ dA=>aP (aZ fun _=>gh ?_)
 exact yG (EU ok.ok (l₂ _ ha) hb dA fun r hr=>⟨fun i u q=>(by cases q),.head _,rfl,hr⟩)
theorem yN{k:Nat}{X:XC}(se:SE k)(ok:gy X c){l r:Expr}{op:CmpOp}{pos:Pos}{w:Sem aC}{Q:Bool→AH→Prop}(hm:behindInMarks op r=false)(h:ee k X l m H (fun a H=>ee k X r m H (fun b H=>bD H op a b fun c=>Q c H) E) E):
  T X.S c vs m H (isTrue (.Compare l [op] [r] pos) c.env w) (fun b aQ m' H'=>m'=m∧Q b H') E:=by
 rw[isTrue_Compare1,markedBehindIn_of_false hm];refine d6 (se X c l m H _ E vs ok h) fun a bZ aE ha l₁ cN=>d6 (bY (se X c r m aE _ E bZ ok cN)) fun b cD aH hb l₂ dA=>aP (aZ fun _=>aP (gh ?_))
 exact EU ok.ok (l₂ _ ha) hb dA fun r hr _=>bY (Bd (b:=r) rfl ⟨rfl,hr⟩)
theorem Lr{k:Nat}{X:XC}(se:SE k)(ok:gy X c){l r:Expr}{op:Operator}{pos:Pos}{Q:KQ}(h:ee k X l m H (fun a H=>ee k X r m H (fun b H=>dK H op a b Q) E) E):
  T X.S c vs m H (eval (.BinOp l op r pos) c.env) (fun v aQ m' H'=>v∈aQ∧m'=m∧Q (er v) H') E:=by
 rw[eval_BinOp];exact d6 (se X c l m H _ E vs ok h) fun a bZ aE ha l₁ cN=>d6 (bY (se X c r m aE _ E bZ ok cN)) fun b cD aH hb l₂ dA=>aP (aZ fun _=>gh (EV dA fun u aQ H' hu hm l=>⟨hm,rfl,hu⟩))
theorem HM{k:Nat}{X:XC}(se:SE k)(ok:gy X c){v:Expr}{attr:Str}{pos:Pos}{Q:KQ}(hs:ou v=true)(h:ee k X v m H (fun o H=>aL H o attr fun v=>Q v H) E):
  T X.S c vs m H (eval (.Attribute v attr pos) c.env) (fun v aQ m' H'=>v∈aQ∧m'=m∧Q (er v) H') E:=by
 rw[arm_eval_Attribute,r8 hs];exact d6 (se X c v m H _ E vs ok h) fun o bZ aE ho l₁ cN=>aP (aZ fun _=>aP (bY (I8 cN fun u hu _=>aP (Bf fun _=>bV ⟨.head _,rfl,hu⟩))))
theorem Lq{k:Nat}{X:XC}(se:SE k)(ok:gy X c){v i:Expr}{pos:Pos}{Q:KQ}(hs:zJ i=true)(h:ee k X v m H (fun o H=>ee k X i m H (fun i H=>aS H o i fun v=>Q v H) E) E):
  T X.S c vs m H (eval (.Subscript v i pos) c.env) (fun v aQ m' H'=>v∈aQ∧m'=m∧Q (er v) H') E:=by
 rw[eval_Subscript];refine d6 (se X c v m H _ E vs ok h) fun o bZ aE ho l₁ cN=>d6 (bY (se X c i m aE _ E bZ ok cN)) fun ii cD aH hi l₂ dA=>aP (aZ fun _=>?_)
 have key:=fun(k:∀u,Q (er u) aH→_)=>I2 (S:=X.S) (c:=c) (vs:=cD) (m:=m) (E:=E) (Q:=fun r aQ m' H'=>T X.S c aQ m' H' (letTemporaryGo v o r >>= fun _=>pure r) (fun v aQ m' H'=>v∈aQ∧m'=m∧Q (er v) H') E) dA k
 obtain⟨k1,k2⟩:=key fun u hu=>aP (Bf fun _=>bV ⟨.head _,rfl,hu⟩)
 refine aP (I4 k1 fun _=>aP (ia (t':=operate [o,ii] (getItem o ii)) ?_ (gh (cL k2 (fun r aQ m' H' l q _=>q) fun _ _ _ h=>h))))
 unfold subscripted;cases i<;>first|rfl|(cases hs;done)
theorem E5{k:Nat}{X:XC}(se:SE k)(ok:gy X c){v l:Expr}{p pos:Pos}{Q:KQ}(h:ee k X v m H (fun o H=>ee k X l m H (fun l H=>eM H o l Q) E) E):
  T X.S c vs m H (eval (.Subscript v (.Slice (some l) none none p) pos) c.env) (fun v aQ m' H'=>v∈aQ∧m'=m∧Q (er v) H') E:=by
 refine sf (cL (se X c v m H _ E vs ok h) (fun o bZ m₁ aE l₁ ⟨ho,hm,cN⟩=>?_) fun _ _ _ h=>h)
 subst hm;refine cL (se X c l m₁ aE _ E bZ ok cN) (fun ll cD m₂ aH l₂ ⟨hl,hm,dA⟩=>?_) fun _ _ _ h=>h
 subst hm;refine bV ?_;unfold eM at dA;split at dA
 .rename_i a kk _ Of hk
  obtain⟨tk,rfl⟩:=du hk
  have:=dM Of
  subst this;split at dA
  .rename_i t xs hx
   obtain⟨h0,r,hr,dA⟩:=dA;obtain⟨j,rfl⟩:=yn h0;exact .inl ⟨a,t,xs,j,_,r,rfl,hx,hr,.inl ⟨tk,rfl,rfl,rfl⟩,fun d hd=>⟨.head _,rfl,dA d hd⟩⟩
  .exact dA.elim
 .exact dA.elim
theorem Hy{k:Nat}{X:XC}(se:SE k)(ok:gy X c){v u:Expr}{p pos:Pos}{Q:KQ}(h:ee k X v m H (fun o H=>ee k X u m H (fun l H=>gb H o l Q) E) E):
  T X.S c vs m H (eval (.Subscript v (.Slice none (some u) none p) pos) c.env) (fun v aQ m' H'=>v∈aQ∧m'=m∧Q (er v) H') E:=by
 refine yG (sf (cL (se X c v m H _ E vs ok h) (fun o bZ m₁ aE l₁ ⟨ho,hm,cN⟩=>?_) fun _ _ _ h=>h))
 subst hm;refine bV ?_;refine cL (se X c u m₁ aE _ E bZ ok cN) (fun ll cD m₂ aH l₂ ⟨hl,hm,dA⟩=>?_) fun _ _ _ h=>h
 subst hm;unfold gb at dA;split at dA
 .rename_i a kk _ Of hk
  obtain⟨tk,rfl⟩:=du hk
  have:=dM Of
  subst this;split at dA
  .rename_i t xs hx
   obtain⟨h0,r,hr,dA⟩:=dA;obtain⟨j,rfl⟩:=yn h0;exact .inl ⟨a,t,xs,j,_,r,rfl,hx,hr,.inr ⟨tk,rfl,rfl,rfl⟩,fun d hd=>⟨fun i u q=>(by cases q),.head _,rfl,dA d hd⟩⟩
  .exact dA.elim
 .rename_i x _ kk _ Of hk
  obtain⟨tk,rfl⟩:=du hk;obtain⟨tx,rfl⟩:=qA Of;exact .inr ⟨x,tx,kk,tk,rfl,rfl,rfl,dA.1,fun t'=>⟨fun i u q=>(by cases q),.head _,rfl,dA.2⟩⟩
 .exact dA.elim
theorem all_plain{l:List (Bool×Sem aC)}(h:l.any (·.1)=false):l.all (fun x=>!x.1)=true:=by
 rw[dC];intro x hx;rw[uv] at h
 simpa using h x hx
theorem HL{k:Nat}{X:XC}(se:SE k)(zh:Ju k)(ok:gy X c){o:Expr}{name:Str}{ap p:Pos}{args:List Expr}{Q:KQ}(hs:ou o=true)(hp:dz args=true)(hl:decide (args.length < 30)=true)(Q0:(ap.endLine==p.line)=true)
  (h:ee k X o m H (fun ov H=>getM H ov name fun f first=>n9 k X args m H (fun us H=>iJ X H f (first++us) Q fun x H=>E x m H) E) E):
  T X.S c vs m H (eval (.Call (.Attribute o name ap) args [] p) c.env) (fun v aQ m' H'=>v∈aQ∧m'=m∧Q (er v) H') E:=by
 have pl:=iQ (env:=c.env) (pos:=p) hp;have few:methodCallForm (args.length+([]:List Keyword).length) (backTo p (starEach args c.env)) (backToKw p (keywordEach [] c.env))=true:=by
  unfold methodCallForm;rw[all_plain pl]
  show(true&&true&&decide (args.length+0+0 < 30))=true
  rw[Bool.true_and,Bool.true_and]
  simpa using hl
 rw[arm_eval_Call,r8 hs];refine d6 (se X c o m H _ E vs ok h) fun ov bZ aE Zt l₁ cN=>aP (aZ fun _=>?_)
 unfold methodCall;rw[few];refine aP (bY (t:=calleeOf true o c.env ov name) ?_);unfold calleeOf;rw[bE rfl];refine I5 Zt cN fun f first cD dA hf SX l₂ _=>?_
 refine aP (ia (t':=pure p) ?_ (bV fun _=>?_))
 .unfold methodCallPos
  rw[bE (by rw[Q0];rfl)]
 .exact nO ok.ok pl SX (cL (zh X c args m aE _ E cD p ok hp dA) (fun us aQ m' H' l q=>q) fun _ _ _ h=>h) (fun u aQ H' hu l q=>⟨hu,rfl,q⟩) fun x H' q=>q
theorem E7{k:Nat}{X:XC}(se:SE k)(zh:Ju k)(ok:gy X c){f:Str}{q p:Pos}{args:List Expr}{Q:KQ}(hp:dz args=true)
  (h:ee k X (.Name f q) m H (fun fv H=>n9 k X args m H (fun us H=>iJ X H fv us Q fun x H=>E x m H) E) E):
  T X.S c vs m H (eval (.Call (.Name f q) args [] p) c.env) (fun v aQ m' H'=>v∈aQ∧m'=m∧Q (er v) H') E:=by
 have pl:=iQ (env:=c.env) (pos:=p) hp;refine ia (t':=eval (.Name f q) c.env >>= fun fv=>callWith p fv [] (backTo p (starEach args c.env)) (backToKw p (keywordEach [] c.env))) rfl ?_
 refine d6 (se X c (.Name f q) m H _ E vs ok h) fun fv bZ aE hf l₁ cN=>?_
 exact nO (first:=[]) ok.ok pl (fun v hv=>by cases hv) (cL (zh X c args m aE _ E bZ p ok hp cN) (fun us aQ m' H' l q=>q) fun _ _ _ h=>h) (fun u aQ H' hu l q=>⟨hu,rfl,q⟩) fun x H' q=>q
theorem HK{k:Nat}{X:XC}(zh:Ju k)(ok:gy X c){es:List Expr}{p:Pos}{Q:KQ}(hp:dz es=true)(h:n9 k X es m H (fun us H=>bJ H us Q) E):
  T X.S c vs m H (eval (.List es p) c.env) (fun v aQ m' H'=>v∈aQ∧m'=m∧Q (er v) H') E:=by
 refine ia (t':=standAt p >>= fun _=>spliced (backTo p (starEach es c.env)) >>= fun us=>newList us) rfl (aP (aZ fun _=>aP (cL (zh X c es m H _ E vs p ok hp h) (fun us bZ m₁ aE l₁ ⟨hu,hm,hz,t,ht,hq⟩ _=>?_) fun _ _ _ h=>h)))
 subst hm;exact B9 t ht hu (by simpa using hz) fun a ha=>⟨.head _,rfl,hq a ha⟩
theorem E4{k:Nat}{X:XC}(zh:Ju k)(ok:gy X c){es:List Expr}{n:Nat}{p:Pos}{Q:KQ}(hp:dz es=true)(h:n9 k X es m H (fun us H=>bM H us Q) E):
  T X.S c vs m H (eval (.Tuple es n p) c.env) (fun v aQ m' H'=>v∈aQ∧m'=m∧Q (er v) H') E:=by
 refine ia (t':=standAt p >>= fun _=>spliced (backTo p (starEach es c.env)) >>= fun us=>newTuple us) rfl (aP (aZ fun _=>aP (cL (zh X c es m H _ E vs p ok hp h) (fun us bZ m₁ aE l₁ ⟨hu,hm,hz,t,ht,hq⟩ _=>?_) fun _ _ _ h=>h)))
 subst hm;exact FV t ht hu (by simpa using hz) fun a ha=>⟨.head _,rfl,hq a ha⟩
theorem rN{k:Nat}{X:XC}(se:SE k)(ok:gy X c){op:BoolOp}{a:Expr}{rest:Sem aC}{p:Pos}{Q P:KQ}
  (hr:∀aQ H',Sub vs aQ→P .none H'→T X.S c aQ m H' rest (fun v aQ m' H'=>v∈aQ∧m'=m∧Q (er v) H') E)
  (h:ee k X a m H (fun v H=>aW H v fun c=>oZ op c (Q v H) (P .none H)) E) {more:List (Sem aC)} (hm:boolOp p op (eval a c.env::more)=(do
    let v←eval a c.env
    standAt p
    let t←holding [v] (truthy v)
    match op,t with
    | .And,false| .Or,true=>pure v
    |_,_=>rest)):
  T X.S c vs m H (boolOp p op (eval a c.env::more)) (fun v aQ m' H'=>v∈aQ∧m'=m∧Q (er v) H') E:=by
 rw[hm];refine d6 (se X c a m H _ E vs ok h) fun v bZ aE hv l₁ cN=>aP (aZ fun _=>aP (bY (xa cN fun b hb _=>?_)))
 cases op<;>cases b
 .exact bV ⟨hv,rfl,hb⟩
 .exact hr bZ aE l₁ hb
 .exact hr bZ aE l₁ hb
 .exact bV ⟨hv,rfl,hb⟩
theorem Hz{k:Nat}{X:XC}(se:SE k)(ok:gy X c){x:Expr}{p:Pos}{Q:KQ}(h:ee k X x m H (fun v H=>match v with
   | .int i _=>Q (.int (-i) 0) H
   |_=>False) E):
  T X.S c vs m H (eval (.UnaryOp .USub x p) c.env) (fun v aQ m' H'=>v∈aQ∧m'=m∧Q (er v) H') E:=by
 rw[arm_eval_UnaryOp];refine d6 (se X c x m H _ E vs ok h) fun v bZ aE hv l₁ cN=>aP (aZ fun _=>bY ?_)
 split at cN
 .rename_i i _ hi
  obtain⟨t,rfl⟩:=du hi;exact FX fun k=>⟨.head _,rfl,cN⟩
 .exact cN.elim
theorem E3{k:Nat}(se:SE k)(zh:Ju k):Ju (k+1):=fun X c es m H Q E vs pos ok hp h=>by
 cases es with
 |nil=>
  have h:Q [] H:=h;show T X.S c vs m H (spliced []) _ _;rw[spliced];exact bV ⟨(fun u hu=>by cases hu),rfl,h⟩
 |cons e r=>
  have h:ee k X e m H (fun v H=>n9 k X r m H (fun vs H=>Q (v::vs) H) E) E:=h
  obtain⟨h1,h2⟩:=tH (env:=c.env) hp;have e1:backTo pos (starEach (e::r) c.env)=(false,eval e c.env)::backTo pos (starEach r c.env):=by rw[h1];rfl
  rw[e1];refine fun s B=>spliced_cons (dD (se X c e m H _ E vs ok h s B) (fun v s₁ ⟨bZ,m₁,aE,l₁,iW,hv,hm,cN⟩=>?_) fun _ _ x=>x)
  subst hm;exact dD (zh X c r m₁ aE _ E bZ pos ok h2 cN s₁ iW) (fun us eH ⟨cD,m₂,aH,l₂,gv,hu,Dg,dA⟩=>⟨cD,m₂,aH,fun w hw=>l₂ w (l₁ w hw),gv,fun u GK=>by
   rcases bS.mp GK with rfl|GK
   .exact l₂ _ hv
   .exact hu u GK,Dg,dA⟩) fun e eH ⟨x,m',H',he,B',q⟩=>⟨x,m',H',he,B'.sub l₁,q⟩
theorem EZ{k:Nat}(st:ST k)(Rk:R9 k):R9 (k+1):=fun X c op es m H Q E vs ok h=>by
 cases es with
 |nil=>exact ia (t':=pure (op==.And)) rfl (bV ⟨rfl,h⟩)
 |cons e r=>
  unfold CJ at h;dsimp only at h;refine ia (t':=isTrue e c.env (eval e c.env) >>= fun t=>match(generalizing:=false) op,t with
   | .And,false=>pure false
   | .Or,true=>pure true
   |_,_=>allTrue op r c.env) (by cases op<;>rfl) (qE (st X c e m H _ E vs ok h) fun b bZ aE l₁ cN=>?_)
  cases op<;>cases b
  .exact bV ⟨rfl,cN⟩
  .exact Rk X c _ r m aE Q E bZ ok cN
  .exact Rk X c _ r m aE Q E bZ ok cN
  .exact bV ⟨rfl,cN⟩
theorem EY{k:Nat}(st:ST k):R8 (k+1):=fun X c es m H Q E vs ok h=>by
 match es,h with
 |[],h=>exact ia (t':=pure true) rfl (bV ⟨rfl,h⟩)
 |[e],h=>exact fun s B=>wpAny_tests_one (st X c e m H Q E vs ok h s B)
variable{n:Nat}{hd:bP}
theorem xi{s:aK}{M:Model}{A:Around}{E:aC→aK→Prop}{v:aC}{ty id:String}{Q:Bool→aK→Prop}(hT:s.TypeIs v ty)(sl:Slot ty "__iter__" id)(h:Q false s):wpAny M A (notIterableAtAll v) Q E s:=by
 unfold notIterableAtAll;refine aM (wpAny_specialOf hT sl.lookup ?_);exact bO h
theorem wX{A:Around}{E:aC→aK→Prop}{src:Src}{xs:aB}{it:Addr}{Q:aB→aK→Prop}(hs:src.ok H xs):∀(k i:Nat) (o:Obj) (s:aK) (vs:aB),i+k=xs.length→src.it i o→St S ([⟨c.env,m,c.act,none⟩]++dT c.env it o::c.fs) H vs s→
  (∀us o' s' aQ,us.map er=xs.drop i→(∀u∈us,u∈aQ)→Sub vs aQ→src.it xs.length o'→St S ([⟨c.env,m,c.act,none⟩]++dT c.env it o'::c.fs) H aQ s'→Q us s')→wpAny (model pw S.w) A (draw (.ref it) k) Q E s
 |0,i,o,s,vs,ZJ,hi,B,h=>by
  have:i=xs.length:=by omega
  subst this;exact bO (h [] o s vs (by simp) (fun u hu=>by cases hu) .rf hi B)
 |k+1,i,o,s,vs,ZJ,hi,B,h=>by
  have hv:xs[i]?=some xs[i]:=lr (by omega)
  unfold draw;refine aM (next_item (fr:=[⟨c.env,m,c.act,none⟩]) hi hs hv B fun u s' o' hu xF B'=>?_)
  refine aM (ku (wX hs k (i+1) o' s' (u::vs) (by omega) xF B' fun us OE eH cD jQ hm l₂ De gv=>?_))
  refine bO (h (u::us) OE eH cD ?_ (fun w hw=>?_) (fun w hw=>l₂ w (.tail _ hw)) De gv)
  .rw[fj,jQ,hu,←jo]
  .rcases bS.mp hw with rfl|hw
   .exact l₂ _ (.head _)
   .exact hm w hw
theorem w9{v:aC}{k:Nat}{P:aB→Prop}{Q:aB→aB→Map→AH→Prop}(ok:c.Ok n hd)(h:cS H hd (er v) k P)(q:∀us aQ,P (us.map er)→us.length=k→(∀u∈us,u∈aQ)→Sub vs aQ→Q us aQ m H):T S c vs m H (unpackItems v k none) Q E:=fun s B=>by
 have main:∀(a:Addr) (xs:aB) (src:Src),v=.ref a→fp H (er v) xs src→xs.length=k→Clean hd H→P xs→(∃ty id,s.TypeIs v ty∧Slot ty "__iter__" id)→wpAny (model pw S.w) c.A (unpackItems v k none) (fun a s'=>∃aQ m' H',(∀v∈vs,v∈aQ)∧St S (c.top m') H' aQ s'∧Q a aQ m' H') (fun e s'=>∃x m' H',e=.ref x∧sE S c m' H' vs x s'∧E x m' H') s:=fun a xs src hv hs hk cl hP ⟨ty,id,hT,sl⟩=>by
  unfold unpackItems;refine aM (xi hT sl ?_);rw[aR eV];refine aM (ku (nF hs B fun it o s₁ hi iW=>?_))
  dsimp only;refine aM (ku (wX (c:=c) (Src.JJ hs) k 0 o s₁ vs (by omega) hi iW fun us OE eH cD jQ hm l₂ De gv=>?_))
  rw[List.drop_zero] at jQ;have hlen:us.length=k:=by rw[←hk,←jQ,dO]
  rw[aR (by omega)]
  refine aM (ku (next_end (fr:=[⟨c.env,m,c.act,none⟩]) De (Src.JJ hs) rfl cl ok.handled gv fun fW mF=>?_))
  rw[aR (by simp)]
  exact bO ⟨cD,m,H,l₂,mF,q us cD (jQ▸hP) hlen hm l₂⟩
 unfold cS at h;split at h
 .rename_i a ha
  have hv:=dM ha;obtain⟨ρ,τ,b,w⟩:=B;split at h
  .rename_i t xs hx
   obtain⟨arr,kk,g,_⟩:=b.tup hx;exact main a xs (.tup a) hv ⟨ha,t,hx⟩ h.1 h.2.1 h.2.2 ⟨"tuple",_,hv▸⟨_,g,rfl⟩,PySem.F.slot_tuple_iter⟩
  .rename_i t xs hx
   obtain⟨arr,kk,g,_⟩:=b.list hx;exact main a xs (.list a) hv ⟨ha,t,hx⟩ h.1 h.2.1 h.2.2 ⟨"list",_,hv▸⟨_,g,rfl⟩,slot_list_iter⟩
  .exact h.elim
 .exact h.elim
theorem nP{X:XC}{x:Str}{u:aC}{Q:Unit→aB→Map→AH→Prop}(ok:gy X c)(hx:oq X x=true)(hu:u∈vs)(h:Q () vs (put m x (er u)) H):T S c vs m H (bindName c.env x u) Q E:=by
 refine aP (bY (mf fun _=>aP ?_))
 unfold oq at hx;rw[kq,dJ,dE,dE] at hx;rcases hx with hx|⟨h1,hx⟩
 .exact xb ok.kind ((ok.names x).trans hx) hu fun _=>mf h
 .exact B7 (ok.act.trans h1) ok.kind ((ok.names x).trans hx) hu fun _=>mf h
theorem pM{X:XC}{x:Str}{p:Pos}{u:aC}{Q:Unit→aB→Map→AH→Prop}(ok:gy X c)(hx:oq X x=true)(hu:u∈vs)(h:Q () vs (put m x (er u)) H):T S c vs m H (assign (.Name x p) c.env u) Q E:=
 ia (t':=standAt p >>= fun _=>bindName c.env x u) rfl (aP (aZ fun _=>nP ok hx hu h))
theorem tT{X:XC}(ok:gy X c):∀{ts:List Expr} {us:aB} {vs:aB} {m m':Map} {Q:Unit→aB→Map→AH→Prop},ip X ts (us.map er) m=some m'→(∀u∈us,u∈vs)→Q () vs m' H→T S c vs m H (assignInOrder ((assignEach ts c.env).map (·.2)) us) Q E
 |[],[],vs,m,m',Q,h,hu,q=>by unfold ip at h;cases h;exact ia (t':=pure ()) rfl (bV q)
 |t::ts,u::us,vs,m,m',Q,h,hu,q=>by
  rw[fj] at h;cases t<;>try (unfold ip at h;cases h;done)
  rename_i x p;unfold ip at h;split at h
  .rename_i hx
   refine ia (t':=holding us (assign (.Name x p) c.env u) >>= fun _=>assignInOrder ((assignEach ts c.env).map (·.2)) us) rfl (aP (bY (pM ok hx (hu _ (.head _)) fun _=>tT ok h (fun w hw=>hu w (.tail _ hw)) q)))
  .cases h
 |[],u::us,vs,m,m',Q,h,hu,q=>by unfold ip at h;cases h
 |t::ts,[],vs,m,m',Q,h,hu,q=>by
  cases t<;>(unfold ip at h;cases h)
theorem mR{X:XC}:∀{ts:List Expr} {us:aB} {m m':Map} {env:Env},ip X ts us m=some m'→(assignEach ts env).findIdx? (·.1)=none∧(assignEach ts env).length=ts.length
 |[],[],m,m',env,h=>⟨rfl,rfl⟩
 |t::ts,u::us,m,m',env,h=>by
  cases t<;>try (unfold ip at h;cases h;done)
  unfold ip at h;split at h
  .obtain⟨h1,h2⟩:=mR (env:=env) h
   show((false,_)::assignEach ts env).findIdx? _=none∧((false,_)::assignEach ts env).length=_
   rw[List.findIdx?_cons];refine⟨?_,by rw[dH,h2];rfl⟩
   rw[h1];rfl
  .cases h
 |[],u::us,m,m',env,h=>by unfold ip at h;cases h
 |t::ts,[],m,m',env,h=>by
  cases t<;>(unfold ip at h;cases h)
theorem yE{X:XC}{P:Map→Prop}:∀{ts:List Expr} {us:aB} {m:Map},ub X ts us m P→∃m',ip X ts us m=some m'∧P m'
 |[],[],m,h=>⟨m,by unfold ip;rfl,by unfold ub jB at h;exact h⟩
 |[],u::us,m,h=>by unfold ub jB at h;exact h.elim
 |t::ts,us,m,h=>by
  cases t<;>try (unfold ub at h;exact h.elim)
  unfold ub iX at h;split at h
  .exact h.elim
  .obtain⟨m',h1,h2⟩:=yE h.2
   refine⟨m',?_,h2⟩;unfold ip;rw[bE h.1];exact h1
theorem vm{hd:bP}{v:aC}{k:Nat}{P R:aB→Prop}(h:cS H hd v k P)(hr:∀us,P us→R us):cS H hd v k R:=by
 unfold cS at h⊢;split at h
 .split at h
  .exact⟨h.1,h.2.1,hr _ h.2.2⟩
  .exact⟨h.1,h.2.1,hr _ h.2.2⟩
  .exact h.elim
 .exact h.elim
theorem zN{X:XC}{t:Expr}{u:aC}{P:Map→Prop}{Q:Unit→aB→Map→AH→Prop}(ok:gy X c)(hu:u∈vs)(h:qm X H t (er u) m P)(q:∀aQ m',Sub vs aQ→P m'→Q () aQ m' H):T S c vs m H (assign t c.env u) Q E:=by
 unfold qm at h;split at h
 .exact pM ok h.1 hu (q _ _ .rf h.2)
 .rename_i ts n p
  have h:cS H X.hd (er u) ts.length fun us=>match ip X ts us m with
    |some m'=>P m'
    |none=>False:=vm h fun us h=>by
   obtain⟨m',e,q⟩:=yE h;rw[e];exact q
  refine ia (t':=standAt p >>= fun _=>unpack u (assignEach ts c.env)) rfl (aP (aZ fun _=>?_))
  unfold unpack;have hex:∃us m',ip X ts us m=some m':=by
   unfold cS at h;split at h
   .split at h
    .obtain⟨_,_,h⟩:=h
     split at h
     .rename_i m' hm;exact⟨_,m',hm⟩
     .exact h.elim
    .obtain⟨_,_,h⟩:=h
     split at h
     .rename_i m' hm;exact⟨_,m',hm⟩
     .exact h.elim
    .exact h.elim
   .exact h.elim
  obtain⟨Xf,aa1,h₀⟩:=hex;obtain⟨e1,e2⟩:=mR (env:=c.env) h₀;rw[e1,e2];refine aP (bY (w9 ok.ok h fun us aQ hP hl hm l _=>?_))
  split at hP
  .rename_i m' qJ
   exact tT ok qJ hm (q _ _ l hP)
  .exact hP.elim
 .exact h.elim
theorem pL{x:Expr}{q:Pos}{Q:aB→aB→Map→AH→Prop}(hp:dz [x]=true)(h:T S c vs m H (eval x c.env) (fun v aQ m' H'=>Q [v] aQ m' H') E):T S c vs m H (spliced (backTo q (starEach [x] c.env))) Q E:=by
 obtain⟨h1,h2⟩:=tH (env:=c.env) hp;have e1:backTo q (starEach [x] c.env)=(false,eval x c.env)::backTo q (starEach [] c.env):=by rw[h1];rfl
 rw[e1];refine fun s B=>spliced_cons (dD (h s B) (fun v s₁ hq=>?_) fun _ _ x=>x)
 show wpAny _ _ (spliced []) _ _ _;rw[spliced];exact bO hq
theorem yT{k:Nat}{X:XC}(se:SE k)(ok:gy X c){f:Str}{p q pos:Pos}{x r:Expr}{Q:KQ}(hp:dz [x]=true)(S4:(f==("__debug__":Str))=false)(h:X.look m H f fun fv=>(match fv with
   | .builtin id=>if id="abs" then ee k X x m H (fun v H=>match v with
     | .int i _=>ee k X r m H (fun w H=>match w with
      | .int j _=>j≠0∧Q (.int ((if i < 0 then -i else i).fmod j) 0) H
      |_=>False) E
     |_=>False) E
    else if id="sum" then ee k X x m H (fun v H=>G2 H X.hd v fun i=>ee k X r m H (fun w H=>match w with
     | .int j _=>j≠0∧Q (.int (i.fmod j) 0) H
     |_=>False) E) E
    else ee k X x m H (fun v H=>iJ X H (.builtin id) [v] (fun a H=>ee k X r m H (fun b H=>dK H .Mod a b Q) E) fun x H=>E x m H) E
   |fv=>ee k X x m H (fun v H=>iJ X H fv [v] (fun a H=>ee k X r m H (fun b H=>dK H .Mod a b Q) E) fun x H=>E x m H) E)):
  T X.S c vs m H (eval (.BinOp (.Call (.Name f p) [x] [] q) .Mod r pos) c.env) (fun v aQ m' H'=>v∈aQ∧m'=m∧Q (er v) H') E:=by
 have pl:=iQ (env:=c.env) (pos:=q) hp;rw[eval_BinOp];refine aP (ia (t':=(standAt p >>= fun _=>if(f==("__debug__":Str))=true then debugConstant else loadName c.env f) >>= fun fv=>callWith q fv [] (backTo q (starEach [x] c.env)) (backToKw q (keywordEach [] c.env))) rfl (aP (aP (aZ fun _=>?_))))
 rw[S4,aR eV];refine vj ok h fun fv bZ hf ZP l₁ _=>?_
 have fin:∀(a:aC) (cD:aB) (aH:AH),a∈cD→ee k X r m aH (fun b H=>dK H .Mod (er a) b Q) E→T X.S c cD m aH (holding [a] (eval r c.env) >>= fun b=>standAt pos >>= fun _=>operate [a,b] (binaryOp .Mod a b)) (fun v aQ m' H'=>v∈aQ∧m'=m∧Q (er v) H') E:=fun a cD aH ha dA=>
  d6 (bY (se X c r m aH _ E cD ok dA)) fun b dB aO hb jT eQ=>aP (aZ fun _=>gh (EV eQ fun u aQ H' hu hm l=>⟨hm,rfl,hu⟩))
 have other:ee k X x m H (fun v H=>iJ X H (er fv) [v] (fun a H=>ee k X r m H (fun b H=>dK H .Mod a b Q) E) fun x H=>E x m H) E→T X.S c bZ m H (callWith q fv [] (backTo q (starEach [x] c.env)) (backToKw q (keywordEach [] c.env))) (fun a aQ m' H'=>(∀v,v∈vs→v∈aQ)→T X.S c aQ m' H' (holding [a] (eval r c.env) >>= fun b=>standAt pos >>= fun _=>operate [a,b] (binaryOp .Mod a b)) (fun v aQ m' H'=>v∈aQ∧m'=m∧Q (er v) H') E) E:=fun h=>by
  refine nO (first:=[]) ok.ok pl (fun v hv=>by cases hv) (pL hp (cL (se X c x m H _ E bZ ok h) (fun v cD m₂ aH l₂ ⟨hv,hm,dA⟩=>⟨fun u hu=>?_,hm,dA⟩) fun _ _ _ h=>h)) (fun u aQ H' hu l q=>?_) fun x H' q=>q
  .rw[dQ.mp hu];exact hv
  .exact fun _=>fin u aQ H' hu q
 split at hf
 .rename_i id SR
  have zl:fv=.builtin id:=by cases fv<;>simp only[er,reduceCtorEq,Value.builtin.injEq] at SR;rw[SR]
  split at hf
  .rename_i e
   subst e zl;refine jh pl (pL hp (cL (se X c x m H _ E bZ ok hf) (fun v cD m₂ aH l₂ ⟨hv,hm,dA⟩=>⟨trivial,?_⟩) fun _ _ _ h=>h))
   subst hm;split at dA
   .rename_i i _ hi
    obtain⟨tk,rfl⟩:=du hi;refine Rj fun kk _=>d6 (bY (se X c r m₂ aH _ E cD ok dA)) fun w dB aO hw jT eQ=>aP (aZ fun _=>gh ?_)
    split at eQ
    .rename_i j _ hj
     obtain⟨tj,rfl⟩:=du hj;exact rS eQ.1 fun k'=>⟨.head _,rfl,eQ.2⟩
    .exact eQ.elim
   .exact dA.elim
  split at hf
  .rename_i e
   subst e zl;refine jh pl (pL hp (cL (se X c x m H _ E bZ ok hf) (fun v cD m₂ aH l₂ ⟨hv,hm,dA⟩=>⟨trivial,?_⟩) fun _ _ _ h=>h))
   subst hm;unfold G2 at dA;split at dA
   .rename_i a ha
    obtain⟨t,is,hl,hh,dA⟩:=dA;rw[dM ha];refine Rf (by rw[ok.ok.handled,hh];rfl) hl fun kk _=>d6 (bY (se X c r m₂ aH _ E cD ok dA)) fun w dB aO hw jT eQ=>aP (aZ fun _=>gh ?_)
    split at eQ
    .rename_i j _ hj
     obtain⟨tj,rfl⟩:=du hj;exact rS eQ.1 fun k'=>⟨.head _,rfl,eQ.2⟩
    .exact eQ.elim
   .exact dA.elim
  .exact other (SR▸hf)
 .exact other hf
theorem sj{α:Type}{t:Sem α}{Q:α→aB→Map→AH→Prop}(ha:c.act=true)(h:(∀x,c.env.kindOf x=some .cell→(c.env.cells.lookup x).isSome=true)→T S c vs m H t Q E):T S c vs m H t Q E:=fun s B=>by
 have B':=B;obtain⟨ρ,τ,b,w⟩:=B';exact h (((b.frames _ (.head _)).nsOk rfl).act ha).all s B
theorem j7{cells:List (Str×Addr)}:∀{names:List (Str×NameKind)} {bN:List (Str×Addr)},(∀y∈names,y.2=.free→(cells.lookup y.1).isSome=true)→(∀x d,bN.lookup x=some d→cells.lookup x=some d)→∃cl,ly names cells bN=some cl∧(∀x d,cl.lookup x=some d→cells.lookup x=some d)∧∀x,(bN.lookup x).isSome=true∨(x,NameKind.free)∈names→(cl.lookup x).isSome=true
 |[],bN,h,ha=>⟨bN,by unfold ly;rfl,ha,fun x hx=>hx.elim id fun q=>by cases q⟩
 |(n,kk)::r,bN,h,ha=>by
  unfold ly;dsimp only
  by_cases hk:kk=.free
  .subst hk
   obtain⟨d,hd⟩:=mK.mp (h _ (.head _) rfl);have hd:cells.lookup n=some d:=hd;rw[bE (by decide),hd]
   obtain⟨cl,h1,h2,h3⟩:=j7 (names:=r) (bN:=(n,d)::bN) (fun y hy=>h y (.tail _ hy)) fun x d' hx=>by
    rw[eP] at hx;split at hx
    .rename_i q;cases hx;rw[eq_of_beq q];exact hd
    .exact ha x d' hx
   refine⟨cl,h1,h2,fun x hx=>h3 x ?_⟩
   rw[eP]
   by_cases q:(x==n)=true
   .rw[q];exact .inl rfl
   .rw[oj] at q
    rw[q];rcases hx with hx|hx
    .exact .inl hx
    .rcases bS.mp hx with hx|hx
     .cases hx;rw[fR] at q;cases q
     .exact .inr hx
  .have:(kk==NameKind.free)=false:=by cases kk<;>first|rfl|exact absurd rfl hk
   rw[this,aR eV];obtain⟨cl,h1,h2,h3⟩:=j7 (names:=r) (bN:=bN) (fun y hy=>h y (.tail _ hy)) ha
   refine⟨cl,h1,h2,fun x hx=>h3 x (hx.imp_right fun hx=>?_)⟩
   rcases bS.mp hx with hx|hx
   .cases hx;exact absurd rfl hk
   .exact hx
theorem BG{sc names:List (Str×NameKind)}{x:Str}(hn:∀y∈names,y.2≠.cell)(h:(CD sc names).lookup x=some .cell):(x,NameKind.free)∈names∧sc.lookup x=some .cell:=by
 have hm:=fE h;unfold CD at hm;obtain⟨⟨n,kk⟩,hy,e⟩:=eF.mp hm;dsimp only at e;split at e
 .rename_i q
  rw[dJ,dE,dE] at q;obtain⟨rfl,q⟩:=q;cases e;exact⟨hy,q⟩
 .cases e
  exact absurd rfl (hn _ hy)
theorem A8{X:XC}{scope:Scope}{cl:List (Str×Addr)}{cx:Cx}(ok:gy X c)(ha:X.act=true)(hk:scope.kind=.function)(hn:∀y∈scope.names,y.2≠.cell)(n7:∀x,c.env.kindOf x=some .cell→(c.env.cells.lookup x).isSome=true)(h2:∀x d,cl.lookup x=some d→c.env.cells.lookup x=some d)(h3:∀x,(x,NameKind.free)∈scope.names→(cl.lookup x).isSome=true)(cc:uH c m scope cl X.n X.hd cx):gy (X.comp scope m) cx:=by
 obtain⟨⟨C,he⟩,lg,hA,Za,qh⟩:=cc;have er:relabel scope c.env={scope with names:=CD X.sc scope.names}:=by
  unfold relabel CD
  congr 2
  funext ⟨n,kk⟩
  show(if(kk==NameKind.free&&c.env.scope.kind==ScopeKind.function&&c.env.kindOf n==some NameKind.cell)=true then(n,NameKind.cell) else(n,kk))=if(kk==NameKind.free&&X.sc.lookup n==some NameKind.cell)=true then(n,NameKind.cell) else(n,kk)
  rw[ok.names n,ok.kind]
  have:(ScopeKind.function==ScopeKind.function)=true:=rfl
  rw[this,Bool.and_true]
 refine⟨?_,fun x=>?_,?_,?_,qh,lg,fun _=>?_,fun x d hd=>by cases hd⟩
 .rw[he];exact hk
 .rw[he];show(relabel scope c.env).names.lookup x=_;rw[er];rfl
 .rw[he];exact ok.glob
 .rw[he];exact ok.Oz
 .refine⟨_,Za,ok.act.trans ha,rfl,rfl,fun x hx=>?_⟩
  obtain⟨q1,q2⟩:=BG hn hx;obtain⟨d,hd⟩:=mK.mp (h3 x q1);refine⟨d,?_,h2 x d hd,(ok.names x).trans q2⟩;rw[he];exact hd
theorem ke{iter:Expr}{env:Env}{x:aC}(h:uC iter=true):foldedSetIterable iter env x=pure x:=by
 unfold foldedSetIterable;cases iter<;>first|rfl|(cases h;done)
theorem xh{k:Nat}{X:XC}(se:SE k)(Se:R8 k)(ok:gy X c){elt target iter:Expr}{ifs:List Expr}{scope:Scope}{pos:Pos}{Q:KQ}(hb:me X scope iter=true)
  (h:ee k X iter m H (fun x H=>∃(src:Src) (xs:aB) (I:Nat→aB→AH→Prop),fp H x xs src∧xs.length≤1000000∧I 0 [] H∧(∀i bN aE,I i bN aE→src.ok aE xs)∧
   (∀i bN aE v,I i bN aE→xs[i]?=some v→qm (X.comp scope m) aE target v [] fun m₂=>l9 k (X.comp scope m) ifs m₂ aE (fun ok aH=>if ok=true then ee k (X.comp scope m) elt m₂ aH (fun y aO=>I (i+1) (bN++[y]) aO) su else I (i+1) bN aH) su)∧
   ∀bN aE,I xs.length bN aE→Clean X.hd aE∧∃t,t≠0∧∀D,aE D=none→Q (.ref D) (upd aE D (.list t bN))) E):
  T X.S c vs m H (eval (.ListComp elt [⟨target,iter,ifs,0⟩] scope pos) c.env) (fun v aQ m' H'=>v∈aQ∧m'=m∧Q (er v) H') E:=by
 unfold me at hb;simp only[dJ,jD,dC,kq,nq,dE,ne_eq] at hb;obtain⟨⟨⟨ha,qO⟩,hk⟩,hn⟩:=hb;have n1:∀y∈scope.names,y.2≠.cell:=fun y hy=>(hn y hy).1.1
 refine sj (ok.act.trans ha) fun n7=>?_
 obtain⟨cl,h1,h2,h3⟩:=j7 (cells:=c.env.cells) (names:=scope.names) (bN:=[]) (fun y hy q=>by
  refine n7 _ ((ok.names _).trans ?_);rcases(hn y hy).1.2 with h|h
  .exact absurd q h
  .exact h) fun x d hx=>by cases hx
 refine Nk ok.ok h1 n1 hk (fun y hy q=>(hn y hy).2.elim (fun h=>absurd q h) id) (fun x=>ke qO) (cL (se X c iter m H _ E vs ok h) (fun x bZ m₁ aE l₁ ⟨hx,hm,src,xs,I,hs,hz,hI,qh,turn,hF⟩=>?_) fun _ _ _ h=>h)
 subst hm;refine⟨rfl,src,xs,I,hs,hz,hI,qh,fun i bN H' aQ v u cx cc vB hI hv hu N6=>?_,fun bN H' hI=>⟨(hF bN H' hI).1,?_⟩⟩
 .have JZ:gy (X.comp scope m₁) cx:=A8 ok ha hk n1 n7 h2 (fun x hx=>h3 x (.inr hx)) cc
  refine zN (X:=X.comp scope m₁) JZ N6 (hu▸turn i bN H' v hI hv) fun cD m₂ l₂ dA=>?_
  refine cL (Se (X.comp scope m₁) cx ifs m₂ H' _ su cD JZ dA) (fun b dB cA aO jT ⟨hm,eQ⟩=>?_) fun _ _ _ h=>h
  subst hm;cases b with
  |false=>rw[aR eV] at eQ⊢;exact eQ
  |true=>
   rw[bE rfl] at eQ⊢;exact cL (se (X.comp scope m₁) cx elt cA aO _ su dB JZ eQ) (fun y qT xK bI G9 ⟨hy,_,CG⟩=>⟨hy,CG⟩) fun _ _ _ h=>h
 .obtain⟨t,ht,hq⟩:=(hF bN H' hI).2
  exact⟨t,ht,fun D kQ hD _=>⟨.head _,rfl,hq D hD⟩⟩
theorem oN{k:Option Expr}{ks:List (Option Expr)}{xs:bW}(e:ja (k::ks)=some xs):∃x kd kp ys,k=some (.Constant (.str x) kd kp)∧ja ks=some ys∧xs=x::ys:=by
 cases k with
 |none=>cases e
 |some k=>
  cases k with
  |Constant c kd kp=>
   cases c with
   |str x=>
    obtain⟨ys,h1,rfl⟩:=ey.mp (show(ja ks).map (x::·)=some xs from e)
    exact⟨x,kd,kp,ys,rfl,h1,rfl⟩
   |_=>cases e
  |_=>cases e
theorem qe:∀{ks:List (Option Expr)} {xs:bW},ja ks=some xs→ks.all (·.isSome)=true∧xs.length=ks.length
 |[],xs,e=>by cases e;exact⟨rfl,rfl⟩
 |k::ks,xs,e=>by
  obtain⟨x,kd,kp,ys,rfl,h1,rfl⟩:=oN e;obtain⟨a,b⟩:=qe h1;exact⟨by rw[uw,a];rfl,by rw[dH,dH,b]⟩
theorem Be{ev:Expr→Map→AH→KQ→EM→Prop}{S:aN}{pos:Pos}(sv:∀e m H Q E vs,ev e m H Q E→T S c vs m H (eval e c.env) (fun v aQ m' H'=>v∈aQ∧m'=m∧Q (er v) H') E):∀{ks:List (Option Expr)} {xs:bW} {vals:List Expr} {vs:aB} {H:AH} {Q:aB→AH→Prop},ja ks=some xs→ks.length=vals.length→uE ev vals m H Q E→
  T S c vs m H (evalPairs (pairTrees ks vals c.env pos)) (fun Gq aQ m' H'=>m'=m∧(∃ts us,Gq=List.zipWith (fun p u=>(Value.str p.1 p.2,u)) (xs.zip ts) us∧ts.length=xs.length∧us.length=xs.length∧(∀u∈us,u∈aQ)∧Q (us.map er) H')) E
 |[],xs,[],vs,H,Q,hk,hl,h=>by
  cases hk;unfold pairTrees evalPairs;exact bV ⟨rfl,[],[],rfl,rfl,rfl,fun u hu=>(by cases hu),h⟩
 |[],xs,_::_,vs,H,Q,hk,hl,h=>by cases hl
 |_::_,xs,[],vs,H,Q,hk,hl,h=>by cases hl
 |k::ks,xs,v::vals,vs,H,Q,hk,hl,h=>by
  obtain⟨x,kd,kp,ys,rfl,h1,rfl⟩:=oN hk;unfold pairTrees;rw[evalPairs];refine aP ?_;refine ia (t':=mkText x) rfl ?_;refine xc fun t _=>aP (bY ?_)
  refine aP (cL (sv v m H _ E vs h) (fun u bZ m₁ aE l₁ ⟨hu,hm,cN⟩ _=>?_) fun _ _ _ h=>h)
  have hm:=hm.symm;subst hm;refine aP (aZ fun _=>bV fun _=>aP (bY (cL (Be sv h1 (by simpa using hl) cN) (fun Gq cD m₂ aH l₂ ⟨hm,ts,us,e1,e2,e3,e4,hq⟩ _=>?_) fun _ _ _ h=>h)))
  refine bV ⟨hm,t::ts,u::us,by rw[e1];rfl,by simp[e2],by simp[e3],fun w hw=>?_,hq⟩
  rcases bS.mp hw with rfl|hw
  .exact l₂ _ hu
  .exact e4 w hw
theorem sg{S:aN}{a:Addr}{t:Nat}:∀{xs:bW} {ts:List Tok} {us:aB} {es:List (Str×aC)} {vs:aB} {H:AH} {Q:Unit→aB→Map→AH→Prop},ts.length=xs.length→us.length=xs.length→H a=some (.bR t es)→es.length+xs.length≤1000000→(∀u∈us,u∈vs)→
  Q () vs m (upd H a (.bR t ((xs.zip (us.map er)).foldl (fun es p=>stored es p.1 p.2) es)))→T S c vs m H (storeAll a (List.zipWith (fun p u=>(Value.str p.1 p.2,u)) (xs.zip ts) us)) Q E
 |[],[],[],es,vs,H,Q,_,_,ha,_,_,h=>by
  have:upd H a (.bR t es)=H:=Dq ha
  unfold storeAll;simp only[ux,List.zipWith_nil_left,pE];refine bV ?_;rw[←this];exact h
 |x::xs,TQ::ts,u::us,es,vs,H,Q,h1,h2,ha,hz,hv,h=>by
  unfold storeAll;rw[iK,yl,uB];refine aP (aP ?_);have Ws:es.length≤1000000:=by omega
  refine fun s ⟨ρ,τ,b,w⟩=>?_
  obtain⟨t0,ks,D,e,wk⟩:=b.dS ha;refine wpAny_dictSet_pairs (knd:=PySem.strKind pw S.w) (k:=x) (by simp[PySem.strKind,Value.isStrOf]) D (fun h' D' sb=>⟨vs,m,upd H a (.bR t (stored es x (er u))),fun _ h=>h,⟨ρ,τ,?_,w⟩,fun _=>bV fun _=>?_⟩) (by rw[←e,dO] at Ws;exact dP Ws)
  .obtain⟨o',g',i'⟩:=ny.mp D'
   exact b.CB (s':={s with heap:=h',toks:=s.toks+1}) (o':=.bR t (stored es x (er u))) ha t0 sb rfl rfl (dU _) fun r=>⟨o',_,t0,r,g',i',by rw[←e];exact pH,fun p hp=>(nE hp).elim (fun q=>q▸w _ (hv _ (.head _))) (wk p)⟩
  .refine sg (xs:=xs) (es:=stored es x (er u)) (by simpa using h1) (by simpa using h2) aA ?_ (fun w hw=>hv w (.tail _ hw)) ?_
   .have:=pD es x (er u);simp at hz;omega
   .have hh:upd (upd H a (.bR t (stored es x (er u)))) a (.bR t ((xs.zip (us.map er)).foldl (fun es p=>stored es p.1 p.2) (stored es x (er u))))=upd H a (.bR t ((xs.zip (us.map er)).foldl (fun es p=>stored es p.1 p.2) (stored es x (er u)))):=by
     funext b
     by_cases q:b=a
     .subst q;rw[aA,aA]
     .rw[aT q,aT q,aT q]
    rw[hh];exact h
theorem Nj{ev:Expr→Map→AH→KQ→EM→Prop}{S:aN}{pos:Pos}{ks:List (Option Expr)}{xs:bW}{vals:List Expr}{t:Nat}{Q:KQ}(sv:∀e m H Q E vs,ev e m H Q E→T S c vs m H (eval e c.env) (fun v aQ m' H'=>v∈aQ∧m'=m∧Q (er v) H') E)(hk:ja ks=some xs)(hl:ks.length=vals.length)(h0:ks≠[])(h15:ks.length≤15)(ht:t≠0)
  (h:∀a,H a=none→uE ev vals m (upd H a (.bR t [])) (fun us H=>oo H a (xs.zip us) Q) E):T S c vs m H (eval (.Dict ks vals pos) c.env) (fun v aQ m' H'=>v∈aQ∧m'=m∧Q (er v) H') E:=fun s ⟨ρ,τ,b,w⟩=>by
 obtain⟨ka,kl⟩:=qe hk;obtain⟨hn,cH,b'⟩:=b.newDict (.inr ⟨t,ht,rfl⟩);refine wpAny_Dict_any ka hl h0 h15 (dD (Be sv hk hl (h _ hn) _ ⟨cH,τ,b',cR (u:=.ref s.heap.objs.size) trivial w⟩) (fun Gq s₁ ⟨bZ,m₁,aE,l₁,iW,hm,ts,us,e1,e2,e3,e4,hq⟩=>?_) fun e s' ⟨x,m',H',e',B',hE⟩=>⟨x,m',H',e',B'.sub fun v hv=>.tail _ hv,hE⟩)
 subst hm e1;unfold oo at hq;split at hq
 .rename_i TQ es hH
  obtain⟨hz,hq⟩:=hq;have hz:es.length+xs.length≤1000000:=by rw[List.length_zip,dO,e3,Nat.min_self] at hz;exact hz
  refine dD (sg (E:=E) (Q:=fun _ aQ m' H'=>Value.ref s.heap.objs.size∈aQ∧m'=m₁∧Q (.ref s.heap.objs.size) H') e2 e3 hH hz e4 ⟨l₁ _ (.head _),rfl,hq⟩ s₁ iW) (fun _ eH ⟨cD,m₂,aH,l₂,gv,q1,q2,q3⟩=>⟨cD,m₂,aH,fun v hv=>l₂ v (l₁ v (.tail _ hv)),gv,q1,q2,q3⟩) fun e s' ⟨x,m',H',e',B',hE⟩=>⟨x,m',H',e',B'.sub fun v hv=>l₁ v (.tail _ hv),hE⟩
 .exact hq.elim
theorem HJ{X:XC}(ok:gy X c){id:Str}{p:Pos}{Q:KQ}(hd:(id==("__debug__":Str))=false)(h:X.look m H id fun v=>Q v H):T X.S c vs m H (eval (.Name id p) c.env) (fun v aQ m' H'=>v∈aQ∧m'=m∧Q (er v) H') E:=by
 rw[arm_eval_Name];refine aP (aZ fun _=>?_)
 rw[hd,aR eV];exact vj ok h fun u aQ hu hm l=>⟨hm,rfl,hu⟩
theorem Hx{k:Nat}(se:SE k)(zh:Ju k)(st:ST k)(Se:R8 k):SE (k+1):=fun X c e m H Q E vs ok h=>by
 unfold ee at h;split at h
 .exact Ja (X:=X) h
 .exact HJ ok (iy h).1 (iy h).2
 .exact E6 se st ok h
 .rename_i op a b p
  exact rN (P:=fun _ H=>ee k X b m H Q E) se ok (fun aQ H' l q=>se X c b m H' Q E aQ ok q) h (by rfl)
 .rename_i op a b d p
  refine rN (P:=fun _ H=>ee k X b m H (fun v H=>aW H v fun c=>oZ op c (Q v H) (ee k X d m H Q E)) E) (rest:=boolOp p op [eval b c.env,eval d c.env]) se ok (fun aQ H' l q=>?_) h (by rfl)
  exact rN (P:=fun _ H=>ee k X d m H Q E) se ok (fun aQ H' l q=>se X c d m H' Q E aQ ok q) q (by rfl)
 .exact yT se ok (bX h).1 (iy (bX h).2).1 (iy (bX h).2).2
 .exact Lr se ok h
 .exact Hz se ok h
 .exact yS se ok (iy h).1 (iy h).2
 .exact HK zh ok (bX h).1 (bX h).2
 .exact E4 zh ok (bX h).1 (bX h).2
 .obtain⟨o,ho,h⟩:=h
  exact xt o ho fun a ha=>⟨.head _,rfl,h a ha⟩
 .split at h
  .rename_i xs Rz
   obtain⟨hg,t,ht,h⟩:=bX h;rw[dJ,dJ] at hg;exact Nj (fun e m H Q E vs h=>se X c e m H Q E vs ok h) Rz (Nat.eq_of_beq_eq_true hg.1.1) (by rintro rfl;simp at hg) (pC hg.2) ht h
  .exact h.elim
 .exact xh se Se ok (bX h).1 (bX h).2
 .exact HM se ok (bX h).1 (bX h).2
 .exact E5 se ok h
 .exact Hy se ok h
 .exact Lq se ok (bX h).1 (bX h).2
 .obtain⟨h1,h⟩:=bX h
  obtain⟨h2,h⟩:=bX h;obtain⟨h3,h⟩:=bX h;obtain⟨h4,h⟩:=bX h;exact HL se zh ok h1 h2 h3 h4 h
 .exact E7 se zh ok (bX h).1 (bX (bX h).2).2
 .exact h.elim
theorem Hs{k:Nat}(se:SE k)(st:ST k)(Rk:R9 k):ST (k+1):=fun X c e m H Q E vs ok h=>by
 unfold Cr at h;split at h
 .rename_i x p
  exact ia (t':=isTrue x c.env (eval x c.env) >>= fun b=>pure !b) rfl (qE (st X c x m H _ E vs ok h) fun b aQ H' l hb=>bV ⟨rfl,hb⟩)
 .rename_i op es p
  exact ia (t':=allTrue op es c.env) rfl (Rk X c op es m H Q E vs ok h)
 .exact yN se ok (iy h).1 (iy h).2
 .exact h.elim
 .exact h.elim
 .rename_i n1 n2 n3 n4 n5
  refine ia (t':=eval e c.env >>= fun v=>standAt e.pos >>= fun _=>holding [v] (truthy v)) ?_ (d6 (se X c e m H _ E vs ok h) fun v aQ H' hv l h=>aP (aZ fun _=>bY (xa h fun b hb=>⟨rfl,hb⟩)))
  cases e<;>try rfl
  all_goals first|(rename_i op _ _;cases op<;>first|rfl|exact(n1 _ _ rfl).elim)|exact(n1 _ _ rfl).elim|exact(n2 _ _ _ rfl).elim|exact(n4 _ _ _ _ rfl).elim|exact(n5 _ _ _ _ rfl).elim
theorem dF:∀k,SE k∧Ju k∧ST k∧R9 k∧R8 k
 |0=>⟨fun _ _ _ _ _ _ _ _ _ h=>by unfold ee at h;exact h.elim,fun _ _ _ _ _ _ _ _ _ _ _ h=>by unfold n9 at h;exact h.elim,fun _ _ _ _ _ _ _ _ _ h=>by unfold Cr at h;exact h.elim,fun _ _ _ _ _ _ _ _ _ _ h=>by unfold CJ at h;exact h.elim,fun _ _ _ _ _ _ _ _ _ h=>by unfold l9 at h;exact h.elim⟩
 |k+1=>by
  obtain⟨a,b,d,e,f⟩:=dF k;exact⟨Hx a b d f,E3 a b,Hs a d e,EZ d e,EY d⟩
abbrev FQ:=Flow→Map→AH→Prop
def gR:Expr→Bool
 | .ListComp .. =>false
 | .SetComp .. =>false
 | .DictComp .. =>false
 |_=>true
def vR(X:XC)(x:Str)(p:Pos)(scope:Scope)(pos:Pos):Bool:=
 (X.sc.lookup x==some .local)&&p.line==pos.line&&!(scope.names.any fun(n,k)=>n==x&&(k==.local||k==.cell))
def zx(X:XC)(ts vs:List Expr):Option (Option (bW)):=
 if(!(ts.length==2||ts.length==3)||vs.length != ts.length)=true then some none else
 if(vs.any fun| .Starred .. =>true|_=>false)=true then some none else
 let line:=(ts.head?.map (·.pos.line)).getD 0
 let names:=ts.filterMap fun
  | .Name id pos=>if X.sc.lookup id==some .local&&pos.line==line then some id else none
  |_=>none
 if(names.length != ts.length||names.eraseDups.length != names.length)=true then some none else
 if vs.all (foldedForSure 8)=true then some none else
 if vs.all (constantsAlone 8)=true then none else
 some (some names)
def mO(m m':Map):Bool:=m.all fun p=>(m'.lookup p.1).isSome
def nA(ns:bW):List Expr:=ns.map fun n=>.Name n ⟨0,0,0,0⟩
mutual
def RX:Nat→XC→Stmt→Map→AH→FQ→EM→Prop
 |0,_,_,_,_,_,_=>False
 |k+1,X,st,m,H,Q,E=>match st with
  | .Expr v _=>lY (gR v) (ee k X v m H (fun _ H=>Q .next m H) E)
  | .Pass _=>Q .next m H
  | .Break _=>Q .brk m H
  | .Continue _=>Q .cont m H
  | .Return none _=>Q (.ret .none) m H
  | .Return (some e) _=>ee k X e m H (fun v H=>Q (.ret v) m H) E
  | .If t a b _=>Cr k X t m H (fun c H=>if c=true then gs k X a m H Q E else gs k X b m H Q E) E
  | .Assign [.Name x p] (.ListComp elt [⟨target,iter,ifs,0⟩] scope pos) _=>lY (me X scope iter) (lY (vR X x p scope pos) (ee k X iter m H (fun hV H=>∃(src:Src) (xs:aB) (I:Nat→aB→AH→Prop),fp H hV xs src∧xs.length≤1000000∧I 0 [] H∧(∀i bN aE,I i bN aE→src.ok aE xs)∧
   (∀i bN aE v,I i bN aE→xs[i]?=some v→qm (X.comp scope m) aE target v [] fun m₂=>l9 k (X.comp scope m) ifs m₂ aE (fun ok aH=>if ok=true then ee k (X.comp scope m) elt m₂ aH (fun y aO=>I (i+1) (bN++[y]) aO) su else I (i+1) bN aH) su)∧
   ∀bN aE,I xs.length bN aE→Clean X.hd aE∧∃t,t≠0∧∀D,aE D=none→Q .next (put m x (.ref D)) (upd aE D (.list t bN))) E))
  | .Assign [.Name x _] v _=>lY (gR v) (lY (oq X x) (ee k X v m H (fun v H=>Q .next (put m x v) H) E))
  | .Assign [.Attribute o a _] v _=>lY (gR v) (ee k X v m H (fun u H=>ee k X o m H (fun o H=>bU H o a u fun H=>Q .next m H) E) E)
  | .Assign [.Subscript o i _] v _=>lY (gR v) (lY (zJ i) (ee k X v m H (fun u H=>ee k X o m H (fun o H=>ee k X i m H (fun i H=>cJ H o i u fun H=>Q .next m H) E) E) E))
  | .Assign [.Tuple ts n p] (.Tuple vs t7 t6) _=>(match zx X ts vs with
   |some none=>ee k X (.Tuple vs t7 t6) m H (fun u H=>qm X H (.Tuple ts n p) u m fun m'=>Q .next m' H) E
   |some (some names)=>ee k X (.Tuple vs t7 t6) m H (fun u H=>cS H X.hd u names.length fun us=>ub X (nA names.reverse) us.reverse m fun m'=>Q .next m' H) E
   |none=>False)
  | .Assign [.Tuple ts n p] (.Name x q) _=>ee k X (.Name x q) m H (fun u H=>qm X H (.Tuple ts n p) u m fun m'=>Q .next m' H) E
  | .Assign [.Tuple ts n p] (.Call f args kw q) _=>ee k X (.Call f args kw q) m H (fun u H=>qm X H (.Tuple ts n p) u m fun m'=>Q .next m' H) E
  | .While t body [] _=>lY X.act (∃(I:Nat→aB→AH→Prop) (t8:Nat),I t8 (m.map (·.2)) H∧∀j aE,vO m.length fun us=>I j us aE→Cr k X t (jj m us) aE (fun b aH=>if b=true then gs k X body (jj m us) aH (fun fl cA aO=>match fl with
   | .next=>lY (mO m cA) (∃i,i < j∧I i (projM m cA) aO)
   | .cont=>lY (mO m cA) (∃i,i < j∧I i (projM m cA) aO)
   | .brk=>Q .next cA aO
   | .ret r=>Q (.ret r) cA aO) E else Q .next (jj m us) aH) E)
  | .For target iter body [] _=>lY (uC iter) (ee k X iter m H (fun x H=>∃(src:Src) (xs:aB) (I:Nat→aB→AH→Prop),fp H x xs src∧I 0 (m.map (·.2)) H∧(∀i us aE,I i us aE→src.ok aE xs)∧
   (∀i aE v,xs[i]?=some v→vO m.length fun us=>I i us aE→qm X aE target v (jj m us) fun m₂=>gs k X body m₂ aE (fun fl cA aO=>match fl with
    | .next=>lY (mO m cA) (I (i+1) (projM m cA) aO)
    | .cont=>lY (mO m cA) (I (i+1) (projM m cA) aO)
    | .brk=>Q .next cA aO
    | .ret r=>Q (.ret r) cA aO) su)∧
   ∀aE,vO m.length fun us=>I xs.length us aE→Clean X.hd aE∧Q .next (jj m us) aE) E)
  | .Raise (some (.Call (.Name f p) [a,b] [] _)) none _=>lY (dz [a,b]) (Bv (f==("__debug__":Str)) (lY (Nat.ble 10 k) (2≤X.n∧(X.look m H f fun fv=>fv=.ref 38)∧n9 k X [a,b] m H (fun us H=>match us with
   |[va,vb]=>Clean X.hd H∧∀e,H e=none→E e m (upd H e (.exc 1 (if X.hd=none then 1 else 2) [va,vb]))
   |_=>False) E)))
  | .Try body (.ExceptHandler (some (.Name f _)) (some hV) (sQ::pR) _::_) [] [] _=>X.act=true∧f="LispSignal"∧X.sc.lookup hV=some .local∧X.sc.lookup ("LispSignal":Str)=some .globalImplicit∧gs k X body m H Q (fun x m₁ aE=>(∃t k fs,aE x=some (.exc t k fs))∧gs k {X with hd:=some x} (sQ::pR) (put m₁ hV (.ref x)) aE (fun fl cA aO=>Q fl (mP cA hV) aO) (fun y cA aO=>E y (mP cA hV) aO))
  | .Try body [] [] (mZ::fin) _=>X.act=true∧gs k X body m H (fun fl m₁ aE=>gs k X (mZ::fin) m₁ aE (fun g m₂ aH=>match g with
    | .next=>Q fl m₂ aH
    |g=>Q g m₂ aH) su) (fun x m₁ aE=>∃t k' fs,aE x=some (.exc t k' fs)∧k'≠0∧gs k {X with hd:=some x} (mZ::fin) m₁ (del aE x) (fun g m₂ aH=>g=.next∧E x m₂ (upd aH x (.exc t k' fs))) su)
  |_=>False
def gs:Nat→XC→List Stmt→Map→AH→FQ→EM→Prop
 |0,_,_,_,_,_,_=>False
 |k+1,X,ss,m,H,Q,E=>match ss with
  |[]=>Q .next m H
  |s::ss=>RX k X s m H (fun fl m₁ aE=>match fl with
   | .next=>gs k X ss m₁ aE Q E
   |fl=>Q fl m₁ aE) E
end
def SS(k:Nat):Prop:=∀(X:XC) (c:Cx) (st:Stmt) (m:Map) (H:AH) (Q:FQ) (E:EM) (vs:aB),gy X c→RX k X st m H Q E→T X.S c vs m H (exec st c.env) (fun fl aQ m' H'=>(∀v,fl=.ret v→v∈aQ)∧Q (vK fl) m' H') E
def zt(k:Nat):Prop:=∀(X:XC) (c:Cx) (ss:List Stmt) (m:Map) (H:AH) (Q:FQ) (E:EM) (vs:aB),gy X c→gs k X ss m H Q E→T X.S c vs m H (execs ss c.env) (fun fl aQ m' H'=>(∀v,fl=.ret v→v∈aQ)∧Q (vK fl) m' H') E
variable{X:XC}{Q:FQ}
theorem gy.pin(ok:gy X c)(it:Addr)(o:Obj):gy X (c.pin it o):=
 ⟨ok.kind,ok.names,ok.glob,ok.Oz,ok.ok.pin it o,ok.act,fun h=>let⟨p,hp,r⟩:=ok.up h;⟨p,.tail _ hp,r⟩,ok.fr⟩
theorem gy.mark(ok:gy X c)(x:Addr):gy {X with hd:=some x} (c.mark x):=
 ⟨ok.kind,ok.names,ok.glob,ok.Oz,ok.ok.mark x,ok.act,ok.up,ok.fr⟩
theorem gy.other{cx:Cx}(ok:gy X c)(ha:X.act=true)(x:Addr)(he:cx.env=c.env)(hc:cx.act=true)(qh:cx.Ok X.n (some x)):gy {X with hd:=some x} cx:=
 ⟨he▸ok.kind,he▸ok.names,he▸ok.glob,he▸ok.Oz,qh,hc.trans ha.symm,fun h=>(eV (h.symm.trans ha)).elim,fun y d h1 h2=>by rw[he];exact ok.fr y d h1 h2⟩
theorem g8{v:Expr}{t:Option Expr}{l:Nat}{env:Env}(h:gR v=true):swapsWith v t l env=pure false:=by
 cases v<;>first|rfl|(cases h;done)
theorem Hw{k:Nat}{v:Expr}{p:Pos}(ok:gy X c)(hn:gR v=true)(h:ee k X v m H (fun _ H=>Q .next m H) E):T X.S c vs m H (exec (.Expr v p) c.env) (fun fl aQ m' H'=>(∀v,fl=.ret v→v∈aQ)∧Q (vK fl) m' H') E:=by
 have hi:interactive c.env=false:=by unfold interactive;rw[ok.kind];rfl
 rw[exec_Expr c.env v p hi (g8 hn)];refine aP (aZ fun _=>d6 ((dF k).1 X c v m H _ E vs ok h) fun u bZ aE hu l h=>?_)
 exact og fun s B=>wpAny_dropValue ⟨B,⟨fun v e=>by (cases e),h⟩⟩
theorem Ll{k:Nat}{v:Expr}{p:Pos}(ok:gy X c)(h:ee k X v m H (fun v H=>Q (.ret v) m H) E):T X.S c vs m H (exec (.Return (some v) p) c.env) (fun fl aQ m' H'=>(∀v,fl=.ret v→v∈aQ)∧Q (vK fl) m' H') E:=by
 rw[exec_Return_some];exact aP (aZ fun _=>d6 ((dF k).1 X c v m H _ E vs ok h) fun u bZ aE hu l h=>bV ⟨fun v e=>by cases e;exact hu,h⟩)
theorem PD{k:Nat}{t:Expr}{a b:List Stmt}{p:Pos}(qs:zt k)(ok:gy X c)(h:Cr k X t m H (fun c H=>if c=true then gs k X a m H Q E else gs k X b m H Q E) E):T X.S c vs m H (exec (.If t a b p) c.env) (fun fl aQ m' H'=>(∀v,fl=.ret v→v∈aQ)∧Q (vK fl) m' H') E:=by
 rw[exec_If];refine aP (aZ fun _=>qE ((dF k).2.2.1 X c t m H _ E vs ok h) fun x bZ aE l h=>?_)
 cases x with
 |true=>rw[bE rfl] at h⊢;exact qs X c a m aE Q E bZ ok h
 |false=>rw[aR eV] at h⊢;exact qs X c b m aE Q E bZ ok h
theorem E0{k:Nat}(ss:SS k)(qs:zt k):zt (k+1):=fun X c l m H Q E vs ok h=>by
 cases l with
 |nil=>rw[arm_execs_nil];exact bV ⟨fun v e=>by (cases e),h⟩
 |cons s r=>
  unfold gs at h;dsimp only at h;refine ia (execs_cons c.env s r) (aP (cL (ss X c s m H _ E vs ok h) (fun fl bZ m₁ aE l₁ ⟨hv,cN⟩ _=>?_) fun _ _ _ h=>h))
  cases fl with
  |next=>exact qs X c r m₁ aE Q E bZ ok cN
  |cont=>exact bV ⟨hv,cN⟩
  |brk=>exact bV ⟨hv,cN⟩
  |ret v=>exact bV ⟨hv,cN⟩
theorem yP{k:Nat}{x:Str}{v:Expr}{q p:Pos}(ok:gy X c)(hn:gR v=true)(hx:oq X x=true)(h:ee k X v m H (fun v H=>Q .next (put m x v) H) E):T X.S c vs m H (exec (.Assign [.Name x q] v p) c.env) (fun fl aQ m' H'=>(∀v,fl=.ret v→v∈aQ)∧Q (vK fl) m' H') E:=by
 rw[exec_Assign_Name c.env x q v p (g8 hn)];refine aP (aZ fun _=>d6 ((dF k).1 X c v m H _ E vs ok h) fun u bZ aE hu l h=>aP (aZ fun _=>aP (nP ok hx hu fun _=>bV ⟨fun v e=>by (cases e),h⟩)))
theorem yR{k:Nat}{o v:Expr}{a:Str}{q p:Pos}(ok:gy X c)(hn:gR v=true)(h:ee k X v m H (fun u H=>ee k X o m H (fun o H=>bU H o a u fun H=>Q .next m H) E) E):T X.S c vs m H (exec (.Assign [.Attribute o a q] v p) c.env) (fun fl aQ m' H'=>(∀v,fl=.ret v→v∈aQ)∧Q (vK fl) m' H') E:=by
 rw[plainObj_exec_Assign_Attribute o a q v p (g8 hn)];refine aP (aZ fun _=>d6 ((dF k).1 X c v m H _ E vs ok h) fun u bZ aE hu l h=>aP ?_)
 rw[assign_Attribute];exact d6 (bY ((dF k).1 X c o m aE _ E bZ ok h)) fun ov cD aH ho l₂ h=>aP (aZ fun _=>aP (bY (IV (l₂ _ hu) h fun H' hq _=>tS fun _=>bV ⟨fun v e=>by (cases e),hq⟩)))
theorem BE{k:Nat}{o i v:Expr}{q p:Pos}(ok:gy X c)(hn:gR v=true)(hs:zJ i=true)(h:ee k X v m H (fun u H=>ee k X o m H (fun o H=>ee k X i m H (fun i H=>cJ H o i u fun H=>Q .next m H) E) E) E):T X.S c vs m H (exec (.Assign [.Subscript o i q] v p) c.env) (fun fl aQ m' H'=>(∀v,fl=.ret v→v∈aQ)∧Q (vK fl) m' H') E:=by
 rw[exec_Assign_Subscript o i q v p (g8 hn)];refine aP (aZ fun _=>d6 ((dF k).1 X c v m H _ E vs ok h) fun u bZ aE hu l h=>aP ?_)
 rw[assign_Subscript];exact d6 (bY ((dF k).1 X c o m aE _ E bZ ok h)) fun ov cD aH ho l₂ h=>d6 (bY ((dF k).1 X c i m aH _ E cD ok h)) fun iv dB aO hi jT h=>aP (aZ fun _=>aP (bY (ze (jT _ (l₂ _ hu)) h fun H' hq _=>tS fun _=>bV ⟨fun v e=>by (cases e),hq⟩)))
theorem yL{x:Str}{q p:Pos}{elt:Expr}{gens:List Comprehension}{scope:Scope}{pos:Pos}(ok:gy X c)(h:vR X x q scope pos=true):swapsWith (.ListComp elt gens scope pos) (some (.Name x q)) p.line c.env=pure true:=by
 unfold vR at h;obtain⟨Oy,h3⟩:=jY.mp h;obtain⟨h1,h2⟩:=jY.mp Oy;have e:swapsWith (.ListComp elt gens scope pos) (some (.Name x q)) p.line c.env=pure (c.env.blockKind==.function&&c.env.kindOf x==some .local&&q.line==pos.line&&!(scope.names.any fun(n,k)=>n==x&&(k==.local||k==.cell))):=rfl
 have hk:c.env.blockKind=.function:=by unfold Env.blockKind;rw[ok.kind];rfl
 rw[e,ok.names x,h1,h2,h3,hk]
 rfl
theorem yQ{k:Nat}{x:Str}{q sp:Pos}{elt target iter:Expr}{ifs:List Expr}{scope:Scope}{pos:Pos}(ok:gy X c)(hb:me X scope iter=true)(hu:vR X x q scope pos=true)(h:ee k X iter m H (fun hV H=>∃(src:Src) (xs:aB) (I:Nat→aB→AH→Prop),fp H hV xs src∧xs.length≤1000000∧I 0 [] H∧(∀i bN aE,I i bN aE→src.ok aE xs)∧
   (∀i bN aE v,I i bN aE→xs[i]?=some v→qm (X.comp scope m) aE target v [] fun m₂=>l9 k (X.comp scope m) ifs m₂ aE (fun ok aH=>if ok=true then ee k (X.comp scope m) elt m₂ aH (fun y aO=>I (i+1) (bN++[y]) aO) su else I (i+1) bN aH) su)∧
   ∀bN aE,I xs.length bN aE→Clean X.hd aE∧∃t,t≠0∧∀D,aE D=none→Q .next (put m x (.ref D)) (upd aE D (.list t bN))) E):T X.S c vs m H (exec (.Assign [.Name x q] (.ListComp elt [⟨target,iter,ifs,0⟩] scope pos) sp) c.env) (fun fl aQ m' H'=>(∀v,fl=.ret v→v∈aQ)∧Q (vK fl) m' H') E:=by
 rw[exec_Assign_Name_used x q _ sp (yL ok hu)];have Y2:X.sc.lookup x=some .local:=by
  unfold vR at hu;simp only[dJ,dE] at hu;exact hu.1.1
 unfold me at hb;simp only[dJ,jD,dC,kq,nq,dE,ne_eq] at hb;obtain⟨⟨⟨ha,qO⟩,hk⟩,hn⟩:=hb;have n1:∀y∈scope.names,y.2≠.cell:=fun y hy=>(hn y hy).1.1
 refine aP (aZ fun _=>aP (sj (ok.act.trans ha) fun n7=>?_))
 obtain⟨cl,h1,h2,h3⟩:=j7 (cells:=c.env.cells) (names:=scope.names) (bN:=[]) (fun y hy q=>by
  refine n7 _ ((ok.names _).trans ?_);rcases(hn y hy).1.2 with h|h
  .exact absurd q h
  .exact h) fun x d hx=>by cases hx
 refine Ce ok.ok h1 n1 hk (fun y hy q=>(hn y hy).2.elim (fun h=>absurd q h) id) (fun x=>ke qO) (cL ((dF k).1 X c iter m H _ E vs ok h) (fun hV bZ m₁ aE l₁ ⟨hx,hm,src,xs,I,hs,hz,hI,qh,turn,hF⟩=>?_) fun _ _ _ h=>h)
 subst hm;refine⟨rfl,src,xs,I,hs,hz,hI,qh,fun i bN H' aQ v u cx cc vB hI hv hu N6=>?_,fun bN H' hI=>⟨(hF bN H' hI).1,?_⟩⟩
 .have JZ:gy (X.comp scope m₁) cx:=A8 ok ha hk n1 n7 h2 (fun x hx=>h3 x (.inr hx)) cc
  refine zN (X:=X.comp scope m₁) JZ N6 (hu▸turn i bN H' v hI hv) fun cD m₂ l₂ dA=>?_
  refine cL ((dF k).2.2.2.2 (X.comp scope m₁) cx ifs m₂ H' _ su cD JZ dA) (fun b dB cA aO jT ⟨hm,eQ⟩=>?_) fun _ _ _ h=>h
  subst hm;cases b with
  |false=>rw[aR eV] at eQ⊢;exact eQ
  |true=>
   rw[bE rfl] at eQ⊢;exact cL ((dF k).1 (X.comp scope m₁) cx elt cA aO _ su dB JZ eQ) (fun y qT xK bI G9 ⟨hy,_,CG⟩=>⟨hy,CG⟩) fun _ _ _ h=>h
 .obtain⟨t,ht,hq⟩:=(hF bN H' hI).2
  refine⟨t,ht,fun D C o kQ hD _=>pM (ok.pin C o) ?_ (.head _) fun _=>bV ⟨fun v e=>by (cases e),hq D hD⟩⟩
  unfold oq;rw[Y2];rfl
theorem pI{k:Nat}{ts:List Expr}{n:Nat}{v:Expr}{q p:Pos}(ok:gy X c)(hn:gR v=true)(hw:swappedStores [.Tuple ts n q] v c.env=pure none)(h:ee k X v m H (fun u H=>qm X H (.Tuple ts n q) u m fun m'=>Q .next m' H) E):T X.S c vs m H (exec (.Assign [.Tuple ts n q] v p) c.env) (fun fl aQ m' H'=>(∀v,fl=.ret v→v∈aQ)∧Q (vK fl) m' H') E:=by
 rw[arm_exec_Assign];have e:swapsWithSole [.Tuple ts n q] v p.line c.env=pure false:=by
  show swapsWith v (some (.Tuple ts n q)) p.line c.env=pure false;exact g8 hn
 rw[e];refine aP (aZ fun _=>aP (bV fun _=>?_))
 rw[aR eV];refine d6 ((dF k).1 X c v m H _ E vs ok h) fun u bZ aE hu l h=>?_
 rw[hw];refine aP (bV fun _=>?_)
 refine ia (t':=assign (.Tuple ts n q) c.env u >>= fun _=>pure .next) rfl (aP (zN ok hu h fun aQ m' l hq _=>bV ⟨fun v e=>by (cases e),hq⟩))
theorem qD:∀{k:Nat} {P:aB→Prop},vO k P→∀us:aB,us.length=k→P us
 |0,P,h,us,hl=>by rw[List.eq_nil_of_length_eq_zero hl];exact h
 |k+1,P,h,[],hl=>by cases hl
 |k+1,P,h,u::us,hl=>qD (k:=k) (P:=fun us=>P (u::us)) (h u) us (by simpa using hl)
theorem pG:∀{m:Map},jj m (m.map (·.2))=m
 |[]=>rfl
 |(n,v)::m=>by
  have:=pG (m:=m)
  unfold jj at this⊢;rw[fj,yl,this]
theorem jO:∀{m m':Map} {x:Str} {v:aC},mO m m'=true→(jj m (projM m m')).lookup x=some v→m'.lookup x=some v
 |[],m',x,v,hk,h=>by cases h
 |(n,u)::m,m',x,v,hk,h=>by
  unfold mO at hk;rw[uw,dJ] at hk;have ih:=jO (m:=m) (m':=m') (x:=x) (v:=v) hk.2;unfold jj projM at h ih;rw[fj,yl,eP] at h;split at h
  .rename_i q
   have q:=eq_of_beq q;subst q;obtain⟨w,hw⟩:=mK.mp hk.1;have hw:m'.lookup x=some w:=hw;rw[hw] at h;rw[hw];exact h
  .exact ih h
theorem mh{m m':Map}:(projM m m').length=m.length:=by unfold projM;rw[dO]
theorem Bc{α:Type}{t:Sem α}{S:aN}{R:α→aB→Map→AH→Prop}(h:T S c vs m H t (fun a aQ m' H'=>∃xD:Map,(∀x v,xD.lookup x=some v→m'.lookup x=some v)∧R a aQ xD H') E):T S c vs m H t R E:=fun s B=>
 dD (h s B) (fun a s' ⟨aQ,m',H',l,⟨ρ,τ,b,w⟩,xD,hm,hr⟩=>⟨aQ,xD,H',l,⟨ρ,τ,Body.weak b hm,w⟩,hr⟩) fun _ _ h=>h
theorem E1{k:Nat}{t:Expr}{body:List Stmt}{p:Pos}(qs:zt k)(ok:gy X c)(ha:X.act=true)(h:∃(I:Nat→aB→AH→Prop) (t8:Nat),I t8 (m.map (·.2)) H∧∀j aE,vO m.length fun us=>I j us aE→Cr k X t (jj m us) aE (fun b aH=>if b=true then gs k X body (jj m us) aH (fun fl cA aO=>match fl with
   | .next=>lY (mO m cA) (∃i,i < j∧I i (projM m cA) aO)
   | .cont=>lY (mO m cA) (∃i,i < j∧I i (projM m cA) aO)
   | .brk=>Q .next cA aO
   | .ret r=>Q (.ret r) cA aO) E else Q .next (jj m us) aH) E):T X.S c vs m H (exec (.While t body [] p) c.env) (fun fl aQ m' H'=>(∀v,fl=.ret v→v∈aQ)∧Q (vK fl) m' H') E:=by
 obtain⟨I,t8,hI,turn⟩:=h;refine IM (fun j m₁ aE=>∃us,us.length=m.length∧m₁=jj m us∧I j us aE) (ok.act.trans ha) ok.ok ⟨m.map (·.2),dO _,pG.symm,hI⟩ fun j m₁ aE bZ l₁ ⟨us,hl,QZ,hI⟩=>?_
 subst QZ;refine cL ((dF k).2.2.1 X c t (jj m us) aE _ E bZ ok (qD (turn j aE) us hl hI)) (fun b cD m₂ aH l₂ ⟨hm,hb⟩=>?_) fun _ _ _ h=>h
 subst hm;cases b with
 |false=>rw[aR eV] at hb⊢;exact⟨fun v e=>by (cases e),hb⟩
 |true=>
  rw[bE rfl] at hb⊢;refine Bc (cL (qs X c body _ aH _ E cD ok hb) (fun fl dB cA aO jT ⟨hv,hq⟩=>?_) fun _ _ _ h=>h)
  cases fl with
  |next=>
   obtain⟨hk,i,hi,hI⟩:=bX hq;exact⟨jj m (projM m cA),fun x v=>jO hk,i,hi,_,mh,rfl,hI⟩
  |cont=>
   obtain⟨hk,i,hi,hI⟩:=bX hq;exact⟨jj m (projM m cA),fun x v=>jO hk,i,hi,_,mh,rfl,hI⟩
  |brk=>exact⟨cA,fun _ _ h=>h,fun v e=>by (cases e),hq⟩
  |ret r=>exact⟨cA,fun _ _ h=>h,fun v e=>by cases e;exact hv _ rfl,hq⟩
theorem Lm{k:Nat}{iter target:Expr}{body:List Stmt}{p:Pos}(qs:zt k)(ok:gy X c)(qO:uC iter=true)(h:ee k X iter m H (fun x H=>∃(src:Src) (xs:aB) (I:Nat→aB→AH→Prop),fp H x xs src∧I 0 (m.map (·.2)) H∧(∀i us aE,I i us aE→src.ok aE xs)∧
   (∀i aE v,xs[i]?=some v→vO m.length fun us=>I i us aE→qm X aE target v (jj m us) fun m₂=>gs k X body m₂ aE (fun fl cA aO=>match fl with
    | .next=>lY (mO m cA) (I (i+1) (projM m cA) aO)
    | .cont=>lY (mO m cA) (I (i+1) (projM m cA) aO)
    | .brk=>Q .next cA aO
    | .ret r=>Q (.ret r) cA aO) su)∧
   ∀aE,vO m.length fun us=>I xs.length us aE→Clean X.hd aE∧Q .next (jj m us) aE) E):T X.S c vs m H (exec (.For target iter body [] p) c.env) (fun fl aQ m' H'=>(∀v,fl=.ret v→v∈aQ)∧Q (vK fl) m' H') E:=by
 refine Rh (I:=fun _ _ _=>True) (fun x=>ke qO) (cL ((dF k).1 X c iter m H _ E vs ok h) (fun x bZ m₁ aE l₁ ⟨hx,hm,src,xs,I,hs,hI,qh,turn,hF⟩ _=>?_) fun _ _ _ h=>h)
 subst hm;refine Cd (I:=fun i m' H'=>∃us,us.length=m₁.length∧m'=jj m₁ us∧I i us H') ok.ok hs ⟨m₁.map (·.2),dO _,pG.symm,hI⟩ (fun i m' H' ⟨us,_,_,hI⟩=>qh i us H' hI) (fun i m' H' aQ it o v u vB ⟨us,hl,qJ,hI⟩ hv hu N6=>?_) fun m' H' aQ _ ⟨us,hl,qJ,hI⟩=>?_
 .subst qJ
  refine zN (ok.pin it o) N6 (hu▸qD (turn i H' v hv) us hl hI) fun cD m₂ l₂ dA=>Bc (cL (qs X (c.pin it o) body m₂ H' _ su cD (ok.pin it o) dA) (fun fl dB cA aO jT ⟨hv,hq⟩=>?_) fun _ _ _ h=>h)
  cases fl with
  |next=>
   obtain⟨hk,hI⟩:=bX hq;exact⟨jj m₁ (projM m₁ cA),fun x v=>jO hk,_,mh,rfl,hI⟩
  |cont=>
   obtain⟨hk,hI⟩:=bX hq;exact⟨jj m₁ (projM m₁ cA),fun x v=>jO hk,_,mh,rfl,hI⟩
  |brk=>exact⟨cA,fun _ _ h=>h,fun v e=>by (cases e),hq⟩
  |ret r=>exact⟨cA,fun _ _ h=>h,fun v e=>by cases e;exact hv _ rfl,hq⟩
 .subst qJ
  have:=qD (hF H') us hl hI
  exact⟨this.1,fun v e=>by (cases e),this.2⟩
theorem Hv{k:Nat}{body pR:List Stmt}{sQ:Stmt}{f hV:Str}{CE Uh p:Pos}{rest:List ExceptHandler}(qs:zt k)(ok:gy X c)
  (h:X.act=true∧f="LispSignal"∧X.sc.lookup hV=some .local∧X.sc.lookup ("LispSignal":Str)=some .globalImplicit∧gs k X body m H Q (fun x m₁ aE=>(∃t k fs,aE x=some (.exc t k fs))∧gs k {X with hd:=some x} (sQ::pR) (put m₁ hV (.ref x)) aE (fun fl cA aO=>Q fl (mP cA hV) aO) (fun y cA aO=>E y (mP cA hV) aO))):
  T X.S c vs m H (exec (.Try body (.ExceptHandler (some (.Name f CE)) (some hV) (sQ::pR) Uh::rest) [] [] p) c.env) (fun fl aQ m' H'=>(∀v,fl=.ret v→v∈aQ)∧Q (vK fl) m' H') E:=by
 obtain⟨ha,rfl,hx,hg,h⟩:=h;refine FF (orelse:=[]) (pos:=p) (ok.act.trans ha) ok.ok ok.kind ((ok.names _).trans hx) ((ok.names _).trans hg) ok.glob (cL (qs X c body m H Q _ vs ok h) (fun _ _ _ _ _ h=>h) fun x m' H' ⟨hex,h2⟩=>⟨hex,fun aQ l=>?_⟩)
 exact qs {X with hd:=some x} (c.mark x) (sQ::pR) _ H' _ _ (.ref x::aQ) (ok.mark x) h2
theorem Hu{k:Nat}{body fin:List Stmt}{mZ:Stmt}{p:Pos}(qs:zt k)(ok:gy X c)
  (h:X.act=true∧gs k X body m H (fun fl m₁ aE=>gs k X (mZ::fin) m₁ aE (fun g m₂ aH=>match g with
    | .next=>Q fl m₂ aH
    |g=>Q g m₂ aH) su) (fun x m₁ aE=>∃t k' fs,aE x=some (.exc t k' fs)∧k'≠0∧gs k {X with hd:=some x} (mZ::fin) m₁ (del aE x) (fun g m₂ aH=>g=.next∧E x m₂ (upd aH x (.exc t k' fs))) su)):
  T X.S c vs m H (exec (.Try body [] [] (mZ::fin) p) c.env) (fun fl aQ m' H'=>(∀v,fl=.ret v→v∈aQ)∧Q (vK fl) m' H') E:=by
 obtain⟨ha,h⟩:=h;refine FA (pos:=p) (ok.act.trans ha) ok.ok (cL (qs X c body m H _ _ vs ok h) (fun fl bZ m₁ aE l₁ ⟨hv,cN⟩=>?_) fun x m' H' ⟨t,k',fs,hx,hk,h2⟩=>⟨t,k',fs,hx,hk,fun aQ cx he hc qh=>?_⟩)
 .refine cL (qs X c (mZ::fin) m₁ aE _ su bZ ok cN) (fun g cD m₂ aH l₂ ⟨hg,hq⟩=>?_) fun _ _ _ h=>h
  cases g with
  |next=>exact⟨fun v e=>l₂ v (hv v e),hq⟩
  |cont=>exact⟨hg,hq⟩
  |brk=>exact⟨hg,hq⟩
  |ret r=>exact⟨hg,hq⟩
 .have:=qs {X with hd:=some x} cx (mZ::fin) m' (del H' x) _ su aQ (ok.other ha x he hc qh) h2
  rw[he] at this;refine cL this (fun g cD m₂ aH l₂ ⟨hg,hq,h⟩=>⟨?_,h⟩) fun _ _ _ h=>h
  cases g<;>first|rfl|(cases hq;done)
theorem tU(ok:gy X c):∀{ns:bW} {us:aB} {vs:aB} {m m':Map} {Q:Unit→aB→Map→AH→Prop},ip X (nA ns) (us.map er) m=some m'→(∀u∈us,u∈vs)→Q () vs m' H→T X.S c vs m H (assignInOrder (ns.map fun n=>bindName c.env n) us) Q E
 |[],[],vs,m,m',Q,h,hu,q=>by unfold nA at h;unfold ip at h;cases h;exact ia (t':=pure ()) rfl (bV q)
 |n::ns,u::us,vs,m,m',Q,h,hu,q=>by
  have h:ip X (.Name n ⟨0,0,0,0⟩::nA ns) (er u::us.map er) m=some m':=h;unfold ip at h;split at h
  .rename_i hx
   refine ia (t':=holding us (bindName c.env n u) >>= fun _=>assignInOrder (ns.map fun n=>bindName c.env n) us) rfl (aP (bY (nP ok hx (hu _ (.head _)) fun _=>tU ok h (fun w hw=>hu w (.tail _ hw)) q)))
  .cases h
 |[],u::us,vs,m,m',Q,h,hu,q=>by unfold nA at h;unfold ip at h;cases h
 |n::ns,[],vs,m,m',Q,h,hu,q=>by
  have h:ip X (.Name n ⟨0,0,0,0⟩::nA ns) [] m=some m':=h;unfold ip at h;cases h
theorem wF{ts aQ:List Expr}{n t7:Nat}{q t6:Pos}{r:Option (bW)}(ok:gy X c)(h:zx X ts aQ=some r):swappedStores [.Tuple ts n q] (.Tuple aQ t7 t6) c.env=pure r:=by
 have hk:c.env.blockKind=.function:=by unfold Env.blockKind;rw[ok.kind];rfl
 have hn:(ts.filterMap fun
  | .Name id pos=>if(c.env.kindOf id==some .local&&pos.line==(ts.head?.map (·.pos.line)).getD 0)=true then some id else none
  |_=>none)=ts.filterMap fun
  | .Name id pos=>if(X.sc.lookup id==some .local&&pos.line==(ts.head?.map (·.pos.line)).getD 0)=true then some id else none
  |_=>none:=by
  congr 1
  funext e
  cases e<;>first|rfl|(simp only[ok.names])
 have e:swappedStores [.Tuple ts n q] (.Tuple aQ t7 t6) c.env=(
  if(!(ts.length==2||ts.length==3)||aQ.length != ts.length||c.env.blockKind != .function)=true then pure none else
  if(aQ.any fun| .Starred .. =>true|_=>false)=true then pure none else
  (fun names:bW=>if(names.length != ts.length||names.eraseDups.length != names.length)=true then pure none else
  if aQ.all (foldedForSure 8)=true then pure none else
  if aQ.all (constantsAlone 8)=true then(do unsupported "assign.tuple-of-constant-expressions:order-of-the-stores";pure (some names)) else pure (some names)) (ts.filterMap fun
  | .Name id pos=>if(c.env.kindOf id==some .local&&pos.line==(ts.head?.map (·.pos.line)).getD 0)=true then some id else none
  |_=>none)):=rfl
 rw[e,hn,hk];have hb:((ScopeKind.function != ScopeKind.function):Bool)=false:=rfl;rw[hb,Bool.or_false];unfold zx at h;dsimp only at h⊢;split at h
 .rename_i q;cases h;exact bE q
 rename_i q1
 refine(aR q1).trans ?_
 split at h
 .rename_i q;cases h;exact bE q
 rename_i q2
 refine(aR q2).trans ?_
 split at h
 .rename_i q;cases h;exact bE q
 rename_i q3
 refine(aR q3).trans ?_
 split at h
 .rename_i q;cases h;exact bE q
 rename_i q4
 refine(aR q4).trans ?_
 split at h
 .cases h
 rename_i q5;cases h;exact aR q5
theorem yO{k:Nat}{ts aQ:List Expr}{n t7:Nat}{q t6 p:Pos}{names:bW}(ok:gy X c)(hw:zx X ts aQ=some (some names))(h:ee k X (.Tuple aQ t7 t6) m H (fun u H=>cS H X.hd u names.length fun us=>ub X (nA names.reverse) us.reverse m fun m'=>Q .next m' H) E):T X.S c vs m H (exec (.Assign [.Tuple ts n q] (.Tuple aQ t7 t6) p) c.env) (fun fl aQ m' H'=>(∀v,fl=.ret v→v∈aQ)∧Q (vK fl) m' H') E:=by
 rw[arm_exec_Assign];have e:swapsWithSole [.Tuple ts n q] (.Tuple aQ t7 t6) p.line c.env=pure false:=rfl;rw[e];refine aP (aZ fun _=>aP (bV fun _=>?_))
 rw[aR eV];refine d6 ((dF k).1 X c _ m H _ E vs ok h) fun u bZ aE hu l h=>?_
 rw[wF ok hw];refine aP (bV fun _=>?_)
 unfold assignStores;dsimp only;refine aP (og fun s B=>tq ⟨B,fun _=>?_⟩)
 refine aP (w9 ok.ok h fun us aQ hP hl hm l _=>?_)
 obtain⟨m',qJ,hP⟩:=yE hP
 .rw[←List.map_reverse] at qJ
  exact aP (tU ok qJ (fun u hu=>hm u (List.mem_reverse.mp hu)) fun _=>bV ⟨fun v e=>by (cases e),hP⟩)
theorem nD:∀{ns:bW} {us:aB} {n:Str},us.length=ns.length→n∈ns→((ns.zip us).lookup n).isSome=true
 |[],us,n,hl,hn=>by cases hn
 |a::ns,[],n,hl,hn=>by cases hl
 |a::ns,u::us,n,hl,hn=>by
  rw[iK,eP]
  by_cases q:(n==a)=true
  .rw[q];rfl
  .rw[oj] at q
   rw[q];rcases bS.mp hn with h|h
   .subst h;rw[fR] at q;cases q
   .exact nD (by simpa using hl) h
theorem wW{α β:Type}{f g:α→Option β}:∀{l:List α},(∀x∈l,f x=g x)→l.filterMap f=l.filterMap g
 |[],_=>rfl
 |a::l,h=>by
  rw[yk,yk,h a (.head _),wW fun x hx=>h x (.tail _ hx)]
theorem uI:∀{ns:bW} {us:aB},us.length=ns.length→ns.Nodup→ns.filterMap (fun n=>((ns.zip us).lookup n).map fun v=>(n,v))=ns.zip us
 |[],us,hl,nd=>rfl
 |a::ns,[],hl,nd=>by cases hl
 |a::ns,u::us,hl,nd=>by
  obtain⟨na,nd⟩:=fX.mp nd;rw[iK,yk,eP,fR]
  show(a,u)::_=_
  congr 1
  refine Eq.trans (wW fun n hn=>?_) (uI (us:=us) (by simpa using hl) nd)
  rw[eP]
  have:(n==a)=false:=by
   rw[dw]
   rintro rfl;exact na hn
  rw[this]
theorem lQ{fd:FuncData}{names:bW}{args:aB}(h1:fd.params.posonlyargs=[])(h2:fd.params.kwonlyargs=[])(h3:fd.params.vararg=none)(h4:fd.params.kwarg=none)(h5:fd.defaults=.none)(hn:fd.params.args.map (·.arg)=names)(hl:args.length=names.length)(nd:names.Nodup):bindArgs fd ⟨args,[]⟩=pure (names.zip args):=by
 unfold bindArgs;simp only[h1,h2,h3,h4,h5,hn,ry,lE,gE,pE,pure_bind];have hs:seqItems? Value.none=pure none:=rfl;have hm:names.filter (fun n=>((names.zip args).lookup n).isNone)=[]:=List.filter_eq_nil_iff.mpr fun n hn=>by
  have:=nD (us:=args) hl hn
  cases q:(names.zip args).lookup n with
  |none=>rw[q] at this;cases this
  |some v=>simp
 simp only[hs,pure_bind,Option.getD_none,Array.toList_empty,hl,gt_iff_lt,Nat.lt_irrefl,decide_false,Bool.false_and,tn,tv,List.drop_nil,rC,Nat.sub_zero,List.take_length,hm,yp,Bool.not_true,nk,List.zip_nil_right,pE,uI hl nd]
def JL:aC→Bool
 | .none=>true
 |_=>false
def wM(fd:FuncData):Option (bW):=
 if(fd.params.posonlyargs.isEmpty&&fd.params.kwonlyargs.isEmpty&&fd.params.vararg.isNone&&fd.params.kwarg.isNone&&JL fd.defaults)=true then some (fd.params.args.map (·.arg)) else none
structure Code where
 body:List Stmt
 sc:List (Str×NameKind)
 par:bW
noncomputable def codeOf(P:Params)(f:Addr):Option Code:=match iN (KK P) f with
 |some fd=>if ix (KK P) fd=true then(match fd.body,wM fd with
  | .stmts b,some ns=>if(decide ns.Nodup&&ns.all fun x=>fd.scope.names.lookup x==some .local||fd.scope.names.lookup x==some .cell)=true then some ⟨b,fd.scope.names,ns⟩ else none
  |_,_=>none) else none
 |none=>none
theorem uV(fl:Flow):er (o8 fl)=o8 (vK fl):=by cases fl<;>rfl
theorem zP{S:aN}{n:Nat}{hd:bP}{fd:FuncData}{f:Addr}{c:Cx}(hk:fd.scope.kind=.function)(he:zO S fd f c.env)(ha:c.act=true)(ok:c.Ok n hd):gy ⟨S,n,hd,fd.scope.names,true,[],[]⟩ c:=
 ⟨by rw[he.scope];exact hk,fun x=>by show c.env.scope.names.lookup x=_;rw[he.scope],he.globals,he.builtins,ok,ha,fun h=>(by cases h),fun x d hx=>by cases hx⟩
theorem sat_def{S:aN}{n k:Nat}{hd:bP}{f:Addr}{cd:Code}{args:aB}{H:AH}{Q:pn}{E:EPost}(all:zt k)(hc:codeOf S.w.params f=some cd)(hl:args.length=cd.par.length)
  (h:gs k ⟨S,n,hd,cd.sc,true,[],[]⟩ cd.body (cd.par.zip args) H (fun fl _ H'=>Q (o8 fl) H') (fun x _ H'=>E x H')):Sat S (n+1) hd (.ref f) args H Q E:=by
 unfold codeOf at hc;split at hc
 rotate_left
 .cases hc
 rename_i fd Ot;split at hc
 rotate_left
 .cases hc
 rename_i hp;split at hc
 rotate_left
 .cases hc
 rename_i b ns hb iZ;split at hc
 rotate_left
 .cases hc
 rename_i qh;cases hc;rw[dJ,jD] at qh;obtain⟨nd,KL⟩:=qh;unfold wM at iZ;split at iZ
 rotate_left
 .cases iZ
 rename_i CH;cases iZ;simp only[dJ,v5,rv] at CH;obtain⟨⟨⟨⟨h1,h2⟩,h3⟩,h4⟩,h5⟩:=CH;have h5:fd.defaults=.none:=by
  unfold JL at h5;split at h5
  .assumption
  .cases h5
 have kL:fd.scope.kind=.function:=by
  unfold ix at hp;simp only[dJ,jD] at hp;exact hp.1.1.2
 have fst:∀{us:aB} {l:bW},us.length=l.length→(l.zip us).map (·.1)=l:=fun{us l} e=>by
  rw[yj (by omega)]
 refine Em Ot hp hb (binds:=(fd.params.args.map (·.arg)).zip args) (fun d9 s ha _=>⟨(fd.params.args.map (·.arg)).zip d9,BindsTo.of_eq (lQ h1 h2 h3 h4 h5 rfl (by rw[←hl,←ha,dO]) nd),?_,fun p hp=>.inl (lG (a:=p.1) (b:=p.2) hp).2⟩) ?_ ?_ fun c he lg ok vs=>?_
 .rw[←ha,List.zip_map_right];rfl
 .rw[dC]
  intro p hp;exact dC.mp KL _ (lG (a:=p.1) (b:=p.2) hp).1
 .rw[fst hl];exact nd
 .exact cL (all ⟨S,n,hd,fd.scope.names,true,[],[]⟩ c b _ H _ _ vs (zP kL he lg ok) h) (fun fl aQ m' H' l ⟨hv,hq⟩=>⟨hv,by rw[uV];exact hq⟩) fun _ _ _ h=>h
theorem Q8(P:Params):((codeOf P 35).map fun c=>c.par)=some [("self":Str),("symbol":Str),("data":Str)]:=by kernel_rfl
theorem TV(P:Params)(S:aN)(n:Nat)(hd:bP)(a va vb:aC)(H:AH)(Q:FQ)(E:EM)(j:Nat):((codeOf P 35).map fun cd=>gs (j+10) ⟨S,n,hd,cd.sc,true,[],[]⟩ cd.body (cd.par.zip [a,va,vb]) H Q E)=
 some (bU H a "symbol" va fun H=>bU H a "data" vb fun H=>Q .next [("self",a),("symbol",va),("data",vb)] H):=by kernel_rfl
theorem bF{H:AH}{a:Addr}{x y:AO}:upd (upd H a x) a y=upd H a y:=by
 funext b
 by_cases h:b=a
 .subst h;rw[aA,aA]
 .rw[aT h,aT h,aT h]
theorem PI{S:aN}{n j:Nat}{hd:bP}{e tt:Addr}{t:Nat}{va vb:aC}{H:AH}{E:EPost}(all:zt (j+10))(ht:t≠0):Sat S (n+1) hd (.ref 35) [.ref e,va,vb] (upd H e (.raw t (xM tt))) (fun r H'=>r=.none∧H'=upd H e (.exc t 0 [va,vb])) E:=by
 have h1:=Q8 S.w.params;obtain⟨cd,hc,hp⟩:=ey.mp h1;have h2:=TV S.w.params S n hd (.ref e) va vb (upd H e (.raw t (xM tt))) (fun fl _ H'=>o8 fl=.none∧H'=upd H e (.exc t 0 [va,vb])) (fun x _ H'=>E x H') j
 rw[hc] at h2;have h2:=gZ h2;refine sat_def all hc (by rw[hp];rfl) ?_
 refine Eq.mpr h2 ?_;unfold bU;dsimp only;rw[aA];refine⟨rfl,ht,⟨tt,rfl⟩,?_⟩;rw[bF,aA];exact⟨rfl,rfl,bF⟩
theorem Clean.upd{hd:bP}{e:Addr}{o:AO}(h:Clean hd H)(he:H e=none):Clean hd (upd H e o):=fun x hx=>by
 have:=h x hx
 obtain⟨t,k,fs,q,r⟩:=this;refine⟨t,k,fs,?_,r⟩;rw[aT (fun e'=>by subst e';rw[he] at q;cases q)]
 exact q
theorem E2{j:Nat}{f:Str}{p q CE:Pos}{a b:Expr}(qs:zt (j+10))(ok:gy X c)(hp:dz [a,b]=true)(S4:(f==("__debug__":Str))=false)(hn:2≤X.n)(hf:X.look m H f fun fv=>fv=.ref 38)(h:n9 (j+10) X [a,b] m H (fun us H=>match us with
   |[va,vb]=>Clean X.hd H∧∀e,H e=none→E e m (upd H e (.exc 1 (if X.hd=none then 1 else 2) [va,vb]))
   |_=>False) E):
  T X.S c vs m H (exec (.Raise (some (.Call (.Name f p) [a,b] [] q)) none CE) c.env) (fun fl aQ m' H'=>(∀v,fl=.ret v→v∈aQ)∧Q (vK fl) m' H') E:=by
 have pl:=iQ (env:=c.env) (pos:=q) hp;obtain⟨n,hn⟩:∃n,X.n=n+1+1:=⟨X.n - 2,by omega⟩
 have Yi:c.Ok (n+1+1) X.hd:=hn▸ok.ok;rw[arm_exec_Raise];refine aP (aZ fun _=>IW ok.ok (aP (ia (t':=(standAt p >>= fun _=>if(f==("__debug__":Str))=true then debugConstant else loadName c.env f) >>= fun fv=>callWith q fv [] (backTo q (starEach [a,b] c.env)) (backToKw q (keywordEach [] c.env))) rfl (aP (aP (aZ fun _=>?_))))))
 rw[S4,aR eV];refine vj ok hf fun fv bZ zl ZP l₁ _=>?_
 have zl:=dM zl;subst zl;have args:T X.S c bZ m H (spliced (backTo q (starEach [a,b] c.env))) (fun us aQ m' H'=>(∀u∈us,u∈aQ)∧m'=m∧∃va vb,us.map er=[va,vb]∧Clean X.hd H'∧∀e,H' e=none→E e m (upd H' e (.exc 1 (if X.hd=none then 1 else 2) [va,vb]))) E:=by
  refine cL ((dF (j+10)).2.1 X c [a,b] m H _ E bZ q ok hp h) (fun us aQ m' H' l ⟨hu,hm,hq⟩=>⟨hu,hm,?_⟩) fun _ _ _ h=>h
  split at hq
  .rename_i va vb jQ
   exact⟨va,vb,jQ,hq⟩
  .exact hq.elim
 refine jh pl (cL args (fun us cD m₂ aH l₂ ⟨hu,hm,va,vb,jQ,cl,hE⟩=>⟨?_,?_⟩) fun _ _ _ h=>h)
 .show jd aH 38=true
  unfold jd;rw[show(lZ.lookup 38).isSome=true from by kernel_rfl,Bool.or_true];rfl
 .subst hm
  rw[lE];refine FW 1 (by decide) Yi hu (by have:=iE List.length jQ;simp at this;omega) fun e tt he=>?_
  rw[jQ];refine oM (PI qs (by decide)) (fun r H' ⟨hr,hH⟩=>⟨hr,fun aQ l _=>aP (aZ fun _=>bV ?_)⟩) fun _ _ h=>h
  subst hH;refine⟨e,1,[va,vb],rfl,aA,cl.upd he,?_⟩;rw[bF];exact hE e he
theorem Ht{k:Nat}(qs:zt k):SS (k+1):=fun X c st m H Q E vs ok h=>by
 unfold RX at h;split at h
 .exact Hw ok (bX h).1 (bX h).2
 .rw[arm_exec_Pass];exact aP (aZ fun _=>bV ⟨fun v e=>by (cases e),h⟩)
 .rw[arm_exec_Break];exact aP (aZ fun _=>bV ⟨fun v e=>by (cases e),h⟩)
 .rw[arm_exec_Continue];exact aP (aZ fun _=>bV ⟨fun v e=>by (cases e),h⟩)
 .rw[exec_Return_none];exact aP (aZ fun _=>js (v:=.none) (fun _ _ _ _=>trivial) (bV ⟨fun v e=>by cases e;exact .head _,h⟩))
 .exact Ll ok h
 .exact PD qs ok h
 .exact yQ ok (bX h).1 (bX (bX h).2).1 (bX (bX h).2).2
 .exact yP ok (bX h).1 (bX (bX h).2).1 (bX (bX h).2).2
 .exact yR ok (bX h).1 (bX h).2
 .exact BE ok (bX h).1 (bX (bX h).2).1 (bX (bX h).2).2
 .split at h
  .rename_i hw;exact pI ok rfl (wF ok hw) h
  .rename_i names hw;exact yO ok hw h
  .exact h.elim
 .exact pI ok rfl rfl h
 .exact pI ok rfl rfl h
 .exact E1 qs ok (bX h).1 (bX h).2
 .exact Lm qs ok (bX h).1 (bX h).2
 .obtain⟨h1,h⟩:=bX h
  obtain⟨h2,h⟩:=iy h;obtain⟨h4,h3,h5,h6⟩:=bX h;obtain⟨j,rfl⟩:∃j,k=j+10:=⟨k - 10,by have:=pC h4;omega⟩
  exact E2 qs ok h1 h2 h3 h5 h6
 .exact Hv qs ok h
 .exact Hu qs ok h
 .exact h.elim
theorem jg:∀k,SS k∧zt k
 |0=>⟨fun _ _ _ _ _ _ _ _ _ h=>by unfold RX at h;exact h.elim,fun _ _ _ _ _ _ _ _ _ h=>by unfold gs at h;exact h.elim⟩
 |k+1=>by
  obtain⟨a,b⟩:=jg k;exact⟨Ht b,E0 a b⟩
theorem Ls{S:aN}{n j:Nat}{hd:bP}{f:Addr}{args:aB}{H:AH}{Q:KQ}{E:EPost}{sh:XC→Prop}(hp:(codeOf S.w.params f).map (fun cd=>cd.par.length)=some args.length)
  (Gp:((codeOf S.w.params f).map fun cd=>gs (j+60) ⟨S,n,hd,cd.sc,true,[],[]⟩ cd.body (cd.par.zip args) H (fun fl _ H=>Q (o8 fl) H) (fun x _ H=>E x H))=(codeOf S.w.params f).map fun cd=>sh ⟨S,n,hd,cd.sc,true,[],[]⟩)
  (h:∀sc,sh ⟨S,n,hd,sc,true,[],[]⟩):Sat S (n+1) hd (.ref f) args H Q E:=by
 obtain⟨cd,hc,hl⟩:=ey.mp hp;rw[hc] at Gp;have Gp:=gZ Gp;exact sat_def (jg (j+60)).2 hc hl.symm (Eq.mpr Gp (h cd.sc))
theorem ED:((eK iz).kind,(eK iz).isCoroutine,(eK iz).isGenerator,(eK iz).names.all (fun x=>x.2 != .cell),(eK iz).names.lookup ("world_own":Str),(eK iz).names.lookup ("values":Str),(kN iz).args.map (·.arg))=(.function,false,false,true,some .local,some .local,[("world_own":Str),("values":Str)]):=by kernel_rfl
theorem QM:(kN iz).posonlyargs.isEmpty=true∧(kN iz).vararg.isNone=true∧(kN iz).kwarg.isNone=true:=⟨by kernel_rfl,by kernel_rfl,by kernel_rfl⟩
def ju(H:AH)(f:aC)(v:aC):Prop:=∃fa c' d fd oc us tt q,f=.ref fa∧H fa=some (.raw 1 {cls:=.type "function",data:=.func fd})∧H c'=some (.raw 1 oc)∧H d=some (.cell 1 v)∧yJ fd c' d q∧oc.data=.fields us∧us[1]?=some (.str q tt)
end
section
variable{S:aN}{n:Nat}{hd:bP}{H:AH}{Q:pn}{E:EPost}
theorem HO{f:aC}{v a b:aC}(hD:ju H f v)
  (h:∀c:Cx,∀d,H d=some (.cell 1 v)→c.env.scope=eK iz→c.env.globals=mainGlobals→c.env.builtins=builtinsNs→c.env.cells=[(("notes":Str),d)]→c.act=true→c.Ok n hd→∀vs,T S c vs [("world_own",a),("values",b)] H (execs (jF iz) c.env) (fun fl aQ m' H'=>(∀v,fl=.ret v→v∈aQ)∧Q (er (o8 fl)) H') (fun x m' H'=>E x H')):
  Sat S (n+1) hd f [a,b] H Q E:=by
 intro A fs vs d9 s ha NM oX Oo om ⟨ρ,τ,B,hW⟩;obtain⟨fa,c',d,fd,oc,us,tt,q,rfl,SY,Z2,ZX,F,doc,ic⟩:=hD;obtain⟨_,gf,_⟩:=B.lay _ _ SY;obtain⟨_,gc,_⟩:=B.lay _ _ Z2;have ns:=ED;simp only[nv] at ns;obtain⟨k1,k2,k3,k4,k5,k6,k7⟩:=ns;obtain⟨a1,a2,a3⟩:=QM;have Z1:s.heap.CodeRec fd.code fd.qualname:=⟨c',oc,us,tt,F.code,gc,doc,by rw[F.qual];exact ic⟩
 have hlen:d9.length=2:=by have:=iE List.length ha;simpa using this
 have hb:bindArgs fd ⟨d9,[]⟩=pure ([("world_own":Str),("values":Str)].zip d9):=
  lQ (by rw[F.params];exact v5.mp a1) (by rw[F.params];exact V7) (by rw[F.params];exact rv.mp a2) (by rw[F.params];exact rv.mp a3) F.dflt (by rw[F.params];exact k7) (by rw[hlen];rfl) (by decide)
 obtain⟨x,y,rfl⟩:∃x y,d9=[x,y]:=by
  match d9,hlen with
  |[x,y],_=>exact⟨x,y,rfl⟩
 have Sw:er x=a∧er y=b:=by simpa using ha
 obtain⟨hx,hy⟩:=Sw;refine codeAny_call_function (by have:=om.1;omega) gf rfl (by rw[F.scope];exact k2) (by rw[F.scope];exact k3) F.body Z1 ?_
 rw[hb];refine bO ?_;rw[F.scope,F.globals,F.builtins,F.closure];refine dD (wpAny_toks (wpAny_newFunctionEnv (Q:=fun env s₁=>env=newEnv (eK iz) s.heap.objs.size mainGlobals [(("notes":Str),d)] (fd.qualname++".<locals>.") (some fa) fd.code none builtinsNs∧∃cN tk,s₁={s with heap:=cN,toks:=tk}∧cN.Ns s.heap.objs.size (fun z=>([("world_own":Str),("values":Str)].zip [x,y]).reverse.lookup z)∧Heap.SameBut s.heap.objs.size (s.heap.push {cls:=.type "frame",data:=.dict #[]}) cN) (E:=fun _ _=>False)
  (fun z hz=>by have:=dC.mp k4 z hz;simpa using this) (fun z hz=>?_) (fun cN iZ RB=>⟨rfl,cN,_,rfl,iZ,RB⟩) k1)) (fun env s₁ ⟨gj,he,cN,tk,hs,iZ,RB⟩=>?_) fun _ _ h=>h.2.elim
 .have hz:z∈[(("world_own":Str),x),("values",y)]:=hz
  rcases bS.mp hz with rfl|hz
  .exact k5
  .rcases bS.mp hz with rfl|hz
   .exact k6
   .cases hz
 subst hs;have gj:s.toks≤tk:=gj;have hL:@Eq Nat env.locals s.heap.objs.size:=by rw[he];rfl
 have keep:∀b o,s.heap.get? b=some o→cN.get? b=some o:=fun b o e=>(RB.2 b (fq (eZ e))).trans (mu _ e)
 have Jk:cN.objs.size=s.heap.objs.size+1:=by rw[RB.1,xJ]
 refine⟨B.lim.keeps keep,codeAny_func ?_⟩;have rf:ρ s.heap.objs.size=.free:=B.free _ aF;obtain⟨cH,kY⟩:∃cH:Addr→Role,cH=(fun b=>if b=s.heap.objs.size then .frame else ρ b):=⟨_,rfl⟩
 have c0:mI ρ cH s.heap.objs.size s.heap cN:=⟨fun b o _ e=>keep _ _ e,fun b o hb _=>by rw[kY];exact aR hb,fun(a:Nat) hle=>by
  have hle:cN.objs.size≤a:=hle;rw[kY];show(if a=s.heap.objs.size then Role.frame else ρ a)=_;rw[aR (by omega)];exact B.free a (by show s.heap.objs.size≤a;omega)⟩
 have rl:cH s.heap.objs.size=.frame:=by rw[kY];exact bE rfl
 have eL:env.locals=s.heap.objs.size:=hL;have ek:∀z,env.kindOf z=(eK iz).names.lookup z:=fun z=>by rw[he];rfl
 have EB:∀z,env.kindOf z≠some .cell:=fun z q=>by
  rw[ek] at q
  have:=dC.mp k4 _ (mem_of_lookup q)
  simp at this
 have wx:WV τ x:=hW _ (NM _ (.head _));have wy:WV τ y:=hW _ (NM _ (.tail _ (.head _)));have iW:Body S cH τ (⟨env,[("world_own",a),("values",b)],true,none⟩::fs) H {s with heap:=cN,toks:=tk}:=by
  refine B.chg (s':={s with heap:=cN,toks:=tk}) c0 (by rw[rf];exact fun h=>by cases h) (fun t i e=>dG (B.tok t i e) gj) (dG B.pos gj) rfl rfl (fun p hp=>?_) ?_ fun a q ha=>?_
  .rcases bS.mp hp with rfl|hp
   .refine⟨by show cH env.locals=_;rw[eL];exact rl,(show ue cN cH τ _ from⟨by rw[he];exact k1,⟨_,eL.symm▸iZ,fun z r hz hr=>?_,fun z u hk hm hu=>?_⟩,fun _=>⟨by rw[he];rfl,fun z d _ hk=>absurd hk (EB z),fun z hk=>absurd hk (EB z),by rw[he];exact List.pairwise_singleton _ _⟩⟩)⟩
    .subst hx hy
     show(([(("world_own":Str),x),("values",y)].reverse).lookup z).map er=some r
     have hr:[(("world_own":Str),er x),("values",er y)].lookup z=some r:=hr;simp only[List.reverse_cons,List.reverse_nil,lE,List.cons_append,eP,List.lookup_nil] at hr⊢
     by_cases q1:z="world_own"
     .subst q1
      rw[fR] at hr⊢
      have:((("world_own":Str))==(("values":Str)))=false:=by decide+kernel
      rw[this];exact iE some (gZ hr)
     .have q1:(z=="world_own")=false:=dw.mpr q1
      rw[q1] at hr⊢;dsimp only at hr⊢;cases q2:z=="values" with
      |true=>rw[q2] at hr;simpa using hr
      |false=>rw[q2] at hr;cases hr
    .have hu:([(("world_own":Str),x),("values",y)].reverse).lookup z=some u:=hu
     have:=mem_of_lookup hu
     simp at this
     rcases this with ⟨_,rfl⟩|⟨_,rfl⟩
     .exact wy
     .exact wx
   .have:@LT.lt Nat _ p.env.locals s.heap.objs.size:=B.fV hp
    exact(B.frames p hp).keep .refl c0 (fq (by omega)) (by rw[rf];exact fun h=>by cases h)
  .refine fX.mpr ⟨fun hm=>?_,B.nodup⟩
   obtain⟨p,hp,e⟩:=eF.mp hm
   have:@LT.lt Nat _ p.env.locals s.heap.objs.size:=B.fV hp
   have e:@Eq Nat p.env.locals env.locals:=e;omega
  .obtain⟨q',Od⟩:=(B.lay _ _ ha).alive
   have:@LT.lt Nat _ a s.heap.objs.size:=eZ Od
   exact(B.lay _ _ ha).keep .refl c0 (by rw[rf];exact fun h=>by cases h) (by rw[rf];exact fun h=>by cases h) (fq (by omega))
 have ok:(⟨env,true,A.deeper env,fs⟩:Cx).Ok n hd:=by
  refine⟨?_,Oo,?_⟩
  .show(A.deeper env).frames=some (env::fH fs)
   unfold Around.deeper;rw[oX];rfl
  .have:=om.1;have:=om.2
   unfold Around.deeper;exact⟨by show A.depth+1+2 * n+2 < recursionLimit;omega,by show A.units+3+12 * n+50 < cLine;omega⟩
 refine dD (h ⟨env,true,A.deeper env,fs⟩ d ZX (by rw[he];rfl) (by rw[he];rfl) (by rw[he];rfl) (by rw[he];rfl) rfl ok vs _ ⟨cH,τ,iW,hW⟩) (fun fl s' ⟨aQ,m',H',l,B',q1,q2⟩=>⟨H',?_,?_⟩) fun e s' ⟨x,m',H',e',B',q⟩=>?_
 .obtain⟨GX,Ks,b,w⟩:=B'
  refine⟨GX,Ks,b.pop,fun v hv=>?_⟩
  rcases bS.mp hv with rfl|hv
  .cases fl with
   |ret v=>exact w _ (q1 v rfl)
   |_=>exact trivial
  .exact w _ (l _ hv)
 .cases fl<;>exact q2
 .subst e'
  rcases B' with B'|⟨_,B'⟩
  .exact tJ (fs:=fs) (m:=m') (vs:=vs) (by show(A.deeper env).frames=some (env::fH fs);unfold Around.deeper;rw[oX];rfl) B' fun NV qj=>⟨x,H',rfl,qj,q⟩
  .exact aM (fm B' (g9 B' fun NV ⟨ρ,τ,⟨qj,hW⟩,F⟩=>⟨x,H',rfl,⟨ρ,τ,⟨qj.pop,hW⟩,F⟩,q⟩))
theorem Iy{v:aC}(hP:H eb=some (.raw 61 (tabObj #[])))
  (k:∀f H',ju H' f v→(∀a o,a≠eb→H a=some o→H' a=some o)→(∃ps,H' eb=some (.raw 61 (tabObj ps)))→Q f H'):Sat S (n+1) hd (.ref 2016) [v] H Q E:=by
 have hn:=Yr S.w.params;obtain⟨fd,hf,hn⟩:=ey.mp hn;simp only[nv] at hn;obtain⟨h1,h2,h3,h4,h5,h6,h7⟩:=hn;have qH:=h2;unfold ix at qH;unfold A1 at h6;simp only[dJ,v5,dE,jD,q6,rv] at qH h6;obtain⟨⟨⟨⟨⟨⟨p1,p2⟩,p3⟩,p4⟩,p5⟩,p6⟩,p7⟩:=qH;obtain⟨⟨⟨⟨g1,g2⟩,g3⟩,g4⟩,g5⟩:=h6;have g5:fd.defaults=.none:=by unfold JK at g5;split at g5;assumption;cases g5
 refine AY hf h2 h1 (binds:=[(("notes":Str),v)]) (fun d9 s ha _=>⟨[("notes":Str)].zip d9,BindsTo.of_eq (lQ g1 g2 g3 g4 g5 h7 (by rw[←dO (f:=er),ha];rfl) (by decide)),?_,fun p hp=>.inl (lG (a:=p.1) (b:=p.2) hp).2⟩) ?_ (fX.mpr ⟨lF,pA⟩) fun c he lg ok vs=>?_
 .have:d9.length=1:=by rw[←dO (f:=er),ha];rfl
  obtain⟨x,rfl⟩:=List.length_eq_one_iff.mp this
  have:er x=v:=by simpa using ha
  rw[←this];rfl
 .simp[h4]
 have ek:∀x,c.env.kindOf x=fd.scope.names.lookup x:=fun x=>by unfold Env.kindOf;rw[he.scope]
 have kn:c.env.kindOf ("notes":Str)=some .cell:=(ek _).trans h4;have kd:c.env.kindOf ("deed":Str)=some .local:=(ek _).trans h5;have kk:c.env.scope.kind=.function:=by rw[he.scope];exact p5
 obtain⟨d,gH⟩:∃d,c.env.cells.lookup ("notes":Str)=some d:=by
  rw[he.cells];exact mK.mp (fi (.inl (mem_of_lookup h4)))
 refine K8 fun s ⟨ρ,τ,B,W⟩=>?_
 have dn:H d=none:=tN B lg gH kn;rw[MO,Ib];refine ia (execs_cons c.env _ _) (aP ?_);rw[QK c.env];refine aP (aZ fun _=>aP (bY (Ga (t:=61) he.globals (he.code.trans h3) gH hP (by decide) fun f c' W2 oc us tt ps hf S7 Oy WY h14 F doc ic _=>?_)))
 refine aP (aZ fun _=>aP ?_)
 unfold bindName;refine aP (bY (mf fun _=>aP (xb kk kd (.head _) fun _=>mf fun _=>bV fun _=>?_)))
 dsimp only;refine ia (execs_cons c.env _ _) (aP ?_);rw[exec_Return_some];refine aP (aZ fun _=>aP ?_)
 show T _ _ _ _ _ (standAt _ >>= fun _=>if((("deed":Str))==("__debug__":Str))=true then debugConstant else loadName c.env "deed") _ _
 refine aP (aZ fun _=>?_)
 rw[show((("deed":Str))==("__debug__":Str))=false from by decide+kernel,aR eV]
 refine JV (v:=.ref f) kk kd (by rw[eN,bE rfl];rfl) fun u hu _=>?_
 have hu:=dM hu;subst hu;refine bV fun _=>?_
 dsimp only;refine K8 fun fW ⟨CQ,zu,mF,_⟩=>?_
 have pY:=tN mF lg gH kn;have WZ:f≠d:=fun q=>by subst q;rw[aA] at pY;cases pY
 rw[aT WZ.symm] at pY;have W9:c'≠d:=fun q=>by subst q;rw[aA] at pY;cases pY
 rw[aT W9.symm] at pY;have XH:eb≠d:=fun q=>by subst q;rw[aA] at pY;cases pY
 refine bV ⟨fun w hw=>by cases hw;exact .head _,_,yW (t:=1) (v:=v) (by decide) lg gH kn (by rw[eN,aR (by decide+kernel)];rfl),?_⟩
 refine k _ _ ⟨f,c',d,W2,oc,us,tt,_,rfl,?_,?_,aA,F,doc,ic⟩ (fun a o ha e=>?_) ⟨ps,?_⟩
 .rw[aT WZ,aA]
 .rw[aT W9,aT Oy.symm,aA]
 .have n1:a≠d:=fun q=>by subst q;rw[dn] at e;cases e
  have n2:a≠f:=fun q=>by subst q;rw[hf] at e;cases e
  have n3:a≠c':=fun q=>by subst q;rw[S7] at e;cases e
  rw[aT n1,aT n2,aT n3,aT ha];exact e
 .rw[aT XH,aT WY.symm,aT h14.symm,aA]
theorem IH{s:aK}{fd:FuncData}{pre args:List _}{l:Str}{dv:aC}{T:Addr}{o:Obj}{n:Nat}(h1:fd.params.posonlyargs=[])(h2:fd.params.kwonlyargs=[])(h3:fd.params.vararg=none)(h4:fd.params.kwarg=none)(hd:fd.defaults=.ref T)(ho:s.heap.get? T=some o)(hs:o.data=.seq #[dv] n)
  (hn:fd.params.args.map (·.arg)=pre++[l]) (hl:args.length=pre.length) (nd:(pre++[l]).Nodup):BindsTo s fd ⟨args,[]⟩ ((pre++[l]).zip (args++[dv])):=by
 obtain⟨nd1,nd2,Yo⟩:=lq.mp nd;have hm:pre.filter (fun n=>((pre.zip args).lookup n).isNone)=[]:=List.filter_eq_nil_iff.mpr fun n hn=>by
  have:=nD (us:=args) hl hn
  cases q:(pre.zip args).lookup n with
  |none=>rw[q] at this;cases this
  |some v=>simp
 have hz:(pre++[l]).zip args=pre.zip args:=by
  have:=uu (l₁:=pre) (r₁:=[l]) (l₂:=args) (r₂:=[]) hl.symm
  simpa using this
 have Kb:(pre.zip args).lookup l=none:=by
  refine gG fun hx=>?_
  rw[yj (by omega)] at hx
  exact Yo l hx l (.head _) rfl
 have e:∃k,bindArgs fd ⟨args,[]⟩=seqItems? fd.defaults >>= k∧k (some #[dv])=pure ((pre++[l]).zip (args++[dv])):=by
  unfold bindArgs;simp only[h1,h2,h3,h4,hn,ry,lE,gE,pE,pure_bind];refine⟨_,rfl,?_⟩;have e1:(pre++[l]).take pre.length=pre:=by simp
  have e2:(pre++[l]).drop pre.length=[l]:=by simp
  have e0:1 - (pre.length+1)=0:=by omega
  have e3:decide (pre.length+1 < pre.length)=false:=by simp
  have e4:(pre.zip args++[(l,dv)])=(pre++[l]).zip (args++[dv]):=by rw[uu hl.symm];rfl
  have e5:=uI (ns:=pre++[l]) (us:=args++[dv]) (by simp[hl]) nd
  simp only[Option.getD_some,mL,hl,gt_iff_lt,e0,e3,hz,List.drop_zero,dH,rC,Nat.zero_add,Nat.add_sub_cancel,e1,e2,hm,yp,Bool.not_true,tn,tv,Bool.false_and,iK,List.zip_nil_right,uB,pE,Kb,Option.isNone_none,if_true,pure_bind,e4,e5]
 obtain⟨k,e1,e2⟩:=e;exact BindsTo.of_defaults hd ho hs e1 e2
def Vu:aC→Bool
 | .ref _=>true
 | .none=>true
 |_=>false
noncomputable def wj(P:Params)(f:Addr):Option (Code×aC):=match iN (KK P) f with
 |some fd=>if ix (KK P) fd=true then(match fd.body,fd.defaults with
  | .stmts b,.ref T=>(match(KK P).lookup T with
   |some o=>(match o.data with
    | .seq items _=>(match items.toList with
     |[dv]=>if((fd.params.posonlyargs.isEmpty&&fd.params.kwonlyargs.isEmpty&&fd.params.vararg.isNone&&fd.params.kwarg.isNone)&&(decide (fd.params.args.map (·.arg)).Nodup&&(fd.params.args.map (·.arg)).all fun x=>fd.scope.names.lookup x==some .local||fd.scope.names.lookup x==some .cell)&&Vu dv)=true then some (⟨b,fd.scope.names,fd.params.args.map (·.arg)⟩,dv) else none
     |_=>none)
    |_=>none)
   |none=>none)
  |_,_=>none) else none
 |none=>none
theorem E8{S:aN}{n k:Nat}{hd:bP}{f:Addr}{cd:Code}{dv:aC}{args:aB}{H:AH}{Q:pn}{E:EPost}(all:zt k)(hc:wj S.w.params f=some (cd,dv))(hl:args.length+1=cd.par.length)
  (h:gs k ⟨S,n,hd,cd.sc,true,[],[]⟩ cd.body (cd.par.zip (args++[dv])) H (fun fl _ H'=>Q (o8 fl) H') (fun x _ H'=>E x H')):Sat S (n+1) hd (.ref f) args H Q E:=by
 unfold wj at hc;split at hc
 rotate_left
 .cases hc
 rename_i fd Ot;split at hc
 rotate_left
 .cases hc
 rename_i hp;split at hc
 rotate_left
 .cases hc
 rename_i b T hb hT;split at hc
 rotate_left
 .cases hc
 rename_i o ho;split at hc
 rotate_left
 .cases hc
 rename_i items nn Pe;split at hc
 rotate_left
 .cases hc
 rename_i dv' hit;split at hc
 rotate_left
 .cases hc
 rename_i qh;cases hc;obtain⟨Oy,Cn⟩:=jY.mp qh;obtain⟨CH,h34⟩:=jY.mp Oy;obtain⟨nd,KL⟩:=jY.mp h34;have nd:=ur nd;simp only[dJ,v5,rv] at CH;obtain⟨⟨⟨h1,h2⟩,h3⟩,h4⟩:=CH;have Cn:∃a,dv=.ref a∨dv=.none:=by
  cases dv<;>first|(cases Cn;done)|exact⟨_,.inl rfl⟩|exact⟨(0:Nat),.inr rfl⟩
 have edv:er dv=dv:=by obtain⟨a,rfl|rfl⟩:=Cn<;>rfl
 have hit:items=#[dv]:=by rw[←Array.toList_inj];exact hit
 obtain⟨pre,l,qH⟩:∃pre l,fd.params.args.map (·.arg)=pre++[l]:=by
  rcases List.eq_nil_or_concat (fd.params.args.map (·.arg)) with e|⟨pre,l,e⟩
  .have hl:args.length+1=(fd.params.args.map (·.arg)).length:=hl
   rw[e] at hl;simp at hl
  .exact⟨pre,l,by rw[e,List.concat_eq_append]⟩
 have WG:args.length=pre.length:=by
  have hl:args.length+1=(fd.params.args.map (·.arg)).length:=hl;rw[qH] at hl;simpa using hl
 have kL:fd.scope.kind=.function:=by
  unfold ix at hp;simp only[dJ,jD] at hp;exact hp.1.1.2
 refine Em Ot hp hb (binds:=(fd.params.args.map (·.arg)).zip (args++[dv])) (fun d9 s ha X=>⟨(fd.params.args.map (·.arg)).zip (d9++[dv]),?_,?_,fun p hp=>?_⟩) ?_ ?_ fun c he lg ok vs=>?_
 .rw[qH]
  exact IH h1 h2 h3 h4 hT (X _ _ ho) (by rw[Pe,hit]) qH (by rw[←WG,←ha,dO]) (qH▸nd)
 .have:args++[dv]=(d9++[dv]).map er:=by rw[gW,ha,fj,ry,edv]
  rw[this,List.zip_map_right];rfl
 .have:=(lG (a:=p.1) (b:=p.2) hp).2
  rcases dR.mp this with h|h
  .exact .inl h
  .rw[dQ.mp h];exact .inr Cn
 .rw[dC]
  intro p hp;exact dC.mp KL _ (lG (a:=p.1) (b:=p.2) hp).1
 .rw[yj (by rw[qH];simp[WG])];exact nd
 .exact cL (all ⟨S,n,hd,fd.scope.names,true,[],[]⟩ c b _ H _ _ vs (zP kL he lg ok) h) (fun fl aQ m' H' l ⟨hv,hq⟩=>⟨hv,by rw[uV];exact hq⟩) fun _ _ _ h=>h
theorem E9{S:aN}{n k:Nat}{hd:bP}{H:AH}{Q:pn}{E:EPost}{f v a b:aC}(all:zt k)(hD:ju H f v)
  (h:∀d,H d=some (.cell 1 v)→gs k ⟨S,n,hd,(eK iz).names,true,[],[(("notes":Str),d)]⟩ (jF iz) [("world_own",a),("values",b)] H (fun fl _ H'=>Q (o8 fl) H') (fun x _ H'=>E x H')):Sat S (n+1) hd f [a,b] H Q E:=by
 have ns:=ED;simp only[nv] at ns;refine HO hD fun c d NJ e1 e2 e3 e4 e5 ok vs=>?_
 refine cL (all _ c _ _ H _ _ vs ⟨by rw[e1];exact ns.1,fun x=>by show c.env.scope.names.lookup x=_;rw[e1],e2,e3,ok,e5,fun h=>(by cases h),fun x d' hx _=>?_⟩ (h d NJ)) (fun fl aQ m' H' l ⟨hv,hq⟩=>⟨hv,by rw[uV];exact hq⟩) fun _ _ _ h=>h
 rw[e4];exact hx
structure Pl where
 S:aN
 n:Nat
 hd:bP
def cV(p:Pl)(H:AH)(f:aC)(args:aB)(Q:KQ)(E:EPost):Prop:=iJ ⟨p.S,p.n,p.hd,[],true,[],[]⟩ H f args Q E
def jn{α:Type}(K:α)(f:α→Prop):Prop:=f K
def gK(hd:bP)(H:AH)(x:aC)(body:aC→AH→(aC→AH→Prop)→(AH→Prop)→Prop)(Q:KQ):Prop:=
 ∃(src:Src) (xs:aB) (I:Nat→aB→AH→Prop),fp H x xs src∧xs.length≤1000000∧I 0 [] H∧(∀i bN aE,I i bN aE→src.ok aE xs)∧
  (∀i bN aE v,I i bN aE→xs[i]?=some v→body v aE (fun y aO=>I (i+1) (bN++[y]) aO) (fun aH=>I (i+1) bN aH))∧
  ∀bN aE,I xs.length bN aE→Clean hd aE∧∃t,t≠0∧∀D,aE D=none→Q (.ref D) (upd aE D (.list t bN))
def zG(v:aC)(f:Int→Prop):Prop:=match v with
 | .int i _=>f i
 |_=>False
def JR(H:AH)(d:Addr)(f:aC→Prop):Prop:=(("notes":Str)==("__classdict__":Str))=false∧(match H d with
 |some (.cell _ v)=>f v
 |_=>False)
def Dk(H:AH)(f:Addr→AH→Prop):Prop:=∃t,t≠0∧∀a,H a=none→f a (upd H a (.bR t []))
theorem dX{S:aN}{n:Nat}{hd:bP}{f:Addr}{args:aB}{H:AH}{Q:KQ}{E:EPost}{sh:Prop}(h:sh)(hp:∀P,(codeOf P f).map (fun cd=>cd.par.length)=some args.length:=by intro P;kernel_rfl)
  (Gp:∀P,((codeOf P f).map fun cd=>gs 60 ⟨S,n,hd,cd.sc,true,[],[]⟩ cd.body (cd.par.zip args) H (fun fl _ H=>Q (o8 fl) H) (fun x _ H=>E x H))=(codeOf P f).map (fun _=>sh):=by intro P;kernel_rfl):Sat S (n+1) hd (.ref f) args H Q E:=
 Ls (j:=0) (sh:=fun _=>sh) (hp _) (Gp _) fun _=>h
theorem OG{S:aN}{n:Nat}{hd:bP}{f:Addr}{args:aB}{dv:aC}{H:AH}{Q:KQ}{E:EPost}{sh:Prop}(h:sh)(hp:∀P,(wj P f).map (fun p=>(p.1.par.length,p.2))=some (args.length+1,dv):=by intro P;kernel_rfl)
  (Gp:∀P,((wj P f).map fun p=>gs 60 ⟨S,n,hd,p.1.sc,true,[],[]⟩ p.1.body (p.1.par.zip (args++[dv])) H (fun fl _ H=>Q (o8 fl) H) (fun x _ H=>E x H))=(wj P f).map (fun _=>sh):=by intro P;kernel_rfl):Sat S (n+1) hd (.ref f) args H Q E:=by
 obtain⟨⟨cd,dv'⟩,hc,hl⟩:=ey.mp (hp S.w.params);simp only[nv] at hl;obtain⟨hl,rfl⟩:=hl;have l:=Gp S.w.params;rw[hc] at l;exact E8 (jg 60).2 hc hl.symm (Eq.mpr (gZ l) h)
abbrev F0:=Pl→AH→KQ→EPost→Prop
abbrev F1:=Pl→AH→aC→KQ→EPost→Prop
abbrev F2:=Pl→AH→aC→aC→KQ→EPost→Prop
abbrev F3:=Pl→AH→aC→aC→aC→KQ→EPost→Prop
abbrev F4:=Pl→AH→aC→aC→aC→aC→KQ→EPost→Prop
abbrev F5:=Pl→AH→aC→aC→aC→aC→aC→KQ→EPost→Prop
abbrev F6:=Pl→AH→aC→aC→aC→aC→aC→aC→KQ→EPost→Prop
end
section
variable{S:aN}{n:Nat}{hd:bP}{H:AH}{f v a0 a1 a2 a3 a4 a5:aC}{Q:KQ}{E:EPost}
def JB:F0:=fun p H Q E=>Dk H fun a H=>bJ H [(.str "error" 0)] fun b H=>bJ H [(.str "quit" 0)] fun c H=>oo H a (List.zip [("error":Str),("quit":Str)] [b,c]) fun e H=>bM H [(.str "user-error" 0),(.str "wrong-type-argument" 0),(.str "args-out-of-range" 0),(.str "void-function" 0),(.str "void-variable" 0),(.str "cyclic-function-indirection" 0),(.str "cyclic-variable-indirection" 0),(.str "circular-list" 0),(.str "setting-constant" 0),(.str "invalid-read-syntax" 0),(.str "invalid-function" 0),(.str "wrong-number-of-arguments" 0),(.str "end-of-file" 0),(.str "arith-error" 0),(.str "beginning-of-buffer" 0),(.str "end-of-buffer" 0),(.str "buffer-read-only" 0),(.str "mark-inactive" 0),(.str "search-failed" 0),(.str "invalid-regexp" 0),(.str "scan-error" 0),(.str "file-error" 0),(.str "no-catch" 0),(.str "coding-system-error" 0)] fun f H=>∃(g:Src) (h:aB) (j:Nat→aB→AH→Prop),fp H f h g∧j 0 [e] H∧(∀i us H,j i us H→g.ok H h)∧(∀k H l,h[k]?=some l→∀m,j k [m] H→(true=true∧(bJ H [l,(.str "error" 0)] fun n H=>cJ H m l n fun H=>j (k+1) [m] H)))∧∀H,∀o,j h.length [o] H→Clean p.hd H∧(bJ H [(.str "text-read-only" 0),(.str "buffer-read-only" 0),(.str "error" 0)] fun q H=>cJ H o (.str "text-read-only" 0) q fun H=>bJ H [(.str "overflow-error" 0),(.str "range-error" 0),(.str "arith-error" 0),(.str "error" 0)] fun r H=>cJ H o (.str "overflow-error" 0) r fun H=>bJ H [(.str "file-already-exists" 0),(.str "file-error" 0),(.str "error" 0)] fun s H=>cJ H o (.str "file-already-exists" 0) s fun H=>bJ H [(.str "file-missing" 0),(.str "file-error" 0),(.str "error" 0)] fun t H=>cJ H o (.str "file-missing" 0) t fun H=>bJ H [(.str "file-locked" 0),(.str "file-error" 0),(.str "error" 0)] fun u H=>cJ H o (.str "file-locked" 0) u fun H=>bJ H [(.str "minibuffer-quit" 0),(.str "quit" 0)] fun v H=>cJ H o (.str "minibuffer-quit" 0) v fun H=>Q o H)
theorem T3(h:JB ⟨S,n,hd⟩ H Q E):Sat S (n+1) hd (.ref 68) [] H Q E:=dX h
def JA:F1:=fun p H a0 Q E=>cV p H (.ref 68) [] (fun a H=>getM H a "get" fun b c=>bJ H [a0] fun e H=>cV p H b (c++[a0,e]) Q E) E
theorem T2(h:JA ⟨S,n,hd⟩ H a0 Q E):Sat S (n+1) hd (.ref 75) [a0] H Q E:=dX h
def Jz:F3:=fun p H a0 a1 a2 Q E=>bU H a0 "number" a1 fun H=>bU H a0 "name" a2 fun H=>Q .none H
theorem T1(h:Jz ⟨S,n,hd⟩ H a0 a1 a2 Q E):Sat S (n+1) hd (.ref 89) [a0,a1,a2] H Q E:=dX h
def uh:F3:=fun p H a0 a1 a2 Q E=>bU H a0 "car" a1 fun H=>bU H a0 "cdr" a2 fun H=>Q .none H
theorem CU(h:uh ⟨S,n,hd⟩ H a0 a1 a2 Q E):Sat S (n+1) hd (.ref 116) [a0,a1,a2] H Q E:=dX h
def Ek:F2:=fun p H a0 a1 Q E=>bU H a0 "codes" a1 fun H=>bU H a0 "spans" .none fun H=>Q .none H
theorem Qw(h:Ek ⟨S,n,hd⟩ H a0 a1 Q E):Sat S (n+1) hd (.ref 138) [a0,a1] H Q E:=OG (dv:=.none) h
def Ej:F6:=fun p H a0 a1 a2 a3 a4 a5 Q E=>bU H a0 "number" a1 fun H=>bU H a0 "name" a2 fun H=>bU H a0 "least" a3 fun H=>bU H a0 "most" a4 fun H=>bU H a0 "deed" a5 fun H=>Q .none H
theorem Qv(h:Ej ⟨S,n,hd⟩ H a0 a1 a2 a3 a4 a5 Q E):Sat S (n+1) hd (.ref 180) [a0,a1,a2,a3,a4,a5] H Q E:=dX h
def Ei:F1:=fun p H a0 Q E=>cV p H (.builtin "len") [a0] (fun a H=>dK H .Sub a (.int 1 0) fun b H=>cV p H (.type "range") [b,(.int (-1) 0),(.int (-1) 0)] (fun c H=>∃(e:Src) (f:aB) (g:Nat→aB→AH→Prop),fp H c f e∧g 0 [a0,(.ref 98),(.ref 98)] H∧(∀i us H,g i us H→e.ok H f)∧(∀h H j,f[h]?=some j→∀k,∀l,∀m,g h [k,l,m] H→(true=true∧(aS H k j fun n=>cV p H (.ref 119) [n,m] (fun o H=>g (h+1) [k,l,o] H) fun q H=>False)))∧∀H,∀r,∀s,∀t,g f.length [r,s,t] H→Clean p.hd H∧(Q t H)) E) E
theorem Qu(h:Ei ⟨S,n,hd⟩ H a0 Q E):Sat S (n+1) hd (.ref 230) [a0] H Q E:=OG (dv:=(.ref 98)) h
def Eh:F1:=fun p H a0 Q E=>bJ H [] fun a H=>∃(b:Nat→aB→AH→Prop) (c:Nat),b c [a0,a,a0,a0] H∧∀e H,∀f,∀g,∀h,∀i,b e [f,g,h,i] H→cV p H (.builtin "isinstance") [h,(.ref 119)] (fun j H=>aW H j fun k=>if k=true then(getM H g "append" fun l m=>aL H h "car" fun n=>cV p H l (m++[n]) (fun o H=>aL H h "cdr" fun q=>cV p H (.builtin "len") [g] (fun r H=>dK H .Mod r (.int 2 0) fun s H=>bD H .Eq s (.int 0 0) fun t=>if t=true then(aL H i "cdr" fun u=>bD H .Is q u fun v=>if v=true then(bM H [g,.none] Q) else(∃w,w < e∧b w [f,g,q,u] H)) else(∃w,w < e∧b w [f,g,q,i] H)) E) E) else(bM H [g,h] Q)) E
theorem Qt(h:Eh ⟨S,n,hd⟩ H a0 Q E):Sat S (n+1) hd (.ref 237) [a0] H Q E:=dX h
def Eg:F1:=fun p H a0 Q E=>cV p H (.ref 237) [a0] (fun a H=>cS H p.hd a 2 fun b=>iX b fun c b=>(true=true∧(iX b fun e b=>(true=true∧(jB b (bD H .Is e (.ref 98) fun f=>if f=true then(Q c H) else(Q .none H))))))) E
theorem Qs(h:Eg ⟨S,n,hd⟩ H a0 Q E):Sat S (n+1) hd (.ref 244) [a0] H Q E:=dX h
def Ef:F1:=fun p H a0 Q E=>gK p.hd H a0 (fun a H b c=>(true=true∧(if true=true then(cV p H (.builtin "ord") [a] b fun f H=>False) else(c H)))) fun g H=>cV p H (.ref 141) [g] Q E
theorem Qr(h:Ef ⟨S,n,hd⟩ H a0 Q E):Sat S (n+1) hd (.ref 249) [a0] H Q E:=dX h
def Ee:F1:=fun p H a0 Q E=>aL H a0 "name" fun a=>gb H a (.int 1 0) fun b H=>bD H .Eq b (.str ":" 0) fun c=>Q (.bool c) H
theorem Qq(h:Ee ⟨S,n,hd⟩ H a0 Q E):Sat S (n+1) hd (.ref 256) [a0] H Q E:=dX h
def Ed:F1:=fun p H a0 Q E=>aL H a0 "number" fun a=>bM H [(.int 0 0),(.int 1 0)] fun b H=>bD H .In a b fun c=>aW H (.bool c) fun e=>oZ .Or e (Q (.bool c) H) (cV p H (.ref 256) [a0] Q E)
theorem Qp(h:Ed ⟨S,n,hd⟩ H a0 Q E):Sat S (n+1) hd (.ref 263) [a0] H Q E:=dX h
def Ec:F1:=fun p H a0 Q E=>pW H fun a H=>bU H a0 "functions" a fun H=>pW H fun b H=>bU H a0 "plists" b fun H=>Q .none H
theorem Qo(h:Ec ⟨S,n,hd⟩ H a0 Q E):Sat S (n+1) hd (.ref 277) [a0] H Q E:=dX h
def Eb:F2:=fun p H a0 a1 Q E=>aL H a0 "functions" fun a=>getM H a "get" fun b c=>aL H a1 "number" fun e=>cV p H b (c++[e,(.ref 98)]) Q E
theorem Qn(h:Eb ⟨S,n,hd⟩ H a0 a1 Q E):Sat S (n+1) hd (.ref 284) [a0,a1] H Q E:=dX h
def Ea:F3:=fun p H a0 a1 a2 Q E=>jn (fun(a:Bool) (H:AH)=>if a=true then(2≤p.n∧((.ref 38):aC)=.ref 38∧(bJ H [a1] fun b H=>Clean p.hd H∧∀c,H c=none→jn (upd H c (.exc 1 (if p.hd=none then 1 else 2) [(.str "setting-constant" 0),b])) fun H=>E c H)) else(cV p H (.type "range") [(.int 100 0)] (fun e H=>jn (fun(f:aC) (g:aC) (h:aC) (j:aC) (H:AH)=>aL H f "functions" fun k=>aL H g "number" fun l=>cJ H k l h fun H=>Q .none H) fun m=>∃(n:Src) (o:aB) (q:Nat→aB→AH→Prop),fp H e o n∧q 0 [a0,a1,a2,a2] H∧(∀i us H,q i us H→n.ok H o)∧(∀r H s,o[r]?=some s→∀t,∀u,∀v,∀w,q r [t,u,v,w] H→(true=true∧(jn (fun(H:AH)=>bD H .Is w u fun x=>if x=true then(2≤p.n∧((.ref 38):aC)=.ref 38∧(bJ H [u] fun y H=>Clean p.hd H∧∀z,H z=none→jn (upd H z (.exc 1 (if p.hd=none then 1 else 2) [(.str "cyclic-function-indirection" 0),y])) fun H=>False)) else(getM H t "function_of" fun A B=>cV p H A (B++[w]) (fun C H=>q (r+1) [t,u,v,C] H) fun D H=>False)) fun F=>cV p H (.builtin "isinstance") [w,(.ref 92)] (fun G H=>aW H G fun I=>gk .Or (!I) (if false=true then(m t u v w H) else(F H)) (if true=true then(m t u v w H) else(F H)) (bD H .Is w (.ref 98) fun J=>gk .Or J (if false=true then(m t u v w H) else(F H)) (if true=true then(m t u v w H) else(F H)) (if false=true then(m t u v w H) else(F H)))) fun K H=>False)))∧∀H,∀L,∀M,∀N,∀O,q o.length [L,M,N,O] H→Clean p.hd H∧(m L M N O H)) E)) fun R=>bD H .Is a1 (.ref 98) fun S=>gk .And S (R false H) (R true H) (bD H .IsNot a2 (.ref 98) fun T=>gk .And T (R false H) (R true H) (R true H))
theorem Qm(h:Ea ⟨S,n,hd⟩ H a0 a1 a2 Q E):Sat S (n+1) hd (.ref 298) [a0,a1,a2] H Q E:=dX h
def D0:F2:=fun p H a0 a1 Q E=>∃(a:Nat→aB→AH→Prop) (b:Nat),a b [a0,a1,a1] H∧∀c H,∀e,∀f,∀g,a c [e,f,g] H→jn (fun(h:Bool) (H:AH)=>if h=true then(getM H e "function_of" fun i j=>cV p H i (j++[g]) (fun k H=>∃l,l < c∧a l [e,f,k] H) E) else(Q g H)) fun m=>cV p H (.builtin "isinstance") [g,(.ref 92)] (fun n H=>aW H n fun o=>gk .And o (m false H) (m true H) (bD H .IsNot g (.ref 98) fun q=>gk .And q (m false H) (m true H) (m true H))) E
theorem Ql(h:D0 ⟨S,n,hd⟩ H a0 a1 Q E):Sat S (n+1) hd (.ref 305) [a0,a1] H Q E:=dX h
def DZ:F2:=fun p H a0 a1 Q E=>aL H a0 "plists" fun a=>getM H a "get" fun b c=>aL H a1 "number" fun e=>cV p H b (c++[e,(.ref 98)]) Q E
theorem Qk(h:DZ ⟨S,n,hd⟩ H a0 a1 Q E):Sat S (n+1) hd (.ref 312) [a0,a1] H Q E:=dX h
def ug:F3:=fun p H a0 a1 a2 Q E=>getM H a0 "plist_of" fun a b=>cV p H a (b++[a1]) (fun c H=>∃(e:Nat→aB→AH→Prop) (f:Nat),e f [a0,a1,a2,c,(.int 0 0)] H∧∀g H,∀h,∀i,∀j,∀k,∀l,e g [h,i,j,k,l] H→jn (fun(m:Bool) (H:AH)=>if m=true then(jn (fun(n:Bool) (H:AH)=>if n=true then(aL H k "cdr" fun o=>Q o H) else(aL H k "cdr" fun q=>aL H q "cdr" fun r=>dK H .Add l (.int 1 0) fun s H=>bD H .Gt s (.int 100000 0) fun t=>if t=true then(2≤p.n∧((.ref 38):aC)=.ref 38∧(getM H h "plist_of" fun u v=>cV p H u (v++[i]) (fun w H=>bJ H [w] fun x H=>Clean p.hd H∧∀y,H y=none→jn (upd H y (.exc 1 (if p.hd=none then 1 else 2) [(.str "circular-list" 0),x])) fun H=>E y H) E)) else(∃z,z < g∧e z [h,i,j,r,s] H))) fun A=>aL H k "car" fun B=>bD H .Is B j fun C=>gk .Or C (A false H) (A true H) (cV p H (.builtin "isinstance") [j,(.type "int")] (fun D H=>aW H D fun F=>gk .And F (gk .Or false (A false H) (A true H) (A false H)) (gk .Or true (A false H) (A true H) (A false H)) (aL H k "car" fun G=>cV p H (.builtin "isinstance") [G,(.type "int")] (fun I H=>aW H I fun J=>gk .And J (gk .Or false (A false H) (A true H) (A false H)) (gk .Or true (A false H) (A true H) (A false H)) (aL H k "car" fun K=>bD H .Eq K j fun L=>gk .And L (gk .Or false (A false H) (A true H) (A false H)) (gk .Or true (A false H) (A true H) (A false H)) (gk .Or true (A false H) (A true H) (A false H)))) E)) E)) else(Q .none H)) fun M=>cV p H (.builtin "isinstance") [k,(.ref 119)] (fun N H=>aW H N fun O=>gk .And O (M false H) (M true H) (aL H k "cdr" fun R=>cV p H (.builtin "isinstance") [R,(.ref 119)] (fun S H=>aW H S fun T=>gk .And T (M false H) (M true H) (M true H)) E)) E) E
theorem CT(h:ug ⟨S,n,hd⟩ H a0 a1 a2 Q E):Sat S (n+1) hd (.ref 326) [a0,a1,a2] H Q E:=dX h
def ya:F3:=fun p H a0 a1 a2 Q E=>getM H a0 "place_of" fun a b=>cV p H a (b++[a1,a2]) (fun c H=>bD H .Is c .none fun e=>if e=true then(Q (.ref 98) H) else(aL H c "car" fun f=>Q f H)) E
theorem JF(h:ya ⟨S,n,hd⟩ H a0 a1 a2 Q E):Sat S (n+1) hd (.ref 333) [a0,a1,a2] H Q E:=dX h
def xZ:F4:=fun p H a0 a1 a2 a3 Q E=>getM H a0 "place_of" fun a b=>cV p H a (b++[a1,a2]) (fun c H=>bD H .IsNot c .none fun e=>if e=true then(bU H c "car" a3 fun H=>Q .none H) else(cV p H (.ref 119) [a3,(.ref 98)] (fun f H=>cV p H (.ref 119) [a2,f] (fun g H=>getM H a0 "plist_of" fun h i=>cV p H h (i++[a1]) (fun j H=>cV p H (.builtin "isinstance") [j,(.ref 119)] (fun k H=>aW H k fun l=>if(!l)=true then(aL H a0 "plists" fun m=>aL H a1 "number" fun n=>cJ H m n g fun H=>Q .none H) else(∃(o:Nat→aB→AH→Prop) (q:Nat),o q [a0,a1,a2,a3,c,g,j] H∧∀r H,∀s,∀t,∀u,∀v,∀w,∀x,∀y,o r [s,t,u,v,w,x,y] H→aL H y "cdr" fun z=>cV p H (.builtin "isinstance") [z,(.ref 119)] (fun A H=>aW H A fun B=>if B=true then(aL H y "cdr" fun C=>∃D,D < r∧o D [s,t,u,v,w,x,C] H) else(bU H y "cdr" x fun H=>Q .none H)) E)) E) E) E) E)) E
theorem JE(h:xZ ⟨S,n,hd⟩ H a0 a1 a2 a3 Q E):Sat S (n+1) hd (.ref 340) [a0,a1,a2,a3] H Q E:=dX h
def DY:F3:=fun p H a0 a1 a2 Q E=>bD H .LtE a1 a0 fun a=>aW H (.bool a) fun b=>oZ .And b (Q (.bool a) H) (bD H .Eq a2 (.int (-1) 0) fun c=>aW H (.bool c) fun e=>oZ .Or e (Q (.bool c) H) (bD H .LtE a0 a2 fun f=>Q (.bool f) H))
theorem Qj(h:DY ⟨S,n,hd⟩ H a0 a1 a2 Q E):Sat S (n+1) hd (.ref 354) [a0,a1,a2] H Q E:=dX h
def DX:F5:=fun p H a0 a1 a2 a3 a4 Q E=>bU H a0 "name" a1 fun H=>bU H a0 "least" a2 fun H=>bU H a0 "most" a3 fun H=>bU H a0 "work" a4 fun H=>Q .none H
theorem Qi(h:DX ⟨S,n,hd⟩ H a0 a1 a2 a3 a4 Q E):Sat S (n+1) hd (.ref 401) [a0,a1,a2,a3,a4] H Q E:=dX h
def DW:F3:=fun p H a0 a1 a2 Q E=>jn (fun(H:AH)=>getM H a0 "work" fun a b=>cV p H a (b++[a1,a2]) (fun c H=>Q .none H) E) fun e=>cV p H (.builtin "len") [a2] (fun f H=>aL H a0 "least" fun g=>aL H a0 "most" fun h=>cV p H (.ref 354) [f,g,h] (fun i H=>aW H i fun j=>if(!j)=true then(getM H a1 "refuse_count" fun k l=>cV p H (.builtin "len") [a2] (fun m H=>cV p H k (l++[a0,m]) (fun n H=>e H) E) E) else(e H)) E) E
theorem Qh(h:DW ⟨S,n,hd⟩ H a0 a1 a2 Q E):Sat S (n+1) hd (.ref 415) [a0,a1,a2] H Q E:=dX h
def DV:F5:=fun p H a0 a1 a2 a3 a4 Q E=>bU H a0 "name" a1 fun H=>bU H a0 "least" a2 fun H=>bU H a0 "most" a3 fun H=>bU H a0 "work" a4 fun H=>Q .none H
theorem Qg(h:DV ⟨S,n,hd⟩ H a0 a1 a2 a3 a4 Q E):Sat S (n+1) hd (.ref 434) [a0,a1,a2,a3,a4] H Q E:=dX h
def DU:F3:=fun p H a0 a1 a2 Q E=>jn (fun(H:AH)=>getM H a0 "work" fun a b=>cV p H a (b++[a1,a2]) (fun c H=>Q .none H) E) fun e=>cV p H (.builtin "len") [a2] (fun f H=>aL H a0 "least" fun g=>aL H a0 "most" fun h=>cV p H (.ref 354) [f,g,h] (fun i H=>aW H i fun j=>if(!j)=true then(getM H a1 "refuse_count" fun k l=>cV p H (.builtin "len") [a2] (fun m H=>cV p H k (l++[a0,m]) (fun n H=>e H) E) E) else(e H)) E) E
theorem Qf(h:DU ⟨S,n,hd⟩ H a0 a1 a2 Q E):Sat S (n+1) hd (.ref 455) [a0,a1,a2] H Q E:=dX h
def DT:F1:=fun p H a0 Q E=>pW H fun a H=>bU H a0 "defaults" a fun H=>pW H fun b H=>bU H a0 "automatic" b fun H=>pW H fun c H=>bU H a0 "permanent" c fun H=>Q .none H
theorem Qe(h:DT ⟨S,n,hd⟩ H a0 Q E):Sat S (n+1) hd (.ref 535) [a0] H Q E:=dX h
def DS:F2:=fun p H a0 a1 Q E=>aL H a0 "defaults" fun a=>getM H a "get" fun b c=>cV p H b (c++[a1,.none]) Q E
theorem Qd(h:DS ⟨S,n,hd⟩ H a0 a1 Q E):Sat S (n+1) hd (.ref 542) [a0,a1] H Q E:=dX h
def DR:F3:=fun p H a0 a1 a2 Q E=>aL H a0 "defaults" fun a=>cJ H a a1 a2 fun H=>Q .none H
theorem Qc(h:DR ⟨S,n,hd⟩ H a0 a1 a2 Q E):Sat S (n+1) hd (.ref 549) [a0,a1,a2] H Q E:=dX h
def DQ:F1:=fun p H a0 Q E=>pW H fun a H=>bU H a0 "values" a fun H=>Q .none H
theorem Qb(h:DQ ⟨S,n,hd⟩ H a0 Q E):Sat S (n+1) hd (.ref 598) [a0] H Q E:=dX h
def DP:F2:=fun p H a0 a1 Q E=>aL H a0 "values" fun a=>bD H .In a1 a fun b=>Q (.bool b) H
theorem Qa(h:DP ⟨S,n,hd⟩ H a0 a1 Q E):Sat S (n+1) hd (.ref 605) [a0,a1] H Q E:=dX h
def DO:F3:=fun p H a0 a1 a2 Q E=>getM H a1 "is_local" fun a b=>cV p H a (b++[a2]) (fun c H=>aW H c fun e=>if e=true then(aL H a1 "values" fun f=>aS H f a2 fun g=>Q g H) else(getM H a0 "default_value" fun h i=>cV p H h (i++[a2]) Q E)) E
theorem P9(h:DO ⟨S,n,hd⟩ H a0 a1 a2 Q E):Sat S (n+1) hd (.ref 647) [a0,a1,a2] H Q E:=dX h
def DN:F5:=fun p H a0 a1 a2 a3 a4 Q E=>bU H a0 "sort" a1 fun H=>bU H a0 "own" a2 fun H=>bU H a0 "symbol" a3 fun H=>bU H a0 "value" a4 fun H=>Q .none H
theorem P8(h:DN ⟨S,n,hd⟩ H a0 a1 a2 a3 a4 Q E):Sat S (n+1) hd (.ref 668) [a0,a1,a2,a3,a4] H Q E:=dX h
def DM:F4:=fun p H a0 a1 a2 a3 Q E=>getM H a1 "is_local" fun a b=>cV p H a (b++[a2]) (fun c H=>aW H c fun e=>if e=true then(aL H a1 "values" fun f=>aS H f a2 fun g=>cV p H (.ref 671) [(.int 0 0),a1,a2,g] (fun h H=>aL H a1 "values" fun i=>cJ H i a2 a3 fun H=>Q h H) E) else(getM H a0 "default_value" fun j k=>cV p H j (k++[a2]) (fun l H=>cV p H (.ref 671) [(.int 1 0),.none,a2,l] (fun m H=>getM H a0 "set_default" fun n o=>cV p H n (o++[a2,a3]) (fun q H=>Q m H) E) E) E)) E
theorem P7(h:DM ⟨S,n,hd⟩ H a0 a1 a2 a3 Q E):Sat S (n+1) hd (.ref 682) [a0,a1,a2,a3] H Q E:=dX h
def DL:F2:=fun p H a0 a1 Q E=>aL H a1 "sort" fun a=>bD H .Eq a (.int 1 0) fun b=>if b=true then(getM H a0 "set_default" fun c e=>aL H a1 "symbol" fun f=>aL H a1 "value" fun g=>cV p H c (e++[f,g]) (fun h H=>Q .none H) E) else(aL H a1 "own" fun i=>getM H i "is_local" fun j k=>aL H a1 "symbol" fun l=>cV p H j (k++[l]) (fun m H=>aW H m fun n=>if n=true then(aL H a1 "value" fun o=>aL H a1 "own" fun q=>aL H q "values" fun r=>aL H a1 "symbol" fun s=>cJ H r s o fun H=>Q .none H) else(Q .none H)) E)
theorem P6(h:DL ⟨S,n,hd⟩ H a0 a1 Q E):Sat S (n+1) hd (.ref 689) [a0,a1] H Q E:=dX h
def DK:F2:=fun p H a0 a1 Q E=>bU H a0 "world" a1 fun H=>bJ H [] fun a H=>bU H a0 "rows" a fun H=>Q .none H
theorem P5(h:DK ⟨S,n,hd⟩ H a0 a1 Q E):Sat S (n+1) hd (.ref 703) [a0,a1] H Q E:=dX h
def DJ:F1:=fun p H a0 Q E=>aL H a0 "rows" fun a=>cV p H (.builtin "len") [a] Q E
theorem P4(h:DJ ⟨S,n,hd⟩ H a0 Q E):Sat S (n+1) hd (.ref 710) [a0] H Q E:=dX h
def DI:F3:=fun p H a0 a1 a2 Q E=>cV p H (.ref 263) [a1] (fun a H=>aW H a fun b=>if b=true then(2≤p.n∧((.ref 38):aC)=.ref 38∧(bJ H [a1] fun c H=>Clean p.hd H∧∀e,H e=none→jn (upd H e (.exc 1 (if p.hd=none then 1 else 2) [(.str "setting-constant" 0),c])) fun H=>E e H)) else(aL H a0 "rows" fun f=>getM H f "append" fun g h=>aL H a0 "world" fun i=>aL H i "variables" fun j=>aL H a0 "world" fun k=>getM H k "own" fun l m=>cV p H l (m++[]) (fun n H=>aL H a1 "number" fun o=>cV p H (.ref 682) [j,n,o,a2] (fun q H=>cV p H g (h++[q]) (fun r H=>Q .none H) E) E) E)) E
theorem P2(h:DI ⟨S,n,hd⟩ H a0 a1 a2 Q E):Sat S (n+1) hd (.ref 717) [a0,a1,a2] H Q E:=dX h
def DH:F2:=fun p H a0 a1 Q E=>∃(a:Nat→aB→AH→Prop) (b:Nat),a b [a0,a1] H∧∀c H,∀e,∀f,a c [e,f] H→aL H e "rows" fun g=>cV p H (.builtin "len") [g] (fun h H=>bD H .Gt h f fun i=>if i=true then(aL H e "rows" fun j=>getM H j "pop" fun k l=>cV p H k (l++[]) (fun m H=>cV p H (.builtin "isinstance") [m,(.ref 671)] (fun n H=>aW H n fun o=>if o=true then(aL H e "world" fun q=>aL H q "variables" fun r=>cV p H (.ref 689) [r,m] (fun s H=>∃t,t < c∧a t [e,f] H) E) else(getM H m "undo" fun u v=>aL H e "world" fun w=>aL H w "machine" fun x=>cV p H u (v++[x]) (fun y H=>∃t,t < c∧a t [e,f] H) E)) E) E) else(Q .none H)) E
theorem P1(h:DH ⟨S,n,hd⟩ H a0 a1 Q E):Sat S (n+1) hd (.ref 731) [a0,a1] H Q E:=dX h
def Lp:F3:=fun p H a0 a1 a2 Q E=>Q (.bool false) H
theorem P0(h:Lp ⟨S,n,hd⟩ H a0 a1 a2 Q E):Sat S (n+1) hd (.ref 779) [a0,a1,a2] H Q E:=dX h
def Lo:F3:=fun p H a0 a1 a2 Q E=>Q (.bool false) H
theorem PZ(h:Lo ⟨S,n,hd⟩ H a0 a1 a2 Q E):Sat S (n+1) hd (.ref 786) [a0,a1,a2] H Q E:=dX h
def DG:F2:=fun p H a0 a1 Q E=>bU H a0 "form" a1 fun H=>Q .none H
theorem PY(h:DG ⟨S,n,hd⟩ H a0 a1 Q E):Sat S (n+1) hd (.ref 807) [a0,a1] H Q E:=dX h
def DF:F2:=fun p H a0 a1 Q E=>getM H a1 "pop" fun a b=>cV p H a (b++[]) (fun c H=>getM H a1 "look" fun f7 e=>aL H a0 "form" fun f=>cV p H f7 (e++[f]) (fun g H=>Q .none H) E) E
theorem PX(h:DF ⟨S,n,hd⟩ H a0 a1 Q E):Sat S (n+1) hd (.ref 814) [a0,a1] H Q E:=dX h
def DE:F3:=fun p H a0 a1 a2 Q E=>bU H a0 "head" a1 fun H=>bU H a0 "forms" a2 fun H=>bJ H [] fun a H=>bU H a0 "found" a fun H=>bU H a0 "is_waiting" (.bool false) fun H=>Q .none H
theorem PW(h:DE ⟨S,n,hd⟩ H a0 a1 a2 Q E):Sat S (n+1) hd (.ref 859) [a0,a1,a2] H Q E:=dX h
def xY:F2:=fun p H a0 a1 Q E=>jn (fun(H:AH)=>aL H a0 "found" fun a=>cV p H (.builtin "len") [a] (fun b H=>aL H a0 "forms" fun c=>cV p H (.builtin "len") [c] (fun e H=>bD H .Lt b e fun f=>if f=true then(bU H a0 "is_waiting" (.bool true) fun H=>getM H a1 "look" fun g h=>aL H a0 "forms" fun i=>aL H a0 "found" fun j=>cV p H (.builtin "len") [j] (fun k H=>aS H i k fun l=>cV p H g (h++[l]) (fun m H=>Q .none H) E) E) else(getM H a1 "pop" fun n o=>cV p H n (o++[]) (fun q H=>getM H a1 "apply" fun r s=>aL H a0 "head" fun t=>aL H a0 "found" fun u=>cV p H r (s++[t,u]) (fun v H=>Q .none H) E) E)) E) E) fun w=>aL H a0 "is_waiting" fun x=>aW H x fun y=>if y=true then(aL H a0 "found" fun z=>getM H z "append" fun A B=>aL H a1 "value" fun C=>cV p H A (B++[C]) (fun D H=>w H) E) else(w H)
theorem JD(h:xY ⟨S,n,hd⟩ H a0 a1 Q E):Sat S (n+1) hd (.ref 866) [a0,a1] H Q E:=dX h
def DD:F2:=fun p H a0 a1 Q E=>bU H a0 "forms" a1 fun H=>bU H a0 "place" (.int 0 0) fun H=>Q .none H
theorem PU(h:DD ⟨S,n,hd⟩ H a0 a1 Q E):Sat S (n+1) hd (.ref 885) [a0,a1] H Q E:=dX h
def DC:F2:=fun p H a0 a1 Q E=>aL H a0 "forms" fun a=>aL H a0 "place" fun b=>aS H a b fun c=>aL H a0 "place" fun e=>dK H .Add e (.int 1 0) fun f H=>bU H a0 "place" f fun H=>jn (fun(H:AH)=>getM H a1 "look" fun g h=>cV p H g (h++[c]) (fun i H=>Q .none H) E) fun j=>aL H a0 "place" fun k=>aL H a0 "forms" fun l=>cV p H (.builtin "len") [l] (fun m H=>bD H .Eq k m fun n=>if n=true then(getM H a1 "pop" fun o q=>cV p H o (q++[]) (fun r H=>j H) E) else(j H)) E
theorem PT(h:DC ⟨S,n,hd⟩ H a0 a1 Q E):Sat S (n+1) hd (.ref 892) [a0,a1] H Q E:=dX h
def Dz:F3:=fun p H a0 a1 a2 Q E=>bU H a0 "forms" a1 fun H=>bU H a0 "depth" a2 fun H=>bU H a0 "place" (.int 0 0) fun H=>Q .none H
theorem PS(h:Dz ⟨S,n,hd⟩ H a0 a1 a2 Q E):Sat S (n+1) hd (.ref 911) [a0,a1,a2] H Q E:=dX h
def xX:F2:=fun p H a0 a1 Q E=>aL H a0 "place" fun a=>aL H a0 "forms" fun b=>cV p H (.builtin "len") [b] (fun c H=>bD H .Lt a c fun e=>if e=true then(aL H a0 "place" fun f=>dK H .Add f (.int 1 0) fun g H=>bU H a0 "place" g fun H=>getM H a1 "look" fun h i=>aL H a0 "forms" fun j=>aL H a0 "place" fun k=>dK H .Sub k (.int 1 0) fun l H=>aS H j l fun m=>cV p H h (i++[m]) (fun n H=>Q .none H) E) else(jn (fun(o:aC) (H:AH)=>aL H a1 "stack" fun q=>getM H q "unbind_to" fun r s=>aL H a0 "depth" fun t=>cV p H r (s++[t]) (fun u H=>getM H a1 "done" fun v w=>cV p H v (w++[o]) (fun x H=>Q .none H) E) E) fun y=>aL H a0 "forms" fun z=>bJ H [] fun A H=>bD H .NotEq z A fun B=>if B=true then(aL H a1 "value" fun C=>y C H) else(y (.ref 98) H))) E
theorem JC(h:xX ⟨S,n,hd⟩ H a0 a1 Q E):Sat S (n+1) hd (.ref 918) [a0,a1] H Q E:=dX h
def Dy:F3:=fun p H a0 a1 a2 Q E=>aL H a1 "stack" fun a=>getM H a "unbind_to" fun b c=>aL H a0 "depth" fun e=>cV p H b (c++[e]) (fun f H=>Q (.bool false) H) E
theorem PQ(h:Dy ⟨S,n,hd⟩ H a0 a1 a2 Q E):Sat S (n+1) hd (.ref 925) [a0,a1,a2] H Q E:=dX h
def Dx:F2:=fun p H a0 a1 Q E=>cV p H (.builtin "isinstance") [a0,(.ref 119)] (fun a H=>aW H a fun b=>oZ .And b (Q a H) (aL H a0 "car" fun c=>cV p H (.builtin "isinstance") [c,(.ref 92)] (fun e H=>aW H e fun f=>oZ .And f (Q e H) (aL H a0 "car" fun g=>aL H g "name" fun h=>bD H .Eq h a1 fun i=>Q (.bool i) H)) E)) E
theorem PO(h:Dx ⟨S,n,hd⟩ H a0 a1 Q E):Sat S (n+1) hd (.ref 956) [a0,a1] H Q E:=dX h
def Dw:F2:=fun p H a0 a1 Q E=>bD H .Is a0 a1 fun a=>aW H (.bool a) fun b=>oZ .Or b (Q (.bool a) H) (cV p H (.builtin "isinstance") [a0,(.type "int")] (fun c H=>aW H c fun e=>oZ .And e (Q c H) (cV p H (.builtin "isinstance") [a1,(.type "int")] (fun f H=>aW H f fun g=>oZ .And g (Q f H) (bD H .Eq a0 a1 fun h=>Q (.bool h) H)) E)) E)
theorem PN(h:Dw ⟨S,n,hd⟩ H a0 a1 Q E):Sat S (n+1) hd (.ref 963) [a0,a1] H Q E:=dX h
def Dv:F3:=fun p H a0 a1 a2 Q E=>bU H a0 "world" a1 fun H=>bU H a0 "limit" a2 fun H=>bJ H [] fun a H=>bU H a0 "frames" a fun H=>bU H a0 "floor" (.int 0 0) fun H=>bU H a0 "value" (.ref 98) fun H=>bU H a0 "steps" (.int 0 0) fun H=>cV p H (.ref 734) [a1] (fun b H=>bU H a0 "stack" b fun H=>bU H a1 "machine" a0 fun H=>Q .none H) E
theorem PM(h:Dv ⟨S,n,hd⟩ H a0 a1 a2 Q E):Sat S (n+1) hd (.ref 977) [a0,a1,a2] H Q E:=dX h
def Du:F2:=fun p H a0 a1 Q E=>bU H a0 "value" a1 fun H=>Q .none H
theorem PL(h:Du ⟨S,n,hd⟩ H a0 a1 Q E):Sat S (n+1) hd (.ref 984) [a0,a1] H Q E:=dX h
def Ds:F2:=fun p H a0 a1 Q E=>aL H a0 "frames" fun a=>getM H a "append" fun b c=>cV p H b (c++[a1]) (fun e H=>Q .none H) E
theorem PK(h:Ds ⟨S,n,hd⟩ H a0 a1 Q E):Sat S (n+1) hd (.ref 991) [a0,a1] H Q E:=dX h
def Dr:F1:=fun p H a0 Q E=>aL H a0 "frames" fun a=>getM H a "pop" fun b c=>cV p H b (c++[]) (fun e H=>Q .none H) E
theorem PJ(h:Dr ⟨S,n,hd⟩ H a0 Q E):Sat S (n+1) hd (.ref 998) [a0] H Q E:=dX h
def AX:F2:=fun p H a0 a1 Q E=>aL H a0 "frames" fun a=>getM H a "pop" fun b c=>cV p H b (c++[]) (fun e H=>bU H a0 "value" a1 fun H=>Q .none H) E
theorem Mq(h:AX ⟨S,n,hd⟩ H a0 a1 Q E):Sat S (n+1) hd (.ref 1005) [a0,a1] H Q E:=dX h
def AW:F2:=fun p H a0 a1 Q E=>cV p H (.ref 263) [a1] (fun a H=>aW H a fun b=>if b=true then(Q a1 H) else(aL H a0 "world" fun c=>aL H c "variables" fun e=>aL H a0 "world" fun f=>getM H f "own" fun g h=>cV p H g (h++[]) (fun i H=>aL H a1 "number" fun j=>cV p H (.ref 647) [e,i,j] (fun k H=>bD H .Is k .none fun l=>if l=true then(2≤p.n∧((.ref 38):aC)=.ref 38∧(bJ H [a1] fun m H=>Clean p.hd H∧∀n,H n=none→jn (upd H n (.exc 1 (if p.hd=none then 1 else 2) [(.str "void-variable" 0),m])) fun H=>E n H)) else(Q k H)) E) E)) E
theorem Mp(h:AW ⟨S,n,hd⟩ H a0 a1 Q E):Sat S (n+1) hd (.ref 1019) [a0,a1] H Q E:=dX h
def qx:F2:=fun p H a0 a1 Q E=>cV p H (.builtin "isinstance") [a1,(.ref 92)] (fun a H=>aW H a fun b=>if b=true then(getM H a0 "tell" fun c e=>getM H a0 "value_of" fun f g=>cV p H f (g++[a1]) (fun h H=>cV p H c (e++[h]) (fun i H=>Q .none H) E) E) else(cV p H (.builtin "isinstance") [a1,(.ref 119)] (fun j H=>aW H j fun k=>if k=true then(getM H a0 "look_at_call" fun l m=>aL H a1 "car" fun n=>getM H a0 "forms_of" fun o q=>aL H a1 "cdr" fun r=>cV p H o (q++[r]) (fun s H=>cV p H l (m++[n,s]) (fun t H=>Q .none H) E) E) else(getM H a0 "tell" fun u v=>cV p H u (v++[a1]) (fun w H=>Q .none H) E)) E)) E
theorem yc(h:qx ⟨S,n,hd⟩ H a0 a1 Q E):Sat S (n+1) hd (.ref 1033) [a0,a1] H Q E:=dX h
def AV:F2:=fun p H a0 a1 Q E=>cV p H (.ref 244) [a1] (fun a H=>bD H .Is a .none fun b=>if b=true then(2≤p.n∧((.ref 38):aC)=.ref 38∧(aL H a0 "world" fun c=>getM H c "symbol" fun e f=>cV p H e (f++[(.str "listp" 0)]) (fun g H=>bJ H [g,a1] fun h H=>Clean p.hd H∧∀i,H i=none→jn (upd H i (.exc 1 (if p.hd=none then 1 else 2) [(.str "wrong-type-argument" 0),h])) fun H=>E i H) E)) else(Q a H)) E
theorem Mo(h:AV ⟨S,n,hd⟩ H a0 a1 Q E):Sat S (n+1) hd (.ref 1040) [a0,a1] H Q E:=dX h
def uU:F3:=fun p H a0 a1 a2 Q E=>jn (fun(a:aC) (H:AH)=>cV p H (.builtin "isinstance") [a,(.ref 458)] (fun b H=>aW H b fun c=>if c=true then(getM H a "begin" fun e f=>cV p H e (f++[a0,a2]) (fun g H=>Q .none H) E) else(cV p H (.ref 956) [a,(.str "macro" 0)] (fun h H=>aW H h fun i=>if i=true then(getM H a0 "push" fun j k=>cV p H (.ref 947) [] (fun l H=>cV p H j (k++[l]) (fun m H=>getM H a0 "apply" fun n o=>aL H a "cdr" fun q=>cV p H n (o++[q,a2]) (fun r H=>Q .none H) E) E) E) else(getM H a0 "push" fun s t=>cV p H (.ref 869) [a1,a2] (fun u H=>cV p H s (t++[u]) (fun v H=>Q .none H) E) E)) E)) E) fun w=>cV p H (.builtin "isinstance") [a1,(.ref 92)] (fun x H=>aW H x fun y=>if y=true then(aL H a0 "world" fun z=>aL H z "cells" fun A=>getM H A "indirect_function" fun B C=>cV p H B (C++[a1]) w E) else(w a1 H)) E
theorem Ex(h:uU ⟨S,n,hd⟩ H a0 a1 a2 Q E):Sat S (n+1) hd (.ref 1047) [a0,a1,a2] H Q E:=dX h
def AU:F2:=fun p H a0 a1 Q E=>cV p H (.builtin "isinstance") [a1,(.ref 92)] (fun a H=>aW H a fun b=>if(!b)=true then(Q a1 H) else(aL H a0 "world" fun c=>aL H c "cells" fun e=>getM H e "indirect_function" fun f g=>cV p H f (g++[a1]) (fun h H=>bD H .Is h (.ref 98) fun i=>if i=true then(2≤p.n∧((.ref 38):aC)=.ref 38∧(bJ H [a1] fun j H=>Clean p.hd H∧∀k,H k=none→jn (upd H k (.exc 1 (if p.hd=none then 1 else 2) [(.str "void-function" 0),j])) fun H=>E k H)) else(Q h H)) E)) E
theorem Mn(h:AU ⟨S,n,hd⟩ H a0 a1 Q E):Sat S (n+1) hd (.ref 1061) [a0,a1] H Q E:=dX h
def uT:F3:=fun p H a0 a1 a2 Q E=>getM H a0 "function_of" fun a b=>cV p H a (b++[a1]) (fun c H=>cV p H (.builtin "isinstance") [c,(.ref 183)] (fun e H=>aW H e fun f=>if f=true then(jn (fun(H:AH)=>getM H a0 "tell" fun g h=>getM H c "deed" fun i j=>aL H a0 "world" fun k=>cV p H i (j++[k,a2]) (fun l H=>cV p H g (h++[l]) (fun m H=>Q .none H) E) E) fun n=>cV p H (.builtin "len") [a2] (fun o H=>aL H c "least" fun q=>aL H c "most" fun r=>cV p H (.ref 354) [o,q,r] (fun s H=>aW H s fun t=>if(!t)=true then(getM H a0 "refuse_count" fun u v=>cV p H (.builtin "len") [a2] (fun w H=>cV p H u (v++[c,w]) (fun x H=>n H) E) E) else(n H)) E) E) else(cV p H (.builtin "isinstance") [c,(.ref 385)] (fun y H=>aW H y fun z=>if z=true then(getM H c "begin" fun A B=>cV p H A (B++[a0,a2]) (fun C H=>Q .none H) E) else(cV p H (.ref 956) [c,(.str "lambda" 0)] (fun D H=>aW H D fun F=>if F=true then(getM H a0 "enter" fun G I=>cV p H G (I++[c,a2]) (fun J H=>Q .none H) E) else(2≤p.n∧((.ref 38):aC)=.ref 38∧(bJ H [a1] fun K H=>Clean p.hd H∧∀L,H L=none→jn (upd H L (.exc 1 (if p.hd=none then 1 else 2) [(.str "invalid-function" 0),K])) fun H=>E L H))) E)) E)) E) E
theorem Ew(h:uT ⟨S,n,hd⟩ H a0 a1 a2 Q E):Sat S (n+1) hd (.ref 1068) [a0,a1,a2] H Q E:=dX h
def AS:F2:=fun p H a0 a1 Q E=>∃(a:Nat→aB→AH→Prop) (b:Nat),a b [a0,a1] H∧∀c H,∀e,∀f,a c [e,f] H→aL H e "frames" fun g=>cV p H (.builtin "len") [g] (fun h H=>aL H e "floor" fun i=>bD H .Gt h i fun j=>if j=true then(aL H e "frames" fun k=>aS H k (.int (-1) 0) fun l=>getM H l "leave" fun m n=>cV p H m (n++[e,f]) (fun o H=>aW H o fun q=>if q=true then(Q .none H) else(aL H e "frames" fun r=>getM H r "pop" fun s t=>cV p H s (t++[]) (fun u H=>∃v,v < c∧a v [e,f] H) E)) E) else(aS H f (.int 0 0) fun w=>bD H .Eq w (.str "signal" 0) fun x=>if x=true then(2≤p.n∧((.ref 38):aC)=.ref 38∧(aS H f (.int 1 0) fun y=>aS H f (.int 2 0) fun z=>Clean p.hd H∧∀A,H A=none→jn (upd H A (.exc 1 (if p.hd=none then 1 else 2) [y,z])) fun H=>E A H)) else(2≤p.n∧((.ref 755):aC)=.ref 38∧(aS H f (.int 1 0) fun B=>aS H f (.int 2 0) fun C=>Clean p.hd H∧∀D,H D=none→jn (upd H D (.exc 1 (if p.hd=none then 1 else 2) [B,C])) fun H=>E D H)))) E
theorem Mm(h:AS ⟨S,n,hd⟩ H a0 a1 Q E):Sat S (n+1) hd (.ref 1082) [a0,a1] H Q E:=dX h
def AR:F3:=fun p H a0 a1 a2 Q E=>bM H [(.str "throw" 0),a1,a2] fun a H=>aL H a0 "frames" fun b=>gK p.hd H b (fun c H e f=>(true=true∧(if true=true then(getM H c "wants" fun g h=>cV p H g (h++[a0,a]) e fun j H=>False) else(f H)))) fun k H=>cV p H (.builtin "any") [k] (fun l H=>aW H l fun m=>if(!m)=true then(2≤p.n∧((.ref 38):aC)=.ref 38∧(bJ H [a1,a2] fun n H=>Clean p.hd H∧∀o,H o=none→jn (upd H o (.exc 1 (if p.hd=none then 1 else 2) [(.str "no-catch" 0),n])) fun H=>E o H)) else(getM H a0 "leave" fun q r=>cV p H q (r++[a]) (fun s H=>Q .none H) E)) E
theorem Ml(h:AR ⟨S,n,hd⟩ H a0 a1 a2 Q E):Sat S (n+1) hd (.ref 1087) [a0,a1,a2] H Q E:=dX h
def AQ:F3:=fun p H a0 a1 a2 Q E=>getM H a0 "leave" fun a b=>bM H [(.str "signal" 0),a1,a2] fun c H=>cV p H a (b++[c]) (fun e H=>Q .none H) E
theorem Mk(h:AQ ⟨S,n,hd⟩ H a0 a1 a2 Q E):Sat S (n+1) hd (.ref 1094) [a0,a1,a2] H Q E:=dX h
def AP:F1:=fun p H a0 Q E=>aL H a0 "steps" fun a=>aL H a0 "limit" fun b=>bD H .GtE a b fun c=>if c=true then(False) else(aL H a0 "steps" fun e=>dK H .Add e (.int 1 0) fun f H=>bU H a0 "steps" f fun H=>true=true∧("LispSignal":Str)="LispSignal"∧some NameKind.local=some NameKind.local∧some NameKind.globalImplicit=some NameKind.globalImplicit∧(aL H a0 "frames" fun g=>aS H g (.int (-1) 0) fun h=>getM H h "step" fun i j=>cV p H i (j++[a0]) (fun l H=>Q .none H) fun m H=>(∃t k fs,H m=some (.exc t k fs))∧(getM H a0 "leave" fun n o=>aL H (.ref m) "symbol" fun q=>aL H (.ref m) "data" fun r=>bM H [(.str "signal" 0),q,r] fun s H=>cV (⟨p.S,p.n,some m⟩:Pl) H n (o++[s]) (fun u H=>Q .none H) E)))
theorem Mj(h:AP ⟨S,n,hd⟩ H a0 Q E):Sat S (n+1) hd (.ref 1101) [a0] H Q E:=dX h
def AN:F2:=fun p H a0 a1 Q E=>aL H a0 "floor" fun a=>aL H a0 "stack" fun b=>getM H b "depth" fun c e=>cV p H c (e++[]) (fun f H=>bM H [a,f] fun g H=>cS H p.hd g 2 fun h=>iX (List.reverse h) fun i j=>(true=true∧(iX j fun k l=>(true=true∧(jB l (aL H a0 "frames" fun m=>cV p H (.builtin "len") [m] (fun n H=>bU H a0 "floor" n fun H=>aL H a0 "floor" fun o=>getM H a0 "push" fun q r=>cV p H q (r++[a1]) (fun s H=>true=true∧(∃(t:Nat→aB→AH→Prop) (u:Nat),t u [a0,a1,i,k,o] H∧∀v H,∀w,∀x,∀y,∀z,∀A,t v [w,x,y,z,A] H→aL H w "frames" fun B=>cV p H (.builtin "len") [B] (fun C H=>bD H .Gt C A fun D=>if D=true then(getM H w "step" fun F G=>cV p H F (G++[]) (fun I H=>∃J,J < v∧t J [w,x,y,z,A] H) fun K H=>∃L M N,H K=some (.exc L M N)∧M≠0∧(jn (del H K) fun H=>bU H w "floor" z fun H=>aL H w "stack" fun O=>getM H O "unbind_to" fun R S=>cV (⟨p.S,p.n,some K⟩:Pl) H R (S++[y]) (fun T H=>(Flow.next:Flow)=.next∧(jn (upd H K (.exc L M N)) fun H=>E K H)) fun U H=>False)) else(bU H w "floor" z fun H=>aL H w "stack" fun V=>getM H V "unbind_to" fun W X=>cV p H W (X++[y]) (fun Y H=>aL H w "value" fun Z=>Q Z H) fun aa H=>False)) fun ab H=>∃ac ad ae,H ab=some (.exc ac ad ae)∧ad≠0∧(jn (del H ab) fun H=>bU H w "floor" z fun H=>aL H w "stack" fun af=>getM H af "unbind_to" fun ag ah=>cV (⟨p.S,p.n,some ab⟩:Pl) H ag (ah++[y]) (fun ai H=>(Flow.next:Flow)=.next∧(jn (upd H ab (.exc ac ad ae)) fun H=>E ab H)) fun aj H=>False))) E) E)))))) E
theorem Mi(h:AN ⟨S,n,hd⟩ H a0 a1 Q E):Sat S (n+1) hd (.ref 1108) [a0,a1] H Q E:=dX h
def AM:F2:=fun p H a0 a1 Q E=>getM H a0 "run" fun a b=>cV p H (.ref 817) [a1] (fun c H=>cV p H a (b++[c]) Q E) E
theorem Mh(h:AM ⟨S,n,hd⟩ H a0 a1 Q E):Sat S (n+1) hd (.ref 1115) [a0,a1] H Q E:=dX h
def uS:F2:=fun p H a0 a1 Q E=>cV p H (.builtin "isinstance") [a1,(.ref 92)] (fun a H=>aW H a fun b=>if(!b)=true then(2≤p.n∧((.ref 38):aC)=.ref 38∧(aL H a0 "world" fun c=>getM H c "symbol" fun e f=>cV p H e (f++[(.str "symbolp" 0)]) (fun g H=>bJ H [g,a1] fun h H=>Clean p.hd H∧∀i,H i=none→jn (upd H i (.exc 1 (if p.hd=none then 1 else 2) [(.str "wrong-type-argument" 0),h])) fun H=>E i H) E)) else(Q .none H)) E
theorem Eu(h:uS ⟨S,n,hd⟩ H a0 a1 Q E):Sat S (n+1) hd (.ref 1143) [a0,a1] H Q E:=dX h
def uR:F2:=fun p H a0 a1 Q E=>cV p H (.builtin "len") [a1] (fun a H=>bD H .Eq a (.int 0 0) fun b=>if b=true then(getM H a0 "tell" fun c e=>cV p H c (e++[(.ref 98)]) (fun f H=>Q .none H) E) else(cV p H (.builtin "len") [a1] (fun g H=>bD H .Eq g (.int 1 0) fun h=>if h=true then(getM H a0 "look" fun i j=>aS H a1 (.int 0 0) fun k=>cV p H i (j++[k]) (fun l H=>Q .none H) E) else(getM H a0 "push" fun m n=>cV p H (.ref 895) [a1] (fun o H=>cV p H m (n++[o]) (fun q H=>Q .none H) E) E)) E)) E
theorem Et(h:uR ⟨S,n,hd⟩ H a0 a1 Q E):Sat S (n+1) hd (.ref 1150) [a0,a1] H Q E:=dX h
def AL:F2:=fun p H a0 a1 Q E=>getM H a0 "tell" fun a b=>aS H a1 (.int 0 0) fun c=>cV p H a (b++[c]) (fun e H=>Q .none H) E
theorem Mg(h:AL ⟨S,n,hd⟩ H a0 a1 Q E):Sat S (n+1) hd (.ref 1157) [a0,a1] H Q E:=dX h
def AK:F2:=fun p H a0 a1 Q E=>bJ H [] fun a H=>getM H a0 "forms_of" fun b c=>cV p H b (c++[a1]) (fun e H=>∃(f:Src) (g:aB) (h:Nat→aB→AH→Prop),fp H e g f∧h 0 [a0,a1,a] H∧(∀i us H,h i us H→f.ok H g)∧(∀j H k,g[j]?=some k→∀l,∀m,∀n,h j [l,m,n] H→(true=true∧(jn (fun(o:aC) (H:AH)=>jn (fun(q:Bool) (H:AH)=>if q=true then(2≤p.n∧((.ref 38):aC)=.ref 38∧(bJ H [(.str "Malformed let binding" 0)] fun r H=>Clean p.hd H∧∀s,H s=none→jn (upd H s (.exc 1 (if p.hd=none then 1 else 2) [(.str "error" 0),r])) fun H=>False)) else(aS H o (.int 0 0) fun t=>cV p H (.ref 1143) [l,t] (fun u H=>getM H n "append" fun v w=>aS H o (.int 0 0) fun x=>jn (fun(y:aC) (H:AH)=>bM H [x,y] fun z H=>cV p H v (w++[z]) (fun A H=>h (j+1) [l,m,n] H) fun B H=>False) fun C=>cV p H (.builtin "len") [o] (fun D H=>bD H .Eq D (.int 2 0) fun F=>if F=true then(aS H o (.int 1 0) fun G=>C G H) else(C (.ref 98) H)) fun I H=>False) fun J H=>False)) fun K=>cV p H (.builtin "len") [o] (fun L H=>bD H .Eq L (.int 0 0) fun M=>gk .Or M (K false H) (K true H) (cV p H (.builtin "len") [o] (fun N H=>bD H .Gt N (.int 2 0) fun O=>gk .Or O (K false H) (K true H) (K false H)) fun R H=>False)) fun S H=>False) fun T=>cV p H (.builtin "isinstance") [k,(.ref 92)] (fun U H=>aW H U fun V=>if V=true then(bJ H [k] fun W H=>T W H) else(getM H l "forms_of" fun X Y=>cV p H X (Y++[k]) T fun aa H=>False)) fun ab H=>False)))∧∀H,∀ac,∀ad,∀ae,h g.length [ac,ad,ae] H→Clean p.hd H∧(Q ae H)) E
theorem Mf(h:AK ⟨S,n,hd⟩ H a0 a1 Q E):Sat S (n+1) hd (.ref 1411) [a0,a1] H Q E:=dX h
def AJ:F3:=fun p H a0 a1 a2 Q E=>bU H a0 "pairs" a1 fun H=>bU H a0 "body" a2 fun H=>bJ H [] fun a H=>bU H a0 "values" a fun H=>bU H a0 "is_waiting" (.bool false) fun H=>Q .none H
theorem Me(h:AJ ⟨S,n,hd⟩ H a0 a1 a2 Q E):Sat S (n+1) hd (.ref 1425) [a0,a1,a2] H Q E:=dX h
def uQ:F2:=fun p H a0 a1 Q E=>jn (fun(H:AH)=>aL H a0 "values" fun a=>cV p H (.builtin "len") [a] (fun b H=>aL H a0 "pairs" fun c=>cV p H (.builtin "len") [c] (fun e H=>bD H .Lt b e fun f=>if f=true then(bU H a0 "is_waiting" (.bool true) fun H=>getM H a1 "look" fun g h=>aL H a0 "pairs" fun j=>aL H a0 "values" fun k=>cV p H (.builtin "len") [k] (fun l H=>aS H j l fun m=>aS H m (.int 1 0) fun n=>cV p H g (h++[n]) (fun o H=>Q .none H) E) E) else(getM H a1 "pop" fun q r=>cV p H q (r++[]) (fun s H=>aL H a1 "stack" fun t=>getM H t "depth" fun u v=>cV p H u (v++[]) (fun w H=>aL H a0 "pairs" fun x=>cV p H (.builtin "len") [x] (fun y H=>cV p H (.type "range") [y] (fun z H=>∃(A:Src) (B:aB) (C:Nat→aB→AH→Prop),fp H z B A∧C 0 [a0,a1,w] H∧(∀i us H,C i us H→A.ok H B)∧(∀D H F,B[D]?=some F→∀G,∀I,∀J,C D [G,I,J] H→(true=true∧(aL H I "stack" fun K=>getM H K "bind" fun L M=>aL H G "pairs" fun N=>aS H N F fun O=>aS H O (.int 0 0) fun R=>aL H G "values" fun S=>aS H S F fun T=>cV p H L (M++[R,T]) (fun U H=>C (D+1) [G,I,J] H) fun V H=>False)))∧∀H,∀W,∀X,∀Y,C B.length [W,X,Y] H→Clean p.hd H∧(getM H X "push" fun Z aa=>aL H W "body" fun ab=>cV p H (.ref 928) [ab,Y] (fun ac H=>cV p H Z (aa++[ac]) (fun ad H=>Q .none H) E) E)) E) E) E) E)) E) E) fun ae=>aL H a0 "is_waiting" fun af=>aW H af fun ag=>if ag=true then(aL H a0 "values" fun ah=>getM H ah "append" fun ai aj=>aL H a1 "value" fun ak=>cV p H ai (aj++[ak]) (fun al H=>ae H) E) else(ae H)
theorem Es(h:uQ ⟨S,n,hd⟩ H a0 a1 Q E):Sat S (n+1) hd (.ref 1432) [a0,a1] H Q E:=dX h
def AI:F2:=fun p H a0 a1 Q E=>getM H a0 "push" fun a b=>aS H a1 (.int 0 0) fun c=>cV p H (.ref 1411) [a0,c] (fun e H=>eM H a1 (.int 1 0) fun f H=>cV p H (.ref 1435) [e,f] (fun g H=>cV p H a (b++[g]) (fun h H=>Q .none H) E) E) E
theorem Md(h:AI ⟨S,n,hd⟩ H a0 a1 Q E):Sat S (n+1) hd (.ref 1444) [a0,a1] H Q E:=dX h
def AG:F0:=fun p H Q E=>bM H [(.str "quote" 0),(.int 1 0),(.int 1 0),(.ref 1157)] fun a H=>bM H [(.str "function" 0),(.int 1 0),(.int 1 0),(.ref 1157)] fun b H=>bM H [(.str "progn" 0),(.int 0 0),(.int (-1) 0),(.ref 1150)] fun c H=>bM H [(.str "if" 0),(.int 2 0),(.int (-1) 0),(.ref 1190)] fun e H=>bM H [(.str "when" 0),(.int 1 0),(.int (-1) 0),(.ref 1197)] fun f H=>bM H [(.str "unless" 0),(.int 1 0),(.int (-1) 0),(.ref 1204)] fun g H=>bM H [(.str "cond" 0),(.int 0 0),(.int (-1) 0),(.ref 1237)] fun h H=>bM H [(.str "and" 0),(.int 0 0),(.int (-1) 0),(.ref 1277)] fun i H=>bM H [(.str "or" 0),(.int 0 0),(.int (-1) 0),(.ref 1284)] fun j H=>bM H [(.str "while" 0),(.int 1 0),(.int (-1) 0),(.ref 1317)] fun k H=>bM H [(.str "prog1" 0),(.int 1 0),(.int (-1) 0),(.ref 1350)] fun l H=>bJ H [a,b,c,e,f,g,h,i,j,k,l] fun m H=>gK p.hd H m (fun n H o q=>cS H p.hd n 4 fun r=>iX r fun s r=>(true=true∧(iX r fun t r=>(true=true∧(iX r fun u r=>(true=true∧(iX r fun v r=>(true=true∧(jB r (if true=true then(cV p H (.ref 458) [s,t,u,v] o fun x H=>False) else(q H))))))))))) Q
theorem Mc(h:AG ⟨S,n,hd⟩ H Q E):Sat S (n+1) hd (.ref 1489) [] H Q E:=dX h
def AF:F0:=fun p H Q E=>bM H [(.str "setq" 0),(.int 0 0),(.int (-1) 0),(.ref 1397)] fun a H=>bM H [(.str "setq-default" 0),(.int 0 0),(.int (-1) 0),(.ref 1404)] fun b H=>bM H [(.str "let" 0),(.int 1 0),(.int (-1) 0),(.ref 1444)] fun c H=>bM H [(.str "let*" 0),(.int 1 0),(.int (-1) 0),(.ref 1484)] fun e H=>bJ H [a,b,c,e] fun f H=>gK p.hd H f (fun g H h i=>cS H p.hd g 4 fun j=>iX j fun k j=>(true=true∧(iX j fun l j=>(true=true∧(iX j fun m j=>(true=true∧(iX j fun n j=>(true=true∧(jB j (if true=true then(cV p H (.ref 458) [k,l,m,n] h fun q H=>False) else(i H))))))))))) Q
theorem Mb(h:AF ⟨S,n,hd⟩ H Q E):Sat S (n+1) hd (.ref 1494) [] H Q E:=dX h
def AE:F2:=fun p H a0 a1 Q E=>aL H a0 "obarray" fun a=>getM H a "intern" fun b c=>cV p H b (c++[a1]) (fun e H=>aL H a0 "cells" fun f=>getM H f "get" fun g h=>aL H a0 "obarray" fun i=>getM H i "intern" fun j k=>cV p H j (k++[(.str "error-conditions" 0)]) (fun l H=>cV p H g (h++[e,l]) (fun m H=>bD H .Is m (.ref 98) fun n=>if n=true then(cV p H (.ref 75) [a1] Q E) else(jn (fun(o:aC) (H:AH)=>gK p.hd H o (fun q H r s=>(true=true∧(cV p H (.builtin "isinstance") [q,(.ref 92)] (fun t H=>aW H t fun u=>if u=true then(aL H q "name" fun v=>r v H) else(s H)) fun w H=>False))) Q) fun x=>cV p H (.ref 244) [m] (fun y H=>aW H y fun z=>oZ .Or z (x y H) (bJ H [] fun A H=>x A H)) E)) E) E) E
theorem Ma(h:AE ⟨S,n,hd⟩ H a0 a1 Q E):Sat S (n+1) hd (.ref 1499) [a0,a1] H Q E:=dX h
def AD:F4:=fun p H a0 a1 a2 a3 Q E=>bJ H [a1] fun a H=>∃(b:Src) (c:aB) (e:Nat→aB→AH→Prop),fp H a3 c b∧e 0 [a0,a1,a2,a3,a] H∧(∀i us H,e i us H→b.ok H c)∧(∀f H g,c[f]?=some g→∀h,∀j,∀k,∀l,∀m,e f [h,j,k,l,m] H→(true=true∧(getM H m "extend" fun n o=>cV p H (.ref 1499) [h,g] (fun q H=>gK p.hd H q (fun r H s t=>(true=true∧(bD H .NotIn r m fun u=>if u=true then(s r H) else(t H)))) fun v H=>cV p H n (o++[v]) (fun w H=>e (f+1) [h,j,k,l,m] H) fun x H=>False) fun y H=>False)))∧∀H,∀z,∀A,∀B,∀C,∀D,e c.length [z,A,B,C,D] H→Clean p.hd H∧(aL H z "obarray" fun F=>getM H F "intern" fun G I=>cV p H G (I++[A]) (fun J H=>gK p.hd H D (fun K H L M=>(true=true∧(if true=true then(aL H z "obarray" fun N=>getM H N "intern" fun O R=>cV p H O (R++[K]) L fun T H=>False) else(M H)))) fun U H=>cV p H (.ref 230) [U] (fun V H=>aL H z "cells" fun W=>getM H W "put" fun X Y=>aL H z "obarray" fun Z=>getM H Z "intern" fun aa ab=>cV p H aa (ab++[(.str "error-conditions" 0)]) (fun ac H=>cV p H X (Y++[J,ac,V]) (fun ad H=>aL H z "cells" fun ae=>getM H ae "put" fun af ag=>aL H z "obarray" fun ah=>getM H ah "intern" fun ai aj=>cV p H ai (aj++[(.str "error-message" 0)]) (fun ak H=>cV p H (.ref 249) [B] (fun al H=>cV p H af (ag++[J,ak,al]) (fun am H=>Q .none H) E) E) E) E) E) E) E)
theorem L9(h:AD ⟨S,n,hd⟩ H a0 a1 a2 a3 Q E):Sat S (n+1) hd (.ref 1504) [a0,a1,a2,a3] H Q E:=dX h
def AB:F3:=fun p H a0 a1 a2 Q E=>bD H .Is a1 (.ref 101) fun a=>aW H (.bool a) fun b=>oZ .Or b (Q (.bool a) H) (aL H a1 "name" fun c=>cV p H (.ref 1499) [a0,a2] (fun e H=>bD H .In c e fun f=>Q (.bool f) H) E)
theorem L8(h:AB ⟨S,n,hd⟩ H a0 a1 a2 Q E):Sat S (n+1) hd (.ref 1511) [a0,a1,a2] H Q E:=dX h
def AA:F3:=fun p H a0 a1 a2 Q E=>cV p H (.builtin "isinstance") [a1,(.ref 92)] (fun a H=>aW H a fun b=>if b=true then(bD H .IsNot a1 (.ref 98) fun c=>aW H (.bool c) fun e=>oZ .And e (Q (.bool c) H) (cV p H (.ref 1511) [a0,a1,a2] Q E)) else(jn (fun(f:aC) (H:AH)=>gK p.hd H f (fun g H h i=>(true=true∧(cV p H (.builtin "isinstance") [g,(.ref 92)] (fun j H=>aW H j fun k=>if k=true then(cV p H (.ref 1511) [a0,g,a2] h fun m H=>False) else(i H)) fun n H=>False))) fun o H=>cV p H (.builtin "any") [o] Q E) fun q=>cV p H (.ref 244) [a1] (fun r H=>aW H r fun s=>oZ .Or s (q r H) (bJ H [] fun t H=>q t H)) E)) E
theorem L7(h:AA ⟨S,n,hd⟩ H a0 a1 a2 Q E):Sat S (n+1) hd (.ref 1516) [a0,a1,a2] H Q E:=dX h
def Az:F1:=fun p H a0 Q E=>cV p H (.builtin "isinstance") [a0,(.type "str")] (fun a H=>aW H a fun b=>if b=true then(cV p H (.ref 249) [a0] Q E) else(cV p H (.builtin "isinstance") [a0,(.type "list")] (fun c H=>aW H c fun e=>if e=true then(cV p H (.type "list") [a0] (fun f H=>cV p H (.ref 141) [f] Q E) E) else(Q a0 H)) E)) E
theorem L6(h:Az ⟨S,n,hd⟩ H a0 Q E):Sat S (n+1) hd (.ref 1523) [a0] H Q E:=dX h
def Ay:F3:=fun p H a0 a1 a2 Q E=>aL H a0 "obarray" fun a=>getM H a "intern" fun b c=>cV p H b (c++[a1]) (fun e H=>gK p.hd H a2 (fun f H g h=>(true=true∧(if true=true then(cV p H (.ref 1523) [f] g fun j H=>False) else(h H)))) fun k H=>cV p H (.ref 230) [k] (fun l H=>cV p H (.ref 119) [e,l] Q E) E) E
theorem L5(h:Ay ⟨S,n,hd⟩ H a0 a1 a2 Q E):Sat S (n+1) hd (.ref 1528) [a0,a1,a2] H Q E:=dX h
def Ax:F1:=fun p H a0 Q E=>cV p H (.ref 244) [a0] (fun a H=>bD H .Is a .none fun b=>if b=true then(bJ H [a0] Q) else(Q a H)) E
theorem L4(h:Ax ⟨S,n,hd⟩ H a0 Q E):Sat S (n+1) hd (.ref 1535) [a0] H Q E:=dX h
def Aw:F3:=fun p H a0 a1 a2 Q E=>bU H a0 "body" a1 fun H=>bU H a0 "depth" a2 fun H=>bU H a0 "tag" .none fun H=>Q .none H
theorem LZ(h:Aw ⟨S,n,hd⟩ H a0 a1 a2 Q E):Sat S (n+1) hd (.ref 1549) [a0,a1,a2] H Q E:=dX h
def uP:F2:=fun p H a0 a1 Q E=>aL H a0 "tag" fun a=>bD H .Is a .none fun b=>if b=true then(aL H a1 "value" fun c=>bU H a0 "tag" c fun H=>aL H a0 "body" fun e=>cV p H (.ref 1150) [a1,e] (fun f H=>Q .none H) E) else(getM H a1 "done" fun g h=>aL H a1 "value" fun i=>cV p H g (h++[i]) (fun j H=>Q .none H) E)
theorem Er(h:uP ⟨S,n,hd⟩ H a0 a1 Q E):Sat S (n+1) hd (.ref 1556) [a0,a1] H Q E:=dX h
def Av:F3:=fun p H a0 a1 a2 Q E=>aL H a0 "tag" fun a=>bD H .IsNot a .none fun b=>aW H (.bool b) fun c=>oZ .And c (Q (.bool b) H) (aS H a2 (.int 0 0) fun e=>bD H .Eq e (.str "throw" 0) fun f=>aW H (.bool f) fun g=>oZ .And g (Q (.bool f) H) (aL H a0 "tag" fun h=>aS H a2 (.int 1 0) fun i=>cV p H (.ref 963) [h,i] Q E))
theorem LY(h:Av ⟨S,n,hd⟩ H a0 a1 a2 Q E):Sat S (n+1) hd (.ref 1563) [a0,a1,a2] H Q E:=dX h
def uO:F3:=fun p H a0 a1 a2 Q E=>getM H a0 "wants" fun a b=>cV p H a (b++[a1,a2]) (fun c H=>aW H c fun e=>if(!e)=true then(Q (.bool false) H) else(aL H a1 "stack" fun f=>getM H f "unbind_to" fun g h=>aL H a0 "depth" fun i=>cV p H g (h++[i]) (fun j H=>getM H a1 "done" fun k l=>aS H a2 (.int 2 0) fun m=>cV p H k (l++[m]) (fun n H=>Q (.bool true) H) E) E)) E
theorem Ep(h:uO ⟨S,n,hd⟩ H a0 a1 a2 Q E):Sat S (n+1) hd (.ref 1570) [a0,a1,a2] H Q E:=dX h
def Au:F2:=fun p H a0 a1 Q E=>getM H a0 "push" fun a b=>eM H a1 (.int 1 0) fun c H=>aL H a0 "stack" fun e=>getM H e "depth" fun f g=>cV p H f (g++[]) (fun h H=>cV p H (.ref 1573) [c,h] (fun i H=>cV p H a (b++[i]) (fun j H=>getM H a0 "look" fun k l=>aS H a1 (.int 0 0) fun m=>cV p H k (l++[m]) (fun n H=>Q .none H) E) E) E) E
theorem LX(h:Au ⟨S,n,hd⟩ H a0 a1 Q E):Sat S (n+1) hd (.ref 1582) [a0,a1] H Q E:=dX h
def As:F3:=fun p H a0 a1 a2 Q E=>bU H a0 "cleanup" a1 fun H=>bU H a0 "depth" a2 fun H=>bU H a0 "is_cleaning" (.bool false) fun H=>bU H a0 "kept" (.ref 98) fun H=>bU H a0 "leaving" .none fun H=>Q .none H
theorem LW(h:As ⟨S,n,hd⟩ H a0 a1 a2 Q E):Sat S (n+1) hd (.ref 1596) [a0,a1,a2] H Q E:=dX h
def qw:F2:=fun p H a0 a1 Q E=>aL H a0 "is_cleaning" fun a=>aW H a fun b=>if(!b)=true then(aL H a1 "value" fun c=>bU H a0 "kept" c fun H=>bU H a0 "is_cleaning" (.bool true) fun H=>aL H a0 "cleanup" fun e=>cV p H (.ref 1150) [a1,e] (fun f H=>Q .none H) E) else(aL H a0 "leaving" fun g=>bD H .Is g .none fun h=>if h=true then(getM H a1 "done" fun i j=>aL H a0 "kept" fun k=>cV p H i (j++[k]) (fun l H=>Q .none H) E) else(getM H a1 "pop" fun m n=>cV p H m (n++[]) (fun o H=>getM H a1 "leave" fun q r=>aL H a0 "leaving" fun s=>cV p H q (r++[s]) (fun t H=>Q .none H) E) E))
theorem yb(h:qw ⟨S,n,hd⟩ H a0 a1 Q E):Sat S (n+1) hd (.ref 1603) [a0,a1] H Q E:=dX h
def uN:F3:=fun p H a0 a1 a2 Q E=>aL H a0 "is_cleaning" fun a=>aW H a fun b=>if b=true then(Q (.bool false) H) else(aL H a1 "stack" fun c=>getM H c "unbind_to" fun f7 e=>aL H a0 "depth" fun f=>cV p H f7 (e++[f]) (fun g H=>bU H a0 "leaving" a2 fun H=>bU H a0 "is_cleaning" (.bool true) fun H=>aL H a0 "cleanup" fun h=>bJ H [] fun i H=>bD H .NotEq h i fun j=>if j=true then(getM H a1 "push" fun k l=>aL H a0 "cleanup" fun m=>cV p H (.ref 895) [m] (fun n H=>cV p H k (l++[n]) (fun o H=>Q (.bool true) H) E) E) else(Q (.bool true) H)) E)
theorem Eo(h:uN ⟨S,n,hd⟩ H a0 a1 a2 Q E):Sat S (n+1) hd (.ref 1610) [a0,a1,a2] H Q E:=dX h
def Ar:F2:=fun p H a0 a1 Q E=>getM H a0 "push" fun a b=>eM H a1 (.int 1 0) fun c H=>aL H a0 "stack" fun e=>getM H e "depth" fun f g=>cV p H f (g++[]) (fun h H=>cV p H (.ref 1613) [c,h] (fun i H=>cV p H a (b++[i]) (fun j H=>getM H a0 "look" fun k l=>aS H a1 (.int 0 0) fun m=>cV p H k (l++[m]) (fun n H=>Q .none H) E) E) E) E
theorem LV(h:Ar ⟨S,n,hd⟩ H a0 a1 Q E):Sat S (n+1) hd (.ref 1622) [a0,a1] H Q E:=dX h
def Aq:F5:=fun p H a0 a1 a2 a3 a4 Q E=>bU H a0 "variable" a1 fun H=>bU H a0 "handlers" a2 fun H=>bU H a0 "success" a3 fun H=>bU H a0 "depth" a4 fun H=>Q .none H
theorem LU(h:Aq ⟨S,n,hd⟩ H a0 a1 a2 a3 a4 Q E):Sat S (n+1) hd (.ref 1636) [a0,a1,a2,a3,a4] H Q E:=dX h
def Ap:F2:=fun p H a0 a1 Q E=>aL H a0 "success" fun a=>bD H .Is a .none fun b=>if b=true then(getM H a1 "done" fun c e=>aL H a1 "value" fun f=>cV p H c (e++[f]) (fun g H=>Q .none H) E) else(aL H a1 "value" fun h=>getM H a1 "pop" fun i j=>cV p H i (j++[]) (fun k H=>aL H a0 "variable" fun l=>aL H a0 "success" fun m=>cV p H (.ref 1662) [a1,l,m,h] (fun n H=>Q .none H) E) E)
theorem LS(h:Ap ⟨S,n,hd⟩ H a0 a1 Q E):Sat S (n+1) hd (.ref 1643) [a0,a1] H Q E:=dX h
def uM:F3:=fun p H a0 a1 a2 Q E=>aS H a2 (.int 0 0) fun a=>bD H .NotEq a (.str "signal" 0) fun b=>if b=true then(Q (.bool false) H) else(aL H a0 "handlers" fun c=>∃(e:Src) (f:aB) (g:Nat→aB→AH→Prop),fp H c f e∧g 0 [a0,a1,a2] H∧(∀i us H,g i us H→e.ok H f)∧(∀h H j,f[h]?=some j→∀k,∀l,∀m,g h [k,l,m] H→cS H p.hd j 2 fun n=>iX n fun o n=>(true=true∧(iX n fun q n=>(true=true∧(jB n (aL H l "world" fun r=>aS H m (.int 1 0) fun s=>cV p H (.ref 1516) [r,o,s] (fun t H=>aW H t fun u=>if u=true then(aL H l "stack" fun v=>getM H v "unbind_to" fun w x=>aL H k "depth" fun y=>cV p H w (x++[y]) (fun z H=>getM H l "pop" fun A B=>cV p H A (B++[]) (fun C H=>aL H l "world" fun D=>aS H m (.int 1 0) fun F=>aS H m (.int 2 0) fun G=>cV p H (.ref 1528) [D,F,G] (fun I H=>getM H l "push" fun J K=>aL H k "variable" fun L=>cV p H (.ref 1686) [L,q,I] (fun M H=>cV p H J (K++[M]) (fun N H=>Q (.bool true) H) fun O H=>False) fun R H=>False) fun S H=>False) fun T H=>False) fun U H=>False) else(g (h+1) [k,l,m] H)) fun V H=>False))))))∧∀H,∀W,∀X,∀Y,g f.length [W,X,Y] H→Clean p.hd H∧(Q (.bool false) H))
theorem En(h:uM ⟨S,n,hd⟩ H a0 a1 a2 Q E):Sat S (n+1) hd (.ref 1650) [a0,a1,a2] H Q E:=dX h
def Ao:F4:=fun p H a0 a1 a2 a3 Q E=>bD H .Is a1 (.ref 98) fun a=>if a=true then(cV p H (.ref 1150) [a0,a2] (fun b H=>Q .none H) E) else(getM H a0 "push" fun c e=>aL H a0 "stack" fun f=>getM H f "depth" fun g h=>cV p H g (h++[]) (fun i H=>cV p H (.ref 928) [a2,i] (fun j H=>cV p H c (e++[j]) (fun k H=>aL H a0 "stack" fun l=>getM H l "bind" fun m n=>cV p H m (n++[a1,a3]) (fun o H=>Q .none H) E) E) E) E)
theorem LR(h:Ao ⟨S,n,hd⟩ H a0 a1 a2 a3 Q E):Sat S (n+1) hd (.ref 1662) [a0,a1,a2,a3] H Q E:=dX h
def An:F4:=fun p H a0 a1 a2 a3 Q E=>bU H a0 "variable" a1 fun H=>bU H a0 "forms" a2 fun H=>bU H a0 "value" a3 fun H=>Q .none H
theorem LQ(h:An ⟨S,n,hd⟩ H a0 a1 a2 a3 Q E):Sat S (n+1) hd (.ref 1676) [a0,a1,a2,a3] H Q E:=dX h
def Am:F2:=fun p H a0 a1 Q E=>getM H a1 "pop" fun a b=>cV p H a (b++[]) (fun c H=>aL H a0 "variable" fun e=>aL H a0 "forms" fun f=>aL H a0 "value" fun g=>cV p H (.ref 1662) [a1,e,f,g] (fun h H=>Q .none H) E) E
theorem LP(h:Am ⟨S,n,hd⟩ H a0 a1 Q E):Sat S (n+1) hd (.ref 1683) [a0,a1] H Q E:=dX h
def Al:F2:=fun p H a0 a1 Q E=>aS H a1 (.int 0 0) fun a=>cV p H (.ref 1143) [a0,a] (fun b H=>bJ H [] fun c H=>bM H [c,.none] fun e H=>cS H p.hd e 2 fun f=>iX (List.reverse f) fun g h=>(true=true∧(iX h fun j k=>(true=true∧(jB k (eM H a1 (.int 2 0) fun l H=>∃(m:Src) (n:aB) (o:Nat→aB→AH→Prop),fp H l n m∧o 0 [a0,a1,g,j] H∧(∀i us H,o i us H→m.ok H n)∧(∀q H r,n[q]?=some r→∀s,∀t,∀u,∀v,o q [s,t,u,v] H→(true=true∧(getM H s "forms_of" fun w x=>cV p H w (x++[r]) (fun y H=>jn (fun(z:Bool) (H:AH)=>if z=true then(eM H y (.int 1 0) fun A H=>o (q+1) [s,t,A,v] H) else(bJ H [] fun B H=>bD H .NotEq y B fun C=>if C=true then(getM H v "append" fun D F=>aS H y (.int 0 0) fun G=>eM H y (.int 1 0) fun I H=>bM H [G,I] fun J H=>cV p H D (F++[J]) (fun K H=>o (q+1) [s,t,u,v] H) fun L H=>False) else(o (q+1) [s,t,u,v] H))) fun M=>bJ H [] fun N H=>bD H .NotEq y N fun O=>gk .And O (M false H) (M true H) (aS H y (.int 0 0) fun R=>cV p H (.builtin "isinstance") [R,(.ref 92)] (fun S H=>aW H S fun T=>gk .And T (M false H) (M true H) (aS H y (.int 0 0) fun U=>aL H U "name" fun V=>bD H .Eq V (.str ":success" 0) fun W=>gk .And W (M false H) (M true H) (M true H))) fun X H=>False)) fun Y H=>False)))∧∀H,∀Z,∀aa,∀ab,∀ac,o n.length [Z,aa,ab,ac] H→Clean p.hd H∧(getM H Z "push" fun ad ae=>aS H aa (.int 0 0) fun af=>aL H Z "stack" fun ag=>getM H ag "depth" fun ah ai=>cV p H ah (ai++[]) (fun aj H=>cV p H (.ref 1653) [af,ac,ab,aj] (fun ak H=>cV p H ad (ae++[ak]) (fun al H=>getM H Z "look" fun am an=>aS H aa (.int 1 0) fun ao=>cV p H am (an++[ao]) (fun ap H=>Q .none H) E) E) E) E))))))) E
theorem LO(h:Al ⟨S,n,hd⟩ H a0 a1 Q E):Sat S (n+1) hd (.ref 1695) [a0,a1] H Q E:=dX h
def Ak:F0:=fun p H Q E=>bM H [(.str "catch" 0),(.int 1 0),(.int (-1) 0),(.ref 1582)] fun a H=>bM H [(.str "unwind-protect" 0),(.int 1 0),(.int (-1) 0),(.ref 1622)] fun b H=>bM H [(.str "condition-case" 0),(.int 2 0),(.int (-1) 0),(.ref 1695)] fun c H=>bM H [(.str "ignore-errors" 0),(.int 0 0),(.int (-1) 0),(.ref 1702)] fun e H=>bJ H [a,b,c,e] fun f H=>gK p.hd H f (fun g H h i=>cS H p.hd g 4 fun j=>iX j fun k j=>(true=true∧(iX j fun l j=>(true=true∧(iX j fun m j=>(true=true∧(iX j fun n j=>(true=true∧(jB j (if true=true then(cV p H (.ref 458) [k,l,m,n] h fun q H=>False) else(i H))))))))))) Q
theorem LN(h:Ak ⟨S,n,hd⟩ H Q E):Sat S (n+1) hd (.ref 1707) [] H Q E:=dX h
def Aj:F2:=fun p H a0 a1 Q E=>getM H a0 "throw" fun a b=>aS H a1 (.int 0 0) fun c=>aS H a1 (.int 1 0) fun e=>cV p H a (b++[c,e]) (fun f H=>Q .none H) E
theorem LM(h:Aj ⟨S,n,hd⟩ H a0 a1 Q E):Sat S (n+1) hd (.ref 1742) [a0,a1] H Q E:=dX h
def Ai:F2:=fun p H a0 a1 Q E=>cS H p.hd a1 2 fun a=>iX a fun b a=>(true=true∧(iX a fun c a=>(true=true∧(jB a (jn (fun(e:aC) (f:aC) (H:AH)=>cV p H (.builtin "isinstance") [e,(.ref 92)] (fun g H=>aW H g fun h=>if(!h)=true then(2≤p.n∧((.ref 38):aC)=.ref 38∧(aL H a0 "world" fun i=>getM H i "symbol" fun j k=>cV p H j (k++[(.str "symbolp" 0)]) (fun l H=>bJ H [l,e] fun m H=>Clean p.hd H∧∀n,H n=none→jn (upd H n (.exc 1 (if p.hd=none then 1 else 2) [(.str "wrong-type-argument" 0),m])) fun H=>E n H) E)) else(getM H a0 "signal" fun o q=>aL H e "name" fun r=>cV p H (.ref 1535) [f] (fun s H=>cV p H o (q++[r,s]) (fun t H=>Q .none H) E) E)) E) fun u=>jn (fun(v:Bool) (H:AH)=>if v=true then(aL H c "car" fun w=>aL H c "cdr" fun x=>bM H [w,x] fun y H=>cS H p.hd y 2 fun z=>iX (List.reverse z) fun A B=>(true=true∧(iX B fun C D=>(true=true∧(jB D (u C A H)))))) else(u b c H)) fun F=>bD H .Is b (.ref 98) fun G=>gk .And G (F false H) (F true H) (cV p H (.builtin "isinstance") [c,(.ref 119)] (fun I H=>aW H I fun J=>gk .And J (F false H) (F true H) (F true H)) E))))))
theorem LL(h:Ai ⟨S,n,hd⟩ H a0 a1 Q E):Sat S (n+1) hd (.ref 1749) [a0,a1] H Q E:=dX h
def Ah:F0:=fun p H Q E=>bM H [(.str "funcall" 0),(.int 1 0),(.int (-1) 0),(.ref 1714)] fun a H=>bM H [(.str "apply" 0),(.int 1 0),(.int (-1) 0),(.ref 1728)] fun b H=>bM H [(.str "eval" 0),(.int 1 0),(.int 2 0),(.ref 1735)] fun c H=>bM H [(.str "throw" 0),(.int 2 0),(.int 2 0),(.ref 1742)] fun e H=>bM H [(.str "signal" 0),(.int 2 0),(.int 2 0),(.ref 1749)] fun f H=>bM H [(.str "mapcar" 0),(.int 2 0),(.int 2 0),(.ref 1789)] fun g H=>bM H [(.str "mapc" 0),(.int 2 0),(.int 2 0),(.ref 1796)] fun h H=>bM H [(.str "macroexpand" 0),(.int 1 0),(.int 2 0),(.ref 1836)] fun i H=>bM H [(.str "macroexpand-1" 0),(.int 1 0),(.int 2 0),(.ref 1843)] fun j H=>bJ H [a,b,c,e,f,g,h,i,j] fun k H=>gK p.hd H k (fun l H m n=>cS H p.hd l 4 fun o=>iX o fun q o=>(true=true∧(iX o fun r o=>(true=true∧(iX o fun s o=>(true=true∧(iX o fun t o=>(true=true∧(jB o (if true=true then(cV p H (.ref 418) [q,r,s,t] m fun v H=>False) else(n H))))))))))) Q
theorem LK(h:Ah ⟨S,n,hd⟩ H Q E):Sat S (n+1) hd (.ref 1848) [] H Q E:=dX h
def Ag:F1:=fun p H a0 Q E=>bJ H [(.ref 98),(.ref 101)] fun a H=>bU H a0 "rows" a fun H=>Dk H fun b H=>oo H b (List.zip [("nil":Str),("t":Str)] [(.ref 98),(.ref 101)]) fun c H=>bU H a0 "names" c fun H=>Q .none H
theorem LJ(h:Ag ⟨S,n,hd⟩ H a0 Q E):Sat S (n+1) hd (.ref 1862) [a0] H Q E:=dX h
def Af:F2:=fun p H a0 a1 Q E=>aL H a0 "names" fun a=>getM H a "get" fun b c=>cV p H b (c++[a1,.none]) (fun e H=>bD H .Is e .none fun f=>if f=true then(getM H a0 "fresh" fun g h=>cV p H g (h++[a1]) (fun i H=>aL H a0 "names" fun j=>cJ H j a1 i fun H=>Q i H) E) else(Q e H)) E
theorem LI(h:Af ⟨S,n,hd⟩ H a0 a1 Q E):Sat S (n+1) hd (.ref 1869) [a0,a1] H Q E:=dX h
def Ae:F2:=fun p H a0 a1 Q E=>aL H a0 "rows" fun a=>cV p H (.builtin "len") [a] (fun b H=>cV p H (.ref 92) [b,a1] (fun c H=>aL H a0 "rows" fun e=>getM H e "append" fun f g=>cV p H f (g++[c]) (fun h H=>Q c H) E) E) E
theorem LH(h:Ae ⟨S,n,hd⟩ H a0 a1 Q E):Sat S (n+1) hd (.ref 1883) [a0,a1] H Q E:=dX h
def Ad:F1:=fun p H a0 Q E=>cV p H (.ref 1921) [] (fun a H=>bU H a0 "obarray" a fun H=>cV p H (.ref 343) [] (fun b H=>bU H a0 "cells" b fun H=>cV p H (.ref 580) [] (fun c H=>bU H a0 "variables" c fun H=>cV p H (.ref 636) [] (fun e H=>bU H a0 "bare" e fun H=>bU H a0 "current" .none fun H=>bU H a0 "machine" .none fun H=>bU H a0 "last_marker" (.int 0 0) fun H=>Q .none H) E) E) E) E
theorem LG(h:Ad ⟨S,n,hd⟩ H a0 Q E):Sat S (n+1) hd (.ref 1939) [a0] H Q E:=dX h
def Ac:F2:=fun p H a0 a1 Q E=>aL H a0 "obarray" fun a=>getM H a "intern" fun b c=>cV p H b (c++[a1]) Q E
theorem LF(h:Ac ⟨S,n,hd⟩ H a0 a1 Q E):Sat S (n+1) hd (.ref 1946) [a0,a1] H Q E:=dX h
def Ab:F1:=fun p H a0 Q E=>jn (fun(a:Bool) (H:AH)=>if a=true then(aL H a0 "bare" fun b=>Q b H) else(aL H a0 "current" fun c=>aL H c "locals" fun e=>Q e H)) fun f=>aL H a0 "current" fun g=>bD H .Is g .none fun h=>gk .Or h (f false H) (f true H) (aL H a0 "current" fun i=>aL H i "locals" fun j=>bD H .Is j .none fun k=>gk .Or k (f false H) (f true H) (f false H))
theorem LD(h:Ab ⟨S,n,hd⟩ H a0 Q E):Sat S (n+1) hd (.ref 1953) [a0] H Q E:=dX h
def Aa:F2:=fun p H a0 a1 Q E=>∃(a:Src) (b:aB) (c:Nat→aB→AH→Prop),fp H a1 b a∧c 0 [a0,a1] H∧(∀i us H,c i us H→a.ok H b)∧(∀e H f,b[e]?=some f→∀g,∀h,c e [g,h] H→(true=true∧(aL H g "cells" fun j=>getM H j "set_function" fun k l=>getM H g "symbol" fun m n=>aL H f "name" fun o=>cV p H m (n++[o]) (fun q H=>cV p H k (l++[q,f]) (fun r H=>c (e+1) [g,h] H) fun s H=>False) fun t H=>False)))∧∀H,∀u,∀v,c b.length [u,v] H→Clean p.hd H∧(Q .none H)
theorem LC(h:Aa ⟨S,n,hd⟩ H a0 a1 Q E):Sat S (n+1) hd (.ref 1967) [a0,a1] H Q E:=dX h
def z9:F1:=fun p H a0 Q E=>gb H a0 (.int 10 0) fun a H=>gK p.hd H a (fun b H c e=>(true=true∧(if true=true then(zG b fun f=>dK H .Pow (.int 10 0) (.int 24 0) fun g H=>zG g fun h=>h≠0∧(c (.int ((if f < 0 then -f else f).fmod h) 0) H)) else(e H)))) fun i H=>cV p H (.builtin "len") [a0] (fun j H=>dK H .Add (.int 29 0) j fun k H=>G2 H p.hd i fun l=>zG (.int 1000003 0) fun m=>m≠0∧(dK H .Add k (.int (l.fmod m) 0) fun n H=>bJ H [n] fun o H=>bJ H [i,o] Q)) E
theorem LB(h:z9 ⟨S,n,hd⟩ H a0 Q E):Sat S (n+1) hd (.ref 1980) [a0] H Q E:=dX h
def zZ:F2:=fun p H a0 a1 Q E=>cS H p.hd a0 2 fun a=>iX a fun b a=>(true=true∧(iX a fun c a=>(true=true∧(jB a (∃(e:Nat→aB→AH→Prop) (f:Nat),e f [a0,a1,b,c] H∧∀g H,∀h,∀i,∀j,∀k,e g [h,i,j,k] H→jn (fun(l:Bool) (H:AH)=>if l=true then(aS H k (.int 0 0) fun m=>getM H j "pop" fun n o=>cV p H n (o++[(.int 0 0)]) (fun q H=>dK H .Add m q fun r H=>dK H .Mod r (.int 1000003 0) fun s H=>cJ H k (.int 0 0) s fun H=>∃t,t < g∧e t [h,i,j,k] H) E) else(bJ H [] fun u H=>bD H .NotEq j u fun v=>if v=true then(aS H j (.int 0 0) fun w=>dK H .Mod w i fun x H=>aS H j (.int 0 0) fun y=>dK H .FloorDiv y i fun z H=>cJ H j (.int 0 0) z fun H=>Q x H) else(aS H k (.int 0 0) fun A=>aS H k (.int 0 0) fun B=>dK H .Mult A B fun C H=>aS H k (.int 0 0) fun D=>dK H .Mult (.int 3 0) D fun F H=>dK H .Add C F fun G H=>dK H .Add G (.int 7919 0) fun I H=>dK H .Mod I (.int 1000003 0) fun J H=>cJ H k (.int 0 0) J fun H=>aS H k (.int 0 0) fun K=>dK H .FloorDiv K (.int 7 0) fun L H=>aS H k (.int 0 0) fun M=>dK H .Mod M (.int 7 0) fun N H=>dK H .Mult N (.int 142861 0) fun O H=>dK H .Add L O fun R H=>dK H .Mod R i Q))) fun S=>bJ H [] fun T H=>bD H .NotEq j T fun U=>gk .And U (S false H) (S true H) (aS H j (.int 0 0) fun V=>dK H .Pow (.int 10 0) (.int 6 0) fun W H=>bD H .Lt V W fun X=>gk .And X (S false H) (S true H) (S true H)))))))
theorem LA(h:zZ ⟨S,n,hd⟩ H a0 a1 Q E):Sat S (n+1) hd (.ref 1987) [a0,a1] H Q E:=dX h
def zY:F2:=fun p H a0 a1 Q E=>jn (fun(a:aC) (H:AH)=>bD H .Lt a (.int 2 0) fun b=>if b=true then(cV p H (.ref 1987) [a0,(.int 9 0)] (fun c H=>bM H [(.str "note" 0),c] Q) E) else(bD H .Eq a (.int 2 0) fun e=>if e=true then(cV p H (.ref 1987) [a0,(.int 6 0)] (fun f H=>cV p H (.ref 1987) [a0,(.int 9 0)] (fun g H=>bM H [(.str "signal" 0),f,g] Q) E) E) else(bD H .Eq a (.int 3 0) fun h=>if h=true then(cV p H (.ref 1987) [a0,(.int 3 0)] (fun j H=>cV p H (.ref 1987) [a0,(.int 9 0)] (fun k H=>bM H [(.str "throw" 0),j,k] Q) E) E) else(bM H [(.int 4 0),(.int 5 0)] fun l H=>bD H .In a l fun m=>if m=true then(cV p H (.ref 1987) [a0,(.int 2 0)] (fun n H=>dK H .Add (.int 2 0) n fun o H=>cV p H (.type "range") [o] (fun q H=>gK p.hd H q (fun r H s t=>(true=true∧(if true=true then(dK H .Sub a1 (.int 1 0) fun u H=>cV p H (.ref 1992) [a0,u] s fun w H=>False) else(t H)))) fun x H=>cV p H (.type "tuple") [x] (fun y H=>bM H [(.str "progn" 0),y] Q) E) E) E) else(bM H [(.int 6 0),(.int 7 0)] fun z H=>bD H .In a z fun A=>if A=true then(cV p H (.ref 1987) [a0,(.int 3 0)] (fun B H=>dK H .Sub a1 (.int 1 0) fun C H=>cV p H (.ref 1992) [a0,C] (fun D H=>bM H [(.str "catch" 0),B,D] Q) E) E) else(bM H [(.int 8 0),(.int 9 0)] fun F H=>bD H .In a F fun G=>if G=true then(dK H .Sub a1 (.int 1 0) fun I H=>cV p H (.ref 1992) [a0,I] (fun J H=>dK H .Sub a1 (.int 2 0) fun K H=>cV p H (.ref 1992) [a0,K] (fun L H=>bM H [(.str "unwind" 0),J,L] Q) E) E) else(bD H .Eq a (.int 10 0) fun M=>if M=true then(cV p H (.ref 1987) [a0,(.int 9 0)] (fun N H=>dK H .Sub a1 (.int 1 0) fun O H=>cV p H (.ref 1992) [a0,O] (fun R H=>bM H [(.str "let" 0),N,R] Q) E) E) else(bJ H [] fun S H=>cV p H (.ref 1987) [a0,(.int 2 0)] (fun T H=>dK H .Add (.int 1 0) T fun U H=>cV p H (.type "range") [U] (fun V H=>∃(W:Src) (X:aB) (Y:Nat→aB→AH→Prop),fp H V X W∧Y 0 [a0,a1,a,S] H∧(∀i us H,Y i us H→W.ok H X)∧(∀Z H aa,X[Z]?=some aa→∀ab,∀ac,∀ad,∀ae,Y Z [ab,ac,ad,ae] H→(true=true∧(cV p H (.ref 1987) [ab,(.int 2 0)] (fun af H=>dK H .Add (.int 1 0) af fun ag H=>cV p H (.type "range") [ag] (fun ah H=>gK p.hd H ah (fun ai H aj ak=>(true=true∧(if true=true then(cV p H (.ref 1987) [ab,(.int 6 0)] aj fun am H=>False) else(ak H)))) fun an H=>cV p H (.type "tuple") [an] (fun ao H=>getM H ae "append" fun ap aq=>dK H .Sub ac (.int 2 0) fun ar H=>cV p H (.ref 1992) [ab,ar] (fun au H=>bM H [ao,au] fun av H=>cV p H ap (aq++[av]) (fun aw H=>Y (Z+1) [ab,ac,ad,ae] H) fun ax H=>False) fun ay H=>False) fun az H=>False) fun a2 H=>False) fun a3 H=>False)))∧∀H,∀a4,∀a5,∀a6,∀a7,Y X.length [a4,a5,a6,a7] H→Clean p.hd H∧(dK H .Sub a5 (.int 1 0) fun a8 H=>cV p H (.ref 1992) [a4,a8] (fun a9 H=>cV p H (.type "tuple") [a7] (fun ba H=>bM H [(.str "case" 0),a9,ba] Q) E) E)) E) E)))))))) fun bb=>bD H .LtE a1 (.int 0 0) fun bc=>if bc=true then(cV p H (.ref 1987) [a0,(.int 4 0)] bb E) else(cV p H (.ref 1987) [a0,(.int 13 0)] bb E)
theorem Lz(h:zY ⟨S,n,hd⟩ H a0 a1 Q E):Sat S (n+1) hd (.ref 1992) [a0,a1] H Q E:=dX h
def iw:F2:=fun p H a0 a1 Q E=>aS H a1 (.int 0 0) fun a=>bD H .Eq a (.str "note" 0) fun b=>if b=true then(getM H a0 "symbol" fun c e=>cV p H c (e++[(.str "note" 0)]) (fun f H=>aS H a1 (.int 1 0) fun g=>bJ H [f,g] fun h H=>cV p H (.ref 230) [h] Q E) E) else(bD H .Eq a (.str "progn" 0) fun j=>if j=true then(getM H a0 "symbol" fun k l=>cV p H k (l++[(.str "progn" 0)]) (fun m H=>bJ H [m] fun n H=>aS H a1 (.int 1 0) fun o=>gK p.hd H o (fun q H r s=>(true=true∧(if true=true then(cV p H (.ref 1997) [a0,q] r fun u H=>False) else(s H)))) fun v H=>dK H .Add n v fun w H=>cV p H (.ref 230) [w] Q E) E) else(bD H .Eq a (.str "let" 0) fun x=>if x=true then(getM H a0 "symbol" fun y z=>cV p H y (z++[(.str "v" 0)]) (fun A H=>aS H a1 (.int 1 0) fun B=>bJ H [A,B] fun C H=>cV p H (.ref 230) [C] (fun D H=>getM H a0 "symbol" fun F G=>cV p H F (G++[(.str "let" 0)]) (fun I H=>bJ H [D] fun J H=>cV p H (.ref 230) [J] (fun K H=>aS H a1 (.int 2 0) fun L=>cV p H (.ref 1997) [a0,L] (fun M H=>getM H a0 "symbol" fun N O=>cV p H N (O++[(.str "v" 0)]) (fun R H=>bJ H [I,K,M,R] fun S H=>cV p H (.ref 230) [S] Q E) E) E) E) E) E) E) else(bD H .Eq a (.str "catch" 0) fun T=>if T=true then(getM H a0 "symbol" fun U V=>cV p H U (V++[(.str "catch" 0)]) (fun W H=>aS H a1 (.int 1 0) fun X=>aS H a1 (.int 2 0) fun Y=>cV p H (.ref 1997) [a0,Y] (fun Z H=>bJ H [W,X,Z] fun aa H=>cV p H (.ref 230) [aa] Q E) E) E) else(bD H .Eq a (.str "unwind" 0) fun ab=>if ab=true then(getM H a0 "symbol" fun ac ad=>cV p H ac (ad++[(.str "unwind-protect" 0)]) (fun ae H=>aS H a1 (.int 1 0) fun af=>cV p H (.ref 1997) [a0,af] (fun ag H=>aS H a1 (.int 2 0) fun ah=>cV p H (.ref 1997) [a0,ah] (fun ai H=>bJ H [ae,ag,ai] fun aj H=>cV p H (.ref 230) [aj] Q E) E) E) E) else(bD H .Eq a (.str "throw" 0) fun ak=>if ak=true then(getM H a0 "symbol" fun al am=>cV p H al (am++[(.str "throw" 0)]) (fun an H=>aS H a1 (.int 1 0) fun ao=>aS H a1 (.int 2 0) fun ap=>bJ H [an,ao,ap] fun aq H=>cV p H (.ref 230) [aq] Q E) E) else(bD H .Eq a (.str "signal" 0) fun ar=>if ar=true then(getM H a0 "symbol" fun au av=>cV p H au (av++[(.str "quote" 0)]) (fun aw H=>getM H a0 "symbol" fun ax ay=>aS H a1 (.int 1 0) fun az=>aS H (.ref 1975) az fun a2=>cV p H ax (ay++[a2]) (fun a3 H=>bJ H [aw,a3] fun a4 H=>cV p H (.ref 230) [a4] (fun a5 H=>getM H a0 "symbol" fun a6 a7=>cV p H a6 (a7++[(.str "signal" 0)]) (fun a8 H=>getM H a0 "symbol" fun a9 ba=>cV p H a9 (ba++[(.str "quote" 0)]) (fun bb H=>aS H a1 (.int 2 0) fun bc=>bJ H [bc] fun bd H=>cV p H (.ref 230) [bd] (fun be H=>bJ H [bb,be] fun bf H=>cV p H (.ref 230) [bf] (fun bg H=>bJ H [a8,a5,bg] fun bh H=>cV p H (.ref 230) [bh] Q E) E) E) E) E) E) E) E) else(bJ H [] fun bi H=>aS H a1 (.int 2 0) fun bj=>∃(bk:Src) (bl:aB) (bm:Nat→aB→AH→Prop),fp H bj bl bk∧bm 0 [a0,a1,a,bi] H∧(∀i us H,bm i us H→bk.ok H bl)∧(∀bn H bo,bl[bn]?=some bo→∀bp,∀bq,∀br,∀bs,bm bn [bp,bq,br,bs] H→cS H p.hd bo 2 fun bt=>iX bt fun bu bt=>(true=true∧(iX bt fun bv bt=>(true=true∧(jB bt (gK p.hd H bu (fun bw H bx bz=>(true=true∧(if true=true then(getM H bp "symbol" fun b0 b1=>aS H (.ref 1975) bw fun b2=>cV p H b0 (b1++[b2]) bx fun b4 H=>False) else(bz H)))) fun b5 H=>jn (fun(b6:aC) (H:AH)=>getM H bp "symbol" fun b7 b8=>cV p H b7 (b8++[(.str "note" 0)]) (fun b9 H=>getM H bp "symbol" fun ca cb=>cV p H ca (cb++[(.str "e" 0)]) (fun cc H=>bJ H [b9,cc] fun cd H=>cV p H (.ref 230) [cd] (fun ce H=>getM H bs "append" fun cf cg=>cV p H (.ref 1997) [bp,bv] (fun ch H=>bJ H [b6,ce,ch] fun ci H=>cV p H (.ref 230) [ci] (fun cj H=>cV p H cf (cg++[cj]) (fun ck H=>bm (bn+1) [bp,bq,br,bs] H) fun cl H=>False) fun cm H=>False) fun cn H=>False) fun co H=>False) fun cp H=>False) fun cq H=>False) fun cr=>cV p H (.builtin "len") [b5] (fun cs H=>bD H .Eq cs (.int 1 0) fun ct=>if ct=true then(aS H b5 (.int 0 0) fun cu=>cr cu H) else(cV p H (.ref 230) [b5] cr fun cw H=>False)) fun cx H=>False))))))∧∀H,∀cy,∀cz,∀c0,∀c1,bm bl.length [cy,cz,c0,c1] H→Clean p.hd H∧(getM H cy "symbol" fun c2 c3=>cV p H c2 (c3++[(.str "condition-case" 0)]) (fun c4 H=>getM H cy "symbol" fun c5 c6=>cV p H c5 (c6++[(.str "e" 0)]) (fun c7 H=>aS H cz (.int 1 0) fun c8=>cV p H (.ref 1997) [cy,c8] (fun c9 H=>bJ H [c4,c7,c9] fun da H=>dK H .Add da c1 fun db H=>cV p H (.ref 230) [db] Q E) E) E) E))))))))
theorem lD(h:iw ⟨S,n,hd⟩ H a0 a1 Q E):Sat S (n+1) hd (.ref 1997) [a0,a1] H Q E:=dX h
def zX:F2:=fun p H a0 a1 Q E=>Dk H fun a H=>bJ H [(.str "error" 0)] fun b H=>bJ H [(.str "quit" 0)] fun c H=>bJ H [(.str "wrong" 0),(.str "error" 0)] fun e H=>bJ H [(.str "far-wrong" 0),(.str "wrong" 0),(.str "error" 0)] fun f H=>oo H a (List.zip [("error":Str),("quit":Str),("wrong":Str),("far-wrong":Str)] [b,c,e,f]) fun g H=>gK p.hd H a0 (fun h H i j=>(true=true∧(aS H (.ref 1975) h fun k=>getM H g "get" fun l m=>bJ H [a1,(.str "error" 0)] fun n H=>cV p H l (m++[a1,n]) (fun o H=>bD H .In k o fun q=>if q=true then(i h H) else(j H)) fun r H=>False))) fun s H=>bJ H [] fun t H=>bD H .NotEq s t fun u=>Q (.bool u) H
theorem Ly(h:zX ⟨S,n,hd⟩ H a0 a1 Q E):Sat S (n+1) hd (.ref 2002) [a0,a1] H Q E:=dX h
def iu:F3:=fun p H a0 a1 a2 Q E=>aS H a0 (.int 0 0) fun a=>bD H .Eq a (.str "note" 0) fun b=>if b=true then(getM H a2 "append" fun c e=>aS H a0 (.int 1 0) fun f=>cV p H c (e++[f]) (fun g H=>aS H a0 (.int 1 0) fun h=>bM H [(.str "value" 0),h] Q) E) else(bD H .Eq a (.str "signal" 0) fun j=>if j=true then(aS H a0 (.int 1 0) fun k=>aS H (.ref 1975) k fun l=>aS H a0 (.int 2 0) fun m=>bM H [(.str "signal" 0),l,m] Q) else(bD H .Eq a (.str "throw" 0) fun n=>if n=true then(aS H a0 (.int 1 0) fun o=>bD H .In o a1 fun q=>if q=true then(aS H a0 (.int 1 0) fun r=>aS H a0 (.int 2 0) fun s=>bM H [(.str "throw" 0),r,s] Q) else(aS H a0 (.int 1 0) fun t=>aS H a0 (.int 2 0) fun u=>bM H [t,u] fun v H=>bM H [(.str "signal" 0),(.str "no-catch" 0),v] Q)) else(bD H .Eq a (.str "progn" 0) fun w=>if w=true then(bM H [(.str "value" 0),(.str "nil" 0)] fun x H=>aS H a0 (.int 1 0) fun y=>∃(z:Src) (A:aB) (B:Nat→aB→AH→Prop),fp H y A z∧B 0 [a0,a1,a2,a,x] H∧(∀i us H,B i us H→z.ok H A)∧(∀C H D,A[C]?=some D→∀F,∀G,∀I,∀J,∀K,B C [F,G,I,J,K] H→(true=true∧(cV p H (.ref 2009) [D,G,I] (fun L H=>aS H L (.int 0 0) fun M=>bD H .NotEq M (.str "value" 0) fun N=>if N=true then(Q L H) else(B (C+1) [F,G,I,J,L] H)) fun O H=>False)))∧∀H,∀R,∀S,∀T,∀U,∀V,B A.length [R,S,T,U,V] H→Clean p.hd H∧(Q V H)) else(bD H .Eq a (.str "let" 0) fun W=>if W=true then(aS H a0 (.int 2 0) fun X=>cV p H (.ref 2009) [X,a1,a2] (fun Y H=>aS H Y (.int 0 0) fun Z=>bD H .Eq Z (.str "value" 0) fun aa=>if aa=true then(aS H a0 (.int 1 0) fun ab=>bM H [(.str "value" 0),ab] Q) else(Q Y H)) E) else(bD H .Eq a (.str "catch" 0) fun ac=>if ac=true then(aS H a0 (.int 2 0) fun ad=>aS H a0 (.int 1 0) fun ae=>bJ H [ae] fun af H=>dK H .Add a1 af fun ag H=>cV p H (.ref 2009) [ad,ag,a2] (fun ah H=>jn (fun(ai:Bool) (H:AH)=>if ai=true then(aS H ah (.int 2 0) fun aj=>bM H [(.str "value" 0),aj] Q) else(Q ah H)) fun ak=>aS H ah (.int 0 0) fun al=>bD H .Eq al (.str "throw" 0) fun am=>gk .And am (ak false H) (ak true H) (aS H ah (.int 1 0) fun an=>aS H a0 (.int 1 0) fun ao=>bD H .Eq an ao fun ap=>gk .And ap (ak false H) (ak true H) (ak true H))) E) else(bD H .Eq a (.str "unwind" 0) fun aq=>if aq=true then(aS H a0 (.int 1 0) fun ar=>cV p H (.ref 2009) [ar,a1,a2] (fun au H=>aS H a0 (.int 2 0) fun av=>cV p H (.ref 2009) [av,a1,a2] (fun aw H=>aS H aw (.int 0 0) fun ax=>bD H .Eq ax (.str "value" 0) fun ay=>if ay=true then(Q au H) else(Q aw H)) E) E) else(aS H a0 (.int 1 0) fun az=>cV p H (.ref 2009) [az,a1,a2] (fun a3 H=>aS H a3 (.int 0 0) fun a4=>bD H .Eq a4 (.str "signal" 0) fun a5=>if a5=true then(aS H a0 (.int 2 0) fun a6=>∃(a7:Src) (a8:aB) (a9:Nat→aB→AH→Prop),fp H a6 a8 a7∧a9 0 [a0,a1,a2,a,a3] H∧(∀i us H,a9 i us H→a7.ok H a8)∧(∀ba H bb,a8[ba]?=some bb→∀bc,∀bd,∀be,∀bf,∀bg,a9 ba [bc,bd,be,bf,bg] H→cS H p.hd bb 2 fun bh=>iX bh fun bi bh=>(true=true∧(iX bh fun bj bh=>(true=true∧(jB bh (aS H bg (.int 1 0) fun bk=>cV p H (.ref 2002) [bi,bk] (fun bl H=>aW H bl fun bm=>if bm=true then(getM H be "append" fun bn bo=>aS H bg (.int 1 0) fun bp=>bM H [bp] fun bq H=>jn (fun(br:aC) (H:AH)=>dK H .Add bq br fun bs H=>cV p H bn (bo++[bs]) (fun bt H=>cV p H (.ref 2009) [bj,bd,be] Q fun bu H=>False) fun bv H=>False) fun bw=>aS H bg (.int 2 0) fun bx=>cV p H (.builtin "isinstance") [bx,(.type "tuple")] (fun bz H=>aW H bz fun b0=>if b0=true then(aS H bg (.int 2 0) fun b1=>bw b1 H) else(aS H bg (.int 2 0) fun b2=>bM H [b2] fun b3 H=>bw b3 H)) fun b4 H=>False) else(a9 (ba+1) [bc,bd,be,bf,bg] H)) fun b5 H=>False))))))∧∀H,∀b6,∀b7,∀b8,∀b9,∀ca,a9 a8.length [b6,b7,b8,b9,ca] H→Clean p.hd H∧(Q ca H)) else(Q a3 H)) E)))))))
theorem lC(h:iu ⟨S,n,hd⟩ H a0 a1 a2 Q E):Sat S (n+1) hd (.ref 2009) [a0,a1,a2] H Q E:=dX h
def zW:F2:=fun p H a0 a1 Q E=>getM H a0 "put_functions" fun a b=>cV p H (.ref 1489) [] (fun c H=>cV p H (.ref 1494) [] (fun e H=>dK H .Add c e fun f H=>cV p H (.ref 1707) [] (fun g H=>dK H .Add f g fun h H=>cV p H (.ref 1848) [] (fun i H=>dK H .Add h i fun j H=>cV p H a (b++[j]) (fun k H=>aL H a0 "cells" fun l=>getM H l "set_function" fun m n=>getM H a0 "symbol" fun o q=>cV p H o (q++[(.str "note" 0)]) (fun r H=>cV p H (.ref 2016) [a1] (fun s H=>cV p H (.ref 183) [(.int 1 0),(.str "note" 0),(.int 1 0),(.int 1 0),s] (fun t H=>cV p H m (n++[r,t]) (fun u H=>bJ H [(.str "error" 0)] fun v H=>cV p H (.ref 1504) [a0,(.str "wrong" 0),(.str "Wrong" 0),v] (fun w H=>bJ H [(.str "wrong" 0)] fun x H=>cV p H (.ref 1504) [a0,(.str "far-wrong" 0),(.str "Far wrong" 0),x] (fun y H=>aL H a0 "variables" fun z=>getM H z "set_default" fun A B=>getM H a0 "symbol" fun C D=>cV p H C (D++[(.str "v" 0)]) (fun F H=>aL H F "number" fun G=>cV p H A (B++[G,(.int 77 0)]) (fun I H=>Q .none H) E) E) E) E) E) E) E) E) E) E) E) E) E
theorem Lx(h:zW ⟨S,n,hd⟩ H a0 a1 Q E):Sat S (n+1) hd (.ref 2023) [a0,a1] H Q E:=dX h
def zV:F1:=fun p H a0 Q E=>cV p H (.ref 1980) [a0] (fun a H=>cV p H (.ref 1992) [a,(.int 4 0)] (fun b H=>bJ H [] fun c H=>bJ H [] fun e H=>bM H [c,e] fun f H=>cS H p.hd f 2 fun g=>iX (List.reverse g) fun h i=>(true=true∧(iX i fun j l=>(true=true∧(jB l (bJ H [] fun m H=>cV p H (.ref 2009) [b,m,j] (fun n H=>cV p H (.ref 1970) [] (fun o H=>cV p H (.ref 1132) [o,(.int 100000 0)] (fun q H=>cV p H (.ref 2023) [o,h] (fun r H=>true=true∧("LispSignal":Str)="LispSignal"∧some NameKind.local=some NameKind.local∧some NameKind.globalImplicit=some NameKind.globalImplicit∧(getM H q "eval" fun s u=>cV p H (.ref 1997) [o,b] (fun v H=>cV p H s (u++[v]) (fun w H=>jn (fun(x:aC) (H:AH)=>bM H [(.str "value" 0),x] fun y H=>jn (fun(z:aC) (A:aC) (H:AH)=>jn (fun(H:AH)=>aL H q "stack" fun B=>getM H B "depth" fun C D=>cV p H C (D++[]) (fun F H=>bD H .Eq F (.int 0 0) fun G=>aW H (.bool G) fun I=>oZ .And I (Q (.bool G) H) (aL H o "variables" fun J=>getM H J "default_value" fun K L=>getM H o "symbol" fun M N=>cV p H M (N++[(.str "v" 0)]) (fun O H=>aL H O "number" fun R=>cV p H K (L++[R]) (fun S H=>bD H .Eq S (.int 77 0) fun T=>Q (.bool T) H) E) E)) E) fun U=>bD H .NotEq A z fun V=>gk .Or V (if false=true then(Q (.bool false) H) else(U H)) (if true=true then(Q (.bool false) H) else(U H)) (bD H .NotEq h j fun W=>gk .Or W (if false=true then(Q (.bool false) H) else(U H)) (if true=true then(Q (.bool false) H) else(U H)) (aL H q "frames" fun X=>bJ H [] fun Y H=>bD H .NotEq X Y fun Z=>gk .Or Z (if false=true then(Q (.bool false) H) else(U H)) (if true=true then(Q (.bool false) H) else(U H)) (if false=true then(Q (.bool false) H) else(U H))))) fun aa=>jn (fun(ab:Bool) (H:AH)=>if ab=true then(bM H [(.str "value" 0),(.str "object" 0)] fun ac H=>jn (fun(ad:Bool) (H:AH)=>if ad=true then(bM H [(.str "value" 0),(.str "object" 0)] fun ae H=>aa ae ac H) else(aa n ac H)) fun af=>aS H n (.int 0 0) fun ag=>bD H .Eq ag (.str "value" 0) fun ah=>gk .And ah (af false H) (af true H) (aS H n (.int 1 0) fun ai=>cV p H (.builtin "isinstance") [ai,(.type "int")] (fun aj H=>aW H aj fun ak=>gk .And (!ak) (af false H) (af true H) (af true H)) E)) else(aa n y H)) fun al=>aS H y (.int 0 0) fun am=>bD H .Eq am (.str "value" 0) fun an=>gk .And an (al false H) (al true H) (aS H y (.int 1 0) fun ao=>cV p H (.builtin "isinstance") [ao,(.type "int")] (fun ap H=>aW H ap fun aq=>gk .And (!aq) (al false H) (al true H) (al true H)) E)) fun ar=>bD H .Is w (.ref 98) fun au=>if au=true then(ar (.str "nil" 0) H) else(ar w H)) fun av H=>(∃t k fs,H av=some (.exc t k fs))∧(jn (fun(aw:aC) (H:AH)=>aL H (.ref av) "symbol" fun ax=>bM H [(.str "signal" 0),ax,aw] fun ay H=>jn (fun(az:aC) (a1:aC) (H:AH)=>jn (fun(H:AH)=>aL H q "stack" fun a2=>getM H a2 "depth" fun a3 a4=>cV p H a3 (a4++[]) (fun a5 H=>bD H .Eq a5 (.int 0 0) fun a6=>aW H (.bool a6) fun a7=>oZ .And a7 (Q (.bool a6) H) (aL H o "variables" fun a8=>getM H a8 "default_value" fun a9 ba=>getM H o "symbol" fun bb bc=>cV p H bb (bc++[(.str "v" 0)]) (fun bd H=>aL H bd "number" fun be=>cV p H a9 (ba++[be]) (fun bf H=>bD H .Eq bf (.int 77 0) fun bg=>Q (.bool bg) H) E) E)) E) fun bh=>bD H .NotEq a1 az fun bi=>gk .Or bi (if false=true then(Q (.bool false) H) else(bh H)) (if true=true then(Q (.bool false) H) else(bh H)) (bD H .NotEq h j fun bj=>gk .Or bj (if false=true then(Q (.bool false) H) else(bh H)) (if true=true then(Q (.bool false) H) else(bh H)) (aL H q "frames" fun bk=>bJ H [] fun bl H=>bD H .NotEq bk bl fun bm=>gk .Or bm (if false=true then(Q (.bool false) H) else(bh H)) (if true=true then(Q (.bool false) H) else(bh H)) (if false=true then(Q (.bool false) H) else(bh H))))) fun bn=>jn (fun(bo:Bool) (H:AH)=>if bo=true then(bM H [(.str "value" 0),(.str "object" 0)] fun bp H=>jn (fun(bq:Bool) (H:AH)=>if bq=true then(bM H [(.str "value" 0),(.str "object" 0)] fun br H=>bn br bp H) else(bn n bp H)) fun bs=>aS H n (.int 0 0) fun bt=>bD H .Eq bt (.str "value" 0) fun bu=>gk .And bu (bs false H) (bs true H) (aS H n (.int 1 0) fun bv=>cV p H (.builtin "isinstance") [bv,(.type "int")] (fun bw H=>aW H bw fun bx=>gk .And (!bx) (bs false H) (bs true H) (bs true H)) E)) else(bn n ay H)) fun bz=>aS H ay (.int 0 0) fun b0=>bD H .Eq b0 (.str "value" 0) fun b1=>gk .And b1 (bz false H) (bz true H) (aS H ay (.int 1 0) fun b2=>cV p H (.builtin "isinstance") [b2,(.type "int")] (fun b3 H=>aW H b3 fun b4=>gk .And (!b4) (bz false H) (bz true H) (bz true H)) E)) fun b5=>aL H (.ref av) "symbol" fun b6=>bD H .NotEq b6 (.str "no-catch" 0) fun b7=>if b7=true then(aL H (.ref av) "data" fun b8=>aS H b8 (.int 0 0) fun b9=>b5 b9 H) else(aL H (.ref av) "data" fun ca=>cV (⟨p.S,p.n,some av⟩:Pl) H (.type "tuple") [ca] b5 E))) fun cc H=>(∃t k fs,H cc=some (.exc t k fs))∧(jn (fun(cd:aC) (H:AH)=>aL H (.ref cc) "symbol" fun ce=>bM H [(.str "signal" 0),ce,cd] fun cf H=>jn (fun(cg:aC) (ch:aC) (H:AH)=>jn (fun(H:AH)=>aL H q "stack" fun ci=>getM H ci "depth" fun cj ck=>cV p H cj (ck++[]) (fun cl H=>bD H .Eq cl (.int 0 0) fun cm=>aW H (.bool cm) fun cn=>oZ .And cn (Q (.bool cm) H) (aL H o "variables" fun co=>getM H co "default_value" fun cp cq=>getM H o "symbol" fun cr cs=>cV p H cr (cs++[(.str "v" 0)]) (fun ct H=>aL H ct "number" fun cu=>cV p H cp (cq++[cu]) (fun cv H=>bD H .Eq cv (.int 77 0) fun cw=>Q (.bool cw) H) E) E)) E) fun cx=>bD H .NotEq ch cg fun cy=>gk .Or cy (if false=true then(Q (.bool false) H) else(cx H)) (if true=true then(Q (.bool false) H) else(cx H)) (bD H .NotEq h j fun cz=>gk .Or cz (if false=true then(Q (.bool false) H) else(cx H)) (if true=true then(Q (.bool false) H) else(cx H)) (aL H q "frames" fun c0=>bJ H [] fun c1 H=>bD H .NotEq c0 c1 fun c2=>gk .Or c2 (if false=true then(Q (.bool false) H) else(cx H)) (if true=true then(Q (.bool false) H) else(cx H)) (if false=true then(Q (.bool false) H) else(cx H))))) fun c3=>jn (fun(c4:Bool) (H:AH)=>if c4=true then(bM H [(.str "value" 0),(.str "object" 0)] fun c5 H=>jn (fun(c6:Bool) (H:AH)=>if c6=true then(bM H [(.str "value" 0),(.str "object" 0)] fun c7 H=>c3 c7 c5 H) else(c3 n c5 H)) fun c8=>aS H n (.int 0 0) fun c9=>bD H .Eq c9 (.str "value" 0) fun da=>gk .And da (c8 false H) (c8 true H) (aS H n (.int 1 0) fun db=>cV p H (.builtin "isinstance") [db,(.type "int")] (fun dc H=>aW H dc fun dd=>gk .And (!dd) (c8 false H) (c8 true H) (c8 true H)) E)) else(c3 n cf H)) fun de=>aS H cf (.int 0 0) fun df=>bD H .Eq df (.str "value" 0) fun dg=>gk .And dg (de false H) (de true H) (aS H cf (.int 1 0) fun dh=>cV p H (.builtin "isinstance") [dh,(.type "int")] (fun di H=>aW H di fun dj=>gk .And (!dj) (de false H) (de true H) (de true H)) E)) fun dk=>aL H (.ref cc) "symbol" fun dl=>bD H .NotEq dl (.str "no-catch" 0) fun dm=>if dm=true then(aL H (.ref cc) "data" fun dn=>aS H dn (.int 0 0) fun dp=>dk dp H) else(aL H (.ref cc) "data" fun dq=>cV (⟨p.S,p.n,some cc⟩:Pl) H (.type "tuple") [dq] dk E)))) E) E) E) E)))))) E) E
theorem Lw(h:zV ⟨S,n,hd⟩ H a0 Q E):Sat S (n+1) hd (.ref 2030) [a0] H Q E:=dX h
def uL(d:Addr):F2:=fun p H a0 a1 Q E=>aS H a1 (.int 0 0) fun a=>cV p H (.builtin "isinstance") [a,(.type "int")] (fun b H=>aW H b fun c=>if c=true then(JR H d fun e=>getM H e "append" fun f g=>aS H a1 (.int 0 0) fun h=>cV p H f (g++[h]) (fun i H=>aS H a1 (.int 0 0) fun j=>Q j H) E) else(aS H a1 (.int 0 0) fun k=>aL H k "car" fun l=>aL H l "name" fun m=>bJ H [m] fun n H=>aS H a1 (.int 0 0) fun o=>aL H o "cdr" fun q=>bM H [n,q] fun r H=>cS H p.hd r 2 fun s=>iX (List.reverse s) fun t u=>(true=true∧(iX u fun v w=>(true=true∧(jB w (∃(x:Nat→aB→AH→Prop) (y:Nat),x y [a0,a1,t,v] H∧∀z H,∀A,∀B,∀C,∀D,x z [A,B,C,D] H→bD H .IsNot C (.ref 98) fun F=>if F=true then(getM H D "append" fun G I=>aL H C "car" fun J=>cV p H G (I++[J]) (fun K H=>aL H C "cdr" fun L=>∃M,M < z∧x M [A,B,L,D] H) E) else(JR H d fun N=>getM H N "append" fun O R=>cV p H (.type "tuple") [D] (fun S H=>cV p H O (R++[S]) (fun T H=>aS H B (.int 0 0) fun U=>Q U H) E) E)))))))) E
theorem Lu(hD:ju H f v)(h:∀d,H d=some (.cell 1 v)→uL d ⟨S,n,hd⟩ H a0 a1 Q E):Sat S (n+1) hd f [a0,a1] H Q E:=E9 (jg 60).2 hD fun d NJ=>by
 have e:gs 60 ⟨S,n,hd,(eK iz).names,true,[],[(("notes":Str),d)]⟩ (jF iz) [("world_own",a0),("values",a1)] H (fun fl _ H'=>Q (o8 fl) H') (fun x _ H'=>E x H')=uL d ⟨S,n,hd⟩ H a0 a1 Q E:=by kernel_rfl
 rw[e];exact h d NJ
end
section
variable{H H' gJ:AH}{a b:Addr}{o o':AO}{t:Nat}{C:Addr}{fs xs ys us:aB}{v w u:aC}{n:Str}{i j:Int}{k:Nat}{p:Pl}{E:EPost}{Q:KQ}{A B R:Prop}{c:Bool}
def aD(M:Nat→Bool)(H H':AH):Prop:=∀a o,H a=some o→M o.tag=false→H' a=some o
theorem aD.refl{M:Nat→Bool}:aD M H H:=fun _ _ h _=>h
theorem aD.trans{M:Nat→Bool}(h:aD M H H')(h':aD M H' gJ):aD M H gJ:=fun a o e m=>h' a o (h a o e m) m
theorem aD.mono{M M':Nat→Bool}(h:aD M H H')(l:∀t,M' t=false→M t=false):aD M' H H':=fun a o e m=>h a o e (l _ m)
theorem aD.new{M:Nat→Bool}(h:H a=none):aD M H (upd H a o):=fun b o' e _=>by
 rw[aT (fun q=>by subst q;rw[h] at e;cases e)];exact e
theorem aD.set{M:Nat→Bool}(h:H a=some o)(m:M o.tag=true):aD M H (upd H a o'):=fun b o₁ e m'=>by
 rw[aT (fun q=>by subst q;rw[h] at e;cases e;rw[m] at m';cases m')];exact e
def aJ(t:Nat):Bool:=false
def aG(l:fu)(t:Nat):Bool:=l.contains t
theorem gA{Q:aC→Prop}{i:Nat}(h:H a=some (.inst t C fs))(e:lK.lookup (C,n)=some i)(e2:fs[i]?=some v)(e3:handedIn v=true)(q:Q v):aL H (.ref a) n Q:=by
 unfold aL;dsimp only;rw[h];dsimp only;rw[e];dsimp only;rw[e2];exact⟨e3,q⟩
theorem Kl{Q:aC→Prop}(h:H a=some (.exc t k fs))(e:((names 38).zip fs).lookup n=some v)(e3:handedIn v=true)(e4:n="symbol"∨n="data")(q:Q v):aL H (.ref a) n Q:=by
 unfold aL;dsimp only;rw[h];dsimp only;rw[e];exact⟨e3,e4,q⟩
theorem sA{Q:AH→Prop}{i:Nat}(h:H a=some (.inst t C fs))(e:lK.lookup (C,n)=some i)(ht:t≠0)(hi:i≤fs.length)(q:Q (upd H a (.inst t C (jS fs i v)))):bU H (.ref a) n v Q:=by
 unfold bU;dsimp only;rw[h];dsimp only;rw[e];exact⟨ht,hi,q⟩
theorem gM{Q:aC→aB→Prop}{f:Addr}(h:H a=some (.inst t C fs))(e:gS.lookup (C,n)=some f)(q:Q (.ref f) [.ref a]):getM H (.ref a) n Q:=by
 unfold getM;dsimp only;rw[h];dsimp only;rw[e];exact q
theorem Tj{Q:aC→aB→Prop}{i:Nat}(h:H a=some (.inst t C fs))(e:gS.lookup (C,n)=none)(e1:lK.lookup (C,n)=some i)(e2:fs[i]?=some v)(e3:handedIn v=true)(q:Q v []):getM H (.ref a) n Q:=by
 unfold getM;dsimp only;rw[h];dsimp only;rw[e,e1];dsimp only;rw[e2];exact⟨e3,q⟩
theorem dW{Q:aC→aB→Prop}(h:H a=some (.list t xs))(q:Q (.builtin "list.append") [.ref a]):getM H (.ref a) "append" Q:=by
 unfold getM;dsimp only;rw[h];exact q
theorem rF{Q:aC→aB→Prop}(h:H a=some (.list t xs))(q:Q (.builtin "list.pop") [.ref a]):getM H (.ref a) "pop" Q:=by
 unfold getM;dsimp only;rw[h];dsimp only;rw[aR (by decide+kernel)];exact q
theorem BN{Q:aC→aB→Prop}(h:H a=some (.list t xs))(q:Q (.builtin "list.extend") [.ref a]):getM H (.ref a) "extend" Q:=by
 unfold getM;dsimp only;rw[h];dsimp only;rw[aR (by decide+kernel),aR (by decide+kernel)];exact q
theorem uZ{Q:aC→aB→Prop}{es:List (Int×aC)}(h:H a=some (.aX t es))(q:Q (.builtin "dict.get") [.ref a]):getM H (.ref a) "get" Q:=by
 unfold getM;dsimp only;rw[h];exact q
theorem qy{Q:aC→aB→Prop}{es:List (Str×aC)}(h:H a=some (.bR t es))(q:Q (.builtin "dict.get") [.ref a]):getM H (.ref a) "get" Q:=by
 unfold getM;dsimp only;rw[h];exact q
def gT(f:Addr):Bool:=wh.contains f||(lZ.lookup f).isSome
theorem cF{f:Addr}{args:aB}(h:gT f=true)(s:Sat p.S p.n p.hd (.ref f) args H Q E):cV p H (.ref f) args Q E:=by
 refine⟨?_,s⟩;unfold gT at h;unfold jd;rw[h];rfl
theorem fB(h:H a=some (.list t xs))(q:Q (.int xs.length 0) H):cV p H (.builtin "len") [.ref a] Q E:=by
 show Ha H (.ref a) Q;unfold Ha;dsimp only;rw[h];exact q
theorem cU{T:aC}(h1:iC.contains v=true)(h2:sH H u=some T)(q:Q (.bool (xE T v)) H):cV p H (.builtin "isinstance") [u,v] Q E:=by
 show uW H u v fun b=>Q (.bool b) H
 refine⟨h1,?_⟩;rw[h2];exact q
theorem jP(h:H a=some (.inst t C fs))(e:jZ.contains C=true):sH H (.ref a)=some (.ref C):=by
 unfold sH;dsimp only;rw[h];exact bE e
theorem XD(h:H a=some (.tup t xs)):sH H (.ref a)=some (.type "tuple"):=by unfold sH;dsimp only;rw[h]
theorem ff(h:H a=some (.list t xs))(ht:t≠0)(hl:xs.length < 1000000)(q:Q .none (upd H a (.list t (xs++[v])))):cV p H (.builtin "list.append") ([.ref a]++[v]) Q E:=by
 show qC H (.ref a) v Q;unfold qC;dsimp only;rw[h];exact⟨ht,hl,q⟩
theorem Hh(h:H a=some (.list t (xs++[v])))(ht:t≠0)(q:Q v (upd H a (.list t xs))):cV p H (.builtin "list.pop") ([.ref a]++[]) Q E:=
 (show Ky H (.ref a) Q from⟨t,xs,v,h,ht,q⟩)
theorem Rd(h:H a=some (.list t (v::xs)))(ht:t≠0)(q:Q v (upd H a (.list t xs))):cV p H (.builtin "list.pop") ([.ref a]++[.int 0 0]) Q E:=by
 show zF H (.ref a) Q;unfold zF;dsimp only;rw[h];exact⟨ht,q⟩
theorem IF(h:H a=some (.list t xs))(h2:H b=some (.list k ys))(ht:t≠0)(hl:xs.length+ys.length≤1000000)(q:Q .none (upd H a (.list t (xs++ys)))):cV p H (.builtin "list.extend") ([.ref a]++[.ref b]) Q E:=by
 show qz H (.ref a) (.ref b) Q;unfold qz;dsimp only;rw[h,h2];exact⟨ht,hl,q⟩
theorem Dn{es:List (Int×aC)}{it:Tok}(h:H a=some (.aX t es))(q:Q ((valueAt es i).getD u) H):cV p H (.builtin "dict.get") ([.ref a]++[.int i it,u]) Q E:=by
 show tB H (.ref a) (.int i it) u Q;unfold tB;dsimp only;rw[h];exact q
theorem zM{es:List (Str×aC)}{it:Tok}(h:H a=some (.bR t es))(q:Q ((valueAt es n).getD u) H):cV p H (.builtin "dict.get") ([.ref a]++[.str n it,u]) Q E:=by
 show tB H (.ref a) (.str n it) u Q;unfold tB;dsimp only;rw[h];exact q
theorem Po{bs:List Bool}(h:H a=some (.list t (bs.map Value.bool)))(cl:Clean p.hd H)(q:Q (.bool (bs.any id)) H):cV p H (.builtin "any") [.ref a] Q E:=
 (show K7 p.hd H (.ref a) Q from⟨t,bs,h,cl,q⟩)
theorem Vw{x:Str}{it:Tok}(h:x.length=1)(q:Q (.int (x.cps.getD 0 0:Nat) 0) H):cV p H (.builtin "ord") [.str x it] Q E:=
 (show x.length=1∧Q (.int (x.cps.getD 0 0:Nat) 0) H from⟨h,q⟩)
theorem rH(r:Nat)(hr:r≠0)(h:H a=some (.list t xs))(q:∀d,H d=none→Q (.ref d) (upd H d (.tup r xs))):cV p H (.type "tuple") [.ref a] Q E:=by
 show uf H (.ref a) Q;unfold uf;dsimp only;rw[h];exact⟨r,hr,q⟩
theorem rI{it:Tok}(q:∀d x y z,H d=none→Q (.ref d) (upd H d (.raw 1 (fz 0 i 1 x y z)))):cV p H (.type "range") [.int i it] Q E:=
 (show um H [.int i it] Q from q)
theorem ID{l:Int}{it jt lt:Tok}(hk:l≠0)(hp:Builtin.divisionGoesByPylong (j - i) l=false)(q:∀d x y z,H d=none→Q (.ref d) (upd H d (.raw 1 (fz i j l x y z)))):cV p H (.type "range") [.int i it,.int j jt,.int l lt] Q E:=
 (show um H [.int i it,.int j jt,.int l lt] Q from⟨hk,hp,q⟩)
theorem iM(h1:H a=some o)(h2:H b=some o')(ne:a≠b)(nt:(jr o||jr o')=true):Ct H (.ref a) (.ref b)=some false:=by
 unfold Ct;dsimp only;rw[aR ne,h1,h2];exact bE nt
theorem oJ:Ct H (.ref a) (.ref a)=some true:=bE rfl
theorem oY{Q:Bool→Prop}(e:Ct H v w=some c)(q:Q c):bD H .Is v w Q:=by
 unfold bD;dsimp only;rw[e];exact q
theorem nB{Q:Bool→Prop}(e:Ct H v w=some c)(q:Q (!c)):bD H .IsNot v w Q:=by
 unfold bD;dsimp only;rw[e];exact q
theorem KZ{Q:Bool→Prop}(h:H a=some (.list t xs))(e:tW v xs=some c)(q:Q c):bD H .In v (.ref a) Q:=by
 unfold bD;dsimp only;rw[h];dsimp only;rw[e];exact q
theorem Hi{Q:Bool→Prop}(h:H a=some (.tup t xs))(e:tW v xs=some c)(q:Q c):bD H .In v (.ref a) Q:=by
 unfold bD;dsimp only;rw[h];dsimp only;rw[e];exact q
theorem Vx{Q:Bool→Prop}{es:List (Int×aC)}{it:Tok}(h:H a=some (.aX t es))(q:Q (valueAt es i).isSome):bD H .In (.int i it) (.ref a) Q:=by
 unfold bD;dsimp only;rw[h];exact q
theorem IE{Q:Bool→Prop}(h:H a=some (.list t xs))(e:tW v xs=some c)(q:Q (!c)):bD H .NotIn v (.ref a) Q:=by
 unfold bD;dsimp only;rw[h];dsimp only;rw[e];exact q
theorem t9{Q:Bool→Prop}(h:H a=some (.list t xs))(h2:H b=some (.list k []))(q:Q (!xs.isEmpty)):bD H .NotEq (.ref a) (.ref b) Q:=by
 unfold bD;dsimp only;rw[h,h2];exact q
theorem ji{Q:aC→Prop}{it:Tok}(h:H a=some (.list t xs))(e:vE xs i=some v)(q:Q v):aS H (.ref a) (.int i it) Q:=by
 unfold aS;dsimp only;rw[h];dsimp only;rw[e];exact q
theorem eO{Q:aC→Prop}{it:Tok}(h:H a=some (.tup t xs))(e:vE xs i=some v)(q:Q v):aS H (.ref a) (.int i it) Q:=by
 unfold aS;dsimp only;rw[h];dsimp only;rw[e];exact q
theorem VP{Q:Bool→Prop}(h:H a=some (.list t xs))(q:Q (!xs.isEmpty)):aW H (.ref a) Q:=by
 unfold aW truth;dsimp only;rw[h];exact q
theorem eX{Q:Bool→Prop}(q:Q c):aW H (.bool c) Q:=q
theorem nL(t:Nat)(ht:t≠0)(hl:us.length≤1000000)(q:∀a,H a=none→Q (.ref a) (upd H a (.list t us))):bJ H us Q:=⟨hl,t,ht,q⟩
theorem nT(t:Nat)(ht:t≠0)(hl:us.length≤1000000)(q:∀a,H a=none→Q (.ref a) (upd H a (.tup t us))):bM H us Q:=⟨hl,t,ht,q⟩
theorem Nt(t:Nat)(ht:t≠0)(q:∀a,H a=none→Q (.ref a) (upd H a (.aX t []))):pW H Q:=⟨_,.inl ⟨t,ht,rfl⟩,q⟩
theorem NT(r:Nat)(hr:r≠0){it:Tok}(h:H a=some (.list t xs))(h0:0≤i)(q:∀d,H d=none→Q (.ref d) (upd H d (.list r (xs.drop i.toNat)))):eM H (.ref a) (.int i it) Q:=by
 unfold eM;dsimp only;rw[h];exact⟨h0,r,hr,q⟩
theorem XR(r:Nat)(hr:r≠0){it:Tok}(h:H a=some (.list t xs))(h0:0≤i)(q:∀d,H d=none→Q (.ref d) (upd H d (.list r (xs.take i.toNat)))):gb H (.ref a) (.int i it) Q:=by
 unfold gb;dsimp only;rw[h];exact⟨h0,r,hr,q⟩
theorem Sg{es:List (Int×aC)}{it:Tok}{Q:AH→Prop}(h:H a=some (.aX t es))(hl:es.length≤1000000)(q:Q (upd H a (.aX t (stored es i v)))):cJ H (.ref a) (.int i it) v Q:=by
 unfold cJ;dsimp only;rw[h];exact⟨hl,q⟩
theorem VT{es:List (Str×aC)}{it:Tok}{Q:AH→Prop}(h:H a=some (.bR t es))(hl:es.length≤1000000)(q:Q (upd H a (.bR t (stored es n v)))):cJ H (.ref a) (.str n it) v Q:=by
 unfold cJ;dsimp only;rw[h];exact⟨hl,q⟩
theorem Sf{it:Tok}{Q:AH→Prop}(h:H a=some (.list t xs))(ht:t≠0)(h0:0≤i)(hi:i.toNat < xs.length)(q:Q (upd H a (.list t (xs.set i.toNat v)))):cJ H (.ref a) (.int i it) v Q:=by
 unfold cJ;dsimp only;rw[h];exact⟨ht,h0,hi,q⟩
theorem GF{hd:bP}{Q:aB→Prop}(h:H a=some (.tup t xs))(hl:xs.length=k)(cl:Clean hd H)(q:Q xs):cS H hd (.ref a) k Q:=by
 unfold cS;dsimp only;rw[h];exact⟨hl,cl,q⟩
theorem VO{hd:bP}{Q:aB→Prop}(h:H a=some (.list t xs))(hl:xs.length=k)(cl:Clean hd H)(q:Q xs):cS H hd (.ref a) k Q:=by
 unfold cS;dsimp only;rw[h];exact⟨hl,cl,q⟩
theorem Bz(t:Nat)(ht:t≠0){t1 t2:Nat}(h:H a=some (.list t1 xs))(h2:H b=some (.list t2 ys))(hl:xs.length+ys.length≤1000000)(q:∀d,H d=none→Q (.ref d) (upd H d (.list t (xs++ys)))):dK H .Add (.ref a) (.ref b) Q:=by
 unfold dK;dsimp only;rw[h,h2];exact⟨hl,t,ht,q⟩
theorem VG(t:Nat)(ht:t≠0){t1 t2:Nat}(h:H a=some (.tup t1 xs))(h2:H b=some (.tup t2 ys))(n1:xs≠[])(n2:ys≠[])(hl:xs.length+ys.length≤1000000)(q:∀d,H d=none→Q (.ref d) (upd H d (.tup t (xs++ys)))):dK H .Add (.ref a) (.ref b) Q:=by
 unfold dK;dsimp only;rw[h,h2];exact⟨n1,n2,hl,t,ht,q⟩
theorem eE(q:A):if true=true then A else B:=by rw[bE rfl];exact q
theorem cP(q:B):if false=true then A else B:=by rw[aR eV];exact q
theorem my{F T R:Prop}(q:F):gk .And false F T R:=q
theorem pj{F T R:Prop}(q:R):gk .And true F T R:=q
theorem xP{F T R:Prop}(q:R):gk .Or false F T R:=q
theorem K4{F T R:Prop}(q:T):gk .Or true F T R:=q
theorem K5(q:A):oZ .And false A B:=q
theorem xQ(q:B):oZ .And true A B:=q
theorem Hl(q:B):oZ .Or false A B:=q
theorem Hk(q:A):oZ .Or true A B:=q
theorem h9(t:Nat)(ht:t≠0){fI:Addr}{args:aB}(h1:lZ.lookup C=some fI)(h2:(C==38)=false)(hn:2≤p.n)(h:∀x k,k+2=p.n→H x=none→Sat p.S (k+1) p.hd (.ref fI) (.ref x::args) (upd H x (.inst t C [])) (fun r H'=>r=.none∧Q (.ref x) H') E):cV p H (.ref C) args Q E:=by
 refine cF (by unfold gT;rw[h1];simp) ?_
 obtain⟨m,hm⟩:∃m,p.n=m+2:=⟨p.n - 2,by omega⟩
 rw[hm];refine HN t ht ?_ fun x hx=>h x m hm.symm hx
 have:=dC.mp (Ie p.S.w.params) _ (fE h1)
 rw[h2,Bool.false_or] at this;exact this
theorem dN{n k:Nat}(h:k+1≤n):∃m,n=m+1∧k≤m:=⟨n - 1,by omega,by omega⟩
def Sym(H:AH)(v:aC)(i:Int)(nm:Str):Prop:=∃a t,v=.ref a∧t < 2∧H a=some (.inst t 92 [.int i 0,.str nm 0])
def RL(H:AH):aC→aB→Prop
 |v,[]=>v=.ref 98
 |v,x::xs=>∃a d,v=.ref a∧H a=some (.inst 1 119 [x,d])∧handedIn x=true∧RL H d xs
def mD(H:AH):Prop:=H 98=some (.inst 0 92 [.int 0 0,.str "nil" 0])
def eT(hd:bP)(H:AH):Prop:=∀x,hd=some x→∃k vs,H x=some (.exc 1 k vs)∧k≤1
end
section
variable{S:aN}{n:Nat}{hd:bP}{H H':AH}{Q:KQ}{E:EPost}{M:Nat→Bool}{v w:aC}{xs ys:aB}{l:Addr}{t:Nat}{i:Int}{nm:Str}
theorem eT.clean(h:eT hd H):Clean hd H:=fun x hx=>let⟨k,vs,a,b⟩:=h x hx;⟨1,k,vs,a,b⟩
theorem eT.keep(h:eT hd H)(k:aD M H H')(m:M 1=false:=by rfl):eT hd H':=fun x hx=>let⟨j,vs,a,b⟩:=h x hx;⟨j,vs,k _ _ a m,b⟩
theorem Sym.keep(h:Sym H v i nm)(k:aD M H H')(m:M 1=false:=by rfl)(m0:M 0=false:=by rfl):Sym H' v i nm:=by
 obtain⟨a,t,e,ht,h⟩:=h;refine⟨a,t,e,ht,k _ _ h ?_⟩;show M t=false
 match t,ht with
 |0,_=>exact m0
 |1,_=>exact m
theorem RL.keep(k:aD M H H')(m:M 1=false:=by rfl):∀{xs:aB} {v:aC},RL H v xs→RL H' v xs
 |[],_,h=>h
 |_::_,_,⟨a,d,e,h,hi,r⟩=>⟨a,d,e,k _ _ h m,hi,RL.keep k m r⟩
theorem mD.keep(h:mD H)(k:aD M H H')(m:M 0=false:=by rfl):mD H':=k _ _ h m
theorem RL.fn(nn:mD H):∀{xs ys:aB} {v:aC},RL H v xs→RL H v ys→xs=ys
 |[],[],_,_,_=>rfl
 |[],_::_,_,h,⟨a,d,e,h',_⟩=>by
  have h:_=_:=h;rw[h] at e;cases e;rw[show H 98=_ from nn] at h';cases h'
 |_::_,[],_,⟨a,d,e,h',_⟩,h=>by
  have h:_=_:=h;rw[h] at e;cases e;rw[show H 98=_ from nn] at h';cases h'
 |x::xs,y::ys,v,⟨a,d,e,h,_,r⟩,⟨a',d',e',h',_,r'⟩=>by
  rw[e] at e';cases e';rw[h] at h';cases h';rw[RL.fn nn r r']
theorem RL.handed:∀{xs:aB} {v:aC},RL H v xs→handedIn v=true
 |[],_,h=>by rw[show _=_ from h];rfl
 |_::_,_,⟨_,_,e,_⟩=>by rw[e];rfl
theorem pk{i j:Int}{a b:Tok}(q:Q (.int (i+j) 0) H):dK H .Add (.int i a) (.int j b) Q:=q
theorem ua{i j:Int}{a b:Tok}(q:Q (.int (i - j) 0) H):dK H .Sub (.int i a) (.int j b) Q:=q
theorem K6{i j:Int}{a b:Tok}(h:i.natAbs < 2 ^ 64)(q:Q (.int (i * j) 0) H):dK H .Mult (.int i a) (.int j b) Q:=⟨h,q⟩
theorem By{i j:Int}{a b:Tok}(h:j≠0)(q:Q (.int (i.fmod j) 0) H):dK H .Mod (.int i a) (.int j b) Q:=⟨h,q⟩
theorem JU{i j:Int}{a b:Tok}(h:j≠0)(hp:Builtin.divisionGoesByPylong i j=false)(q:Q (.int (i.fdiv j) 0) H):dK H .FloorDiv (.int i a) (.int j b) Q:=⟨h,hp,q⟩
theorem kW{i j:Int}{a b:Tok}{Q:Bool→Prop}(q:Q (i==j)):bD H .Eq (.int i a) (.int j b) Q:=q
theorem Jt{i j:Int}{a b:Tok}{Q:Bool→Prop}(q:Q (decide (i < j))):bD H .Lt (.int i a) (.int j b) Q:=q
theorem Ts{i j:Int}{a b:Tok}{Q:Bool→Prop}(q:Q (decide (i≤j))):bD H .LtE (.int i a) (.int j b) Q:=q
theorem Kq{i j:Int}{a b:Tok}{Q:Bool→Prop}(q:Q (decide (i > j))):bD H .Gt (.int i a) (.int j b) Q:=q
theorem cGe{i j:Int}{a b:Tok}{Q:Bool→Prop}(q:Q (decide (i≥j))):bD H .GtE (.int i a) (.int j b) Q:=q
theorem cG{x y:Str}{a b:Tok}{Q:Bool→Prop}(q:Q (x==y)):bD H .Eq (.str x a) (.str y b) Q:=q
theorem Bx{x y:Str}{a b:Tok}{Q:Bool→Prop}(q:Q (x != y)):bD H .NotEq (.str x a) (.str y b) Q:=q
theorem yU{k:Nat}(h:k≤1000000):Builtin.Range.small ((k:Int) - 1) (-1) (-1)=true∧Builtin.Range.rangeSize ((k:Int) - 1) (-1) (-1)=k:=by
 have e:Builtin.Range.rangeSize ((k:Int) - 1) (-1) (-1)=k:=by
  unfold Builtin.Range.rangeSize;rw[aR (by decide),show -(-1:Int)=1 from rfl,Int.ediv_one]
  split<;>omega
 refine⟨?_,e⟩;unfold Builtin.Range.small;rw[e];unfold Builtin.Range.rangeFitsLong;simp only[dJ,jD,kq,dE];refine⟨⟨⟨⟨?_,?_⟩,?_⟩,?_⟩,.inr ?_⟩<;>first|(constructor<;>omega)|decide
theorem tO(hn:3≤n)(hl:H l=some (.list t xs))(ht:t≠0)(hz:xs.length≤1000000)(hx:∀x∈xs,handedIn x=true)(cl:eT hd H)(q:∀v H',RL H' v xs→aD aJ H H'→Q v H'):Sat S n hd (.ref 230) [.ref l] H Q E:=by
 obtain⟨m,rfl,hm⟩:=dN hn;refine Qu ?_;unfold Ei;obtain⟨r1,r2⟩:=yU hz;refine fB hl (ua (ID (by decide) (yi (by decide)) fun d x y z gH=>?_))
 have k0:aD aJ H (upd H d (.raw 1 (fz ((xs.length:Int) - 1) (-1) (-1) x y z))):=.new gH;refine⟨.range ((xs.length:Int) - 1) (-1) xs.length,(List.range xs.length).map fun(k:Nat)=>Value.int ((xs.length:Int) - 1+(k:Nat) * (-1)) 0,fun i us aE=>∃v,us=[.ref l,.ref 98,v]∧RL aE v (xs.drop (xs.length - i))∧aD aJ H aE,⟨⟨d,1,-1,x,y,z,rfl,aA,r1,r2⟩,rfl⟩,⟨_,rfl,?_,k0⟩,fun i us aE _=>rfl,?_,?_⟩
 .rw[Nat.sub_zero,nk];exact rfl
 .rintro i aE v hv u1 u2 u3 ⟨w,hu,rl,k⟩
  cases hu;rw[fL] at hv;obtain⟨j,hj,rfl⟩:=ey.mp hv;obtain⟨fT,hj⟩:=cQ.mp hj;rw[pS] at fT;rw[List.getElem_range] at hj;subst hj;have h1:=k _ _ hl rfl;have ei:xs.length - i=(xs.length - (i+1))+1:=by omega
  have KJ:xs.length - (i+1) < xs.length:=by omega
  refine⟨rfl,ji h1 (v:=xs[xs.length - (i+1)]) ?_ (h9 1 (by decide) (fI:=116) (by rfl) (by rfl) hm fun c k' qu hc=>?_)⟩
  .unfold vE
   rw[bE (by omega),show((xs.length:Int) - 1+(i:Nat) * (-1)).toNat=xs.length - (i+1) from by omega]
   exact lr KJ
  .refine CU ?_
   unfold uh;refine sA aA rfl (by decide) aF ?_
   rw[bF];refine sA aA rfl (by decide) aF ?_
   rw[bF];have k1:aD aJ aE (upd aE c (.inst 1 119 [xs[xs.length - (i+1)],u3])):=.new hc;refine⟨rfl,_,rfl,?_,k.trans k1⟩;rw[jo KJ,←ei];exact⟨c,u3,rfl,aA,hx _ (rz KJ),rl.keep k1⟩
 .rintro aE u4 u5 u6 ⟨w,hu,rl,k⟩
  cases hu;rw[dO,pS,Nat.sub_self,List.drop_zero] at rl;exact⟨(cl.keep k).clean,q _ _ rl k⟩
variable{a b:Addr}
theorem RL.len(nn:mD H){v:aC}(h:RL H v xs)(h':RL H v ys):xs.length=ys.length:=by rw[RL.fn nn h h']
theorem vq(hn:1≤n)(nn:mD H)(hr:RL H v xs)(hz:xs.length≤1000000)(q:∀r l H',H' r=some (.tup 1 [.ref l,.ref 98])→H' l=some (.list 1 xs)→aD aJ H H'→Q (.ref r) H'):Sat S n hd (.ref 237) [v] H Q E:=by
 obtain⟨m,rfl,hm⟩:=dN hn;refine Qt ?_;unfold Eh;refine nL 1 (by decide) (g6 _) fun l hl=>?_
 have k0:aD aJ H (upd H l (.list 1 [])):=.new hl;refine⟨fun j us aE=>∃i at_ Kx,j=xs.length - i∧i≤xs.length∧us=[v,.ref l,at_,Kx]∧RL H at_ (xs.drop i)∧RL H Kx (xs.drop (i / 2))∧aE=upd H l (.list 1 (xs.take i)),xs.length,⟨0,v,v,rfl,g6 _,rfl,hr,(by rw[Nat.zero_div];exact hr),rfl⟩,?_⟩
 rintro j aE u2 u3 u4 u5 ⟨i,at_,Kx,rfl,hi,hu,r1,r2,rfl⟩
 cases hu;have kk:∀zs,aD aJ H (upd H l (.list 1 zs)):=fun zs=>.new hl
 have ss:∀{y:aC} {zs ws:aB} {y':aC},RL H y zs→RL H y' ws→zs.length≠ws.length→y≠y':=fun h h' ne e=>by subst e;exact ne (RL.len nn h h')
 have there:∀{y:aC} {zs:aB},RL H y zs→∃a t C fs,y=.ref a∧H a=some (.inst t C fs):=fun{y zs} h=>by
  cases zs with
  |nil=>exact⟨98,_,_,_,h,nn⟩
  |cons x zs=>obtain⟨a,d,e,h,_⟩:=h;exact⟨a,_,_,_,e,h⟩
 by_cases fT:i < xs.length
 .rw[jo fT] at r1
  obtain⟨a,d,rfl,ha,hx,rd⟩:=r1;have nR:=kk (xs.take i) _ _ ha rfl;have e1:xs.take i++[xs[i]]=xs.take (i+1):=(jm fT).symm;have kX:=kk (xs.take (i+1)) _ _ ha rfl;refine cU rfl (jP nR rfl) (eX (eE (dW aA (gA nR rfl rfl hx (ff aA (by decide) (by rw[qY];omega) ?_)))))
  rw[e1,bF];refine gA kX rfl rfl rd.handed (fB aA (By (by decide) (kW ?_)))
  have el:(xs.take (i+1)).length=i+1:=by rw[qY];omega
  rw[el]
  by_cases ev:(i+1) % 2=0
  .rw[show((((i+1:Nat):Int).fmod 2)==0)=true from by rw[dE,nj _ (by decide)];omega]
   have h2:i / 2 < xs.length:=by omega
   rw[jo h2] at r2;obtain⟨b,d2,rfl,hb,Wu,Rl⟩:=r2;refine eE (gA (kk _ _ _ hb rfl) rfl rfl Rl.handed ?_);obtain⟨p1,t1,C1,f1,rfl,g1⟩:=there rd;obtain⟨p2,t2,C2,f2,rfl,g2⟩:=there Rl;have ne:p1≠p2:=fun e=>ss rd Rl (by rw[jq,jq];omega) (by rw[e])
   refine oY (iM (kk _ _ _ g1 rfl) (kk _ _ _ g2 rfl) ne rfl) (cP ⟨xs.length - (i+1),by omega,i+1,_,_,rfl,fT,rfl,rd,?_,rfl⟩)
   rw[show(i+1) / 2=i / 2+1 from by omega];exact Rl
  .rw[show((((i+1:Nat):Int).fmod 2)==0)=false from by rw[dw,nj _ (by decide)];omega]
   refine cP ⟨xs.length - (i+1),by omega,i+1,_,_,rfl,fT,rfl,rd,?_,rfl⟩
   rw[show(i+1) / 2=i / 2 from by omega];exact r2
 .have:i=xs.length:=by omega
  subst this;rw[nk] at r1;have r1:u4=.ref 98:=r1;subst r1;rw[List.take_length];refine cU rfl (jP (kk _ _ _ nn rfl) rfl) (eX (cP (nT 1 (by decide) (by simp) fun r hr=>?_)))
  have nl:l≠r:=fun e=>by subst e;rw[aA] at hr;cases hr
  exact q r l _ aA (by rw[aT nl,aA]) ((kk _).trans (.new hr))
theorem nC{P:Prop}(q:P):jB [] P:=q
theorem j9(hn:2≤n)(nn:mD H)(cl:eT hd H)(hr:RL H v xs)(hz:xs.length≤1000000)(q:∀l H',H' l=some (.list 1 xs)→aD aJ H H'→Q (.ref l) H'):Sat S n hd (.ref 244) [v] H Q E:=by
 obtain⟨m,rfl,hm⟩:=dN hn;refine Qs ?_;unfold Eg;refine cF rfl (vq hm nn hr hz fun r l H' h1 h2 k=>GF h1 rfl (cl.keep k).clean ⟨rfl,rfl,nC (oY oJ (eE (q l H' h2 k)))⟩)
structure G where
 bH:Addr
 aY:Addr
 iB:Addr
 iY:Addr
 rows:Addr
 vars:Addr
 dflt:Addr
 auto:Addr
 perm:Addr
 fY:Addr
 names:Addr
 fZ:Addr
 cells:Addr
 fns:Addr
 eJ:Addr
 bare:Addr
 jG:Addr
 fc:Addr
 vL:Addr
structure ko(g:G)(H:AH):Prop where
 nil:mD H
 t:H 101=some (.inst 0 92 [.int 1 0,.str "t" 0])
 bH:H g.bH=some (.inst 60 1970 [.ref g.fY,.ref g.cells,.ref g.vars,.ref g.bare,.none,.ref g.aY,.int 0 0])
 iY:H g.iY=some (.inst 1 734 [.ref g.bH,.ref g.rows])
 vars:H g.vars=some (.inst 1 580 [.ref g.dflt,.ref g.auto,.ref g.perm])
 fY:H g.fY=some (.inst 1 1921 [.ref g.fZ,.ref g.names])
 cells:H g.cells=some (.inst 1 343 [.ref g.fns,.ref g.eJ])
 bare:H g.bare=some (.inst 1 636 [.ref g.jG])
 jG:H g.jG=some (.aX 1 [])
variable{g:G}
theorem ko.keep(h:ko g H)(k:aD M H H')(m0:M 0=false:=by rfl)(m1:M 1=false:=by rfl)(m2:M 60=false:=by rfl):ko g H':=
 ⟨k _ _ h.nil m0,k _ _ h.t m0,k _ _ h.bH m2,k _ _ h.iY m1,k _ _ h.vars m1,k _ _ h.fY m1,k _ _ h.cells m1,k _ _ h.bare m1,k _ _ h.jG m1⟩
def Rp(nm:Str):Bool:=Txt.slice nm none (some 1)==":"
theorem vx(hn:1≤n)(hs:Sym H v i nm)(hz:nm.length≤1000000)(q:Q (.bool (Rp nm)) H):Sat S n hd (.ref 256) [v] H Q E:=by
 obtain⟨m,rfl,hm⟩:=dN hn;obtain⟨a,t,rfl,ht,ha⟩:=hs;refine Qq ?_;unfold Ee;exact gA ha rfl rfl rfl (show nm.length≤1000000∧_ from⟨hz,cG q⟩)
theorem mV(hn:2≤n)(hs:Sym H v i nm)(hi:2≤i)(hk:Rp nm=false)(hz:nm.length≤1000000)(q:∀H',aD aJ H H'→Q (.bool false) H'):Sat S n hd (.ref 263) [v] H Q E:=by
 obtain⟨m,rfl,hm⟩:=dN hn;obtain⟨a,t,rfl,ht,ha⟩:=id hs;refine Qp ?_;unfold Ed;refine gA ha rfl rfl rfl (nT 1 (by decide) (by simp) fun d gH=>?_)
 have k:aD aJ H (upd H d (.tup 1 [.int 0 0,.int 1 0])):=.new gH;refine Hi aA (c:=false) ?_ (eX (Hl (cF rfl (vx hm (hs.keep k) hz (hk▸q _ k)))));have h1:((0:Int)==i)=false:=by rw[dw];omega
 have h2:((1:Int)==i)=false:=by rw[dw];omega
 unfold tW zp
 simp[h1,h2]
theorem kh(hn:1≤n){x y z:Int}(q:Q (.bool (decide (y≤x)&&(z==-1||decide (x≤z)))) H):Sat S n hd (.ref 354) [.int x 0,.int y 0,.int z 0] H Q E:=by
 obtain⟨m,rfl,hm⟩:=dN hn;refine Qj ?_;unfold DY;refine Ts (eX ?_);cases h1:decide (y≤x) with
 |false=>rw[h1] at q;exact K5 q
 |true=>
  rw[h1] at q;refine xQ (kW (eX ?_));cases h2:z==-1 with
  |true=>rw[h2] at q;exact Hk q
  |false=>rw[h2] at q;exact Hl (Ts q)
theorem vz(hn:1≤n){T:aC}(ht:sH H v=some T)(hf:xE T (.ref 119)=false)(q:Q (.bool false) H):Sat S n hd (.ref 956) [v,w] H Q E:=by
 obtain⟨m,rfl,hm⟩:=dN hn;refine PO ?_;unfold Dx;refine cU rfl ht ?_;rw[hf];exact eX (K5 q)
theorem sY(hn:1≤n){x y:Int}(h:x=y→smallInt x=true)(q:Q (.bool (x==y)) H):Sat S n hd (.ref 963) [.int x 0,.int y 0] H Q E:=by
 obtain⟨m,rfl,hm⟩:=dN hn;refine PN ?_;unfold Dw
 by_cases e:x=y
 .subst e
  rw[fR] at q;refine oY (c:=true) ?_ (eX (Hk q));unfold Ct;dsimp only;rw[bE rfl,bE (h rfl)]
 .rw[dw.mpr e] at q
  refine oY (c:=false) ?_ (eX (Hl (cU rfl rfl (eX (xQ (cU rfl rfl (eX (xQ (kW ?_)))))))))
  .unfold Ct;dsimp only;rw[aR e]
  .rw[dw.mpr e];exact q
structure FnAt(H:AH)(fns:Addr)(i:Int)(f C:Addr)(fs:aB):Prop where
 tab:∃es,H fns=some (.aX 62 es)∧valueAt es i=some (.ref f)
 fn:H f=some (.inst 1 C fs)
theorem FnAt.keep{fns f C:Addr}{fs:aB}(h:FnAt H fns i f C fs)(k:aD M H H')(m1:M 1=false:=by rfl)(m2:M 62=false:=by rfl):FnAt H' fns i f C fs:=
 ⟨let⟨es,a,b⟩:=h.tab;⟨es,k _ _ a m2,b⟩,k _ _ h.fn m1⟩
theorem sZ(hn:1≤n)(F:ko g H)(hs:Sym H v i nm){t:Nat}{es:List (Int×aC)}(hf:H g.fns=some (.aX t es))(q:Q ((valueAt es i).getD (.ref 98)) H):Sat S n hd (.ref 284) [.ref g.cells,v] H Q E:=by
 obtain⟨m,rfl,hm⟩:=dN hn;obtain⟨a,t,rfl,ht,ha⟩:=hs;refine Qn ?_;unfold Eb;exact gA F.cells rfl rfl rfl (uZ hf (gA ha rfl rfl rfl (Dn hf q)))
theorem rm{H:AH}(nn:mD H){a:Addr}{t:Nat}(h:H a=some (.inst t 92 [.int i 0,.str nm 0]))(hi:i≠0):a≠98:=fun e=>by
 subst e;rw[show H 98=_ from nn] at h
 simp only[mJ,AO.inst.injEq,uq,pT] at h;exact hi h.2.2.1.1.symm
theorem nM(hn:2≤n)(F:ko g H)(hs:Sym H v i nm)(hi:i≠0){f C:Addr}{fs:aB}(hf:FnAt H g.fns i f C fs)(hC:jZ.contains C=true)(hC2:xE (.ref C) (.ref 92)=false)(q:Q (.ref f) H):Sat S n hd (.ref 305) [.ref g.cells,v] H Q E:=by
 obtain⟨m,rfl,hm⟩:=dN hn;obtain⟨⟨es,h1,h2⟩,h3⟩:=hf;refine Ql ?_;unfold D0;refine⟨fun j us aE=>aE=H∧((j=1∧us=[.ref g.cells,v,v])∨(j=0∧us=[.ref g.cells,v,.ref f])),1,⟨rfl,.inl ⟨rfl,rfl⟩⟩,?_⟩
 rintro j aE u1 u2 u3 ⟨rfl,⟨rfl,hu⟩|⟨rfl,hu⟩⟩
 .cases hu
  unfold jn;obtain⟨a,t,rfl,ht,ha⟩:=id hs;refine cU rfl (jP ha rfl) (eX (pj (nB (iM ha F.nil (rm F.nil ha hi) rfl) (pj (eE (gM F.cells rfl (cF rfl (sZ hm F hs h1 ?_))))))));exact⟨0,by omega,rfl,.inr ⟨rfl,by rw[h2];rfl⟩⟩
 .cases hu
  unfold jn;refine cU rfl (jP h3 hC) ?_;rw[hC2];exact eX (my (cP q))
theorem JT(hn:1≤n)(F:ko g H)(q:Q (.ref g.bare) H):Sat S n hd (.ref 1953) [.ref g.bH] H Q E:=by
 obtain⟨m,rfl,hm⟩:=dN hn;refine LD ?_;unfold Ab jn;exact gA F.bH rfl rfl rfl (oY rfl (K4 (eE (gA F.bH rfl rfl rfl q))))
theorem r0(hn:1≤n)(F:ko g H)(q:Q (.bool false) H):Sat S n hd (.ref 605) [.ref g.bare,.int i 0] H Q E:=by
 obtain⟨m,rfl,hm⟩:=dN hn;refine Qa ?_;unfold DP;exact gA F.bare rfl rfl rfl (Vx F.jG q)
theorem ig(hn:1≤n)(F:ko g H){es:List (Int×aC)}(gH:H g.dflt=some (.aX 5 es))(q:Q ((valueAt es i).getD .none) H):Sat S n hd (.ref 542) [.ref g.vars,.int i 0] H Q E:=by
 obtain⟨m,rfl,hm⟩:=dN hn;refine Qd ?_;unfold DS;exact gA F.vars rfl rfl rfl (uZ gH (Dn gH q))
theorem jx(hn:1≤n)(F:ko g H){es:List (Int×aC)}(gH:H g.dflt=some (.aX 5 es))(hz:es.length≤1000000)(q:Q .none (upd H g.dflt (.aX 5 (stored es i v)))):Sat S n hd (.ref 549) [.ref g.vars,.int i 0,v] H Q E:=by
 obtain⟨m,rfl,hm⟩:=dN hn;refine Qc ?_;unfold DR;exact gA F.vars rfl rfl rfl (Sg gH hz q)
theorem za(hn:2≤n)(F:ko g H){es:List (Int×aC)}(gH:H g.dflt=some (.aX 5 es))(q:Q ((valueAt es i).getD .none) H):Sat S n hd (.ref 647) [.ref g.vars,.ref g.bare,.int i 0] H Q E:=by
 obtain⟨m,rfl,hm⟩:=dN hn;refine P9 ?_;unfold DO;exact gM F.bare rfl (cF rfl (r0 hm F (eX (cP (gM F.vars rfl (cF rfl (ig hm F gH q)))))))
theorem Nb(hn:3≤n)(F:ko g H){es:List (Int×aC)}(gH:H g.dflt=some (.aX 5 es))(hz:es.length≤1000000)(q:∀r aE,aE r=some (.inst 1 671 [.int 1 0,.none,.int i 0,(valueAt es i).getD .none])→aE g.dflt=some (.aX 5 (stored es i v))→aD (aG [5]) H aE→Q (.ref r) aE):Sat S n hd (.ref 682) [.ref g.vars,.ref g.bare,.int i 0,v] H Q E:=by
 obtain⟨m,rfl,hm⟩:=dN hn;refine P7 ?_;unfold DM;refine gM F.bare rfl (cF rfl (r0 (show 1≤m by omega) F (eX (cP (gM F.vars rfl (cF rfl (ig (show 1≤m by omega) F gH (h9 1 (by decide) (fI:=668) rfl rfl hm fun r k hk hr=>?_))))))))
 refine P8 ?_;unfold DN;refine sA aA rfl (by decide) aF ?_
 rw[bF];refine sA aA rfl (by decide) aF ?_
 rw[bF];refine sA aA rfl (by decide) aF ?_
 rw[bF];refine sA aA rfl (by decide) aF ?_
 rw[bF];have k1:aD (aG [5]) H (upd H r (.inst 1 671 [.int 1 0,.none,.int i 0,(valueAt es i).getD .none])):=.new hr;have n1:g.dflt≠r:=fun e=>by rw[←e,gH] at hr;cases hr
 refine⟨rfl,gM (F.keep k1).vars rfl (cF rfl (jx (show 1≤m by omega) (F.keep k1) (es:=es) (by rw[aT n1];exact gH) hz ?_))⟩
 refine q r _ (by rw[aT n1.symm,aA];rfl) aA (k1.trans (.set (by rw[aT n1];exact gH) rfl))
theorem Fs(hn:2≤n)(F:ko g H){r:Addr}{es:List (Int×aC)}{v:aC}(hr:H r=some (.inst 1 671 [.int 1 0,.none,.int i 0,v]))(hh:handedIn v=true)(gH:H g.dflt=some (.aX 5 es))(hz:es.length≤1000000)(q:Q .none (upd H g.dflt (.aX 5 (stored es i v)))):Sat S n hd (.ref 689) [.ref g.vars,.ref r] H Q E:=by
 obtain⟨m,rfl,hm⟩:=dN hn;refine P6 ?_;unfold DL;exact gA hr rfl rfl rfl (kW (eE (gM F.vars rfl (gA hr rfl rfl rfl (gA hr rfl rfl hh (cF rfl (jx hm F gH hz q)))))))
def cK:bW:=((["nil","t","quote","function","progn","if","when","unless","cond","and","or","while","prog1","setq","setq-default","let","let*","catch","unwind-protect","condition-case","ignore-errors","funcall","apply","eval","throw","signal","mapcar","mapc","macroexpand","macroexpand-1","note","error","error-conditions","wrong","error-message","far-wrong","v","e","quit","void-variable","end-of-buffer","no-catch"]:List String).map Str.ofString)
theorem IK:cK.all (fun nm=>!Rp nm&&Nat.ble nm.length 1000)=true:=by kernel_rfl
theorem Ba{nm:Str}(h:nm∈cK):Rp nm=false∧nm.length≤1000000:=by
 have:=dC.mp IK nm h
 rw[dJ,q6] at this;have h2:=pC this.2;exact⟨this.1,by omega⟩
theorem tI:∀{l m:bW},l.Nodup→l ⊆ m→l.length≤m.length
 |[],m,_,_=>g6 _
 |a::l,m,nd,h=>by
  obtain⟨na,nd⟩:=fX.mp nd;have hm:a∈m:=h (.head _);have hl:l ⊆ m.erase a:=fun x hx=>(List.mem_erase_of_ne (fun e:x=a=>na (e▸hx))).mpr (h (.tail _ hx))
  have:=tI nd hl
  rw[List.length_erase_of_mem hm] at this
  have:0 < m.length:=List.length_pos_of_mem hm
  simp only[dH];omega
structure fk(g:G)(H:AH)(nl:bW):Prop where
 tab:∃vs:aB,vs.length=nl.length∧H g.names=some (.bR 6 (nl.zip vs))∧∀(k:Nat) nm v,nl[k]?=some nm→vs[k]?=some v→Sym H v (k:Nat) nm
 rows:∃xs,H g.fZ=some (.list 7 xs)∧xs.length=nl.length
 nodup:nl.Nodup
 sub:nl ⊆ cK
def qM(g:G)(H:AH)(nm:Str)(v:aC):Prop:=∃es,H g.names=some (.bR 6 es)∧valueAt es nm=some v
structure NS(g:G)(H:AH):Prop where
 ex:∃nl,fk g H nl∧cK.take 37 <+:nl
 vL:qM g H "error-conditions" (.ref g.vL)
def fC(nl:bW)(nm:Str):bW:=if nm∈nl then nl else nl++[nm]
variable{nl:bW}
theorem fk.len(N:fk g H nl):nl.length≤1000:=gX (tI N.nodup N.sub) (by decide)
theorem fk.keep(N:fk g H nl)(k:aD M H H')(m0:M 0=false:=by rfl)(m1:M 1=false:=by rfl)(m2:M 6=false:=by rfl)(m3:M 7=false:=by rfl):fk g H' nl:=
 ⟨let⟨vs,a,b,c⟩:=N.tab;⟨vs,a,k _ _ b m2,fun j nm v h1 h2=>(c j nm v h1 h2).keep k m1 m0⟩,let⟨xs,a,b⟩:=N.rows;⟨xs,k _ _ a m3,b⟩,N.nodup,N.sub⟩
theorem NS.keep(N:NS g H)(k:aD M H H')(m0:M 0=false:=by rfl)(m1:M 1=false:=by rfl)(m2:M 6=false:=by rfl)(m3:M 7=false:=by rfl):NS g H':=
 ⟨let⟨nl,h,p⟩:=N.ex;⟨nl,h.keep k m0 m1 m2 m3,p⟩,let⟨es,a,b⟩:=N.vL;⟨es,k _ _ a m2,b⟩⟩
theorem je:∀{nl:bW} {vs:aB} {k:Nat} {nm:Str} {v:aC},nl.Nodup→nl[k]?=some nm→vs[k]?=some v→valueAt (nl.zip vs) nm=some v
 |[],_,_,_,_,_,h,_=>by cases h
 |_::_,[],_,_,_,_,_,h=>by cases h
 |a::nl,x::vs,0,nm,v,nd,h1,h2=>by
  simp at h1 h2;subst h1 h2
  unfold valueAt;simp
 |a::nl,x::vs,k+1,nm,v,nd,h1,h2=>by
  obtain⟨na,nd⟩:=fX.mp nd
  simp at h1 h2
  have ne:a≠nm:=fun e=>na (e▸hZ h1)
  have ih:=je nd h1 h2;unfold valueAt at ih⊢;rw[iK,ql (by simpa using ne)]
  exact ih
theorem vk{nl:bW}{vs:aB}{nm:Str}(h:nm∉nl):valueAt (nl.zip vs) nm=none:=by
 unfold valueAt;rw[List.find?_eq_none.mpr]
 .rfl
 .intro p hp
  have:=(lG (a:=p.1) (b:=p.2) hp).1
  simp;exact fun e=>h (e▸this)
theorem rV{nl:bW}{vs:aB}{nm:Str}(hl:vs.length=nl.length)(h:nm∉nl):stored (nl.zip vs) nm v=(nl++[nm]).zip (vs++[v]):=by
 unfold stored;rw[aR,uu hl.symm]
 .rfl
 .rw[oj,uv]
  intro p hp
  have:=(lG (a:=p.1) (b:=p.2) hp).1
  simp;exact fun e=>h (e▸this)
theorem g7(hn:4≤n)(F:ko g H)(N:fk g H nl)(hm:nm∈cK)(q:∀v (k:Nat) H',fk g H' (fC nl nm)→(fC nl nm)[k]?=some nm→Sym H' v (k:Nat) nm→aD (aG [6,7]) H H'→qM g H' nm v→(∀mo v',qM g H mo v'→qM g H' mo v')→Q v H'):Sat S n hd (.ref 1869) [.ref g.fY,.str nm 0] H Q E:=by
 obtain⟨m,rfl,qJ⟩:=dN hn;obtain⟨vs,e1,e2,e3⟩:=N.tab;refine LI ?_;unfold Af
 by_cases h:nm∈nl
 .obtain⟨k,hk⟩:=yh h
  have fT:k < vs.length:=by rw[e1];exact(cQ.mp hk).1
  have hv:vs[k]?=some vs[k]:=lr fT;have sy:=e3 k nm _ hk hv;have ea:fC nl nm=nl:=bE h;refine gA F.fY rfl rfl rfl (qy e2 (zM e2 ?_));rw[je N.nodup hk hv];obtain⟨a,t,e,ht,ha⟩:=id sy;dsimp only[Option.getD_some];rw[e];refine oY (c:=false) rfl (cP ?_);rw[←e];exact q _ k H (ea.symm▸N) (ea.symm▸hk) sy .refl ⟨_,e2,je N.nodup hk hv⟩ fun _ _ h=>h
 .have ea:fC nl nm=nl++[nm]:=aR h
  refine gA F.fY rfl rfl rfl (qy e2 (zM e2 ?_));rw[vk h];dsimp only[Option.getD_none];refine oY (c:=true) rfl (eE (gM F.fY rfl (cF rfl ?_)));obtain⟨m,rfl,UW⟩:=dN qJ;refine LH ?_;unfold Ae;obtain⟨xs,r1,r2⟩:=N.rows;refine gA F.fY rfl rfl rfl (fB r1 (h9 1 (by decide) (fI:=89) rfl rfl UW fun c k' qu hc=>?_))
  refine T1 ?_;unfold Jz;refine sA aA rfl (by decide) aF ?_
  rw[bF];refine sA aA rfl (by decide) aF ?_
  rw[bF];have k1:aD (aG [6,7]) H (upd H c (.inst 1 92 [.int xs.length 0,.str nm 0])):=.new hc;have n1:g.fZ≠c:=fun e=>by rw[←e,r1] at hc;cases hc
  have n2:g.names≠c:=fun e=>by rw[←e,e2] at hc;cases hc
  have n3:g.names≠g.fZ:=fun e=>by rw[e,r1] at e2;cases e2
  have n4:g.fY≠c:=fun e=>by rw[←e,F.fY] at hc;cases hc
  have Rm:upd H c (.inst 1 92 [.int xs.length 0,.str nm 0]) g.fZ=some (.list 7 xs):=by rw[aT n1];exact r1
  refine⟨rfl,gA (F.keep k1).fY rfl rfl rfl (dW Rm (ff Rm (by decide) ?_ ?_))⟩
  .have:=N.len;omega
  have k2:aD (aG [6,7]) H (upd (upd H c (.inst 1 92 [.int xs.length 0,.str nm 0])) g.fZ (.list 7 (xs++[.ref c]))):=k1.trans (.set Rm rfl);have g2:upd (upd H c (.inst 1 92 [.int xs.length 0,.str nm 0])) g.fZ (.list 7 (xs++[.ref c])) g.names=some (.bR 6 (nl.zip vs)):=by rw[aT n3,aT n2];exact e2
  refine gA (F.keep k2).fY rfl rfl rfl (VT g2 (by rw[List.length_zip,e1,Nat.min_self];have:=N.len;omega) ?_)
  rw[rV e1 h];have k3:=k2.trans (aD.set (M:=aG [6,7]) (o':=.bR 6 ((nl++[nm]).zip (vs++[.ref c]))) g2 rfl);have cc:∀aH,aD (aG [6,7]) (upd H c (.inst 1 92 [.int xs.length 0,.str nm 0])) aH→Sym aH (.ref c) nl.length nm:=fun aH kk=>⟨c,1,rfl,by decide,by rw[←r2];exact kk _ _ aA rfl⟩
  have sc:=cc _ ((aD.set Rm rfl).trans (aD.set (M:=aG [6,7]) (o':=.bR 6 ((nl++[nm]).zip (vs++[.ref c]))) g2 rfl));have V5:(nl++[nm]).Nodup:=lq.mpr ⟨N.nodup,fX.mpr ⟨lF,pA⟩,fun x hx y hy=>by rw[dQ.mp hy];exact fun e=>h (e▸hx)⟩
  refine q _ nl.length _ ⟨⟨vs++[.ref c],by rw[ea,mL,mL,e1];rfl,by rw[ea];exact aA,?_⟩,⟨xs++[.ref c],?_,by rw[ea,mL,mL,r2];rfl⟩,?_,?_⟩ ?_ sc k3 ⟨_,aA,je (k:=nl.length) V5 nh (by rw[←e1];exact nh)⟩ ?_
  .rw[ea]
   intro j mo v' h1 h2
   by_cases q:j < nl.length
   .rw[ru q] at h1
    rw[ru (by omega)] at h2
    exact(e3 j mo v' h1 h2).keep k3
   .by_cases q2:j=nl.length
    .subst q2
     rw[nh] at h1;rw[←e1,nh] at h2;cases h1;cases h2;exact sc
    .rw[List.getElem?_eq_none (by simp;omega)] at h1;cases h1
  .rw[aT n3.symm,aA]
  .rw[ea];exact V5
  .rw[ea]
   intro x hx;rcases dR.mp hx with hx|hx
   .exact N.sub hx
   .rw[dQ.mp hx];exact hm
  .rw[ea,nh]
  .rintro mo v' ⟨es,h1,h2⟩
   rw[e2] at h1;cases h1;refine⟨_,aA,?_⟩;unfold valueAt at h2⊢;rw[uu e1.symm,List.find?_append];obtain⟨p,hp,hv⟩:=ey.mp h2;rw[hp];exact iE some hv
theorem lP(hn:5≤n)(F:ko g H)(N:fk g H nl)(hm:nm∈cK)(q:∀v (k:Nat) H',fk g H' (fC nl nm)→(fC nl nm)[k]?=some nm→Sym H' v (k:Nat) nm→aD (aG [6,7]) H H'→qM g H' nm v→(∀mo v',qM g H mo v'→qM g H' mo v')→Q v H'):Sat S n hd (.ref 1946) [.ref g.bH,.str nm 0] H Q E:=by
 obtain⟨m,rfl,qJ⟩:=dN hn;refine LF ?_;unfold Ac;exact gA F.bH rfl rfl rfl (gM F.fY rfl (cF rfl (g7 qJ F N hm q)))
def mr(ie:Int):Bool→Int
 |true=>36
 |false=>ie
structure uc(g:G)(ie:Int)(H:AH)(vv ev:aC):Prop where
 tab:∃es,H g.dflt=some (.aX 5 es)∧(es.map (·.1)).Nodup∧(∀k∈es.map (·.1),k=36∨k=ie)∧(valueAt es 36).getD .none=vv∧(valueAt es ie).getD .none=ev
def iO(ie:Int)(H:AH):List Addr→List (Bool×aC)→Prop
 |[],[]=>True
 |a::as,p::ps=>H a=some (.inst 1 671 [.int 1 0,.none,.int (mr ie p.1) 0,p.2])∧handedIn p.2=true∧iO ie H as ps
 |_,_=>False
def zK:aC→Option PyData
 | .int i _=>some (.int i)
 | .str x _=>some (.str x)
 |_=>none
def lM(H:AH)(v:aC)(d:PyData):Prop:=(∃k,v=.int k 0∧d=.int k)∨∃a xs ds,v=.ref a∧H a=some (.tup 1 xs)∧xs.mapM zK=some ds∧d=.tuple ds
def cX(H:AH):aB→cO→Prop
 |[],[]=>True
 |v::vs,d::ds=>lM H v d∧cX H vs ds
 |_,_=>False
structure ef(g:G)(ie:Int)(H:AH)(aU:List Addr)(val:aC)(hU:Nat)(rs:List (Bool×aC))(vv ev:aC)(bT:cO):Prop where
 fix:ko g H
 aY:∃s:Int,H g.aY=some (.inst 2 1132 [.ref g.bH,.int 100000 0,.ref g.iB,.int 0 0,val,.int s 0,.ref g.iY])∧s+hU≤100000
 o9:handedIn val=true
 iB:H g.iB=some (.list 3 (aU.reverse.map .ref))
 pg:aU.length≤1000
 rows:∃as,H g.rows=some (.list 4 (as.reverse.map .ref))∧iO ie H as rs∧rs.length≤1000
 vars:uc g ie H vv ev
 names:NS g H
 fc:∃vs,H g.fc=some (.list 10 vs)∧cX H vs bT∧bT.length≤10000
variable{ie:Int}{aU:List Addr}{val vv ev:aC}{hU:Nat}{rs:List (Bool×aC)}{bT:cO}
theorem iO.keep(k:aD M H H')(m1:M 1=false:=by rfl):∀{as:List Addr} {ps:List (Bool×aC)},iO ie H as ps→iO ie H' as ps
 |[],[],_=>trivial
 |_::_,_::_,⟨a,b,c⟩=>⟨k _ _ a m1,b,iO.keep k m1 c⟩
 |[],_::_,h=>h.elim
 |_::_,[],h=>h.elim
theorem iO.len:∀{as:List Addr} {ps:List (Bool×aC)},iO ie H as ps→as.length=ps.length
 |[],[],_=>rfl
 |_::_,_::_,⟨_,_,c⟩=>by rw[dH,dH,iO.len c]
 |[],_::_,h=>h.elim
 |_::_,[],h=>h.elim
theorem lM.keep{d:PyData}(h:lM H v d)(k:aD M H H')(m1:M 1=false:=by rfl):lM H' v d:=
 h.imp id fun⟨a,xs,ds,e,h,r⟩=>⟨a,xs,ds,e,k _ _ h m1,r⟩
theorem cX.keep(k:aD M H H')(m1:M 1=false:=by rfl):∀{vs:aB} {ds:cO},cX H vs ds→cX H' vs ds
 |[],[],_=>trivial
 |_::_,_::_,⟨a,c⟩=>⟨a.keep k m1,cX.keep k m1 c⟩
 |[],_::_,h=>h.elim
 |_::_,[],h=>h.elim
theorem cX.len:∀{vs:aB} {ds:cO},cX H vs ds→vs.length=ds.length
 |[],[],_=>rfl
 |_::_,_::_,⟨_,c⟩=>by rw[dH,dH,cX.len c]
 |[],_::_,h=>h.elim
 |_::_,[],h=>h.elim
theorem cX.snoc{d:PyData}(hv:lM H v d):∀{vs:aB} {ds:cO},cX H vs ds→cX H (vs++[v]) (ds++[d])
 |[],[],_=>⟨hv,trivial⟩
 |_::_,_::_,⟨a,c⟩=>⟨a,cX.snoc hv c⟩
 |[],_::_,h=>h.elim
 |_::_,[],h=>h.elim
theorem uc.keep(h:uc g ie H vv ev)(k:aD M H H')(m:M 5=false:=by rfl):uc g ie H' vv ev:=
 ⟨let⟨es,a,r⟩:=h.tab;⟨es,k _ _ a m,r⟩⟩
def wg(M:Nat→Bool):Bool:=!(M 0||M 1||M 2||M 3||M 4||M 5||M 6||M 7||M 10||M 60)
theorem ef.keep(h:ef g ie H aU val hU rs vv ev bT)(k:aD M H H')(m:wg M=true:=by rfl):ef g ie H' aU val hU rs vv ev bT:=by
 unfold wg at m;simp only[q6,qU] at m;obtain⟨⟨⟨⟨⟨⟨⟨⟨⟨m0,m1⟩,m2⟩,m3⟩,m4⟩,m5⟩,m6⟩,m7⟩,Yw⟩,Sk⟩:=m;exact⟨h.fix.keep k m0 m1 Sk,let⟨s,a,b⟩:=h.aY;⟨s,k _ _ a m2,b⟩,h.o9,k _ _ h.iB m3,h.pg,let⟨as,a,b,c⟩:=h.rows;⟨as,k _ _ a m4,b.keep k m1,c⟩,h.vars.keep k m5,h.names.keep k m0 m1 m6 m7,let⟨vs,a,b,c⟩:=h.fc;⟨vs,k _ _ a Yw,b.keep k m1,c⟩⟩
theorem uF(hn:1≤n)(h:ef g ie H aU val hU rs vv ev bT)(hv:handedIn v=true)(q:∀H',ef g ie H' aU v hU rs vv ev bT→aD (aG [2]) H H'→Q .none H'):Sat S n hd (.ref 984) [.ref g.aY,v] H Q E:=by
 obtain⟨m,rfl,hm⟩:=dN hn;obtain⟨s,e,hs⟩:=h.aY;refine PL ?_;unfold Du;refine sA e rfl (by decide) (by simp) (q _ ?_ (.set e rfl))
 have k:aD (aG [2]) H (upd H g.aY (.inst 2 1132 (jS [.ref g.bH,.int 100000 0,.ref g.iB,.int 0 0,val,.int s 0,.ref g.iY] 4 v))):=.set e rfl;exact⟨h.fix.keep k,⟨s,aA,hs⟩,hv,k _ _ h.iB rfl,h.pg,let⟨as,a,b,c⟩:=h.rows;⟨as,k _ _ a rfl,b.keep k,c⟩,h.vars.keep k,h.names.keep k,let⟨vs,a,b,c⟩:=h.fc;⟨vs,k _ _ a rfl,b.keep k,c⟩⟩
theorem ef.ui(h:ef g ie H aU val hU rs vv ev bT){Hg:List Addr}(hl:Hg.length≤1000):ef g ie (upd H g.iB (.list 3 (Hg.reverse.map .ref))) Hg val hU rs vv ev bT:=by
 have k:aD (aG [3]) H (upd H g.iB (.list 3 (Hg.reverse.map .ref))):=.set h.iB rfl;exact⟨h.fix.keep k,let⟨s,a,b⟩:=h.aY;⟨s,k _ _ a rfl,b⟩,h.o9,aA,hl,let⟨as,a,b,c⟩:=h.rows;⟨as,k _ _ a rfl,b.keep k,c⟩,h.vars.keep k,h.names.keep k,let⟨vs,a,b,c⟩:=h.fc;⟨vs,k _ _ a rfl,b.keep k,c⟩⟩
theorem j0(hn:1≤n)(h:ef g ie H aU val hU rs vv ev bT)(hl:aU.length < 1000)(q:∀H',ef g ie H' (a::aU) val hU rs vv ev bT→aD (aG [3]) H H'→Q .none H'):Sat S n hd (.ref 991) [.ref g.aY,.ref a] H Q E:=by
 obtain⟨m,rfl,hm⟩:=dN hn;obtain⟨s,e,hs⟩:=h.aY;refine PK ?_;unfold Ds;refine gA e rfl rfl rfl (dW h.iB (ff h.iB (by decide) (by rw[dO,ng];omega) ?_))
 have e2:aU.reverse.map Value.ref++[.ref a]=(a::aU).reverse.map .ref:=by simp
 rw[e2];exact q _ (h.ui (by simp;omega)) (.set h.iB rfl)
theorem rj(hn:1≤n)(h:ef g ie H (a::aU) val hU rs vv ev bT)(q:∀H',ef g ie H' aU val hU rs vv ev bT→aD (aG [3]) H H'→Q .none H'):Sat S n hd (.ref 998) [.ref g.aY] H Q E:=by
 obtain⟨m,rfl,hm⟩:=dN hn;obtain⟨s,e,hs⟩:=h.aY;have hf:=h.iB;rw[show((a::aU).reverse.map Value.ref)=aU.reverse.map .ref++[.ref a] from by simp] at hf
 refine PJ ?_;unfold Dr;refine gA e rfl rfl rfl (rF hf (Hh hf (by decide) ?_))
 exact q _ (h.ui (by have:=h.pg;simp at this;omega)) (.set h.iB rfl)
theorem rG(hn:1≤n)(h:ef g ie H (a::aU) val hU rs vv ev bT)(hv:handedIn v=true)(q:∀H',ef g ie H' aU v hU rs vv ev bT→aD (aG [2,3]) H H'→Q .none H'):Sat S n hd (.ref 1005) [.ref g.aY,v] H Q E:=by
 obtain⟨m,rfl,hm⟩:=dN hn;obtain⟨s,e,hs⟩:=h.aY;have hf:=h.iB;rw[show((a::aU).reverse.map Value.ref)=aU.reverse.map .ref++[.ref a] from by simp] at hf
 refine Mq ?_;unfold AX;refine gA e rfl rfl rfl (rF hf (Hh hf (by decide) ?_))
 have h2:ef g ie (upd H g.iB (.list 3 (aU.reverse.map .ref))) aU val hU rs vv ev bT:=h.ui (by have:=h.pg;simp at this;omega)
 obtain⟨s,e,hs⟩:=h2.aY;refine sA e rfl (by decide) (by simp) ?_
 have k0:aD (aG [2,3]) H (upd H g.iB (.list 3 (aU.reverse.map .ref))):=.set hf rfl;have k:aD (aG [2]) (upd H g.iB (.list 3 (aU.reverse.map .ref))) (upd (upd H g.iB (.list 3 (aU.reverse.map .ref))) g.aY (.inst 2 1132 (jS [.ref g.bH,.int 100000 0,.ref g.iB,.int 0 0,val,.int s 0,.ref g.iY] 4 v))):=.set e rfl;refine q _ ?_ (k0.trans (.set e rfl));exact⟨h2.fix.keep k,⟨s,aA,hs⟩,hv,k _ _ h2.iB rfl,h2.pg,let⟨as,a,b,c⟩:=h2.rows;⟨as,k _ _ a rfl,b.keep k,c⟩,h2.vars.keep k,h2.names.keep k,let⟨vs,a,b,c⟩:=h2.fc;⟨vs,k _ _ a rfl,b.keep k,c⟩⟩
theorem j3(hn:1≤n)(h:ef g ie H aU val hU rs vv ev bT)(q:Q (.int rs.length 0) H):Sat S n hd (.ref 710) [.ref g.iY] H Q E:=by
 obtain⟨m,rfl,hm⟩:=dN hn;obtain⟨as,e,r,_⟩:=h.rows;refine P4 ?_;unfold DJ;refine gA h.fix.iY rfl rfl rfl (fB e ?_);rw[dO,ng,r.len];exact q
theorem bK{K:Type}[DecidableEq K]{es:List (K×aC)}{k j:K}{v:aC}:valueAt (stored es k v) j=if j=k then some v else valueAt es j:=by
 have h1:∀{es:List (K×aC)},es.any (fun kv=>decide (kv.1=k))=true→valueAt (es.map fun kv=>if kv.1=k then(kv.1,v) else kv) j=if j=k then some v else valueAt es j:=by
  intro es
  induction es with
  |nil=>intro h;cases h
  |cons p r ih=>
   intro h;obtain⟨a,x⟩:=p;unfold valueAt at ih⊢;rw[fj]
   by_cases e:a=k
   .subst e
    rw[bE rfl]
    by_cases e2:j=a
    .subst e2;rw[Br (by simp),bE rfl];rfl
    .have e3:¬a=j:=fun q=>e2 q.symm
     rw[ql (by simpa using e3),ql (by simpa using e3),aR e2]
     by_cases h2:r.any (fun kv=>decide (kv.1=a))=true
     .rw[ih h2,aR e2]
     .have:r.map (fun kv=>if kv.1=a then(kv.1,v) else kv)=r:=by
       conv=>rhs;rw[←List.map_id r]
       refine yu fun y hy=>?_
       rw[oj,uv] at h2
       have:=h2 y hy
       rw[aR (by simpa using this)];rfl
      rw[this]
   .rw[aR e]
    have h2:r.any (fun kv=>decide (kv.1=k))=true:=by
     rw[G4,kq] at h;rcases h with h|h
     .exact absurd (ur h) e
     .exact h
    by_cases e2:a=j
    .subst e2
     rw[Br (by simp),Br (by simp),aR e]
    .rw[ql (by simpa using e2),ql (by simpa using e2)]
     exact ih h2
 unfold stored
 by_cases h:es.any (fun kv=>decide (kv.1=k))=true
 .rw[bE h];exact h1 h
 .rw[aR h]
  unfold valueAt;rw[List.find?_append]
  by_cases e:j=k
  .subst e
   have:es.find? (fun kv=>decide (kv.1=j))=none:=by
    rw[oj,uv] at h;exact List.find?_eq_none.mpr h
   rw[this,bE rfl];simp
  .rw[aR e]
   cases es.find? (fun kv=>decide (kv.1=j)) with
   |some p=>rfl
   |none=>
    rw[ql (by simpa using fun q:k=j=>e q.symm)];rfl
theorem qd{K:Type}[DecidableEq K]{es:List (K×aC)}{k:K}{v:aC}:(stored es k v).map (·.1)=if k∈es.map (·.1) then es.map (·.1) else es.map (·.1)++[k]:=by
 unfold stored
 by_cases h:es.any (fun kv=>decide (kv.1=k))=true
 .have hm:k∈es.map (·.1):=by
   obtain⟨p,hp,e⟩:=qZ.mp h;exact eF.mpr ⟨p,hp,ur e⟩
  rw[bE h,bE hm,v3];refine yu fun p hp=>?_
  show(if p.1=k then(p.1,v) else p).1=p.1
  split<;>rfl
 .have hm:k∉es.map (·.1):=fun hm=>by
   obtain⟨p,hp,e⟩:=eF.mp hm;exact h (qZ.mpr ⟨p,hp,decide_eq_true e⟩)
  rw[aR h,aR hm,gW];rfl
def px(b:Bool)(v:aC)(p:aC×aC):aC×aC:=match b with
 |true=>(v,p.2)
 |false=>(p.1,v)
def getVar(b:Bool)(p:aC×aC):aC:=match b with
 |true=>p.1
 |false=>p.2
theorem EO{es:List (Int×aC)}(nd:(es.map (·.1)).Nodup)(h:∀k∈es.map (·.1),k=36∨k=ie):es.length≤1000000:=by
 have:∀{l m:bQ},l.Nodup→l ⊆ m→l.length≤m.length:=by
  intro l
  induction l with
  |nil=>intro m _ _;exact g6 _
  |cons a l ih=>
   intro m nd h;obtain⟨na,nd⟩:=fX.mp nd;have hm:a∈m:=h (.head _);have hl:l ⊆ m.erase a:=fun x hx=>(List.mem_erase_of_ne (fun e:x=a=>na (e▸hx))).mpr (h (.tail _ hx))
   have:=ih nd hl
   rw[List.length_erase_of_mem hm] at this
   have:0 < m.length:=List.length_pos_of_mem hm
   simp only[dH];omega
 have:=this (m:=[36,ie]) nd fun k hk=>by
  rcases h k hk with rfl|rfl<;>simp
 rw[dO] at this
 simp at this;omega
theorem uc.set(h:uc g ie H vv ev)(b:Bool)(gz:ie≠36){es:List (Int×aC)}(he:H g.dflt=some (.aX 5 es))(S2:H' g.dflt=some (.aX 5 (stored es (mr ie b) v))):uc g ie H' (px b v (vv,ev)).1 (px b v (vv,ev)).2:=by
 obtain⟨Km,e,nd,ks,h1,h2⟩:=h.tab;rw[he] at e;cases e;refine⟨_,S2,?_,?_,?_,?_⟩
 .rw[qd]
  split
  .exact nd
  .rename_i hn
   exact lq.mpr ⟨nd,fX.mpr ⟨lF,pA⟩,fun x hx y hy=>by rw[dQ.mp hy];exact fun e=>hn (e▸hx)⟩
 .rw[qd]
  intro k hk;split at hk
  .exact ks k hk
  .rcases dR.mp hk with hk|hk
   .exact ks k hk
   .rw[dQ.mp hk]
    cases b
    .exact .inr rfl
    .exact .inl rfl
 .rw[bK]
  cases b
  .rw[aR (show ¬(36:Int)=mr ie false from fun e=>gz e.symm)];exact h1
  .rw[bE (show(36:Int)=mr ie true from rfl)];rfl
 .rw[bK]
  cases b
  .rw[bE (show ie=mr ie false from rfl)];rfl
  .rw[aR (show ¬ie=mr ie true from gz)];exact h2
theorem uc.get(h:uc g ie H vv ev)(b:Bool){es:List (Int×aC)}(he:H g.dflt=some (.aX 5 es)):(valueAt es (mr ie b)).getD .none=getVar b (vv,ev):=by
 obtain⟨Km,e,nd,ks,h1,h2⟩:=h.tab;rw[he] at e;cases e;cases b
 .exact h2
 .exact h1
theorem A9(hn:5≤n)(h:ef g ie H aU val hU rs vv ev bT)(gz:ie≠36){b:Bool}(hs:Sym H w (mr ie b) nm)(qI:nm∈cK)(hi:2≤mr ie b)(hold:handedIn (getVar b (vv,ev))=true)(hl:rs.length < 1000)
  (q:∀H',ef g ie H' aU val hU ((b,getVar b (vv,ev))::rs) (px b v (vv,ev)).1 (px b v (vv,ev)).2 bT→aD (aG [4,5]) H H'→Q .none H'):Sat S n hd (.ref 717) [.ref g.iY,w,v] H Q E:=by
 obtain⟨m,rfl,hm⟩:=dN hn;obtain⟨kw,kl⟩:=Ba qI;refine P2 ?_;unfold DI;refine cF rfl (mV (show 2≤m by omega) hs hi kw kl fun aE k₁=>eX (cP ?_))
 have h1:=h.keep k₁;obtain⟨as,e,r,J7⟩:=h1.rows;obtain⟨es,d1,d2,d3,d4,d5⟩:=h1.vars.tab;refine gA h1.fix.iY rfl rfl rfl (dW e (gA h1.fix.iY rfl rfl rfl (gA h1.fix.bH rfl rfl rfl (gA h1.fix.iY rfl rfl rfl (gM h1.fix.bH rfl (cF rfl (JT (show 1≤m by omega) h1.fix ?_)))))))
 obtain⟨a,t,rfl,ht,ha⟩:=hs.keep k₁;refine gA ha rfl rfl rfl (cF rfl (Nb (show 3≤m by omega) h1.fix d1 (EO d2 d3) fun r' aH hr hd2 k₂=>?_))
 have e':=k₂ _ _ e rfl;have le:(as.reverse.map Value.ref).length < 1000000:=by rw[dO,ng,r.len];omega
 refine ff e' (by decide) le ?_
 have e3:as.reverse.map Value.ref++[.ref r']=(r'::as).reverse.map .ref:=by simp
 rw[e3];have nZ:aD (aG [4,5]) aH (upd aH g.rows (.list 4 ((r'::as).reverse.map .ref))):=.set e' rfl;have nV:aD (aG [5]) H aH:=(k₁.mono fun _ _=>rfl).trans k₂
 have vG:aD (aG [4,5]) H (upd aH g.rows (.list 4 ((r'::as).reverse.map .ref))):=(nV.mono fun t ht=>by unfold aG at ht⊢;simp at ht⊢;exact ht.2).trans nZ
 refine q _ ?_ vG;have kk:aD (aG [4,5]) aE (upd aH g.rows (.list 4 ((r'::as).reverse.map .ref))):=(k₂.mono fun t ht=>by unfold aG at ht⊢;simp at ht⊢;exact ht.2).trans nZ
 have dn:g.dflt≠g.rows:=fun q=>by rw[q,e'] at hd2;cases hd2
 refine⟨h1.fix.keep kk,let⟨s,a,b⟩:=h1.aY;⟨s,kk _ _ a rfl,b⟩,h1.o9,kk _ _ h1.iB rfl,h1.pg,⟨r'::as,aA,⟨?_,hold,r.keep kk⟩,by simp;omega⟩,h1.vars.set b gz d1 (by rw[aT dn];exact hd2),h1.names.keep kk,let⟨vs,a,b,c⟩:=h1.fc;⟨vs,kk _ _ a rfl,b.keep kk,c⟩⟩
 have:=nZ _ _ hr rfl
 rw[h1.vars.get b d1] at this;exact this
def nX:List (Bool×aC)→aC×aC→aC×aC
 |[],p=>p
 |(b,v)::r,p=>nX r (px b v p)
theorem fF{xs:List (Bool×aC)}(hn:3≤n)(h:ef g ie H aU val hU (xs++rs) vv ev bT)(gz:ie≠36)(q:∀H',ef g ie H' aU val hU rs (nX xs (vv,ev)).1 (nX xs (vv,ev)).2 bT→aD (aG [4,5]) H H'→(∀a,H a=none→H' a=none)→Q .none H'):Sat S n hd (.ref 731) [.ref g.iY,.int rs.length 0] H Q E:=by
 obtain⟨m,rfl,hm⟩:=dN hn;refine P1 ?_;unfold DH;refine⟨fun j us aE=>∃(ys:List (Bool×aC)) (p:aC×aC),us=[.ref g.iY,.int rs.length 0]∧j=ys.length∧ef g ie aE aU val hU (ys++rs) p.1 p.2 bT∧nX ys p=nX xs (vv,ev)∧aD (aG [4,5]) H aE∧(∀a,H a=none→aE a=none),xs.length,⟨xs,(vv,ev),rfl,rfl,h,rfl,.refl,fun _ h=>h⟩,?_⟩
 rintro j aE u1 u2 ⟨ys,p,hu,rfl,h1,hp,k1,z1⟩
 cases hu;obtain⟨as,e,r,J7⟩:=h1.rows;refine gA h1.fix.iY rfl rfl rfl (fB e (Kq ?_));rw[dO,ng,r.len];cases ys with
 |nil=>
  rw[lE,show(decide ((rs.length:Int) > rs.length))=false from by simp]
  refine cP ?_;have hp:p=nX xs (vv,ev):=hp;rw[←hp] at q;exact q _ h1 k1 z1
 |cons y ys=>
  rw[show(decide ((((y::ys)++rs).length:Int) > rs.length))=true from by simp;omega]
  cases as with
  |nil=>exact r.elim
  |cons a as=>
   obtain⟨ra,rh,rr⟩:=r;rw[show(a::as).reverse.map Value.ref=as.reverse.map .ref++[.ref a] from by simp] at e
   refine eE (gA h1.fix.iY rfl rfl rfl (rF e (Hh e (by decide) ?_)))
   have k2:aD (aG [4,5]) aE (upd aE g.rows (.list 4 (as.reverse.map .ref))):=.set e rfl;obtain⟨es,d1,d2,d3,d4,d5⟩:=h1.vars.tab;have VX:=k2 _ _ ra rfl;have W6:upd aE g.rows (.list 4 (as.reverse.map .ref)) g.dflt=some (.aX 5 es):=by
    rw[aT (fun q=>by rw[q,e] at d1;cases d1)];exact d1
   refine cU rfl (jP VX rfl) (eX (eE (gA (h1.fix.keep k2).iY rfl rfl rfl (gA (h1.fix.keep k2).bH rfl rfl rfl (cF rfl (Fs (show 2≤m by omega) (h1.fix.keep k2) VX rh W6 (EO d2 d3) ?_))))))
   have k3:aD (aG [4,5]) (upd aE g.rows (.list 4 (as.reverse.map .ref))) (upd (upd aE g.rows (.list 4 (as.reverse.map .ref))) g.dflt (.aX 5 (stored es (mr ie y.1) y.2))):=.set W6 rfl;have kk:=k2.trans k3;have rn:g.rows≠g.dflt:=fun q=>by rw[←q,e] at d1;cases d1
   refine⟨ys.length,by simp,ys,px y.1 y.2 p,rfl,rfl,?_,hp,k1.trans kk,fun c hc=>?_⟩
   rotate_left
   .have h0:=z1 c hc
    have c1:c≠g.dflt:=fun q=>by rw[q,d1] at h0;cases h0
    have c2:c≠g.rows:=fun q=>by rw[q,e] at h0;cases h0
    rw[aT c1,aT c2];exact h0
   exact⟨h1.fix.keep kk,let⟨s,a,b⟩:=h1.aY;⟨s,kk _ _ a rfl,b⟩,h1.o9,kk _ _ h1.iB rfl,h1.pg,⟨as,by rw[aT rn,aA],rr.keep kk,by simp at J7⊢;omega⟩,h1.vars.set y.1 gz d1 aA,h1.names.keep kk,let⟨vs,a,b,c⟩:=h1.fc;⟨vs,kk _ _ a rfl,b.keep kk,c⟩⟩
inductive Lv where
 |sig (nm:Str) (ds:aB)
 |fS (tag v:Int)
def nc(H:AH)(w:aC):Lv→Prop
 | .sig nm ds=>∃a d,w=.ref a∧H a=some (.tup 1 [.str "signal" 0,.str nm 0,.ref d])∧H d=some (.list 1 ds)
 | .fS tag v=>∃a,w=.ref a∧H a=some (.tup 1 [.str "throw" 0,.int tag 0,.int v 0])
theorem nc.keep{H H':AH}{M:Nat→Bool}{w:aC}{lv:Lv}(h:nc H w lv)(k:aD M H H')(m1:M 1=false:=by rfl):nc H' w lv:=by
 cases lv with
 |sig nm ds=>obtain⟨a,d,e,h1,h2⟩:=h;exact⟨a,d,e,k _ _ h1 m1,k _ _ h2 m1⟩
 |fS tag v=>obtain⟨a,e,h1⟩:=h;exact⟨a,e,k _ _ h1 m1⟩
structure Goal where
 PV:aC→aC→cO→Prop
 PE:Str→aB→aC→cO→Prop
 kp:List (Addr×AO)
 ok:∀p∈kp,(p.2.tag < 2∨(60≤p.2.tag∧p.2.tag < 100))∧∀t k vs,p.2≠.exc t k vs
def Goal.at(W:Goal)(H:AH):Prop:=∀p∈W.kp,H p.1=some p.2
theorem Goal.keep{W:Goal}{H H':AH}{M:Nat→Bool}(h:W.at H)(k:aD M H H')(m:∀t,t < 2∨(60≤t∧t < 100)→M t=false):W.at H':=fun p hp=>k _ _ (h p hp) (m _ (W.ok p hp).1)
end
section
variable(S:aN)(g:G)(ie:Int)(W:Goal)
def rM(y:Addr)(H:AH):Prop:=∃k nm dl ds val b rs vv ev bT,H y=some (.exc 1 k [.str nm 0,.ref dl])∧k≠0∧H dl=some (.list 1 ds)∧ef g ie H [] val b rs vv ev bT∧W.PE nm ds (nX rs (vv,ev)).1 bT∧W.at H
def Good(n:Nat):Nat→AH→Prop
 |0,H=>∃val b vv ev bT,ef g ie H [] val b [] vv ev bT∧W.PV val vv bT∧W.at H
 |k+1,H=>(∃val b vv ev bT,ef g ie H [] val b [] vv ev bT∧W.PV val vv bT∧W.at H)∨(∃a aU val rs vv ev bT,ef g ie H (a::aU) val (k+1) rs vv ev bT∧Sat S n none (.ref 1101) [.ref g.aY] H (fun _ H'=>Good n k H') (fun y H'=>rM g ie W y H'))
def OA(n:Nat)(hd:bP)(w:aC)(QL:AH→Prop)(EL:EPost):Nat→AH→Prop
 |0,H=>∃nm ds val b rs vv ev bT,nc H w (.sig nm ds)∧ef g ie H [] val b rs vv ev bT∧eT hd H∧∀x dl,H x=none→H dl=some (.list 1 ds)→EL x (upd H x (.exc 1 (if hd=none then 1 else 2) [.str nm 0,.ref dl]))
 |k+1,H=>∃a aU val b rs vv ev bT t C fs f,aU.length=k∧ef g ie H (a::aU) val b rs vv ev bT∧H a=some (.inst t C fs)∧gS.lookup (C,("leave":Str))=some f∧gT f=true∧
   Sat S n hd (.ref f) [.ref a,.ref g.aY,w] H (fun r H'=>(r=.bool true∧QL H')∨(r=.bool false∧(∃val b rs vv ev bT,ef g ie H' (a::aU) val b rs vv ev bT)∧∀gJ,(∀val b rs vv ev bT,ef g ie H' (a::aU) val b rs vv ev bT→ef g ie gJ aU val b rs vv ev bT)→aD (aG [3]) H' gJ→OA n hd w QL EL k gJ)) EL
end
section
variable{S:aN}{n:Nat}{hd:bP}{H H':AH}{Q:KQ}{E:EPost}{M:Nat→Bool}{v w:aC}{xs:aB}{a b:Addr}{t:Nat}{nm:Str}{g:G}{ie:Int}{W:Goal}{aU:List Addr}{val vv ev:aC}{hU:Nat}{rs:List (Bool×aC)}{bT:cO}
theorem ef.Vv{x:Addr}{t k:Nat}{fs:aB}(h:ef g ie H aU val hU rs vv ev bT)(hx:H x=some (.exc t k fs)):ef g ie (del H x) aU val hU rs vv ev bT:=by
 have nx:∀{a:Addr} {o:AO},H a=some o→(∀t k vs,o≠.exc t k vs)→del H x a=some o:=fun{a o} e ne=>by
  have:a≠x:=fun q=>by subst q;rw[hx] at e;exact ne _ _ _ (gZ e).symm
  unfold del;rw[aR this];exact e
 have ni:∀{a:Addr} {t:Nat} {C:Addr} {fs:aB},H a=some (.inst t C fs)→del H x a=some (.inst t C fs):=fun e=>nx e fun _ _ _ q=>by cases q
 have nl:∀{a:Addr} {t:Nat} {fs:aB},H a=some (.list t fs)→del H x a=some (.list t fs):=fun e=>nx e fun _ _ _ q=>by cases q
 have nt:∀{a:Addr} {t:Nat} {fs:aB},H a=some (.tup t fs)→del H x a=some (.tup t fs):=fun e=>nx e fun _ _ _ q=>by cases q
 have nd:∀{a:Addr} {t:Nat} {fs:List (Int×aC)},H a=some (.aX t fs)→del H x a=some (.aX t fs):=fun e=>nx e fun _ _ _ q=>by cases q
 have ns:∀{a:Addr} {t:Nat} {fs:List (Str×aC)},H a=some (.bR t fs)→del H x a=some (.bR t fs):=fun e=>nx e fun _ _ _ q=>by cases q
 have F:=h.fix;have rr:∀{as:List Addr} {ps:List (Bool×aC)},iO ie H as ps→iO ie (del H x) as ps:=by
  intro as
  induction as with
  |nil=>intro ps h;cases ps<;>first|trivial|exact h.elim
  |cons a as ih=>intro ps h;cases ps<;>first|exact h.elim|exact⟨ni h.1,h.2.1,ih h.2.2⟩
 have rn:∀{vs:aB} {ds:cO},cX H vs ds→cX (del H x) vs ds:=by
  intro vs
  induction vs with
  |nil=>intro ps h;cases ps<;>first|trivial|exact h.elim
  |cons a as ih=>intro ps h;cases ps<;>first|exact h.elim|exact⟨h.1.imp id fun⟨a,xs,ds,e,h,r⟩=>⟨a,xs,ds,e,nt h,r⟩,ih h.2⟩
 exact⟨⟨ni F.nil,ni F.t,ni F.bH,ni F.iY,ni F.vars,ni F.fY,ni F.cells,ni F.bare,nd F.jG⟩,let⟨s,a,b⟩:=h.aY;⟨s,ni a,b⟩,h.o9,nl h.iB,h.pg,let⟨as,a,b,c⟩:=h.rows;⟨as,nl a,rr b,c⟩,⟨let⟨es,a,r⟩:=h.vars.tab;⟨es,nd a,r⟩⟩,
  ⟨let⟨lX,N,pf⟩:=h.names.ex;⟨lX,⟨let⟨vs,a,b,c⟩:=N.tab;⟨vs,a,ns b,fun j nm v h1 h2=>let⟨a,t,e,ht,ha⟩:=c j nm v h1 h2;⟨a,t,e,ht,ni ha⟩⟩,let⟨xs,a,b⟩:=N.rows;⟨xs,nl a,b⟩,N.nodup,N.sub⟩,pf⟩,let⟨es,a,b⟩:=h.names.vL;⟨es,ns a,b⟩⟩,let⟨vs,a,b,c⟩:=h.fc;⟨vs,nl a,rn b,c⟩⟩
theorem rW{a:Addr}{aU:List Addr}:vE ((a::aU).reverse.map Value.ref) (-1)=some (.ref a):=by
 rw[show((a::aU).reverse.map Value.ref)=aU.reverse.map .ref++[.ref a] from by simp]
 have hl:(aU.reverse.map Value.ref).length=aU.length:=by simp
 unfold vE;rw[aR (by decide),bE (by rw[mL];simp;omega)]
 rw[show(((aU.reverse.map Value.ref++[Value.ref a]).length:Int)+-1).toNat=(aU.reverse.map Value.ref).length from by rw[mL];simp;omega]
 exact nh
theorem vg{QL:AH→Prop}{EL:EPost}(hn:3≤n){m:Nat}(hm:n=m+1):∀{k:Nat} {H:AH},OA S g ie m hd w QL EL k H→Sat S n hd (.ref 1082) [.ref g.aY,w] H (fun r H'=>QL H') EL:=by
 intro t8 H₀ h₀;subst hm;refine Mm ?_;unfold AS;refine⟨fun j us aE=>us=[.ref g.aY,w]∧OA S g ie m hd w QL EL j aE,t8,⟨rfl,h₀⟩,?_⟩
 rintro j H u1 u2 ⟨hu,h⟩
 cases hu;cases j with
 |zero=>
  obtain⟨nm,ds,val,b,rs,vv,ev,bT,lv,M,cl,hE⟩:=h;obtain⟨s,e,hs⟩:=M.aY;refine gA e rfl rfl rfl (fB M.iB (gA e rfl rfl rfl (Kq (cP ?_))));obtain⟨a,d,rfl,ha,gH⟩:=lv;exact eO ha rfl (cG (eE ⟨by show 2≤m;omega,rfl,eO ha rfl (eO ha rfl ⟨cl.clean,fun x hx=>hE x d hx gH⟩)⟩))
 |succ k=>
  obtain⟨a,aU,val,b,rs,vv,ev,bT,t,C,fs,f,hl,M,ha,hf,hc,hs⟩:=h;obtain⟨s,e,qt⟩:=M.aY;have fr:=M.iB;refine gA e rfl rfl rfl (fB fr (gA e rfl rfl rfl (Kq ?_)));rw[show(decide ((((a::aU).reverse.map Value.ref).length:Int) > 0))=true from by simp]
  refine eE (gA e rfl rfl rfl (ji fr rW (gM ha hf (cF hc (oM hs (fun r H' hr=>?_) fun _ _ h=>h)))))
  .rcases hr with ⟨rfl,hq⟩|⟨rfl,⟨val,b,rs,vv,ev,bT,M'⟩,hq⟩
   .exact eX (eE hq)
   .refine eX (cP ?_)
    obtain⟨s,e,qt⟩:=M'.aY;have hf:=M'.iB;rw[show((a::aU).reverse.map Value.ref)=aU.reverse.map .ref++[.ref a] from by simp] at hf
    refine gA e rfl rfl rfl (rF hf (Hh hf (by decide) ⟨k,by omega,rfl,hq _ (fun val b rs vv ev bT h=>h.ui (by have:=h.pg;simp at this;omega)) (.set hf rfl)⟩))
def qF(S:aN)(g:G)(ie:Int)(W:Goal)(n k:Nat)(x:Addr)(H:AH):Prop:=∃nm dl ds,(∃fs,H g.aY=some (.inst 2 1132 fs))∧H x=some (.exc 1 1 [.str nm 0,.ref dl])∧H dl=some (.list 1 ds)∧∀w H',nc H' w (.sig nm ds)→aD aJ H H'→Sat S n (some x) (.ref 1082) [.ref g.aY,w] H' (fun _ gJ=>Good S g ie W (n+1) k gJ) fun y gJ=>rM g ie W y gJ
theorem M6{k:Nat}(hn:2≤n){C:Addr}{fs:aB}{f:Addr}(M:ef g ie H (a::aU) val (k+1) rs vv ev bT)(ha:H a=some (.inst t C fs))(hC:C≠1132)(hf:gS.lookup (C,("step":Str))=some f)(hc:gT f=true)
  (h:∀H',ef g ie H' (a::aU) val k rs vv ev bT→aD (aG [2]) H H'→Sat S n none (.ref f) [.ref a,.ref g.aY] H' (fun _ gJ=>Good S g ie W (n+1) k gJ) (fun x gJ=>qF S g ie W n k x gJ)):Sat S (n+1) none (.ref 1101) [.ref g.aY] H (fun _ H'=>Good S g ie W (n+1) k H') (fun y H'=>rM g ie W y H'):=by
 refine Mj ?_;unfold AP;obtain⟨s,e,hs⟩:=M.aY;refine gA e rfl rfl rfl (gA e rfl rfl rfl (cGe ?_));rw[show(decide (s≥100000))=false from by simp;omega]
 refine cP (gA e rfl rfl rfl (pk (sA e rfl (by decide) (by simp) ⟨rfl,rfl,rfl,rfl,?_⟩)))
 have k0:aD (aG [2]) H (upd H g.aY (.inst 2 1132 (jS [.ref g.bH,.int 100000 0,.ref g.iB,.int 0 0,val,.int s 0,.ref g.iY] 5 (.int (s+1) 0)))):=.set e rfl;have M':ef g ie (upd H g.aY (.inst 2 1132 (jS [.ref g.bH,.int 100000 0,.ref g.iB,.int 0 0,val,.int s 0,.ref g.iY] 5 (.int (s+1) 0)))) (a::aU) val k rs vv ev bT:=
  ⟨M.fix.keep k0,⟨s+1,aA,by omega⟩,M.o9,k0 _ _ M.iB rfl,M.pg,let⟨as,a,b,c⟩:=M.rows;⟨as,k0 _ _ a rfl,b.keep k0,c⟩,M.vars.keep k0,M.names.keep k0,let⟨vs,a,b,c⟩:=M.fc;⟨vs,k0 _ _ a rfl,b.keep k0,c⟩⟩
 have na:a≠g.aY:=fun q=>by
  subst q;rw[e] at ha;cases ha;exact hC rfl
 have nR:upd H g.aY (.inst 2 1132 (jS [.ref g.bH,.int 100000 0,.ref g.iB,.int 0 0,val,.int s 0,.ref g.iY] 5 (.int (s+1) 0))) a=some (.inst t C fs):=by rw[aT na];exact ha
 have hh:=h _ M' k0;obtain⟨eH,Vr,Dd⟩:=M'.aY;refine gA Vr rfl rfl rfl (ji M'.iB rW (gM nR hf (cF hc (oM hh (fun _ _ h=>h) fun x gJ hx=>?_))))
 obtain⟨nm,dl,ds,⟨ms,hm⟩,Sx,Wu,Y3⟩:=hx;refine⟨⟨1,1,_,Sx⟩,gM hm rfl (Kl Sx rfl rfl (.inl rfl) (Kl Sx rfl rfl (.inr rfl) (nT 1 (by decide) (by simp) fun r hr=>cF rfl ?_)))⟩
 have k3:aD aJ gJ (upd gJ r (.tup 1 [.str "signal" 0,.str nm 0,.ref dl])):=.new hr;exact Y3 (.ref r) _ ⟨r,dl,rfl,aA,k3 _ _ Wu rfl⟩ k3
theorem ef.floor(h:ef g ie H aU val hU rs vv ev bT):∃fs:aB,H g.aY=some (.inst 2 1132 fs)∧upd H g.aY (.inst 2 1132 (jS fs 3 (.int 0 0)))=H∧3≤fs.length∧fs[6]?=some (.ref g.iY)∧fs[4]?=some val∧fs[2]?=some (.ref g.iB)∧fs[3]?=some (.int 0 0):=by
 obtain⟨s,e,hs⟩:=h.aY;exact⟨_,e,Dq e,by simp,rfl,rfl,rfl,rfl⟩
theorem JN:∀t,t < 2∨(60≤t∧t < 100)→aG [4,5] t=false:=fun t h=>by
 unfold aG;rw[jl];intro q
 have:=fM.mp q
 simp at this;omega
theorem Rb{m:Nat}(hn:n=m+1)(hm:4≤m)(M:ef g ie H [] val hU [] vv ev bT)(gz:ie≠36)(cl:eT hd H)(Gw:hd=none)
  (h:∀H',ef g ie H' [a] val hU [] vv ev bT→aD (aG [3]) H H'→Good S g ie W m hU H')
  (q:∀val b vv ev bT H',ef g ie H' [] val b [] vv ev bT→W.PV val vv bT→W.at H'→Q val H')
  (hE:∀x k nm dl ds val b vv ev bT H',H' x=some (.exc 1 k [.str nm 0,.ref dl])→H' dl=some (.list 1 ds)→W.PE nm ds vv bT→W.at H'→ef g ie H' [] val b [] vv ev bT→E x H'):Sat S n hd (.ref 1108) [.ref g.aY,.ref a] H Q E:=by
 subst hn Gw;refine Mi ?_;unfold AN;obtain⟨s,e,hs⟩:=M.aY;have F:=M.fix;refine gA e rfl rfl rfl (gA e rfl rfl rfl (gM F.iY rfl (cF rfl (j3 (show 1≤m by omega) M ?_))))
 show bM H [.int 0 0,.int 0 0] _;refine nT 1 (by decide) (by simp) fun r hr=>?_
 have k0:aD aJ H (upd H r (.tup 1 [.int 0 0,.int 0 0])):=.new hr;refine GF aA rfl (cl.keep k0).clean ⟨rfl,rfl,nC ?_⟩;have M0:=M.keep k0;obtain⟨fs,e0,e1,e2,e3,e4,e5,e6⟩:=M0.floor;refine gA e0 rfl e5 rfl (fB M0.iB ?_);show bU _ (.ref g.aY) "floor" (.int 0 0) _;refine sA e0 rfl (by decide) e2 ?_
 rw[e1];refine gA e0 rfl e6 rfl (gM e0 rfl (cF rfl (j0 (show 1≤m by omega) M0 (by simp) fun aE d8 k₁=>⟨rfl,?_⟩)))
 have hg:=h aE d8 ((k0.mono fun _ _=>rfl).trans k₁)
 have fin:∀{H:AH} {val:aC} {b:Nat} {vv ev:aC} {bT:cO},ef g ie H [] val b [] vv ev bT→W.PV val vv bT→W.at H→bU H (.ref g.aY) "floor" (.int 0 0) fun H=>aL H (.ref g.aY) "stack" fun Xp=>getM H Xp "unbind_to" fun f52 XU=>cV ⟨S,m,none⟩ H f52 (XU++[.int 0 0]) (fun v50 H=>aL H (.ref g.aY) "value" fun Xo=>Q Xo H) fun x51 H=>False:=fun{H val b vv ev bT} M hp hw=>by
  obtain⟨fs,e0,e1,e2,e3,e4,e5,e6⟩:=M.floor;refine sA e0 rfl (by decide) e2 ?_
  rw[e1];refine gA e0 rfl e3 rfl (gM M.fix.iY rfl (cF rfl (fF (xs:=[]) (rs:=[]) (show 3≤m by omega) M gz fun H' M' k' _=>?_)))
  obtain⟨fs,e0,e1,e2,e3,e4,e5,e6⟩:=M'.floor;exact gA e0 rfl e4 M'.o9 (q _ _ _ _ _ _ M' hp (Goal.keep hw k' JN))
 refine⟨fun j us H=>us=[.ref g.aY,.ref a,.int 0 0,.int 0 0,.int 0 0]∧Good S g ie W m j H,hU,⟨rfl,hg⟩,?_⟩
 rintro j H u1 u2 u3 u4 u5 ⟨hu,hG⟩
 cases hu;have done:(∃val b vv ev bT,ef g ie H [] val b [] vv ev bT∧W.PV val vv bT∧W.at H)∨(∃k a aU val rs vv ev bT,j=k+1∧ef g ie H (a::aU) val (k+1) rs vv ev bT∧Sat S m none (.ref 1101) [.ref g.aY] H (fun _ H'=>Good S g ie W m k H') (fun y H'=>rM g ie W y H')):=by
  cases j with
  |zero=>exact .inl hG
  |succ k=>exact hG.imp id fun⟨a,aU,val,rs,vv,ev,bT,x⟩=>⟨k,a,aU,val,rs,vv,ev,bT,rfl,x⟩
 rcases done with ⟨val,b,vv,ev,bT,M,hp,hw⟩|⟨k,a',aU,val,rs,vv,ev,bT,rfl,M,st⟩
 .obtain⟨fs,e0,e1,e2,e3,e4,e5,e6⟩:=M.floor
  exact gA e0 rfl e5 rfl (fB M.iB (Kq (cP (fin M hp hw))))
 .obtain⟨fs,e0,e1,e2,e3,e4,e5,e6⟩:=M.floor
  refine gA e0 rfl e5 rfl (fB M.iB (Kq ?_));rw[show(decide ((((a'::aU).reverse.map Value.ref).length:Int) > 0))=true from by simp]
  refine eE (gM e0 rfl (cF rfl (oM st (fun _ H' hg=>⟨k,by omega,rfl,hg⟩) fun y H' hx=>?_)))
  obtain⟨kk,nm,dl,ds,val,b,rs,vv,ev,bT,hy,hk,pO,M',Zq,hw⟩:=hx;refine⟨1,kk,_,hy,hk,?_⟩;have dy:=M'.Vv hy;unfold jn;obtain⟨fs,e0,e1,e2,e3,e4,e5,e6⟩:=dy.floor;refine sA e0 rfl (by decide) e2 ?_
  rw[e1];refine gA e0 rfl e3 rfl (gM dy.fix.iY rfl (cF rfl (fF (xs:=rs) (rs:=[]) (show 3≤m by omega) (by rw[gE];exact dy) gz fun aO fo nZ OB=>⟨rfl,?_⟩)))
  have Sy:W.at (del _ y):=fun p hp=>by
   have:p.1≠y:=fun q=>by have:=hw p hp;rw[q,hy] at this;exact(W.ok p hp).2 _ _ _ (gZ this).symm
   rw[EP this];exact hw p hp
  have V6:dl≠y:=fun q=>by subst q;rw[hy] at pO;cases pO
  have Vb:aO dl=some (.list 1 ds):=nZ _ _ (by rw[EP V6];exact pO) rfl
  refine hE y kk nm dl ds val b _ _ bT _ aA (by rw[aT V6];exact Vb) Zq (Goal.keep (M:=aJ) (Goal.keep Sy nZ JN) (.new (OB _ (bE rfl))) fun _ _=>rfl) (fo.keep (M:=aJ) (.new (OB _ (bE rfl))))
mutual
inductive Fm where
 |note (k:Int)
 |sig (c:Nat) (k:Int)
 |fS (t k:Int)
 |fN (fs:gU)
 |eR (t:Int) (f:Fm)
 |unwind (f g:Fm)
 |iV (k:Int) (f:Fm)
 |case (f:Fm) (rs:gm)
inductive gU where
 |nil
 |cons (f:Fm) (r:gU)
inductive gm where
 |nil
 |cons (cs:fu) (f:Fm) (r:gm)
end
def sP:bW:=(["error","quit","void-variable","wrong","far-wrong","end-of-buffer"]:List String).map Str.ofString
def eW(c:Nat):Str:=sP.getD c "error"
def cY(nm:Str):bW:=if nm="wrong" then["wrong","error"] else if nm="far-wrong" then["far-wrong","wrong","error"] else if nm="error" then["error"] else if nm="quit" then["quit"] else[nm,"error"]
def takes(cs:fu)(nm:Str):Bool:=cs.any fun c=>(cY nm).contains (eW c)
inductive Out where
 |val (k:Int)
 |sig (nm:Str) (ds:bQ)
 |fS (t k:Int)
def lJ(nm:Str)(ds:bQ):PyData:=.tuple (.str nm::ds.map .int)
def Out.seq(p:Out×cO)(f:Int→Out×cO):Out×cO:=match p with
 |(.val k,ns)=>((f k).1,ns++(f k).2)
 |(.sig nm ds,ns)=>(.sig nm ds,ns)
 |(.fS t k,ns)=>(.fS t k,ns)
mutual
def bG(aI:bQ):Fm→Out×cO
 | .note k=>(.val k,[.int k])
 | .sig c k=>(.sig (eW c) [k],[])
 | .fS t k=>(if aI.contains t then .fS t k else .sig "no-catch" [t,k],[])
 | .fN fs=>fb aI 0 fs
 | .eR t f=>match bG (aI++[t]) f with
  |(.fS t' k,ns)=>(if t'=t then .val k else .fS t' k,ns)
  |p=>p
 | .unwind f g=>match(bG aI g).1 with
  | .val _=>((bG aI f).1,(bG aI f).2++(bG aI g).2)
  |o=>(o,(bG aI f).2++(bG aI g).2)
 | .iV k f=>Out.seq (bG aI f) fun _=>(.val k,[])
 | .case f rs=>match bG aI f with
  |(.sig nm ds,ns)=>gB aI nm ds ns rs
  |p=>p
def fb(aI:bQ)(k:Int):gU→Out×cO
 | .nil=>(.val k,[])
 | .cons f r=>match bG aI f with
  |(.val k',ns)=>((fb aI k' r).1,ns++(fb aI k' r).2)
  |p=>p
def gB(aI:bQ)(nm:Str)(ds:bQ)(ns:cO):gm→Out×cO
 | .nil=>(.sig nm ds,ns)
 | .cons cs f r=>if takes cs nm then((bG aI f).1,ns++lJ nm ds::(bG aI f).2) else gB aI nm ds ns r
end
mutual
def cost:Fm→Nat
 | .note _=>3
 | .sig _ _=>4
 | .fS _ _=>4
 | .fN fs=>ft fs+1
 | .eR _ f=>cost f+3
 | .unwind f g=>cost f+cost g+4
 | .iV _ f=>cost f+7
 | .case f rs=>cost f+fA rs+2
def ft:gU→Nat
 | .nil=>0
 | .cons f r=>cost f+ft r+1
def fA:gm→Nat
 | .nil=>0
 | .cons _ f r=>cost f+fA r+9
end
mutual
def fP:Fm→Nat
 | .note _=>0
 | .sig _ _=>0
 | .fS _ _=>0
 | .fN fs=>kS fs+1
 | .eR _ f=>fP f+1
 | .unwind f g=>max (fP f) (fP g)+1
 | .iV _ f=>fP f+1
 | .case f rs=>max (fP f) (kU rs)+1
def kS:gU→Nat
 | .nil=>0
 | .cons f r=>max (fP f) (kS r)
def kU:gm→Nat
 | .nil=>0
 | .cons _ f r=>max (fP f) (kU r)
end
def sD(H:AH):aB→bW→Prop
 |[],[]=>True
 |v::vs,n::ns=>(∃i:Int,2≤i∧Sym H v i n)∧sD H vs ns
 |_,_=>False
def Wt(H:AH)(cs:fu)(w:aC):Prop:=match cs with
 |[]=>False
 |[c]=>∃i:Int,2≤i∧Sym H w i (eW c)
 |cs=>∃ss,RL H w ss∧sD H ss (cs.map eW)
mutual
def RF(H:AH)(ie:Int):Fm→aC→Prop
 | .note k,v=>∃h,Sym H h 30 "note"∧RL H v [h,.int k 0]
 | .sig c k,v=>∃h q1 q2 s d,Sym H h 25 "signal"∧RL H v [h,q1,q2]∧(∃q,Sym H q 2 "quote"∧RL H q1 [q,s])∧(∃i:Int,2≤i∧Sym H s i (eW c))∧(∃q,Sym H q 2 "quote"∧RL H q2 [q,d])∧RL H d [.int k 0]
 | .fS t k,v=>∃h,Sym H h 24 "throw"∧RL H v [h,.int t 0,.int k 0]
 | .fN fs,v=>∃h vs,Sym H h 4 "progn"∧RL H v (h::vs)∧nS H ie fs vs∧2≤vs.length∧vs.length≤10
 | .eR t f,v=>∃h w,Sym H h 17 "catch"∧RL H v [h,.int t 0,w]∧RF H ie f w∧smallInt t=true
 | .unwind f g,v=>∃h w1 w2,Sym H h 18 "unwind-protect"∧RL H v [h,w1,w2]∧RF H ie f w1∧RF H ie g w2
 | .iV k f,v=>∃h b p w s s',Sym H h 15 "let"∧RL H v [h,b,w,s]∧RL H b [p]∧RL H p [s',.int k 0]∧Sym H s 36 "v"∧Sym H s' 36 "v"∧RF H ie f w
 | .case f rs,v=>∃h e w ws,Sym H h 19 "condition-case"∧RL H v (h::e::w::ws)∧Sym H e ie "e"∧RF H ie f w∧pQ H ie rs ws∧ws.length≤10
def nS(H:AH)(ie:Int):gU→aB→Prop
 | .nil,vs=>vs=[]
 | .cons f r,vs=>∃w ws,vs=w::ws∧RF H ie f w∧nS H ie r ws
def pQ(H:AH)(ie:Int):gm→aB→Prop
 | .nil,vs=>vs=[]
 | .cons cs f r,vs=>∃w ws wt nt b h e,vs=w::ws∧RL H w [wt,nt,b]∧(Wt H cs wt∧cs.length≤10)∧RL H nt [h,e]∧Sym H h 30 "note"∧Sym H e ie "e"∧RF H ie f b∧pQ H ie r ws
end
theorem sD.keep(k:aD M H H')(m0:M 0=false)(m1:M 1=false):∀{vs:aB} {ns:bW},sD H vs ns→sD H' vs ns
 |[],[],_=>trivial
 |_::_,_::_,⟨⟨i,h,a⟩,c⟩=>⟨⟨i,h,a.keep k m1 m0⟩,sD.keep k m0 m1 c⟩
 |[],_::_,h=>h.elim
 |_::_,[],h=>h.elim
theorem Wt.keep(k:aD M H H')(m0:M 0=false)(m1:M 1=false):∀{cs:fu} {w:aC},Wt H cs w→Wt H' cs w
 |[],_,h=>h.elim
 |[_],_,⟨i,h,a⟩=>⟨i,h,a.keep k m1 m0⟩
 |_::_::_,_,⟨ss,a,b⟩=>⟨ss,a.keep k m1,b.keep k m0 m1⟩
mutual
theorem RF.keep(k:aD M H H')(m0:M 0=false)(m1:M 1=false):∀(f:Fm) {v:aC},RF H ie f v→RF H' ie f v
 | .note _,_,h=>by
  unfold RF at h⊢;obtain⟨h,a,b⟩:=h;exact⟨h,a.keep k m1 m0,b.keep k m1⟩
 | .sig _ _,_,h=>by
  unfold RF at h⊢;obtain⟨h,q1,q2,s,d,a,b,⟨q,c1,c2⟩,⟨i,i2,e⟩,⟨q',d1,d2⟩,f⟩:=h;exact⟨h,q1,q2,s,d,a.keep k m1 m0,b.keep k m1,⟨q,c1.keep k m1 m0,c2.keep k m1⟩,⟨i,i2,e.keep k m1 m0⟩,⟨q',d1.keep k m1 m0,d2.keep k m1⟩,f.keep k m1⟩
 | .fS _ _,_,h=>by
  unfold RF at h⊢;obtain⟨h,a,b⟩:=h;exact⟨h,a.keep k m1 m0,b.keep k m1⟩
 | .fN fs,_,h=>by
  unfold RF at h⊢;obtain⟨h,vs,a,b,c,d⟩:=h;exact⟨h,vs,a.keep k m1 m0,b.keep k m1,nS.keep k m0 m1 fs c,d⟩
 | .eR _ f,_,h=>by
  unfold RF at h⊢;obtain⟨h,w,a,b,c,d⟩:=h;exact⟨h,w,a.keep k m1 m0,b.keep k m1,RF.keep k m0 m1 f c,d⟩
 | .unwind f g,_,h=>by
  unfold RF at h⊢;obtain⟨h,w1,w2,a,b,c,d⟩:=h;exact⟨h,w1,w2,a.keep k m1 m0,b.keep k m1,RF.keep k m0 m1 f c,RF.keep k m0 m1 g d⟩
 | .iV _ f,_,h=>by
  unfold RF at h⊢;obtain⟨h,b,p,w,s,s',a,x1,x2,x3,x4,x5,c⟩:=h;exact⟨h,b,p,w,s,s',a.keep k m1 m0,x1.keep k m1,x2.keep k m1,x3.keep k m1,x4.keep k m1 m0,x5.keep k m1 m0,RF.keep k m0 m1 f c⟩
 | .case f rs,_,h=>by
  unfold RF at h⊢;obtain⟨h,e,w,ws,a,b,c,d,x,y⟩:=h;exact⟨h,e,w,ws,a.keep k m1 m0,b.keep k m1,c.keep k m1 m0,RF.keep k m0 m1 f d,pQ.keep k m0 m1 rs x,y⟩
theorem nS.keep(k:aD M H H')(m0:M 0=false)(m1:M 1=false):∀(f:gU) {v:aB},nS H ie f v→nS H' ie f v
 | .nil,_,h=>by unfold nS at h⊢;exact h
 | .cons f r,_,h=>by
  unfold nS at h⊢;obtain⟨w,ws,e,a,b⟩:=h;exact⟨w,ws,e,RF.keep k m0 m1 f a,nS.keep k m0 m1 r b⟩
theorem pQ.keep(k:aD M H H')(m0:M 0=false)(m1:M 1=false):∀(f:gm) {v:aB},pQ H ie f v→pQ H' ie f v
 | .nil,_,h=>by unfold pQ at h⊢;exact h
 | .cons cs f r,_,h=>by
  unfold pQ at h⊢;obtain⟨w,ws,wt,nt,b,h,e,x1,x2,x3,x4,x5,x6,x7,x8⟩:=h;exact⟨w,ws,wt,nt,b,h,e,x1,x2.keep k m1,⟨x3.1.keep k m0 m1,x3.2⟩,x4.keep k m1,x5.keep k m1 m0,x6.keep k m1 m0,RF.keep k m0 m1 f x7,pQ.keep k m0 m1 r x8⟩
end
theorem ju.keep{f v:aC}(h:ju H f v)(k:aD M H H')(m1:M 1=false):ju H' f v:=by
 obtain⟨fa,c',d,fd,oc,us,tt,q,e,a,b,c,r⟩:=h;exact⟨fa,c',d,fd,oc,us,tt,q,e,k _ _ a m1,k _ _ b m1,k _ _ c m1,r⟩
def sR(g:G)(H:AH)(i:Int)(w:Addr)(lo hi:Int):Prop:=∃f nm,FnAt H g.fns i f 458 [.str nm 0,.int lo 0,.int hi 0,.ref w]
def BC(g:G)(H:AH)(i:Int)(w:Addr)(lo hi:Int):Prop:=∃f nm,FnAt H g.fns i f 418 [.str nm 0,.int lo 0,.int hi 0,.ref w]
def qQ(g:G)(H:AH)(v:aC)(Gn:bW):Prop:=∃a d bG rest xs,v=.ref a∧H a=some (.inst 64 119 [.ref g.vL,.ref d])∧H d=some (.inst 64 119 [bG,rest])∧handedIn rest=true∧RL H bG xs∧sD H xs Gn∧xs.length≤10
structure Kr(g:G)(H:AH):Prop where
 tab:∃es,H g.eJ=some (.aX 63 es)∧(∃v,valueAt es 33=some v∧qQ g H v ["wrong","error"])∧(∃v,valueAt es 35=some v∧qQ g H v ["far-wrong","wrong","error"])∧∀i,i≠33→i≠35→valueAt es i=none
structure Wd(g:G)(H:AH):Prop where
 quote:sR g H 2 1157 1 1
 fN:sR g H 4 1150 0 (-1)
 iV:sR g H 15 1444 1 (-1)
 eR:sR g H 17 1582 1 (-1)
 unwind:sR g H 18 1622 1 (-1)
 case:sR g H 19 1695 2 (-1)
 throw:BC g H 24 1742 2 2
 xV:BC g H 25 1749 2 2
 note:∃f dd,FnAt H g.fns 30 f 183 [.int 1 0,.str "note" 0,.int 1 0,.int 1 0,dd]∧ju H dd (.ref g.fc)∧handedIn dd=true
 VZ:Kr g H
theorem sR.keep{i lo hi:Int}{w:Addr}(h:sR g H i w lo hi)(k:aD M H H')(m1:M 1=false)(m2:M 62=false):sR g H' i w lo hi:=let⟨f,nm,a⟩:=h;⟨f,nm,a.keep k m1 m2⟩
theorem BC.keep{i lo hi:Int}{w:Addr}(h:BC g H i w lo hi)(k:aD M H H')(m1:M 1=false)(m2:M 62=false):BC g H' i w lo hi:=let⟨f,nm,a⟩:=h;⟨f,nm,a.keep k m1 m2⟩
theorem qQ.keep{v:aC}{Gn:bW}(h:qQ g H v Gn)(k:aD M H H')(m0:M 0=false)(m1:M 1=false)(m2:M 64=false):qQ g H' v Gn:=
 let⟨a,d,bG,rest,xs,e,h1,h2,h3,h4,h5,h6⟩:=h;⟨a,d,bG,rest,xs,e,k _ _ h1 m2,k _ _ h2 m2,h3,h4.keep k m1,h5.keep k m0 m1,h6⟩
theorem Wd.keep(h:Wd g H)(k:aD M H H')(m0:M 0=false)(m1:M 1=false)(m2:M 62=false)(m3:M 63=false)(m4:M 64=false):Wd g H':=
 ⟨h.quote.keep k m1 m2,h.fN.keep k m1 m2,h.iV.keep k m1 m2,h.eR.keep k m1 m2,h.unwind.keep k m1 m2,h.case.keep k m1 m2,h.throw.keep k m1 m2,h.xV.keep k m1 m2,
  let⟨f,dd,a,b,c⟩:=h.note;⟨f,dd,a.keep k m1 m2,b.keep k m1,c⟩,
  ⟨let⟨es,a,⟨v,b1,b2⟩,⟨w,c1,c2⟩,d⟩:=h.VZ.tab;⟨es,k _ _ a m3,⟨v,b1,b2.keep k m0 m1 m4⟩,⟨w,c1,c2.keep k m0 m1 m4⟩,d⟩⟩⟩
def gw(k t:Nat):Bool:=(Nat.ble 2 t&&Nat.blt t 60)||Nat.ble (2 * k+100) t
theorem fg{k t:Nat}(h:t < 2∨(60≤t∧t < 2 * k+100)):gw k t=false:=by
 unfold gw;rw[qU,Bool.and_eq_false_iff];refine⟨?_,?_⟩
 .rcases h with h|⟨h,_⟩
  .left;rw[jl];exact fun e=>by have:=pC e;omega
  .right;rw[jl];exact fun e=>by have:=pC e;omega
 .rw[jl];exact fun e=>by have:=pC e;omega
theorem Jx{k t:Nat}(h:(2≤t∧t < 60)∨2 * k+100≤t):gw k t=true:=by
 unfold gw;rcases h with ⟨h1,h2⟩|h
 .rw[yg h1,show Nat.blt t 60=true from yg h2];rfl
 .rw[yg h];exact Bool.or_true _
theorem Lk{k j:Nat}(h:k≤j)(t:Nat)(e:gw k t=false):gw j t=false:=by
 refine fg ?_
 by_cases h1:(2≤t∧t < 60)∨2 * k+100≤t
 .rw[Jx h1] at e;cases e
 .omega
variable{k j:Nat}
theorem aD.up(h:aD (gw j) H H')(l:k≤j):aD (gw k) H H':=h.mono (Lk l)
theorem aD.of{l:fu}(h:aD (aG l) H H')(hl:∀t∈l,(2≤t∧t < 60)∨2 * k+100≤t):aD (gw k) H H':=h.mono fun t e=>by
 unfold aG;rw[jl];intro q;rw[Jx (hl t (fM.mp q))] at e;cases e
theorem aD.of0(h:aD aJ H H'):aD M H H':=h.mono fun _ _=>rfl
theorem hX:gw k 0=false:=fg (by omega)
theorem eY:gw k 1=false:=fg (by omega)
theorem Wd.kept(h:Wd g H)(c:aD (gw k) H H'):Wd g H':=h.keep c hX eY (fg (by omega)) (fg (by omega)) (fg (by omega))
theorem RF.kept{f:Fm}{v:aC}{ie:Int}(h:RF H ie f v)(c:aD (gw k) H H'):RF H' ie f v:=RF.keep c hX eY f h
def ik(H:AH):List Addr→List (Option Int)→Prop
 |[],[]=>True
 |a::as,o::os=>(∃C fs,H a=some (.inst (2 * as.length+100) C fs)∧match o with
   |some t=>C=1573∧smallInt t=true∧∃b d,fs=[b,d,.int t 0]
   |none=>gS.lookup (C,("wants":Str))=some 786)∧ik H as os
 |_,_=>False
theorem ik.keep:∀{k:Nat} {as:List Addr} {os:List (Option Int)},as.length≤k→ik H as os→aD (gw k) H H'→ik H' as os
 |_,[],[],_,_,_=>trivial
 |k,a::as,o::os,hl,⟨⟨C,fs,h,r⟩,q⟩,c=>⟨⟨C,fs,c _ _ h (fg (.inr ⟨by show 60≤2 * as.length+100;omega,by show 2 * as.length+100 < 2 * k+100;simp at hl;omega⟩)),r⟩,ik.keep (by simp at hl;omega) q c⟩
 |_,[],_::_,_,h,_=>h.elim
 |_,_::_,[],_,h,_=>h.elim
variable{l:Addr}{i:Int}
theorem y9(hn:3≤n)(h:ef g ie H aU val hU rs vv ev bT){b:Bool}(hs:Sym H w (mr ie b) nm)(qI:nm∈cK)(hi:2≤mr ie b){k:Int}(hv:getVar b (vv,ev)=.int k 0∨∃c,getVar b (vv,ev)=.ref c)(q:∀H',aD aJ H H'→Q (getVar b (vv,ev)) H'):Sat S n hd (.ref 1019) [.ref g.aY,w] H Q E:=by
 obtain⟨m,rfl,hm⟩:=dN hn;obtain⟨kw,kl⟩:=Ba qI;refine Mp ?_;unfold AW;refine cF rfl (mV (show 2≤m by omega) hs hi kw kl fun aE k₁=>eX (cP ?_))
 have h1:=h.keep k₁;obtain⟨s,e,qt⟩:=h1.aY;obtain⟨es,d1,d2,d3,d4,d5⟩:=h1.vars.tab;obtain⟨a,t,rfl,ht,ha⟩:=hs.keep k₁;refine gA e rfl rfl rfl (gA h1.fix.bH rfl rfl rfl (gA e rfl rfl rfl (gM h1.fix.bH rfl (cF rfl (JT (show 1≤m by omega) h1.fix (gA ha rfl rfl rfl (cF rfl (za hm h1.fix d1 ?_))))))))
 rw[h1.vars.get b d1];rcases hv with hv|⟨c,hv⟩<;>rw[hv] at q⊢<;>exact oY rfl (cP (q _ k₁))
theorem nK(hn:2≤n)(h:ef g ie H aU val hU rs vv ev bT){k:Int}(q:∀H',ef g ie H' aU (.int k 0) hU rs vv ev bT→aD (aG [2]) H H'→Q .none H'):Sat S n hd (.ref 1033) [.ref g.aY,.int k 0] H Q E:=by
 obtain⟨m,rfl,hm⟩:=dN hn;refine yc ?_;unfold qx;obtain⟨s,e,qt⟩:=h.aY;exact cU rfl rfl (eX (cP (cU rfl rfl (eX (cP (gM e rfl (cF rfl (uF hm h rfl q))))))))
theorem nJ(hn:4≤n)(h:ef g ie H aU val hU rs vv ev bT){b:Bool}(hs:Sym H w (mr ie b) nm)(qI:nm∈cK)(hi:2≤mr ie b){k:Int}(hv:getVar b (vv,ev)=.int k 0∨∃c,getVar b (vv,ev)=.ref c)(q:∀H',ef g ie H' aU (getVar b (vv,ev)) hU rs vv ev bT→aD (aG [2]) H H'→Q .none H'):Sat S n hd (.ref 1033) [.ref g.aY,w] H Q E:=by
 obtain⟨m,rfl,hm⟩:=dN hn;refine yc ?_;unfold qx;obtain⟨s,e,qt⟩:=h.aY;obtain⟨a,t,rfl,ht,ha⟩:=id hs;refine cU rfl (jP ha rfl) (eX (eE (gM e rfl (gM e rfl (cF rfl (y9 hm h hs qI hi hv fun aE k₁=>cF rfl (uF (show 1≤m by omega) (h.keep k₁) ?_ fun aH h2 k₂=>q aH h2 (k₁.of0.trans k₂))))))))
 rcases hv with hv|⟨c,hv⟩<;>rw[hv]<;>rfl
theorem kc(hn:3≤n)(nn:mD H)(cl:eT hd H)(hr:RL H v xs)(hz:xs.length≤1000000)(q:∀l H',H' l=some (.list 1 xs)→aD aJ H H'→Q (.ref l) H'):Sat S n hd (.ref 1040) [w,v] H Q E:=by
 obtain⟨m,rfl,hm⟩:=dN hn;refine Mo ?_;unfold AV;exact cF rfl (j9 hm nn cl hr hz fun l H' h k=>oY rfl (cP (q l H' h k)))
theorem eG(hn:4≤n)(h:ef g ie H aU val hU rs vv ev bT)(cl:eT hd H){hv:aC}(hr:RL H v (hv::xs))(hz:xs.length≤1000000)(q:∀m l H',n=m+1→ef g ie H' aU val hU rs vv ev bT→H' l=some (.list 1 xs)→aD aJ H H'→Sat S m hd (.ref 1047) [.ref g.aY,hv,.ref l] H' (fun _ H'=>Q .none H') E):Sat S n hd (.ref 1033) [.ref g.aY,v] H Q E:=by
 obtain⟨m,rfl,hm⟩:=dN hn;refine yc ?_;unfold qx;obtain⟨s,e,qt⟩:=h.aY;obtain⟨a,d,rfl,ha,hh,hr⟩:=hr;exact cU rfl (jP ha rfl) (eX (cP (cU rfl (jP ha rfl) (eX (eE (gM e rfl (gA ha rfl rfl hh (gM e rfl (gA ha rfl rfl hr.handed (cF rfl (kc hm h.fix.nil cl hr hz fun l H' hl k=>cF rfl (q m l H' rfl (h.keep k) hl k))))))))))))
theorem qr(hn:2≤n){f:Addr}{lo hi:Int}{wk:Addr}(hw:gT wk=true){nm:aC}(hf:H f=some (.inst 1 458 [nm,.int lo 0,.int hi 0,.ref wk]))(hl:H l=some (.list t xs))(hc:(decide (lo≤(xs.length:Int))&&(hi==-1||decide ((xs.length:Int)≤hi)))=true)(q:∀m,n=m+1→Sat S m hd (.ref wk) [w,.ref l] H (fun _ H'=>Q .none H') E):Sat S n hd (.ref 455) [.ref f,w,.ref l] H Q E:=by
 obtain⟨m,rfl,hm⟩:=dN hn;refine Qf ?_;unfold DU jn;refine fB hl (gA hf rfl rfl rfl (gA hf rfl rfl rfl (cF rfl (kh hm ?_))));rw[hc];exact eX (cP (Tj hf rfl rfl rfl rfl (cF hw (q m rfl))))
theorem sr(hn:2≤n){f:Addr}{lo hi:Int}{wk:Addr}(hw:gT wk=true){nm:aC}(hf:H f=some (.inst 1 418 [nm,.int lo 0,.int hi 0,.ref wk]))(hl:H l=some (.list t xs))(hc:(decide (lo≤(xs.length:Int))&&(hi==-1||decide ((xs.length:Int)≤hi)))=true)(q:∀m,n=m+1→Sat S m hd (.ref wk) [w,.ref l] H (fun _ H'=>Q .none H') E):Sat S n hd (.ref 415) [.ref f,w,.ref l] H Q E:=by
 obtain⟨m,rfl,hm⟩:=dN hn;refine Qh ?_;unfold DW jn;refine fB hl (gA hf rfl rfl rfl (gA hf rfl rfl rfl (cF rfl (kh hm ?_))));rw[hc];exact eX (cP (Tj hf rfl rfl rfl rfl (cF hw (q m rfl))))
theorem fx(hn:4≤n)(h:ef g ie H aU val hU rs vv ev bT)(hs:Sym H w i nm)(Om:i≠0){lo hi:Int}{wk:Addr}(hf:sR g H i wk lo hi)(hw:gT wk=true)(hl:H l=some (.list 1 xs))(hc:(decide (lo≤(xs.length:Int))&&(hi==-1||decide ((xs.length:Int)≤hi)))=true)
  (q:∀m,n=m+2→Sat S m hd (.ref wk) [.ref g.aY,.ref l] H (fun _ H'=>Q .none H') E):Sat S n hd (.ref 1047) [.ref g.aY,w,.ref l] H Q E:=by
 obtain⟨m,rfl,hm⟩:=dN hn;refine Ex ?_;unfold uU jn;obtain⟨s,e,qt⟩:=h.aY;obtain⟨a,t,rfl,ht,ha⟩:=id hs;obtain⟨f,Tn,hf⟩:=hf;refine cU rfl (jP ha rfl) (eX (eE (gA e rfl rfl rfl (gA h.fix.bH rfl rfl rfl (gM h.fix.cells rfl (cF rfl (nM (show 2≤m by omega) h.fix hs Om hf rfl rfl ?_)))))))
 exact cU rfl (jP hf.fn rfl) (eX (eE (gM hf.fn rfl (cF rfl (qr (show 2≤m by omega) hw hf.fn hl hc fun m' qJ=>q m' (by omega))))))
theorem mi(hn:4≤n)(h:ef g ie H aU val hU rs vv ev bT)(hs:Sym H w i nm)(hi:i≠0){f C:Addr}{fs:aB}(hf:FnAt H g.fns i f C fs)(hC:C=418∨C=183)(hl:H l=some (.list 1 xs))(hk:aU.length < 1000)
  (q:∀a fl H',ef g ie H' (a::aU) val hU rs vv ev bT→H' a=some (.inst (2 * aU.length+100) 869 [w,.ref l,.ref fl,.bool false])→H' fl=some (.list (2 * aU.length+101) [])→aD (aG [3]) H H'→Q .none H'):Sat S n hd (.ref 1047) [.ref g.aY,w,.ref l] H Q E:=by
 obtain⟨m,rfl,hm⟩:=dN hn;refine Ex ?_;unfold uU jn;obtain⟨s,e,qt⟩:=h.aY;obtain⟨a,t,rfl,ht,ha⟩:=id hs;have c1:jZ.contains C=true:=by rcases hC with rfl|rfl<;>rfl
 have c2:xE (.ref C) (.ref 92)=false:=by rcases hC with rfl|rfl<;>rfl
 have c3:xE (.ref C) (.ref 458)=false:=by rcases hC with rfl|rfl<;>rfl
 have c4:xE (.ref C) (.ref 119)=false:=by rcases hC with rfl|rfl<;>rfl
 refine cU rfl (jP ha rfl) (eX (eE (gA e rfl rfl rfl (gA h.fix.bH rfl rfl rfl (gM h.fix.cells rfl (cF rfl (nM (show 2≤m by omega) h.fix hs hi hf c1 c2 ?_)))))))
 refine cU rfl (jP hf.fn c1) ?_;rw[c3];refine eX (cP (cF rfl (vz (show 1≤m by omega) (jP hf.fn c1) c4 (eX (cP (gM e rfl (h9 (2 * aU.length+100) (by simp) (fI:=859) rfl rfl (show 2≤m by omega) fun x k qu hx=>?_)))))))
 refine PW ?_;unfold DE;refine sA aA rfl (by simp) aF ?_
 rw[bF];refine sA aA rfl (by simp) aF ?_
 rw[bF];refine nL (2 * aU.length+101) (by simp) (g6 _) fun fl jR=>?_
 have nx:x≠fl:=fun q=>by subst q;rw[aA] at jR;cases jR
 refine sA (by rw[aT nx,aA]) rfl (by simp) aF ?_
 refine sA aA rfl (by simp) aF ?_
 rw[bF];have k0:aD aJ H (upd (upd (upd H x (.inst (2 * aU.length+100) 869 [.ref a,.ref l])) fl (.list (2 * aU.length+101) [])) x (.inst (2 * aU.length+100) 869 [.ref a,.ref l,.ref fl,.bool false])):=fun b o hb _=>by
  have n1:b≠x:=fun q=>by subst q;rw[hx] at hb;cases hb
  have n2:b≠fl:=fun q=>by subst q;rw[aT nx.symm,hb] at jR;cases jR
  rw[aT n1,aT n2,aT n1];exact hb
 refine⟨rfl,cF rfl (j0 (show 1≤m by omega) (h.keep k0) hk fun aH h2 k2=>q x fl aH h2 (k2 _ _ aA ?_) (k2 _ _ (by rw[aT nx.symm,aA]) ?_) (k0.of0.trans k2))⟩
 .show aG [3] (2 * aU.length+100)=false
  unfold aG;simp
 .show aG [3] (2 * aU.length+101)=false
  unfold aG;simp
theorem lU(hn:3≤n)(h:ef g ie H aU val hU rs vv ev bT)(hs:Sym H w i nm)(hi:i≠0){f C:Addr}{fs:aB}(hf:FnAt H g.fns i f C fs)(hC:C=418∨C=183)(q:Q (.ref f) H):Sat S n hd (.ref 1061) [.ref g.aY,w] H Q E:=by
 obtain⟨m,rfl,hm⟩:=dN hn;refine Mn ?_;unfold AU;obtain⟨s,e,qt⟩:=h.aY;obtain⟨a,t,rfl,ht,ha⟩:=id hs;have c1:jZ.contains C=true:=by rcases hC with rfl|rfl<;>rfl
 have c2:xE (.ref C) (.ref 92)=false:=by rcases hC with rfl|rfl<;>rfl
 refine cU rfl (jP ha rfl) (eX (cP (gA e rfl rfl rfl (gA h.fix.bH rfl rfl rfl (gM h.fix.cells rfl (cF rfl (nM (show 2≤m by omega) h.fix hs hi hf c1 c2 ?_)))))))
 have nf:f≠98:=fun q=>by subst q;have:=hf.fn;rw[show H 98=_ from h.fix.nil] at this;cases this
 exact oY (iM hf.fn h.fix.nil nf rfl) (cP q)
theorem lW(hn:4≤n)(h:ef g ie H aU val hU rs vv ev bT)(hs:Sym H w i nm)(Om:i≠0){lo hi:Int}{wk:Addr}(hf:BC g H i wk lo hi)(hw:gT wk=true)(hl:H l=some (.list t xs))(hc:(decide (lo≤(xs.length:Int))&&(hi==-1||decide ((xs.length:Int)≤hi)))=true)
  (q:∀m,n=m+2→Sat S m hd (.ref wk) [.ref g.aY,.ref l] H (fun _ H'=>Q .none H') E):Sat S n hd (.ref 1068) [.ref g.aY,w,.ref l] H Q E:=by
 obtain⟨m,rfl,hm⟩:=dN hn;refine Ew ?_;unfold uT;obtain⟨s,e,qt⟩:=h.aY;obtain⟨f,Tn,hf⟩:=hf;exact gM e rfl (cF rfl (lU hm h hs Om hf (.inl rfl) (cU rfl (jP hf.fn rfl) (eX (cP (cU rfl (jP hf.fn rfl) (eX (eE (gM hf.fn rfl (cF rfl (sr (show 2≤m by omega) hw hf.fn hl hc fun m' qJ=>q m' (by omega))))))))))))
theorem qg(hn:2≤n)(h:ef g ie H aU val hU rs vv ev bT)(hl:H l=some (.list t [v]))(q:∀m,n=m+1→Sat S m hd (.ref 1033) [.ref g.aY,v] H (fun _ H'=>Q .none H') E):Sat S n hd (.ref 1150) [.ref g.aY,.ref l] H Q E:=by
 obtain⟨m,rfl,hm⟩:=dN hn;refine Et ?_;unfold uR;obtain⟨s,e,qt⟩:=h.aY;exact fB hl (kW (cP (fB hl (kW (eE (gM e rfl (ji hl rfl (cF rfl (q m rfl)))))))))
theorem rZ{p:Pl}(hn:2≤p.n)(h:ef g ie H aU val hU rs vv ev bT)(hk:aU.length < 1000)(q:∀a H',ef g ie H' (a::aU) val hU rs vv ev bT→H' a=some (.inst (2 * aU.length+100) 895 [v,.int 0 0])→aD (aG [3]) H H'→Q .none H'):
  cV p H (.ref 895) [v] (fun v20 H=>cV p H (.ref 991) ([.ref g.aY]++[v20]) Q E) E:=by
 refine h9 (2 * aU.length+100) (by simp) (fI:=885) rfl rfl hn fun x k qu hx=>?_
 refine PU ?_;unfold DD;refine sA aA rfl (by simp) aF ?_
 rw[bF];refine sA aA rfl (by simp) aF ?_
 rw[bF];have k0:aD aJ H (upd H x (.inst (2 * aU.length+100) 895 [v,.int 0 0])):=.new hx;refine⟨rfl,cF rfl (j0 (show 1≤p.n by omega) (h.keep k0) hk fun aH h2 k2=>q x aH h2 (k2 _ _ aA ?_) (k0.of0.trans k2))⟩
 show aG [3] (2 * aU.length+100)=false;unfold aG;simp
theorem vw(hn:3≤n)(h:ef g ie H aU val hU rs vv ev bT)(hl:H l=some (.list t xs))(h2:2≤xs.length)(hk:aU.length < 1000)(q:∀a H',ef g ie H' (a::aU) val hU rs vv ev bT→H' a=some (.inst (2 * aU.length+100) 895 [.ref l,.int 0 0])→aD (aG [3]) H H'→Q .none H'):Sat S n hd (.ref 1150) [.ref g.aY,.ref l] H Q E:=by
 obtain⟨m,rfl,hm⟩:=dN hn;refine Et ?_;unfold uR;obtain⟨s,e,qt⟩:=h.aY;have e1:((xs.length:Int)==0)=false:=by rw[dw];omega
 have e2:((xs.length:Int)==1)=false:=by rw[dw];omega
 refine fB hl (kW ?_);rw[e1];refine cP (fB hl (kW ?_));rw[e2];exact cP (gM e rfl (rZ hm h hk q))
end
section
variable(S:aN)(g:G)(ie:Int)(W:Goal)(n L:Nat)
abbrev QG(b:Nat):KQ:=fun _ H'=>Good S g ie W (n+1) b H'
abbrev EG(b:Nat):EPost:=fun x H'=>qF S g ie W n b x H'
def Xd:bP→Nat→EPost
 |none,b=>fun x H=>qF S g ie W n b x H
 |some _,_=>fun y H=>rM g ie W y H
def eU(H:AH)(aU:List Addr)(rs:List (Bool×aC))(vv ev:aC)(bT:cO)(j:Nat)(lv:Lv):Prop:=
 ∀hd w b H' val cM fG fO,j≤b→nc H' w lv→eT hd H'→ef g ie H' aU val b (cM++rs) fG fO bT→nX cM (fG,fO)=(vv,ev)→aD (gw aU.length) H H'→OA S g ie L hd w (fun H'=>Good S g ie W (n+1) b H') (Xd S g ie W n hd b) aU.length H'
def bL(ds:bQ):aB:=ds.map fun d=>.int d 0
def After(H:AH)(aU:List Addr)(rs:List (Bool×aC))(vv ev:aC)(bT:cO)(j:Nat):Out→Prop
 | .val k=>∀b H',j≤b→ef g ie H' aU (.int k 0) b rs vv ev bT→aD (gw aU.length) H H'→Good S g ie W (n+1) b H'
 | .sig nm ds=>eU S g ie W n L H aU rs vv ev bT j (.sig nm (bL ds))
 | .fS t k=>eU S g ie W n L H aU rs vv ev bT j (.fS t k)
end
theorem Wq{K:AH→Prop}{f:(AH→Prop)→Prop}(P:AH→Prop)(hK:∀H,P H→K H)(hf:∀K:AH→Prop,(∀H,P H→K H)→f K):jn K f:=hf K hK
theorem Rx{A:Type}{K:A→AH→Prop}{f:(A→AH→Prop)→Prop}(P:A→AH→Prop)(hK:∀x H,P x H→K x H)(hf:∀K:A→AH→Prop,(∀x H,P x H→K x H)→f K):jn K f:=hf K hK
theorem fU{k:Nat}:wg (aG [2 * k+100])=true∧wg (aG [2 * k+101])=true:=by
 constructor<;>· unfold wg aG;simp
theorem cW{l:fu}{t:Nat}(h:∀x∈l,x≠t):aG l t=false:=by
 unfold aG;rw[jl];exact fun e=>h t (fM.mp e) rfl
section
variable{S:aN}{n L:Nat}{hd:bP}{H H' gJ:AH}{Q:KQ}{E:EPost}{M:Nat→Bool}{v w:aC}{l a b':Addr}{t:Nat}{nm:Str}{g:G}{ie:Int}{W:Goal}{aU:List Addr}{val vv ev:aC}{b j:Nat}{rs:List (Bool×aC)}{bT:cO}{lv:Lv}
theorem aD.to2{k:Nat}(h:aD (aG [2]) H H'):aD (gw k) H H':=h.of fun t ht=>by simp at ht;omega
theorem aD.to3{k:Nat}(h:aD (aG [3]) H H'):aD (gw k) H H':=h.of fun t ht=>by simp at ht;omega
theorem aD.CA{k:Nat}(h:aD (aG [2,3]) H H'):aD (gw k) H H':=h.of fun t ht=>by simp at ht;omega
theorem aD.xH{k:Nat}(h:aD (aG [4,5]) H H'):aD (gw k) H H':=h.of fun t ht=>by simp at ht;omega
theorem aD.G1{k:Nat}(h:aD (aG [6,7]) H H'):aD (gw k) H H':=h.of fun t ht=>by simp at ht;omega
theorem aD.toF{k:Nat}(h:aD (aG [2 * k+100]) H H'):aD (gw k) H H':=h.of fun t ht=>by simp at ht;omega
theorem aD.G0{k:Nat}(h:aD (aG [2 * k+101]) H H'):aD (gw k) H H':=h.of fun t ht=>by simp at ht;omega
theorem After.iG{vM:cO}{o:Out}(h:After S g ie W n L H aU rs vv ev vM j o)(k:aD (gw aU.length) H H'):After S g ie W n L H' aU rs vv ev vM j o:=by
 cases o with
 |val x=>exact fun b aE hb M k'=>h b aE hb M (k.trans k')
 |sig nm ds=>exact fun hd w b aE val cM fG fO hb lv cl M hu k'=>h hd w b aE val cM fG fO hb lv cl M hu (k.trans k')
 |fS t x=>exact fun hd w b aE val cM fG fO hb lv cl M hu k'=>h hd w b aE val cM fG fO hb lv cl M hu (k.trans k')
theorem d7{b:Nat}{C f:Addr}{fs:aB}(hn:2≤n)(M:ef g ie H (a::aU) val b rs vv ev bT)(hb:1≤b)(ha:H a=some (.inst t C fs))(hC:C≠1132)(hf:gS.lookup (C,("step":Str))=some f)(hc:gT f=true)
  (h:∀b' H',b=b'+1→ef g ie H' (a::aU) val b' rs vv ev bT→aD (aG [2]) H H'→Sat S n none (.ref f) [.ref a,.ref g.aY] H' (QG S g ie W n b') (EG S g ie W n b')):Good S g ie W (n+1) b H:=by
 obtain⟨k,rfl⟩:∃k,b=k+1:=⟨b - 1,by omega⟩
 exact .inr ⟨a,aU,val,rs,vv,ev,bT,M,M6 hn M ha hC hf hc fun H' M' k'=>h k H' rfl M' k'⟩
theorem eU.pass(hL:1≤L)(h:eU S g ie W n L H aU rs vv ev bT j lv){C:Addr}{fs:aB}(ha:H a=some (.inst (2 * aU.length+100) C fs))(hf:gS.lookup (C,("leave":Str))=some 779):eU S g ie W n L H (a::aU) rs vv ev bT j lv:=by
 intro hd w b H' val cM fG fO hb lv cl M hu k;refine⟨a,aU,val,b,_,fG,fO,bT,_,C,fs,779,rfl,M,k _ _ ha (fg (by simp only[dH,AO.tag];omega)),hf,rfl,?_⟩
 obtain⟨m,rfl,_⟩:=dN hL;refine P0 ?_;exact .inr ⟨rfl,⟨_,_,_,_,_,_,M⟩,fun gJ hM k'=>h hd w b gJ val cM fG fO hb (lv.keep k') (cl.keep k') (hM _ _ _ _ _ _ M) hu ((k.up (dU _)).trans k'.to3)⟩
theorem MV{dl x:Addr}{ds:aB}(hL:3≤L+1)(hLn:L+1≤n)(hA:eU S g ie W n L H aU rs vv ev bT j (.sig nm ds))(M:ef g ie H' aU val b rs vv ev bT)(K:aD (gw aU.length) H H')(hj:j≤b)(hx:H' x=none)(pO:H' dl=some (.list 1 ds)):qF S g ie W n b x (upd H' x (.exc 1 1 [.str nm 0,.ref dl])):=by
 have k1:aD aJ H' (upd H' x (.exc 1 1 [.str nm 0,.ref dl])):=.new hx;obtain⟨s,e,_⟩:=M.aY;refine⟨nm,dl,ds,⟨_,k1 _ _ e rfl⟩,aA,k1 _ _ pO rfl,fun w gJ lv k2=>yI (vg hL rfl (hA (some x) w b gJ val [] vv ev hj lv ?_ ((M.keep k1).keep k2) rfl (K.trans (k1.trans k2).of0))) hLn⟩
 exact fun y hy=>by cases hy;exact⟨1,_,k2 _ _ aA rfl,aF⟩
theorem rO{m:Nat}(hL:3≤L+1)(hm:L+1≤m)(hA:eU S g ie W n L H aU rs vv ev bT j lv)(lv:nc H' w lv)(M:ef g ie H' aU val b rs vv ev bT)(K:aD (gw aU.length) H H')(hj:j≤b):Sat S m none (.ref 1082) [.ref g.aY,w] H' (QG S g ie W n b) (EG S g ie W n b):=
 yI (vg hL rfl (hA none w b H' val [] vv ev hj lv (fun x hx=>by cases hx) M rfl K)) hm
def Simp(ie:Int)(vv ev:aC)(H:AH)(p:aC×aC):Prop:=(∃k,p.1=.int k 0∧p.2=.int k 0)∨(∃b nm,Sym H p.1 (mr ie b) nm∧nm∈cK∧2≤mr ie b∧p.2=getVar b (vv,ev)∧((∃k,p.2=.int k 0)∨∃c,p.2=.ref c))∨(∃q,Sym H q 2 "quote"∧RL H p.1 [q,p.2])
theorem Simp.keep{p:aC×aC}(h:Simp ie vv ev H p)(k:aD M H H')(m0:M 0=false)(m1:M 1=false):Simp ie vv ev H' p:=
 h.imp id (Or.imp (fun⟨b,nm,a,r⟩=>⟨b,nm,a.keep k m1 m0,r⟩) fun⟨q,a,b⟩=>⟨q,a.keep k m1 m0,b.keep k m1⟩)
theorem xp{p:aC×aC}(hn:7≤n)(h:ef g ie H aU val b rs vv ev bT)(wd:Wd g H)(hp:Simp ie vv ev H p)(q:∀H',ef g ie H' aU p.2 b rs vv ev bT→aD (aG [2]) H H'→Q .none H'):Sat S n none (.ref 1033) [.ref g.aY,p.1] H Q E:=by
 obtain⟨p1,p2⟩:=p;rcases hp with ⟨k,h1,h2⟩|⟨c,nm,hs,hm,hi,h2,hv⟩|⟨qv,hs,hr⟩
 .dsimp only at h1 h2 q⊢
  subst h1 h2;exact nK (show 2≤n by omega) h q
 .dsimp only at hs h2 hv q⊢
  subst h2;rcases hv with ⟨k,hv⟩|hv
  .exact nJ (show 4≤n by omega) h hs hm hi (k:=k) (.inl hv) q
  .exact nJ (show 4≤n by omega) h hs hm hi (k:=0) (.inr hv) q
 .dsimp only at hr q⊢
  have hh:handedIn p2=true:=by obtain⟨_,_,_,_,_,_,_,_,_,h,_⟩:=hr;exact h
  refine eG (show 4≤n by omega) h (fun x hx=>by cases hx) hr (by simp) fun m l aE hm M hl k1=>?_
  have Xn:Wd g aE:=wd.kept (k:=0) k1.of0;refine fx (show 4≤m by omega) M (hs.keep k1) (by decide) Xn.quote rfl hl (by simp) fun m' qJ=>?_
  obtain⟨xD,rfl,_⟩:=dN (show 1≤m' by omega)
  refine Mg ?_;unfold AL;obtain⟨s,e,_⟩:=M.aY;exact gM e rfl (ji hl rfl (cF rfl (uF (show 1≤xD by omega) M hh fun aH dy k₂=>q aH dy (k1.of0.trans k₂))))
theorem qB(hn:20≤n){hv:aC}{l fl:Addr}:∀(rest:List (aC×aC)) {H:AH} {pre bN:aB} {val:aC} {b:Nat} {c:Bool},ef g ie H (a::aU) val b rs vv ev bT→Wd g H→H a=some (.inst (2 * aU.length+100) 869 [hv,.ref l,.ref fl,.bool c])→handedIn hv=true→
  H l=some (.list 1 (pre++rest.map (·.1)))→H fl=some (.list (2 * aU.length+101) bN)→(if c then bN++[val] else bN).length=pre.length→(∀p∈rest,Simp ie vv ev H p)→rest.length+1+j≤b→pre.length+rest.length≤10→
  (∀m b' H' Bn,n=m+1→j≤b'→ef g ie H' aU Bn b' rs vv ev bT→H' fl=some (.list (2 * aU.length+101) ((if c then bN++[val] else bN)++rest.map (·.2)))→aD (gw aU.length) H H'→Sat S m none (.ref 1068) [.ref g.aY,hv,.ref fl] H' (fun _=>Good S g ie W (n+1) b') (EG S g ie W n b'))→Good S g ie W (n+1) b H:=by
 intro rest
 induction rest with
 |nil=>
  intro H pre bN val b c M wd ha hh hl jR hlen hs hb Th fin;simp only[ry,gE] at hl fin;refine d7 (show 2≤n by omega) M (by omega) ha (by decide) (f:=866) rfl rfl fun b' aE Cq d8 k₁=>?_
  have ha:=k₁ _ _ ha (cW (by simp[AO.tag]))
  have hl:=k₁ _ _ hl rfl;have jR:=k₁ _ _ jR (cW (by simp[AO.tag]))
  obtain⟨m,rfl,hm⟩:=dN (show 1≤n by omega)
  have nf:a≠fl:=fun q=>by subst q;rw[ha] at jR;cases jR
  refine JD ?_;unfold xY;refine Wq (fun aH=>ef g ie aH (a::aU) val b' rs vv ev bT∧aH a=some (.inst (2 * aU.length+100) 869 [hv,.ref l,.ref fl,.bool c])∧aH l=some (.list 1 (pre))∧aH fl=some (.list (2 * aU.length+101) (if c then bN++[val] else bN))∧aD (gw aU.length) aE aH) (fun aH ⟨dy,ha,hl,jR,k₂⟩=>gA ha rfl rfl rfl (fB jR (gA ha rfl rfl rfl (fB hl (Jt ?_))))) fun K go=>?_
  rotate_left
  .cases c with
   |false=>
    exact gA ha rfl rfl rfl (eX (cP (go aE ⟨d8,ha,hl,jR,.refl⟩)))
   |true=>
    obtain⟨s,em,_⟩:=d8.aY;have la:bN.length < 1000000:=by rw[bE rfl,mL] at hlen;simp at hlen;omega
    refine gA ha rfl rfl rfl (eX (eE (gA ha rfl rfl rfl (dW jR (gA em rfl rfl d8.o9 (ff jR (by simp) la ?_))))))
    have k2:aD (aG [2 * aU.length+101]) aE (upd aE fl (.list (2 * aU.length+101) (bN++[val]))):=.set jR (by simp[aG,AO.tag])
    exact go _ ⟨d8.keep k2 fU.2,k2 _ _ ha (cW (by simp[AO.tag])),k2 _ _ hl (cW (by simp[AO.tag])),aA,k2.G0⟩
  .rw[hlen,show(decide ((pre.length:Int) < pre.length))=false from by simp]
   obtain⟨s,em,_⟩:=dy.aY;refine cP (gM em rfl (cF rfl (rj (show 1≤m by omega) dy fun aO fo nZ=>?_)))
   obtain⟨s,em,_⟩:=fo.aY;have t4:=nZ _ _ ha (cW (by simp[AO.tag]))
   refine gM em rfl (gA t4 rfl rfl hh (gA t4 rfl rfl rfl (cF rfl ?_)));exact fin m b' aO val rfl (by omega) fo (nZ _ _ jR (cW (by simp[AO.tag]))) (k₁.to2.trans (k₂.trans nZ.to3))
 |cons p rest ih=>
  intro H pre bN val b c M wd ha hh hl jR hlen hs hb Th fin;simp only[fj,dH] at hl hb Th fin;refine d7 (show 2≤n by omega) M (by omega) ha (by decide) (f:=866) rfl rfl fun b' aE Cq d8 k₁=>?_
  have ha:=k₁ _ _ ha (cW (by simp[AO.tag]))
  have hl:=k₁ _ _ hl rfl;have jR:=k₁ _ _ jR (cW (by simp[AO.tag]))
  obtain⟨m,rfl,hm⟩:=dN (show 1≤n by omega)
  have nf:a≠fl:=fun q=>by subst q;rw[ha] at jR;cases jR
  have sF:Wd g aE:=wd.kept (k:=0) k₁.to2;have Ck:∀q∈p::rest,Simp ie vv ev aE q:=fun q hq=>(hs q hq).keep k₁ rfl rfl
  refine JD ?_;unfold xY;refine Wq (fun aH=>ef g ie aH (a::aU) val b' rs vv ev bT∧aH a=some (.inst (2 * aU.length+100) 869 [hv,.ref l,.ref fl,.bool c])∧aH l=some (.list 1 (pre++p.1::rest.map (·.1)))∧aH fl=some (.list (2 * aU.length+101) (if c then bN++[val] else bN))∧aD (gw aU.length) aE aH) (fun aH ⟨dy,ha,hl,jR,k₂⟩=>gA ha rfl rfl rfl (fB jR (gA ha rfl rfl rfl (fB hl (Jt ?_))))) fun K go=>?_
  rotate_left
  .cases c with
   |false=>
    exact gA ha rfl rfl rfl (eX (cP (go aE ⟨d8,ha,hl,jR,.refl⟩)))
   |true=>
    obtain⟨s,em,_⟩:=d8.aY;have la:bN.length < 1000000:=by rw[bE rfl,mL] at hlen;simp at hlen;omega
    refine gA ha rfl rfl rfl (eX (eE (gA ha rfl rfl rfl (dW jR (gA em rfl rfl d8.o9 (ff jR (by simp) la ?_))))))
    have k2:aD (aG [2 * aU.length+101]) aE (upd aE fl (.list (2 * aU.length+101) (bN++[val]))):=.set jR (by simp[aG,AO.tag])
    exact go _ ⟨d8.keep k2 fU.2,k2 _ _ ha (cW (by simp[AO.tag])),k2 _ _ hl (cW (by simp[AO.tag])),aA,k2.G0⟩
  .rw[hlen,show(decide ((pre.length:Int) < (pre++p.1::rest.map (·.1)).length))=true from by simp;omega]
   refine eE (sA ha rfl (by simp) (by simp) ?_)
   have k3:aD (aG [2 * aU.length+100]) aH (upd aH a (.inst (2 * aU.length+100) 869 (jS [hv,.ref l,.ref fl,.bool c] 3 (.bool true)))):=.set ha (by simp[aG,AO.tag])
   have fo:=dy.keep k3 fU.1;have t4:upd aH a (.inst (2 * aU.length+100) 869 (jS [hv,.ref l,.ref fl,.bool c] 3 (.bool true))) a=some (.inst (2 * aU.length+100) 869 [hv,.ref l,.ref fl,.bool true]):=aA;have xw:=k3 _ _ hl (cW (by simp[AO.tag]))
   have O8:=k3 _ _ jR (cW (by simp[AO.tag]))
   obtain⟨s,em,_⟩:=fo.aY;have kk:aD (gw aU.length) aE (upd aH a (.inst (2 * aU.length+100) 869 (jS [hv,.ref l,.ref fl,.bool c] 3 (.bool true)))):=k₂.trans k3.toF;refine gM em rfl (gA t4 rfl rfl rfl (gA t4 rfl rfl rfl (fB O8 (ji xw (v:=p.1) ?_ (cF rfl (xp (p:=p) (show 7≤m by omega) fo (sF.kept kk) ((Ck p (.head _)).keep kk hX eY) fun bI fQ Hb=>?_))))))
   .unfold vE
    rw[bE (by omega),hlen];simp
   .have xu:=kk.trans Hb.to2
    refine ih (pre:=pre++[p.1]) fQ (sF.kept xu) (Hb _ _ t4 (cW (by simp[AO.tag]))) hh (by rw[gC];exact Hb _ _ xw rfl) (Hb _ _ O8 (cW (by simp[AO.tag]))) (by simp[hlen]) (fun q hq=>(Ck q (.tail _ hq)).keep xu hX eY) (by omega) (by simp;omega) fun m' NP cI Bn qJ KU fy WI Uo=>?_
    refine fin m' NP cI Bn qJ KU fy ?_ (k₁.to2.trans (xu.trans Uo));rw[bE rfl] at WI;rw[WI,gC];rfl
variable{m:Nat}{xs:aB}{i:Int}{o:AO}
theorem aD.fresh(h:aD M H H')(n:H a=none):aD M H (upd H' a o):=fun b o' e m=>by
 rw[aT (fun q=>by subst q;rw[n] at e;cases e)];exact h b o' e m
theorem iU:eT none H:=fun x hx=>by cases hx
theorem ef.IL{d:PyData}{vs:aB}(h:ef g ie H aU val b rs vv ev bT)(hv:lM H v d)(iZ:H g.fc=some (.list 10 vs))(hl:bT.length < 10000):ef g ie (upd H g.fc (.list 10 (vs++[v]))) aU val b rs vv ev (bT++[d]):=by
 have k:aD (aG [10]) H (upd H g.fc (.list 10 (vs++[v]))):=.set iZ rfl;obtain⟨aQ,e,r,_⟩:=h.fc;rw[iZ] at e;cases e;exact⟨h.fix.keep k,let⟨s,a,b⟩:=h.aY;⟨s,k _ _ a rfl,b⟩,h.o9,k _ _ h.iB rfl,h.pg,let⟨as,a,b,c⟩:=h.rows;⟨as,k _ _ a rfl,b.keep k,c⟩,h.vars.keep k,h.names.keep k,⟨vs++[v],aA,(r.keep k).snoc (hv.keep k),by simp;omega⟩⟩
def Arg(H:AH)(x:aC)(d:PyData):Prop:=(∃k,x=.int k 0∧d=.int k)∨∃c s i nm dv ds,x=.ref c∧H c=some (.inst 1 119 [s,dv])∧Sym H s i nm∧RL H dv (bL ds)∧d=lJ nm ds∧ds.length≤100
theorem tL{ds:bQ}:(bL ds).mapM zK=some (ds.map PyData.int):=by
 induction ds with
 |nil=>rfl
 |cons d ds ih=>
  unfold bL at ih⊢;rw[fj,jX,ih];rfl
theorem xn{dd v:aC}(h:ju H dd v)(s:Sat S n hd dd xs H Q E):cV ⟨S,n,hd⟩ H dd xs Q E:=by
 obtain⟨fa,c',d,fd,oc,us,tt,q,rfl,h1,r⟩:=h;refine⟨?_,s⟩;unfold jd;rw[h1]
 simp
theorem M9{dd:aC}{d:PyData}{vs:aB}(hn:1≤n)(hD:ju H dd (.ref g.fc))(hl:H l=some (.list t [v]))(ht:t≠10)(nn:mD H)(ha:Arg H v d)(iZ:H g.fc=some (.list 10 vs))(hz:vs.length < 1000000)(q:∀aE u,lM aE u d→aE g.fc=some (.list 10 vs)→aD aJ H aE→Q v (upd aE g.fc (.list 10 (vs++[u])))):Sat S n none dd [w,.ref l] H Q E:=by
 obtain⟨m,rfl,hm⟩:=dN hn;refine Lu hD fun d' gH=>?_
 unfold uL;rcases ha with ⟨k,rfl,rfl⟩|⟨c,s,i,nm,dv,ds,rfl,hc,hs,hr,rfl,Xl⟩
 .refine ji hl rfl (cU rfl rfl (eX (eE ⟨by decide+kernel,?_⟩)))
  rw[gH];have nl:l≠g.fc:=fun e=>by subst e;rw[iZ] at hl;cases hl;exact ht rfl
  exact dW iZ (ji hl rfl (ff iZ (by decide) hz (ji (by rw[aT nl];exact hl) rfl (q H _ (.inl ⟨k,rfl,rfl⟩) iZ .refl))))
 .obtain⟨sa,st,rfl,td,jz⟩:=id hs
  have Cn:=hr.handed;refine ji hl rfl (cU rfl (jP hc rfl) (eX (cP (ji hl rfl (gA hc rfl rfl rfl (gA jz rfl rfl rfl (nL 1 (by decide) (by simp) fun fl jR=>?_)))))))
  have k0:aD aJ H (upd H fl (.list 1 [.str nm 0])):=.new jR;refine ji (k0 _ _ hl rfl) rfl (gA (k0 _ _ hc rfl) rfl rfl Cn (nT 1 (by decide) (by simp) fun r Cu=>?_))
  have k1:aD aJ H (upd (upd H fl (.list 1 [.str nm 0])) r (.tup 1 [.ref fl,dv])):=k0.trans (.new Cu);have nr:fl≠r:=fun e=>by subst e;rw[aA] at Cu;cases Cu
  refine GF aA rfl iU.clean ⟨rfl,rfl,nC ?_⟩;refine⟨fun j us aE=>∃i at_,us=[w,.ref l,at_,.ref fl]∧j=ds.length - i∧i≤ds.length∧RL aE at_ ((bL ds).drop i)∧aD aJ H aE∧aE fl=some (.list 1 (.str nm 0::(bL ds).take i)),ds.length,⟨0,dv,rfl,rfl,g6 _,hr.keep k1,k1,by rw[aT nr,aA];rfl⟩,?_⟩
  rintro j aE u1 u2 u3 u4 ⟨i,at_,hu,rfl,hi,ra,k2,tY⟩
  cases hu;have li:(bL ds).length=ds.length:=by unfold bL;rw[dO]
  by_cases fT:i < ds.length
  .rw[jo (by omega)] at ra
   obtain⟨a,dd2,rfl,ha,hh,rd⟩:=ra;have na:a≠98:=fun e=>by subst e;rw[k2 _ _ nn rfl] at ha;cases ha
   have lf:((.str nm 0::(bL ds).take i:aB)).length < 1000000:=by simp;omega
   refine nB (iM ha (k2 _ _ nn rfl) na rfl) (eE (dW tY (gA ha rfl rfl hh (ff tY (by decide) lf ?_))))
   have nf:a≠fl:=fun e=>by subst e;rw[tY] at ha;cases ha
   have kf:aD aJ H (upd aE fl (.list 1 (.str nm 0::(bL ds).take i++[(bL ds)[i]]))):=k2.fresh jR;refine gA (by rw[aT nf];exact ha) rfl rfl rd.handed ⟨ds.length - (i+1),by omega,i+1,_,rfl,rfl,fT,?_,kf,?_⟩
   .have:∀{xs:aB} {v:aC},RL aE v xs→RL (upd aE fl (.list 1 (.str nm 0::(bL ds).take i++[(bL ds)[i]]))) v xs:=by
     intro xs
     induction xs with
     |nil=>intro v h;exact h
     |cons x xs ih=>
      rintro v ⟨a,d,e,h,hh,r⟩
      exact⟨a,d,e,by rw[aT (fun q=>by subst q;rw[tY] at h;cases h)];exact h,hh,ih r⟩
    exact this rd
   .rw[aA,List.cons_append,jm (by omega)]
  .have hi:i=ds.length:=by omega
   subst hi;rw[List.drop_eq_nil_of_le (by omega)] at ra
   have ra:u3=.ref 98:=ra;subst ra;rw[iL (by omega)] at tY
   refine nB oJ (cP ⟨by decide+kernel,?_⟩)
   rw[k2 _ _ gH rfl];refine dW (k2 _ _ iZ ?_) (rH 1 (by decide) tY fun u hu=>?_)
   .rfl
   have k3:aD aJ H (upd aE u (.tup 1 (.str nm 0::bL ds))):=k2.trans (.new hu);have il:=k3 _ _ iZ rfl;have nl:l≠g.fc:=fun e=>by subst e;rw[iZ] at hl;cases hl;exact ht rfl
   refine ff il (by decide) hz (ji (by rw[aT nl];exact k3 _ _ hl rfl) rfl (q _ _ (.inr ⟨u,_,.str nm::ds.map .int,rfl,aA,?_,rfl⟩) il k3))
   rw[jX,tL];rfl
theorem oU{d:PyData}(hn:6≤n)(h:ef g ie H aU val b rs vv ev bT)(wd:Wd g H)(hs:Sym H w 30 nm)(hl:H l=some (.list t [v]))(ht:t≠10)(ha:Arg H v d)(hz:bT.length < 10000)(q:∀H',ef g ie H' aU v b rs vv ev (bT++[d])→aD (aG [2,10]) H H'→Q .none H'):Sat S n none (.ref 1068) [.ref g.aY,w,.ref l] H Q E:=by
 obtain⟨m,rfl,hm⟩:=dN hn;refine Ew ?_;unfold uT jn;obtain⟨s,e,qt⟩:=h.aY;obtain⟨f,dd,hf,hD,hh⟩:=wd.note;have Cn:handedIn v=true:=by
  rcases ha with ⟨k,rfl,_⟩|⟨c,_,_,_,_,_,rfl,_⟩<;>rfl
 refine gM e rfl (cF rfl (lU (show 3≤m by omega) h hs (by decide) hf (.inr rfl) (cU rfl (jP hf.fn rfl) (eX (eE (fB hl (gA hf.fn rfl rfl rfl (gA hf.fn rfl rfl rfl (cF rfl (kh (show 1≤m by omega) ?_))))))))))
 obtain⟨vs,n1,n2,n3⟩:=h.fc;refine eX (cP (gM e rfl (Tj hf.fn rfl rfl rfl hh (gA e rfl rfl rfl (xn hD (M9 (show 1≤m by omega) hD hl ht h.fix.nil ha n1 (by rw[n2.len];omega) fun aE u nu V9 k1=>?_))))))
 have M1:=(h.keep k1).IL nu V9 hz;have k2:aD (aG [2,10]) aE (upd aE g.fc (.list 10 (vs++[u]))):=.set V9 rfl;refine cF rfl (uF (show 1≤m by omega) M1 Cn fun aH dy nZ=>q aH dy (k1.of0.trans (k2.trans (nZ.mono fun t ht=>?_))))
 unfold aG at ht⊢;rw[uz,qU] at ht⊢;exact⟨ht.1,rfl⟩
variable{tgs:List (Option Int)}{aI:bQ}
def zw(tg:Int):Lv→Bool
 | .sig _ _=>false
 | .fS t _=>tg==t
theorem vf{tg:Int}{x y:aC}(hn:2≤n)(ha:H a=some (.inst t 1573 [x,y,.int tg 0]))(hs:smallInt tg=true)(tX:nc H w lv)(q:Q (.bool (zw tg lv)) H):Sat S n hd (.ref 1563) [.ref a,v,w] H Q E:=by
 obtain⟨m,rfl,hm⟩:=dN hn;refine LY ?_;unfold Av;refine gA ha rfl rfl rfl (nB rfl (eX (xQ ?_)));cases lv with
 |sig nm ds=>
  obtain⟨c,d,rfl,h1,h2⟩:=tX;exact eO h1 rfl (cG (eX (K5 q)))
 |fS t' k=>
  obtain⟨c,rfl,h1⟩:=tX;exact eO h1 rfl (cG (eX (xQ (gA ha rfl rfl rfl (eO h1 rfl (cF rfl (sY hm (fun e=>hs) q)))))))
theorem ik.at:∀{aU:List Addr} {tgs:List (Option Int)},ik H aU tgs→aU.length=tgs.length∧∀(i:Nat) (a:Addr),aU[i]?=some a→∃(o:Option Int),tgs[i]?=some o∧∃(t:Nat) (C:Addr) (fs:aB),H a=some (.inst t C fs)∧match o with
   |some t=>C=1573∧smallInt t=true∧∃b d,fs=[b,d,.int t 0]
   |none=>gS.lookup (C,("wants":Str))=some 786
 |[],[],_=>⟨rfl,fun i a h=>by cases h⟩
 |a::as,o::os,⟨⟨C,fs,h,r⟩,q⟩=>⟨by rw[dH,dH,q.at.1],fun i x hx=>by
  cases i with
  |zero=>cases hx;exact⟨o,rfl,_,C,fs,h,r⟩
  |succ i=>exact q.at.2 i x hx⟩
 |[],_::_,h=>h.elim
 |_::_,[],h=>h.elim
theorem Fu{tg k:Int}(hL:2≤L)(hm:L+4≤m)(GQ:m≤n)(M:ef g ie H aU val b rs vv ev bT)(cx:ik H aU tgs)(XG:∀t,some t∈tgs↔t∈aI)(hj:j≤b)(hA:After S g ie W n L H aU rs vv ev bT j (if aI.contains tg then .fS tg k else .sig "no-catch" [tg,k])):Sat S m none (.ref 1087) [.ref g.aY,.int tg 0,.int k 0] H (fun _=>Good S g ie W (n+1) b) (EG S g ie W n b):=by
 obtain⟨m,rfl,qJ⟩:=dN (show 1≤m by omega)
 refine Ml ?_;unfold AR;refine nT 1 (by decide) (by simp) fun w hw=>?_
 have k0:aD aJ H (upd H w (.tup 1 [.str "throw" 0,.int tg 0,.int k 0])):=.new hw;have lv:nc (upd H w (.tup 1 [.str "throw" 0,.int tg 0,.int k 0])) (.ref w) (.fS tg k):=⟨w,rfl,aA⟩;have M0:=M.keep k0;obtain⟨s,e,_⟩:=M0.aY;have cx0:ik (upd H w (.tup 1 [.str "throw" 0,.int tg 0,.int k 0])) aU tgs:=cx.keep aF k0.of0;obtain⟨cl,ca⟩:=cx0.at;obtain⟨bs,S9⟩:∃bs,bs=tgs.reverse.map fun o=>decide (o=some tg):=⟨_,rfl⟩
 have vI:bs.length=aU.length:=by rw[S9,dO,ng,cl]
 refine gA e rfl rfl rfl ⟨.list g.iB,aU.reverse.map .ref,fun i bN aE=>aE=upd H w (.tup 1 [.str "throw" 0,.int tg 0,.int k 0])∧bN=(bs.take i).map .bool,⟨rfl,3,M0.iB⟩,by have:=M0.pg;simp;omega,⟨rfl,rfl⟩,fun i bN aE h=>by rw[h.1];exact⟨3,M0.iB⟩,?_,?_⟩
 .rintro i bN aE x ⟨rfl,rfl⟩ hx
  rw[fL] at hx;obtain⟨a,hy,rfl⟩:=ey.mp hx;have hi:i < aU.length:=by have:=(cQ.mp hy).1;rwa [ng] at this
  rw[List.getElem?_reverse hi] at hy;obtain⟨o,ho,t,C,fs,hC,hr⟩:=ca _ _ hy;have hb:bs[i]?=some (decide (o=some tg)):=by
   rw[S9,fL,List.getElem?_reverse (by omega),←cl,ho];rfl
  have fin:(fun y aO=>aO=upd H w (.tup 1 [.str "throw" 0,.int tg 0,.int k 0])∧(bs.take i).map Value.bool++[y]=(bs.take (i+1)).map .bool) (.bool (decide (o=some tg))) (upd H w (.tup 1 [.str "throw" 0,.int tg 0,.int k 0])):=by
   refine⟨rfl,?_⟩;obtain⟨fT,hb⟩:=cQ.mp hb;rw[jm fT,hb,gW];rfl
  refine⟨rfl,eE ?_⟩;cases o with
  |none=>
   refine gM hC hr (cF rfl ?_);obtain⟨m',rfl,_⟩:=dN (show 1≤m by omega)
   exact PZ fin
  |some t'=>
   obtain⟨rfl,hs,x,y,rfl⟩:=hr;refine gM hC (show _=some 1563 from rfl) (cF rfl (vf (show 2≤m by omega) hC hs lv ?_))
   have:zw t' (.fS tg k)=decide (some t'=some tg):=by
    show(t'==tg)=_
    by_cases h:t'=tg
    .subst h;simp
    .rw[dw.mpr h];symm;rw[decide_eq_false_iff_not];simpa using h
   rw[this];exact fin
 .rintro bN aE ⟨rfl,rfl⟩
  refine⟨iU.clean,1,by decide,fun D hD=>?_⟩
  rw[dO,ng,iL (by omega)]
  have k1:aD aJ H (upd (upd H w (.tup 1 [.str "throw" 0,.int tg 0,.int k 0])) D (.list 1 (bs.map .bool))):=k0.trans (.new hD);refine Po (t:=1) (bs:=bs) aA iU.clean (eX ?_);have KV:bs.any id=aI.contains tg:=by
   rw[Bool.eq_iff_iff,qZ,fM,←XG tg,S9]
   simp
  rw[KV];have M1:=M0.keep (M:=aJ) (H':=upd _ D (.list 1 (bs.map .bool))) (.new hD);cases hc:aI.contains tg with
  |true=>
   rw[hc] at hA;refine cP ?_;obtain⟨s,e,_⟩:=M1.aY;exact gM e rfl (cF rfl (rO (show 3≤L+1 by omega) (show L+1≤m by omega) hA (lv.keep (M:=aJ) (.new hD)) M1 k1.of0 hj))
  |false=>
   rw[hc] at hA;refine eE ⟨by show 2≤m;omega,rfl,nL 1 (by decide) (by simp) fun dl pO=>⟨iU.clean,fun x hx=>?_⟩⟩
   exact MV (show 3≤L+1 by omega) (show L+1≤n by omega) hA (M1.keep (M:=aJ) (.new pO)) (k1.trans (.new pO)).of0 hj hx aA
theorem Ft{s d:aC}{ds:bQ}(hL:2≤L)(hm:L+4≤m)(h6:6≤m)(GQ:m≤n)(M:ef g ie H aU val b rs vv ev bT)(hs:Sym H s i nm)(hi:2≤i)(hr:RL H d (bL ds))(hz:ds.length≤1000)(hl:H l=some (.list t [s,d]))(hj:j≤b)(hA:After S g ie W n L H aU rs vv ev bT j (.sig nm ds)):Sat S m none (.ref 1749) [.ref g.aY,.ref l] H (fun _=>Good S g ie W (n+1) b) (EG S g ie W n b):=by
 obtain⟨m,rfl,qJ⟩:=dN (show 1≤m by omega)
 refine LL ?_;unfold Ai;refine VO hl rfl iU.clean ⟨rfl,rfl,nC ?_⟩;obtain⟨sa,st,rfl,td,jz⟩:=id hs;unfold jn;have ns:sa≠98:=rm M.fix.nil jz (by omega)
 obtain⟨sm,e,_⟩:=M.aY;refine oY (iM jz M.fix.nil ns rfl) (my (cP ?_));refine cU rfl (jP jz rfl) (eX (cP (gM e rfl (gA jz rfl rfl rfl (cF rfl ?_)))));obtain⟨m2,rfl,Gu⟩:=dN (show 1≤m by omega)
 refine L4 ?_;unfold Ax;refine cF rfl (j9 (show 2≤m2 by omega) M.fix.nil iU hr (by unfold bL;simp;omega) fun dl aE pO k1=>oY rfl (cP (cF rfl ?_)))
 refine Mk ?_;unfold AQ;have M1:=M.keep k1;obtain⟨sm,e,_⟩:=M1.aY;refine gM e rfl (nT 1 (by decide) (by simp) fun w hw=>?_)
 have k2:aD aJ aE (upd aE w (.tup 1 [.str "signal" 0,.str nm 0,.ref dl])):=.new hw;exact cF rfl (rO (lv:=.sig nm (bL ds)) (show 3≤L+1 by omega) (show L+1≤m2 by omega) hA ⟨w,dl,rfl,aA,k2 _ _ pO rfl⟩ (M1.keep k2) (k1.trans k2).of0 hj)
structure At(g:G)(ie:Int)(H:AH)(aU:List Addr)(tgs:List (Option Int))(aI:bQ)(val:aC)(b:Nat)(rs:List (Bool×aC))(vv ev:aC)(bT:cO)(c:Nat):Prop where
 st:ef g ie H aU val b rs vv ev bT
 wd:Wd g H
 cx:ik H aU tgs
 tg:∀t,some t∈tgs↔t∈aI
 vi:∃k,vv=.int k 0
 eh:handedIn ev=true
 l1:aU.length+c≤990
 l2:rs.length+c≤990
 l3:bT.length+c≤9000
def Ev(S:aN)(g:G)(ie:Int)(W:Goal)(n L:Nat)(f:Fm):Prop:=∀m H v aU tgs aI val b rs vv ev bT j,40+8 * fP f≤m→m≤n→RF H ie f v→At g ie H aU tgs aI val b rs vv ev bT (cost f)→j+cost f≤b→
 After S g ie W n L H aU rs vv ev (bT++(bG aI f).2) j (bG aI f).1→Sat S m none (.ref 1033) [.ref g.aY,v] H (fun _ H'=>Good S g ie W (n+1) b H') (EG S g ie W n b)
section
variable{c:Nat}
variable(mH:2≤ie)(hL:2≤L)(kO:L≤30)
include hL kO mH in
theorem Il{k:Int}:Ev S g ie W n L (.note k):=by
 intro m H v aU tgs aI val b rs vv ev bT j hm GQ hr A hb hA;unfold fP at hm;unfold cost at A hb;unfold RF at hr;simp only[bG] at hA;obtain⟨hv,hs,hr⟩:=hr;refine eG (show 4≤m by omega) A.st iU hr (by simp) fun m1 l aE GR d8 hl k1=>?_
 have sF:Wd g aE:=A.wd.kept (k:=0) k1.of0;obtain⟨f,dd,hf,hD,hh⟩:=sF.note;have l1:=A.l1;refine mi (show 4≤m1 by omega) d8 (hs.keep k1) (by decide) hf (.inr rfl) hl (by omega) fun a fl aH dy ha jR k2=>?_
 have Je:Wd g aH:=sF.kept (k:=0) k2.to3;have N9:=(hs.keep k1).keep k2;have Kc:handedIn hv=true:=by obtain⟨sa,st,rfl,_⟩:=hs;rfl
 refine qB (j:=j) (show 20≤n by omega) [(.int k 0,.int k 0)] (pre:=[]) (bN:=[]) dy Je ha Kc (k2 _ _ hl rfl) jR rfl (fun p hp=>by cases hp with|head=>exact .inl ⟨k,rfl,rfl⟩|tail _ h=>cases h) (by simp;omega) (by simp) fun m3 b' aO Bn SO Cq fo Jp k3=>?_
 refine oU (show 6≤m3 by omega) fo (Je.kept k3) (N9.keep k3 eY hX) Jp (by omega) (.inl ⟨k,rfl,rfl⟩) (by have:=A.l3;omega) fun bI fQ k4=>?_
 exact hA b' bI Cq fQ (k1.of0.trans (k2.to3.trans (k3.trans (k4.of fun t ht=>by simp at ht;omega))))
include hL kO mH in
theorem MX{c:Nat}{k:Int}:Ev S g ie W n L (.sig c k):=by
 intro m H v aU tgs aI val b rs vv ev bT j hm GQ hr A hb hA;unfold fP at hm;unfold cost at A hb;unfold RF at hr;simp only[bG,gE] at hA;obtain⟨hv,q1,q2,s,d,hs,hr,⟨qa,X2,X4⟩,⟨i,hi,Zg⟩,⟨qb,X1,X3⟩,hd⟩:=hr;refine eG (show 4≤m by omega) A.st iU hr (by simp) fun m1 l aE GR d8 hl k1=>?_
 have sF:Wd g aE:=A.wd.kept (k:=0) k1.of0;obtain⟨f,Tn,hf⟩:=sF.xV;have l1:=A.l1;refine mi (show 4≤m1 by omega) d8 (hs.keep k1) (by decide) hf (.inl rfl) hl (by omega) fun a fl aH dy ha jR k2=>?_
 have Je:Wd g aH:=sF.kept (k:=0) k2.to3;have nV:aD (gw aU.length) H aH:=k1.of0.trans k2.to3;have Kc:handedIn hv=true:=by obtain⟨sa,st,rfl,_⟩:=hs;rfl
 refine qB (j:=j) (show 20≤n by omega) [(q1,s),(q2,d)] (pre:=[]) (bN:=[]) dy Je ha Kc (k2 _ _ hl rfl) jR rfl (fun p hp=>?_) (by simp;omega) (by simp) fun m3 b' aO Bn SO Cq fo Jp k3=>?_
 .rcases bS.mp hp with rfl|hp
  .exact .inr (.inr ⟨qa,X2.keep nV eY hX,X4.keep nV eY⟩)
  .rcases bS.mp hp with rfl|hp
   .exact .inr (.inr ⟨qb,X1.keep nV eY hX,X3.keep nV eY⟩)
   .cases hp
 have vG:=nV.trans k3;refine lW (show 4≤m3 by omega) fo (hs.keep vG eY hX) (by decide) (Je.kept k3).xV rfl Jp (by simp) fun m4 WE=>?_
 exact Ft hL (show L+4≤m4 by omega) (show 6≤m4 by omega) (show m4≤n by omega) fo (Zg.keep vG eY hX) hi (ds:=[k]) (hd.keep vG eY) (by simp) Jp Cq (hA.iG vG)
include hL kO mH in
theorem MW{tg k:Int}:Ev S g ie W n L (.fS tg k):=by
 intro m H v aU tgs aI val b rs vv ev bT j hm GQ hr A hb hA;unfold fP at hm;unfold cost at A hb;unfold RF at hr;simp only[bG,gE] at hA;obtain⟨hv,hs,hr⟩:=hr;refine eG (show 4≤m by omega) A.st iU hr (by simp) fun m1 l aE GR d8 hl k1=>?_
 have sF:Wd g aE:=A.wd.kept (k:=0) k1.of0;obtain⟨f,Tn,hf⟩:=sF.throw;have l1:=A.l1;refine mi (show 4≤m1 by omega) d8 (hs.keep k1) (by decide) hf (.inl rfl) hl (by omega) fun a fl aH dy ha jR k2=>?_
 have Je:Wd g aH:=sF.kept (k:=0) k2.to3;have nV:aD (gw aU.length) H aH:=k1.of0.trans k2.to3;have Kc:handedIn hv=true:=by obtain⟨sa,st,rfl,_⟩:=hs;rfl
 refine qB (j:=j) (show 20≤n by omega) [(.int tg 0,.int tg 0),(.int k 0,.int k 0)] (pre:=[]) (bN:=[]) dy Je ha Kc (k2 _ _ hl rfl) jR rfl (fun p hp=>?_) (by simp;omega) (by simp) fun m3 b' aO Bn SO Cq fo Jp k3=>?_
 .rcases bS.mp hp with rfl|hp
  .exact .inl ⟨_,rfl,rfl⟩
  .rcases bS.mp hp with rfl|hp
   .exact .inl ⟨_,rfl,rfl⟩
   .cases hp
 have vG:=nV.trans k3;refine lW (show 4≤m3 by omega) fo (hs.keep vG eY hX) (by decide) (Je.kept k3).throw rfl Jp (by simp) fun m4 WE=>?_
 obtain⟨m5,rfl,_⟩:=dN (show 1≤m4 by omega)
 refine LM ?_;unfold Aj;obtain⟨sm,e,_⟩:=fo.aY;exact gM e rfl (ji Jp rfl (ji Jp rfl (cF rfl (Fu hL (show L+4≤m5 by omega) (show m5≤n by omega) fo (A.cx.keep aF vG) A.tg Cq (hA.iG vG)))))
end
def Sa(S:aN)(g:G)(ie:Int)(W:Goal)(n L:Nat):gU→Prop
 | .nil=>True
 | .cons f r=>Ev S g ie W n L f∧Sa S g ie W n L r
section
variable{ys:aB}{c:Nat}
variable(hJ:ie≠36)(mH:2≤ie)(hL:2≤L)(kO:L≤30)
mutual
theorem dZ:∀(f:Fm) {aI:bQ},(bG aI f).2.length≤cost f
 | .note k,aI=>by simp[bG,cost]
 | .sig c k,aI=>by simp[bG,cost]
 | .fS t k,aI=>by simp[bG,cost]
 | .fN fs,aI=>by have:=tG fs (aI:=aI) (k:=0);simp only[bG,cost];omega
 | .eR t f,aI=>by
  have:=dZ f (aI:=aI++[t])
  simp only[bG,cost];split<;>simp_all<;>omega
 | .unwind f g,aI=>by
  have:=dZ f (aI:=aI);have:=dZ g (aI:=aI)
  simp only[bG,cost];split<;>simp<;>omega
 | .iV k f,aI=>by
  have:=dZ f (aI:=aI)
  simp only[bG,cost];unfold Out.seq;split<;>simp_all<;>omega
 | .case f rs,aI=>by
  have h1:=dZ f (aI:=aI);simp only[bG,cost];split
  .rename_i nm ds ns h
   have:=wz rs (aI:=aI) (nm:=nm) (ds:=ds) (ns:=ns)
   rw[h] at h1;simp at h1;omega
  .omega
theorem tG:∀(fs:gU) {aI:bQ} {k:Int},(fb aI k fs).2.length≤ft fs
 | .nil,aI,k=>by simp[fb,ft]
 | .cons f r,aI,k=>by
  have h1:=dZ f (aI:=aI);simp only[fb,ft];split
  .rename_i k' ns h
   have:=tG r (aI:=aI) (k:=k')
   rw[h] at h1;simp at h1⊢;omega
  .omega
theorem wz:∀(fs:gm) {aI:bQ} {nm:Str} {ds:bQ} {ns:cO},(gB aI nm ds ns fs).2.length≤ns.length+fA fs
 | .nil,aI,nm,ds,ns=>by simp[gB,fA]
 | .cons cs f r,aI,nm,ds,ns=>by
  have h1:=dZ f (aI:=aI)
  have:=wz r (aI:=aI) (nm:=nm) (ds:=ds) (ns:=ns)
  simp only[gB,fA];split<;>simp<;>omega
end
include hL kO in
theorem El:∀(fs:gU) {H:AH} {vs:aB} {i:Nat} {val:aC} {b:Nat} {bT:cO} {k0:Int},Sa S g ie W n L fs→fs≠.nil→48+8 * kS fs≤n→ef g ie H (a::aU) val b rs vv ev bT→
  H a=some (.inst (2 * aU.length+100) 895 [.ref l,.int i 0])→H l=some (.list 1 vs)→nS H ie fs (vs.drop i)→i≤vs.length→(Wd g H∧ik H aU tgs∧(∀t,some t∈tgs↔t∈aI)∧(∃k,vv=.int k 0)∧handedIn ev=true∧aU.length+ft fs+1≤990∧rs.length+ft fs≤990∧bT.length+ft fs≤9000)→j+ft fs≤b→
  After S g ie W n L H aU rs vv ev (bT++(fb aI k0 fs).2) j (fb aI k0 fs).1→Good S g ie W (n+1) b H:=by
 intro fs
 induction fs using gU.rec (motive_1:=fun _=>True) (motive_3:=fun _=>True) with
 |nil=>intro H vs i val b bT k0 hE h;exact absurd rfl h
 |cons f r _ ih=>
  intro H vs i val b bT k0 hE _ hh M ha hl hr hi ⟨wd,cx,tg,vi,eh,l1,l2,l3⟩ hb hA;unfold nS at hr;obtain⟨w,ws,gH,hw,N3⟩:=hr;have fT:i < vs.length:=by
   have:=iE List.length gH
   rw[jq] at this;simp at this;omega
  rw[jo fT] at gH;obtain⟨rfl,rfl⟩:=qW gH;simp only[ft] at l1 l2 l3 hb;simp only[kS] at hh;refine d7 (show 2≤n by omega) M (by omega) ha (by decide) (f:=892) rfl rfl fun b' aE Cq d8 k₁=>?_
  have ha:=k₁ _ _ ha (cW (by simp[AO.tag]))
  have hl:=k₁ _ _ hl rfl;obtain⟨m,rfl,hm⟩:=dN (show 1≤n by omega)
  refine PT ?_;unfold DC;have e1:((i:Int)+1)=((i+1:Nat):Int):=rfl;have k2:aD (aG [2 * aU.length+100]) aE (upd aE a (.inst (2 * aU.length+100) 895 [.ref l,.int (i+1:Nat) 0])):=.set ha (by simp[aG,AO.tag])
  refine gA ha rfl rfl rfl (gA ha rfl rfl rfl (ji hl (v:=vs[i]) ?_ (gA ha rfl rfl rfl (pk (sA ha rfl (by simp) (by simp) ?_)))))
  .unfold vE
   rw[bE (by omega)]
   simpa using lr fT
  show jn _ _;unfold jn;have dy:=d8.keep k2 fU.1;have kX:upd aE a (.inst (2 * aU.length+100) 895 [.ref l,.int (i+1:Nat) 0]) a=some (.inst (2 * aU.length+100) 895 [.ref l,.int (i+1:Nat) 0]):=aA;have sz:=k2 _ _ hl (cW (by simp[AO.tag]))
  have kj:aD (gw aU.length) H (upd aE a (.inst (2 * aU.length+100) 895 [.ref l,.int (i+1:Nat) 0])):=k₁.to2.trans k2.toF;obtain⟨s,em,_⟩:=dy.aY;refine gA kX rfl rfl rfl (gA kX rfl rfl rfl (fB sz (kW ?_)));obtain⟨WW,RU⟩:=hE;cases r with
  |nil=>
   unfold nS at N3;have hlen:i+1=vs.length:=by
    have:=iE List.length N3
    rw[jq] at this;simp at this;omega
   rw[show(((i+1:Nat):Int)==(vs.length:Int))=true from by rw[hlen];simp]
   refine eE (gM em rfl (cF rfl (rj (show 1≤m by omega) dy fun aO fo nZ=>?_)))
   obtain⟨s,em,_⟩:=fo.aY;have mG:=kj.trans nZ.to3;refine gM em rfl (cF rfl (WW m aO _ aU tgs aI val b' rs vv ev bT j (by simp only[kS] at hh;omega) (by omega) (hw.kept mG) ⟨fo,wd.kept mG,cx.keep aF mG,tg,vi,eh,by omega,by omega,by omega⟩ (by omega) ?_))
   have jy:=hA.iG mG;simp only[fb] at jy;cases ht:bG aI f with
   |mk o ns=>
    rw[ht] at jy;cases o<;>simpa using jy
  |cons f2 r2=>
   have hlen:i+1 < vs.length:=by
    unfold nS at N3;obtain⟨w2,Xm,e,_⟩:=N3
    have:=iE List.length e
    rw[jq] at this;simp at this;omega
   rw[show(((i+1:Nat):Int)==(vs.length:Int))=false from by rw[dw];omega]
   refine cP ?_;have tl:=dZ f (aI:=aI);refine gM em rfl (cF rfl (WW m _ _ (a::aU) (none::tgs) aI val b' rs vv ev bT (j+ft (.cons f2 r2)) (by omega) (by omega) (hw.kept kj) ⟨dy,wd.kept kj,⟨⟨895,_,kX,rfl⟩,cx.keep aF kj⟩,fun t=>by rw[←tg t];simp,vi,eh,by simp[ft] at l1⊢;omega,by omega,by omega⟩ (by omega) ?_))
   have jy:=hA.iG kj;simp only[fb] at jy;cases ht:bG aI f with
   |mk o ns=>
    rw[ht] at jy tl;cases o with
    |sig nm ds=>exact fun hd w b H' val cM fG fO hb=>eU.pass (show 1≤L by omega) jy kX rfl hd w b H' val cM fG fO (by omega)
    |fS t x=>exact fun hd w b H' val cM fG fO hb=>eU.pass (show 1≤L by omega) jy kX rfl hd w b H' val cM fG fO (by omega)
    |val k'=>
     intro NP bI KU fQ k4;have ki:=kj.trans (k4.up (dU _));refine ih (i:=i+1) (k0:=k') RU (fun e=>by cases e) (by omega) fQ (k4 _ _ kX (fg (by simp only[dH,AO.tag];omega))) (k4 _ _ sz eY) (nS.keep ki hX eY _ N3) (Nat.le_of_lt hlen) ⟨wd.kept ki,cx.keep aF ki,tg,vi,eh,by omega,by omega,by simp at tl⊢;omega⟩ KU ?_
     have:=jy.iG (k4.up (dU _))
     rw[gC];exact this
 |_=>trivial
include hL kO mH in
theorem Fl{fs:gU}(hE:Sa S g ie W n L fs):Ev S g ie W n L (.fN fs):=by
 intro m H v aU tgs aI val b rs vv ev bT j hm GQ hr A hb hA;unfold fP at hm;unfold cost at A hb;unfold RF at hr;simp only[bG] at hA;obtain⟨hv,vs,hs,hr,hf,h2,Th⟩:=hr;refine eG (show 4≤m by omega) A.st iU hr (by omega) fun m1 l aE GR d8 hl k1=>?_
 have l1:=A.l1;have l2:=A.l2;have l3:=A.l3;have sF:Wd g aE:=A.wd.kept (k:=0) k1.of0;refine fx (show 4≤m1 by omega) d8 (hs.keep k1) (by decide) sF.fN rfl hl (by simp) fun m2 Gu=>?_
 refine vw (show 3≤m2 by omega) d8 hl h2 (by omega) fun a aH dy ha k2=>?_
 have nV:aD (gw aU.length) H aH:=k1.of0.trans k2.to3;refine El hL kO fs (i:=0) (j:=j) (k0:=0) hE (fun e=>?_) (by omega) dy ha (k2 _ _ hl rfl) (nS.keep nV hX eY _ hf) (g6 _) ⟨A.wd.kept nV,A.cx.keep aF nV,A.tg,A.vi,A.eh,by omega,by omega,by omega⟩ (by omega) (hA.iG nV)
 subst e;unfold nS at hf;subst hf
 simp at h2
theorem qc:∀{xs ys:List (Bool×aC)} {p:aC×aC},nX (xs++ys) p=nX ys (nX xs p)
 |[],_,_=>rfl
 |(b,v)::xs,ys,p=>qc (xs:=xs)
include hL hJ in
theorem eU.rY(h:eU S g ie W n L H aU rs vv ev bT j lv){x y:aC}{tg:Int}(ha:H a=some (.inst (2 * aU.length+100) 1573 [x,y,.int tg 0]))(hs:smallInt tg=true)(hw:zw tg lv=false)(pP:4≤L):eU S g ie W n L H (a::aU) rs vv ev bT j lv:=by
 intro hd w b H' val cM fG fO hb lv cl M hu k;have nR:=k _ _ ha (fg (by simp only[dH,AO.tag];omega))
 refine⟨a,aU,val,b,_,fG,fO,bT,_,_,_,1570,rfl,M,nR,rfl,rfl,?_⟩;obtain⟨m,rfl,_⟩:=dN (show 1≤L by omega)
 refine Ep ?_;unfold uO;refine gM nR rfl (cF rfl (vf (show 2≤m by omega) nR hs lv ?_))
 rw[hw];exact eX (eE (.inr ⟨rfl,⟨_,_,_,_,_,_,M⟩,fun gJ hM k'=>h hd w b gJ val cM fG fO hb (lv.keep k') (cl.keep k') (hM _ _ _ _ _ _ M) hu ((k.up (dU _)).trans k'.to3)⟩))
include hL hJ in
theorem eU.BX{tg k0:Int}(h:After S g ie W n L H aU rs vv ev bT j (.val k0)){x:aC}(ha:H a=some (.inst (2 * aU.length+100) 1573 [x,.int rs.length 0,.int tg 0]))(hs:smallInt tg=true)(pP:5≤L):eU S g ie W n L H (a::aU) rs vv ev bT j (.fS tg k0):=by
 intro hd w b H' val cM fG fO hb lv cl M hu k;have nR:=k _ _ ha (fg (by simp only[dH,AO.tag];omega))
 refine⟨a,aU,val,b,_,fG,fO,bT,_,_,_,1570,rfl,M,nR,rfl,rfl,?_⟩;obtain⟨m,rfl,_⟩:=dN (show 1≤L by omega)
 refine Ep ?_;unfold uO;refine gM nR rfl (cF rfl (vf (show 2≤m by omega) nR hs lv ?_))
 rw[show zw tg (.fS tg k0)=true from fR tg]
 obtain⟨s,em,_⟩:=M.aY;refine eX (cP (gA em rfl rfl rfl (gM M.fix.iY rfl (gA nR rfl rfl rfl (cF rfl (fF (show 3≤m by omega) M hJ fun aH dy k2 _=>?_))))))
 obtain⟨s,em,_⟩:=dy.aY;obtain⟨c,rfl,hc⟩:=lv.keep k2;rw[hu] at dy;exact gM em rfl (eO hc rfl (cF rfl (rG (show 1≤m by omega) dy rfl fun aO fo k3=>.inl ⟨rfl,h b aO hb fo ((k.up (dU _)).trans (k2.xH.trans k3.CA))⟩)))
include hL kO mH hJ in
theorem Fn{tg:Int}{f:Fm}(hE:Ev S g ie W n L f)(pP:5≤L):Ev S g ie W n L (.eR tg f):=by
 intro m H v aU tgs aI val b rs vv ev bT j hm GQ hr A hb hA;unfold fP at hm;unfold cost at A hb;unfold RF at hr;simp only[bG] at hA;obtain⟨hv,w,hs,hr,hf,qt⟩:=hr;refine eG (show 4≤m by omega) A.st iU hr (by simp) fun m1 l aE GR d8 hl k1=>?_
 have l1:=A.l1;have l2:=A.l2;have l3:=A.l3;have sF:Wd g aE:=A.wd.kept (k:=0) k1.of0;refine fx (show 4≤m1 by omega) d8 (hs.keep k1) (by decide) sF.eR rfl hl (by simp) fun m2 Gu=>?_
 obtain⟨m3,rfl,_⟩:=dN (show 1≤m2 by omega)
 refine LX ?_;unfold Au;obtain⟨s,em,_⟩:=d8.aY;refine gM em rfl (NT 1 (by decide) hl (by decide) fun bl vI=>?_)
 have k2:aD aJ aE (upd aE bl (.list 1 [w])):=.new vI;have dy:=d8.keep k2;obtain⟨s,em,_⟩:=dy.aY;refine gA em rfl rfl rfl (gM dy.fix.iY rfl (cF rfl (j3 (show 1≤m3 by omega) dy (h9 (2 * aU.length+100) (by simp) (fI:=1549) rfl rfl (show 2≤m3 by omega) fun a k hk ha=>?_))))
 refine LZ ?_;unfold Aw;refine sA aA rfl (by simp) aF ?_
 rw[bF];refine sA aA rfl (by simp) aF ?_
 rw[bF];refine sA aA rfl (by simp) aF ?_
 rw[bF];have k3:aD aJ H (upd (upd aE bl (.list 1 [w])) a (.inst (2 * aU.length+100) 1573 [.ref bl,.int rs.length 0,.none])):=(k1.trans k2).trans (.new ha);refine⟨rfl,cF rfl (j0 (show 1≤m3 by omega) (A.st.keep k3) (by omega) fun bI fQ k4=>?_)⟩
 have vD:=k4 _ _ (aA (o:=AO.inst (2 * aU.length+100) 1573 [.ref bl,.int rs.length 0,.none])) (cW (by simp[AO.tag]))
 have nb:bl≠a:=fun e=>by subst e;rw[aA] at ha;cases ha
 have Gv:bI bl=some (.list 1 [w]):=k4 _ _ (by rw[aT nb,aA];rfl) rfl
 have qi:bI l=some (.list 1 [.int tg 0,w]):=k4 _ _ (aD.new (M:=aJ) ha _ _ (k2 _ _ hl rfl) rfl) rfl;have ki:aD (gw aU.length) H bI:=k3.of0.trans k4.to3;obtain⟨s,em,_⟩:=fQ.aY;refine gM em rfl (ji qi rfl (cF rfl (nK (show 2≤m3 by omega) fQ fun cI fy k5=>?_)))
 have vC:=k5 _ _ vD (cW (by simp[AO.tag]))
 refine d7 (show 2≤n by omega) fy (by omega) vC (by decide) (f:=1556) rfl rfl fun b1 cC xx lj k6=>?_
 have xy:=k6 _ _ vC (cW (by simp[AO.tag]))
 obtain⟨m6,rfl,_⟩:=dN (show 1≤n by omega)
 refine Er ?_;unfold uP;obtain⟨s,em,_⟩:=lj.aY;refine gA xy rfl rfl rfl (oY rfl (eE (gA em rfl rfl rfl (sA xy rfl (by simp) (by simp) ?_))))
 have k7:aD (aG [2 * aU.length+100]) cC (upd cC a (.inst (2 * aU.length+100) 1573 [.ref bl,.int rs.length 0,.int tg 0])):=.set xy (by simp[aG,AO.tag])
 have nQ:upd cC a (.inst (2 * aU.length+100) 1573 [.ref bl,.int rs.length 0,.int tg 0]) a=some (.inst (2 * aU.length+100) 1573 [.ref bl,.int rs.length 0,.int tg 0]):=aA;have GS:=k7 _ _ (k6 _ _ (k5 _ _ Gv rfl) rfl) (cW (by simp[AO.tag]))
 have lh:=lj.keep k7 fU.1;have iT:aD (gw aU.length) H (upd cC a (.inst (2 * aU.length+100) 1573 [.ref bl,.int rs.length 0,.int tg 0])):=ki.trans (k5.to2.trans (k6.to2.trans k7.toF));refine gA nQ rfl rfl rfl (cF rfl (qg (show 2≤m6 by omega) lh GS fun m7 (WD:m6=m7+1)=>?_))
 have tl:=dZ f (aI:=aI++[tg]);refine hE m7 _ _ (a::aU) (some tg::tgs) (aI++[tg]) _ b1 rs vv ev bT (j+1) (by omega) (by omega) (hf.kept iT) ⟨lh,A.wd.kept iT,⟨⟨1573,_,nQ,rfl,qt,_,_,rfl⟩,A.cx.keep aF iT⟩,fun t=>?_,A.vi,A.eh,by simp;omega,by omega,by omega⟩ (by omega) ?_
 .simp[A.tg t]
  exact Or.comm
 have jy:=hA.iG iT;cases ht:bG (aI++[tg]) f with
 |mk o ns=>
  rw[ht] at jy;dsimp only at jy⊢;cases o with
  |sig nm ds=>exact fun hd w b H' val cM fG fO hb=>eU.rY hJ hL jy nQ qt rfl (show 4≤L by omega) hd w b H' val cM fG fO (by omega)
  |fS t x=>
   by_cases e:t=tg
   .subst e
    dsimp only at jy;rw[bE rfl] at jy;exact fun hd w b H' val cM fG fO hb=>eU.BX hJ hL jy nQ qt pP hd w b H' val cM fG fO (by omega)
   .dsimp only at jy
    rw[aR e] at jy;exact fun hd w b H' val cM fG fO hb=>eU.rY hJ hL jy nQ qt (dw.mpr fun q=>e q.symm) (show 4≤L by omega) hd w b H' val cM fG fO (by omega)
  |val k'=>
   intro b2 gI th jU k8;have vJ:=k8 _ _ nQ (fg (by simp only[dH,AO.tag];omega))
   refine d7 (show 2≤m6+1 by omega) jU (by omega) vJ (by decide) (f:=1556) rfl rfl fun b3 eI Cp mE k9=>?_
   have tZ:=k9 _ _ vJ (cW (by simp[AO.tag]))
   refine Er ?_;unfold uP;obtain⟨s,em,_⟩:=mE.aY;refine gA tZ rfl rfl rfl (oY rfl (cP (gM em rfl (gA em rfl rfl rfl (cF rfl (rG (show 1≤m6 by omega) mE rfl fun HA MA kA=>?_))))))
   exact jy b3 HA (by omega) MA ((k8.up (dU _)).trans (k9.to2.trans kA.CA))
end
section
variable{c:Nat}
variable(hJ:ie≠36)(mH:2≤ie)(hL:2≤L)(kO:L≤30)(pP:5≤L)
theorem nc.ref(h:nc H w lv):∃c,w=.ref c:=by
 cases lv with
 |sig nm ds=>obtain⟨c,d,rfl,_⟩:=h;exact⟨c,rfl⟩
 |fS t k=>obtain⟨c,rfl,_⟩:=h;exact⟨c,rfl⟩
include hL in
theorem eU.GZ(h:eU S g ie W n L H aU rs vv ev bT j lv){x y z u:aC}(ha:H a=some (.inst (2 * aU.length+100) 1613 [x,y,.bool true,z,u])):eU S g ie W n L H (a::aU) rs vv ev bT j lv:=by
 intro hd w b H' val cM fG fO hb lv cl M hu k;have nR:=k _ _ ha (fg (by simp only[dH,AO.tag];omega))
 refine⟨a,aU,val,b,_,fG,fO,bT,_,_,_,1610,rfl,M,nR,rfl,rfl,?_⟩;obtain⟨m,rfl,_⟩:=dN (show 1≤L by omega)
 refine Eo ?_;unfold uN;exact gA nR rfl rfl rfl (eX (eE (.inr ⟨rfl,⟨_,_,_,_,_,_,M⟩,fun gJ hM k'=>h hd w b gJ val cM fG fO hb (lv.keep k') (cl.keep k') (hM _ _ _ _ _ _ M) hu ((k.up (dU _)).trans k'.to3)⟩)))
include hJ hL kO pP in
theorem eU.TP{G':Fm}(hE:Ev S g ie W n L G'){cl:Addr}{w2:aC}(hr:RF H ie G' w2)(hh:48+8 * fP G'≤n)(ha:H a=some (.inst (2 * aU.length+100) 1613 [.ref cl,.int rs.length 0,.bool false,.ref 98,.none]))(hl:H cl=some (.list 1 [w2]))
  (wd:Wd g H) (cx:ik H aU tgs) (tg:∀t,some t∈tgs↔t∈aI) (vi:∃k,vv=.int k 0) (eh:handedIn ev=true) (l1:aU.length+cost G'+3≤990) (l2:rs.length+cost G'+1≤990) (l3:bT.length+cost G'+1≤9000)
  (hv:∀k,(bG aI G').1=.val k→eU S g ie W n L H aU rs vv ev (bT++(bG aI G').2) j lv) (hn:(∀k,(bG aI G').1≠.val k)→After S g ie W n L H aU rs vv ev (bT++(bG aI G').2) j (bG aI G').1):
  eU S g ie W n L H (a::aU) rs vv ev bT (j+cost G'+3) lv:=by
 intro hd w b H' val cM fG fO hb tX cl' M hu k;have nR:=k _ _ ha (fg (by simp only[dH,AO.tag];omega))
 have qi:=k _ _ hl eY;refine⟨a,aU,val,b,_,fG,fO,bT,_,_,_,1610,rfl,M,nR,rfl,rfl,?_⟩;obtain⟨m,rfl,_⟩:=dN (show 1≤L by omega)
 refine Eo ?_;unfold uN;obtain⟨s,em,_⟩:=M.aY;refine gA nR rfl rfl rfl (eX (cP (gA em rfl rfl rfl (gM M.fix.iY rfl (gA nR rfl rfl rfl (cF rfl (fF (show 3≤m by omega) M hJ fun aH dy k2 _=>?_)))))))
 rw[hu] at dy;have kX:=k2 _ _ nR (cW (by simp[AO.tag]))
 refine sA kX rfl (by omega) (by simp) (sA aA rfl (by omega) (show 2≤5 by decide) ?_)
 rw[bF];have k3:aD (aG [2 * aU.length+100]) aH (upd aH a (.inst (2 * aU.length+100) 1613 [.ref cl,.int rs.length 0,.bool true,.ref 98,w])):=.set kX (by simp[aG,AO.tag])
 have fo:=dy.keep k3 fU.1;have t4:upd aH a (.inst (2 * aU.length+100) 1613 [.ref cl,.int rs.length 0,.bool true,.ref 98,w]) a=some (.inst (2 * aU.length+100) 1613 [.ref cl,.int rs.length 0,.bool true,.ref 98,w]):=aA;have xw:=k3 _ _ (k2 _ _ qi rfl) (cW (by simp[AO.tag]))
 refine gA t4 rfl rfl rfl (nL 1 (by decide) (by simp) fun e he=>?_)
 have k4:aD aJ _ (upd (upd aH a (.inst (2 * aU.length+100) 1613 [.ref cl,.int rs.length 0,.bool true,.ref 98,w])) e (.list 1 [])):=.new he;have fQ:=fo.keep k4;obtain⟨s,em,_⟩:=fQ.aY;have vD:=k4 _ _ t4 rfl;refine t9 (k4 _ _ xw rfl) aA (eE (gM em rfl (gA vD rfl rfl rfl (rZ (show 2≤m by omega) fQ (by simp;omega) fun sq cI fy Zf k5=>.inl ⟨rfl,?_⟩))))
 have vC:=k5 _ _ vD (cW (by simp[AO.tag]))
 have Jn:=k5 _ _ (k4 _ _ xw rfl) rfl;have nW:aD (gw aU.length) H cI:=(k.up (dU _)).trans (k2.xH.trans (k3.toF.trans (k4.of0.trans k5.to3)));have Yy:nc cI w lv:=((nc.keep (nc.keep tX k2) k3 (cW (by simp))).keep k4).keep k5
 have Zl:=hr.kept nW;refine El (tgs:=none::tgs) (aI:=aI) (k0:=0) (i:=0) (j:=j+2) hL kO (.cons G' .nil) ⟨hE,trivial⟩ (fun e=>by cases e) (by simp only[kS];omega) fy Zf Jn (by unfold nS nS;exact⟨w2,[],rfl,Zl,rfl⟩) (g6 _) ⟨wd.kept nW,⟨⟨1613,_,vC,rfl⟩,cx.keep aF nW⟩,fun t=>by rw[←tg t];simp,vi,eh,by simp[ft];omega,by simp[ft];omega,by simp[ft];omega⟩ (by simp[ft];omega) ?_
 have tl:=dZ G' (aI:=aI);simp only[fb];cases ht:bG aI G' with
 |mk o2 xC=>
  rw[ht] at hv hn tl;cases o2 with
  |sig nm ds=>exact fun hd w b H' val cM fG fO hb=>eU.GZ hL ((hn fun k e=>by cases e).iG nW) vC hd w b H' val cM fG fO (by omega)
  |fS t x=>exact fun hd w b H' val cM fG fO hb=>eU.GZ hL ((hn fun k e=>by cases e).iG nW) vC hd w b H' val cM fG fO (by omega)
  |val k'=>
   intro b2 cC th lj k6;simp only[gE] at lj;have xy:=k6 _ _ vC (fg (by simp only[dH,AO.tag];omega))
   refine d7 (show 2≤n by omega) lj (by omega) xy (by decide) (f:=1603) rfl rfl fun b3 cZ Cp lh k7=>?_
   have nQ:=k7 _ _ xy (cW (by simp[AO.tag]))
   obtain⟨mn,rfl,_⟩:=dN (show 1≤n by omega)
   refine yb ?_;unfold qw;have Wb:=(Yy.keep k6 eY).keep k7;obtain⟨c,rfl⟩:=Wb.ref;obtain⟨s,em,_⟩:=lh.aY;refine gA nQ rfl rfl rfl (eX (cP (gA nQ rfl rfl rfl (oY rfl (cP (gM em rfl (cF rfl (rj (show 1≤mn by omega) lh fun gI jU k8=>?_))))))))
   obtain⟨s,em,_⟩:=jU.aY;exact gM em rfl (gA (k8 _ _ nQ (cW (by simp[AO.tag]))) rfl rfl rfl (cF rfl (rO (show 3≤m+1+1 by omega) (show m+1+1≤mn by omega) (hv k' rfl) (Wb.keep k8) jU (nW.trans ((k6.up (dU _)).trans (k7.to2.trans k8.to3))) (by omega))))
include hJ hL kO pP mH in
theorem BR{f f2:Fm}(hE:Ev S g ie W n L f)(RU:Ev S g ie W n L f2):Ev S g ie W n L (.unwind f f2):=by
 intro m H v aU tgs aI val b rs vv ev bT j hm GQ hr A hb hA;unfold fP at hm;unfold cost at A hb;unfold RF at hr;simp only[bG] at hA;obtain⟨hv,w1,w2,hs,hr,hf,tY⟩:=hr;refine eG (show 4≤m by omega) A.st iU hr (by simp) fun m1 l aE GR d8 hl k1=>?_
 have l1:=A.l1;have l2:=A.l2;have l3:=A.l3;have sF:Wd g aE:=A.wd.kept (k:=0) k1.of0;refine fx (show 4≤m1 by omega) d8 (hs.keep k1) (by decide) sF.unwind rfl hl (by simp) fun m2 Gu=>?_
 obtain⟨m3,rfl,_⟩:=dN (show 1≤m2 by omega)
 refine LV ?_;unfold Ar;obtain⟨s,em,_⟩:=d8.aY;refine gM em rfl (NT 1 (by decide) hl (by decide) fun bl vI=>?_)
 have k2:aD aJ aE (upd aE bl (.list 1 [w2])):=.new vI;have dy:=d8.keep k2;obtain⟨s,em,_⟩:=dy.aY;refine gA em rfl rfl rfl (gM dy.fix.iY rfl (cF rfl (j3 (show 1≤m3 by omega) dy (h9 (2 * aU.length+100) (by simp) (fI:=1596) rfl rfl (show 2≤m3 by omega) fun a k hk ha=>?_))))
 refine LW ?_;unfold As;refine sA aA rfl (by simp) aF ?_
 rw[bF];refine sA aA rfl (by simp) aF ?_
 rw[bF];refine sA aA rfl (by simp) aF ?_
 rw[bF];refine sA aA rfl (by simp) aF ?_
 rw[bF];refine sA aA rfl (by simp) aF ?_
 rw[bF];have k3:aD aJ H (upd (upd aE bl (.list 1 [w2])) a (.inst (2 * aU.length+100) 1613 [.ref bl,.int rs.length 0,.bool false,.ref 98,.none])):=(k1.trans k2).trans (.new ha);refine⟨rfl,cF rfl (j0 (show 1≤m3 by omega) (A.st.keep k3) (by omega) fun bI fQ k4=>?_)⟩
 have vD:=k4 _ _ (aA (o:=AO.inst (2 * aU.length+100) 1613 [.ref bl,.int rs.length 0,.bool false,.ref 98,.none])) (cW (by simp[AO.tag]))
 have nb:bl≠a:=fun e=>by subst e;rw[aA] at ha;cases ha
 have Gv:bI bl=some (.list 1 [w2]):=k4 _ _ (by rw[aT nb,aA];rfl) rfl
 have qi:bI l=some (.list 1 [w1,w2]):=k4 _ _ (aD.new (M:=aJ) ha _ _ (k2 _ _ hl rfl) rfl) rfl;have ki:aD (gw aU.length) H bI:=k3.of0.trans k4.to3;obtain⟨s,em,_⟩:=fQ.aY;have cx4:ik bI (a::aU) (none::tgs):=⟨⟨1613,_,vD,rfl⟩,A.cx.keep aF ki⟩;have VQ:∀t,some t∈(none::tgs)↔t∈aI:=fun t=>by rw[←A.tg t];simp
 have tl:=dZ f (aI:=aI);have tl2:=dZ f2 (aI:=aI);refine gM em rfl (ji qi rfl (cF rfl (hE m3 _ _ (a::aU) (none::tgs) aI _ b rs vv ev bT (j+cost f2+3) (by omega) (by omega) (hf.kept ki) ⟨fQ,A.wd.kept ki,cx4,VQ,A.vi,A.eh,by simp;omega,by omega,by omega⟩ (by omega) ?_)))
 have jy:=hA.iG ki;cases ht:bG aI f with
 |mk o ns=>
  rw[ht] at jy tl;dsimp only at tl jy⊢;have away:∀lv,(∀k,(bG aI f2).1=.val k→eU S g ie W n L bI aU rs vv ev (bT++(ns++(bG aI f2).2)) j lv)→eU S g ie W n L bI (a::aU) rs vv ev (bT++ns) (j+cost f2+3) lv:=fun lv tX=>
   eU.TP (aI:=aI) (tgs:=tgs) hJ hL kO pP RU (tY.kept ki) (by omega) vD Gv (A.wd.kept ki) (A.cx.keep aF ki) A.tg A.vi A.eh (by omega) (by omega) (by simp;omega) (fun k e=>by rw[gC];exact tX k e) fun hn=>by
    rw[gC];cases h2:bG aI f2 with
    |mk o2 xC=>
     rw[h2] at jy hn;cases o2 with
     |val k=>exact absurd rfl (hn k)
     |sig nm ds=>exact jy
     |fS t x=>exact jy
  cases o with
  |sig nm ds=>
   refine away _ fun k e=>?_
   cases h2:bG aI f2 with
   |mk o2 xC=>rw[h2] at jy e;cases e;exact jy
  |fS t x=>
   refine away _ fun k e=>?_
   cases h2:bG aI f2 with
   |mk o2 xC=>rw[h2] at jy e;cases e;exact jy
  |val k0=>
   intro b2 cI th fy k5;have vC:=k5 _ _ vD (fg (by simp only[dH,AO.tag];omega))
   have Jn:=k5 _ _ Gv eY;refine d7 (show 2≤n by omega) fy (by omega) vC (by decide) (f:=1603) rfl rfl fun b3 cC Cp lj k6=>?_
   have xy:=k6 _ _ vC (cW (by simp[AO.tag]))
   have NG:=k6 _ _ Jn rfl;obtain⟨mn,rfl,_⟩:=dN (show 1≤n by omega)
   refine yb ?_;unfold qw;obtain⟨s,em,_⟩:=lj.aY;refine gA xy rfl rfl rfl (eX (eE (gA em rfl rfl rfl (sA xy rfl (by omega) (show 3≤5 by decide) (sA aA rfl (by omega) (show 2≤5 by decide) ?_)))))
   rw[bF];have k7:aD (aG [2 * aU.length+100]) cC (upd cC a (.inst (2 * aU.length+100) 1613 [.ref bl,.int rs.length 0,.bool true,.int k0 0,.none])):=.set xy (by simp[aG,AO.tag])
   have lh:=lj.keep k7 fU.1;have nQ:upd cC a (.inst (2 * aU.length+100) 1613 [.ref bl,.int rs.length 0,.bool true,.int k0 0,.none]) a=some (.inst (2 * aU.length+100) 1613 [.ref bl,.int rs.length 0,.bool true,.int k0 0,.none]):=aA;have GS:=k7 _ _ NG (cW (by simp[AO.tag]))
   have Bh:aD (gw aU.length) bI (upd cC a (.inst (2 * aU.length+100) 1613 [.ref bl,.int rs.length 0,.bool true,.int k0 0,.none])):=(k5.up (dU _)).trans (k6.to2.trans k7.toF);have iT:=ki.trans Bh;refine gA nQ rfl rfl rfl (cF rfl (qg (show 2≤mn by omega) lh GS fun m7 (WD:mn=m7+1)=>?_))
   refine RU m7 _ _ (a::aU) (none::tgs) aI _ b3 rs vv ev (bT++ns) (j+1) (by omega) (by omega) (tY.kept iT) ⟨lh,A.wd.kept iT,⟨⟨1613,_,nQ,rfl⟩,A.cx.keep aF iT⟩,VQ,A.vi,A.eh,by simp;omega,by omega,by simp;omega⟩ (by omega) ?_
   rw[gC];have zo:=jy.iG Bh;cases h2:bG aI f2 with
   |mk o2 xC=>
    rw[h2] at zo;dsimp only at zo⊢;cases o2 with
    |sig nm ds=>exact fun hd w b H' val cM fG fO hb=>eU.GZ hL zo nQ hd w b H' val cM fG fO (by omega)
    |fS t x=>exact fun hd w b H' val cM fG fO hb=>eU.GZ hL zo nQ hd w b H' val cM fG fO (by omega)
    |val k'=>
     intro b4 gI NL jU k8;have vJ:=k8 _ _ nQ (fg (by simp only[dH,AO.tag];omega))
     refine d7 (show 2≤mn+1 by omega) jU (by omega) vJ (by decide) (f:=1603) rfl rfl fun b5 eI Kh mE k9=>?_
     have tZ:=k9 _ _ vJ (cW (by simp[AO.tag]))
     refine yb ?_;unfold qw;obtain⟨s,em,_⟩:=mE.aY;refine gA tZ rfl rfl rfl (eX (cP (gA tZ rfl rfl rfl (oY rfl (eE (gM em rfl (gA tZ rfl rfl rfl (cF rfl (rG (show 1≤mn by omega) mE rfl fun HA MA kA=>?_)))))))))
     exact zo b5 HA (by omega) MA ((k8.up (dU _)).trans (k9.to2.trans kA.CA))
end
section
variable(hJ:ie≠36)(hL:2≤L)(pP:5≤L)
theorem qf{p:Pl}{d:aC}(hn:2≤p.n)(h:ef g ie H aU val b rs vv ev bT)(hk:aU.length < 1000)(q:∀a H',ef g ie H' (a::aU) val b rs vv ev bT→H' a=some (.inst (2 * aU.length+100) 928 [v,d,.int 0 0])→aD (aG [3]) H H'→Q .none H'):
  cV p H (.ref 928) [v,d] (fun v20 H=>cV p H (.ref 991) ([.ref g.aY]++[v20]) Q E) E:=by
 refine h9 (2 * aU.length+100) (by simp) (fI:=911) rfl rfl hn fun x k qu hx=>?_
 refine PS ?_;unfold Dz;refine sA aA rfl (by simp) aF ?_
 rw[bF];refine sA aA rfl (by simp) aF ?_
 rw[bF];refine sA aA rfl (by simp) aF ?_
 rw[bF];have k0:aD aJ H (upd H x (.inst (2 * aU.length+100) 928 [v,d,.int 0 0])):=.new hx;refine⟨rfl,cF rfl (j0 (show 1≤p.n by omega) (h.keep k0) hk fun aH h2 k2=>q x aH h2 (k2 _ _ aA ?_) (k0.of0.trans k2))⟩
 exact cW (by simp[AO.tag])
theorem mj{bl:Addr}{d:aC}{kM:aB}{i:Nat}(hn:8≤n)(M:ef g ie H (a::aU) val b rs vv ev bT)(hb:1≤b)(ha:H a=some (.inst (2 * aU.length+100) 928 [.ref bl,d,.int i 0]))(hl:H bl=some (.list 1 kM))(hi:kM[i]?=some v)
  (h:∀m b' H',n=m+1→b=b'+1→ef g ie H' (a::aU) val b' rs vv ev bT→H' a=some (.inst (2 * aU.length+100) 928 [.ref bl,d,.int (i+1:Nat) 0])→H' bl=some (.list 1 kM)→aD (gw aU.length) H H'→Sat S m none (.ref 1033) [.ref g.aY,v] H' (fun _ H'=>Good S g ie W (n+1) b' H') (EG S g ie W n b')):Good S g ie W (n+1) b H:=by
 refine d7 (show 2≤n by omega) M hb ha (by decide) (f:=918) rfl rfl fun b1 aE xx d8 k1=>?_
 have sC:=k1 _ _ ha (cW (by simp[AO.tag]))
 have qK:=k1 _ _ hl rfl;obtain⟨m,rfl,hm⟩:=dN (show 1≤n by omega)
 have fT:=(cQ.mp hi).1;refine JC ?_;unfold xX;refine gA sC rfl rfl rfl (gA sC rfl rfl rfl (fB qK (Jt ?_)));rw[show(decide ((i:Int) < kM.length))=true from by simp;omega]
 refine eE (gA sC rfl rfl rfl (pk (sA sC rfl (by omega) (show 2≤3 by decide) ?_)))
 have k2:aD (aG [2 * aU.length+100]) aE (upd aE a (.inst (2 * aU.length+100) 928 [.ref bl,d,.int (i+1:Nat) 0])):=.set sC (by simp[aG,AO.tag])
 have dy:=d8.keep k2 fU.1;have kX:upd aE a (.inst (2 * aU.length+100) 928 [.ref bl,d,.int (i+1:Nat) 0]) a=some (.inst (2 * aU.length+100) 928 [.ref bl,d,.int (i+1:Nat) 0]):=aA;have sz:=k2 _ _ qK (cW (by simp[AO.tag]))
 obtain⟨s,em,_⟩:=dy.aY;refine gM em rfl (gA kX rfl rfl rfl (gA kX rfl rfl rfl (ua (ji sz (v:=v) ?_ (cF rfl (h m b1 _ rfl xx dy kX sz (k1.to2.trans k2.toF)))))));unfold vE;rw[bE (by omega),show(((i+1:Nat):Int) - 1).toNat=i from by omega];exact hi
theorem tP{bl:Addr}{kM:aB}{pre:List (Bool×aC)}(hJ:ie≠36)(hn:8≤n)(M:ef g ie H (a::aU) val b (pre++rs) vv ev bT)(hb:1≤b)(ha:H a=some (.inst (2 * aU.length+100) 928 [.ref bl,.int rs.length 0,.int kM.length 0]))(hl:H bl=some (.list 1 kM))(h0:kM≠[])
  (h:∀b' H',b=b'+1→ef g ie H' aU val b' rs (nX pre (vv,ev)).1 (nX pre (vv,ev)).2 bT→aD (gw aU.length) H H'→Good S g ie W (n+1) b' H'):Good S g ie W (n+1) b H:=by
 refine d7 (show 2≤n by omega) M hb ha (by decide) (f:=918) rfl rfl fun b1 aE xx d8 k1=>?_
 have sC:=k1 _ _ ha (cW (by simp[AO.tag]))
 have qK:=k1 _ _ hl rfl;obtain⟨m,rfl,hm⟩:=dN (show 1≤n by omega)
 refine JC ?_;unfold xX;refine gA sC rfl rfl rfl (gA sC rfl rfl rfl (fB qK (Jt ?_)));rw[show(decide ((kM.length:Int) < kM.length))=false from by simp]
 refine cP ?_;unfold jn;refine gA sC rfl rfl rfl (nL 1 (by decide) (by simp) fun e he=>?_)
 have k2:aD aJ aE (upd aE e (.list 1 [])):=.new he;have dy:=d8.keep k2;have kX:=k2 _ _ sC rfl;obtain⟨s,em,_⟩:=dy.aY;refine t9 (k2 _ _ qK rfl) aA ?_;rw[show(!kM.isEmpty)=true from by cases kM with|nil=>exact absurd rfl h0|cons=>rfl]
 refine eE (gA em rfl rfl dy.o9 ?_);refine gA em rfl rfl rfl (gM dy.fix.iY rfl (gA kX rfl rfl rfl (cF rfl (fF (show 3≤m by omega) dy hJ fun aO fo k3 _=>?_))))
 obtain⟨s,em,_⟩:=fo.aY;exact gM em rfl (cF rfl (rG (show 1≤m by omega) fo dy.o9 fun bI fQ k4=>h b1 bI xx fQ (k1.to2.trans (k2.of0.trans (k3.xH.trans k4.CA)))))
include hL hJ pP in
theorem eU.body{v1 e1:aC}{pre:List (Bool×aC)}(h:eU S g ie W n L H aU rs vv ev bT j lv){x z:aC}(ha:H a=some (.inst (2 * aU.length+100) 928 [x,.int rs.length 0,z]))(hp:nX pre (v1,e1)=(vv,ev)):eU S g ie W n L H (a::aU) (pre++rs) v1 e1 bT j lv:=by
 intro hd w b H' val cM fG fO hb tX cl M hu k;have nR:=k _ _ ha (fg (by simp only[dH,AO.tag];omega))
 refine⟨a,aU,val,b,_,fG,fO,bT,_,_,_,925,rfl,M,nR,rfl,rfl,?_⟩;obtain⟨m,rfl,_⟩:=dN (show 1≤L by omega)
 refine PQ ?_;unfold Dy;obtain⟨s,em,_⟩:=M.aY;rw[←gC] at M;refine gA em rfl rfl rfl (gM M.fix.iY rfl (gA nR rfl rfl rfl (cF rfl (fF (show 3≤m by omega) M hJ fun aH dy k2 _=>?_))))
 rw[qc,hu,hp] at dy;exact .inr ⟨rfl,⟨_,_,_,_,_,_,dy⟩,fun gJ hM k'=>h hd w b gJ val [] vv ev hb (tX.keep k2 |>.keep k') (cl.keep k2 |>.keep k') (hM _ _ _ _ _ _ dy) rfl ((k.up (dU _)).trans (k2.xH.trans k'.to3))⟩
theorem qo{p s:aC}{k:Int}(hn:5≤n)(nn:mD H)(hg:∃fs,H g.aY=some (.inst 2 1132 fs))(hr:RL H v [p])(hp:RL H p [s,.int k 0])(hs:Sym H s i nm)(q:∀l pr H',H' l=some (.list 1 [.ref pr])→H' pr=some (.tup 1 [s,.int k 0])→aD aJ H H'→Q (.ref l) H'):Sat S n none (.ref 1411) [.ref g.aY,v] H Q E:=by
 obtain⟨m,rfl,hm⟩:=dN hn;refine Mf ?_;unfold AK;obtain⟨fs,hg⟩:=hg;refine nL 1 (by decide) (by simp) fun fl jR=>?_
 have k0:aD aJ H (upd H fl (.list 1 [])):=.new jR;refine gM (k0 _ _ hg rfl) rfl (cF rfl (kc (show 3≤m by omega) (nn.keep k0) iU (hr.keep k0) (by simp) fun l₁ aE qK k1=>?_))
 have Nz:=k0.trans k1;refine⟨.list l₁,[p],fun i us aH=>us=[.ref g.aY,v,.ref fl]∧aD aJ H aH∧aH l₁=some (.list 1 [p])∧(i=0→aH fl=some (.list 1 []))∧(i=1→∃pr,aH fl=some (.list 1 [.ref pr])∧aH pr=some (.tup 1 [s,.int k 0])),⟨rfl,1,qK⟩,⟨rfl,Nz,qK,fun _=>k1 _ _ aA rfl,fun e=>by cases e⟩,fun i us aH h=>⟨1,h.2.2.1⟩,?_,?_⟩
 .rintro i aH x hx u2 u3 u4 ⟨hu,k2,sz,tY,_⟩
  cases hu;cases i with
  |succ i=>cases hx
  |zero=>
   cases hx;have tY:=tY rfl;refine⟨rfl,?_⟩;unfold jn;obtain⟨pa,pd,rfl,Zr,r⟩:=hp.keep k2;refine cU rfl (jP Zr rfl) (eX (cP (gM (k2 _ _ hg rfl) rfl (cF rfl (kc (show 3≤m by omega) (nn.keep k2) iU (hp.keep k2) (by simp) fun jT aO xw k3=>?_)))))
   have mG:=k2.trans k3;obtain⟨sa,st,rfl,td,jz⟩:=hs.keep mG;refine fB xw (kW (xP (fB xw (Kq (xP (cP (ji xw rfl (cF rfl ?_))))))));obtain⟨m',rfl,_⟩:=dN (show 1≤m by omega)
   refine Eu ?_;unfold uS;refine cU rfl (jP jz rfl) (eX (cP (dW (k3 _ _ tY rfl) (ji xw rfl (fB xw (kW (eE (ji xw rfl (nT 1 (by decide) (by simp) fun pr J8=>?_)))))))))
   have k4:aD aJ aO (upd aO pr (.tup 1 [.ref sa,.int k 0])):=.new J8;have ZR:=k4 _ _ (k3 _ _ tY rfl) rfl;refine ff ZR (by decide) (by simp) ?_
   have k5:aD aJ H (upd (upd aO pr (.tup 1 [.ref sa,.int k 0])) fl (.list 1 ([]++[.ref pr]))):=(mG.trans k4).fresh jR;have nf:pr≠fl:=fun e=>by subst e;rw[k3 _ _ tY rfl] at J8;cases J8
   have nl:l₁≠fl:=fun e=>by subst e;rw[sz] at tY;cases tY
   exact⟨rfl,k5,by rw[aT nl];exact k4 _ _ (k3 _ _ sz rfl) rfl,(fun e=>by cases e),fun _=>⟨pr,aA,by rw[aT nf,aA]⟩⟩
 .rintro aH u5 u6 u7 ⟨hu,k2,sz,_,h1⟩
  cases hu;obtain⟨pr,h1,h2⟩:=h1 rfl;exact⟨iU.clean,q _ _ _ h1 h2 k2⟩
end
section
variable{c:Nat}
variable(hJ:ie≠36)(mH:2≤ie)(hL:2≤L)(kO:L≤30)(pP:5≤L)
theorem Cz:("v":Str)∈cK∧("e":Str)∈cK:=by decide+kernel
theorem MQ{pl bl vl pr:Addr}{s:aC}{k c0:Int}{body:aB}(hJ:ie≠36)(hn:12≤n)(hb:2≤b)(M:ef g ie H (a::aU) val b rs (.int c0 0) ev bT)(ha:H a=some (.inst (2 * aU.length+100) 1435 [.ref pl,.ref bl,.ref vl,.bool false]))(qH:H pl=some (.list 1 [.ref pr]))(J8:H pr=some (.tup 1 [s,.int k 0]))(vI:H bl=some (.list 1 body))(Ci:H vl=some (.list (2 * aU.length+101) []))(hs:Sym H s 36 "v")(l1:aU.length < 990)(l2:rs.length < 990)
  (h:∀b' H' a',b=b'+2→ef g ie H' (a'::aU) (.int k 0) b' ((true,.int c0 0)::rs) (.int k 0) ev bT→H' a'=some (.inst (2 * aU.length+100) 928 [.ref bl,.int rs.length 0,.int 0 0])→H' bl=some (.list 1 body)→aD (gw aU.length) H H'→Good S g ie W (n+1) b' H'):Good S g ie W (n+1) b H:=by
 refine d7 (show 2≤n by omega) M (by omega) ha (by decide) (f:=1432) rfl rfl fun b1 aE xx d8 k1=>?_
 have sC:=k1 _ _ ha (cW (by simp[AO.tag]))
 have OZ:=k1 _ _ qH rfl;have OQ:=k1 _ _ Ci (cW (by simp[AO.tag]))
 obtain⟨m,rfl,hm⟩:=dN (show 1≤n by omega)
 refine Es ?_;unfold uQ jn;refine gA sC rfl rfl rfl (eX (cP (gA sC rfl rfl rfl (fB OQ (gA sC rfl rfl rfl (fB OZ (Jt (eE (sA sC rfl (by omega) (show 3≤4 by decide) ?_)))))))))
 have k2:aD (aG [2 * aU.length+100]) aE (upd aE a (.inst (2 * aU.length+100) 1435 [.ref pl,.ref bl,.ref vl,.bool true])):=.set sC (by simp[aG,AO.tag])
 have dy:=d8.keep k2 fU.1;have kX:upd aE a (.inst (2 * aU.length+100) 1435 [.ref pl,.ref bl,.ref vl,.bool true]) a=some (.inst (2 * aU.length+100) 1435 [.ref pl,.ref bl,.ref vl,.bool true]):=aA;have OY:=k2 _ _ OZ (cW (by simp[AO.tag]))
 have OP:=k2 _ _ OQ (cW (by simp[AO.tag]))
 have OV:=k2 _ _ (k1 _ _ J8 rfl) (cW (by simp[AO.tag]))
 have kj:aD (gw aU.length) H (upd aE a (.inst (2 * aU.length+100) 1435 [.ref pl,.ref bl,.ref vl,.bool true])):=k1.to2.trans k2.toF;obtain⟨sm,em,_⟩:=dy.aY;refine gM em rfl (gA kX rfl rfl rfl (gA kX rfl rfl rfl (fB OP (ji OY rfl (eO OV rfl (cF rfl (nK (show 2≤m by omega) dy fun aO fo k3=>?_)))))))
 refine d7 (show 2≤m+1 by omega) fo (by omega) (k3 _ _ kX (cW (by simp[AO.tag]))) (by decide) (f:=1432) rfl rfl fun b2 bI th fQ k4=>?_
 have Bj:=k3.trans k4;have vD:=Bj _ _ kX (cW (by simp[AO.tag]))
 have KE:=Bj _ _ OP (cW (by simp[AO.tag]))
 have UQ:=Bj _ _ OY rfl;have UN:=Bj _ _ OV rfl;have KS:=Bj _ _ (k2 _ _ (k1 _ _ vI rfl) (cW (by simp[AO.tag]))) rfl
 have ki:=kj.trans Bj.to2;refine Es ?_;unfold uQ jn;obtain⟨sm,em,_⟩:=fQ.aY;refine gA vD rfl rfl rfl (eX (eE (gA vD rfl rfl rfl (dW KE (gA em rfl rfl rfl (ff KE (by simp) (by simp) ?_))))))
 have k5:aD (aG [2 * aU.length+101]) bI (upd bI vl (.list (2 * aU.length+101) [.int k 0])):=.set KE (by simp[aG,AO.tag])
 have fy:=fQ.keep k5 fU.2;have vC:=k5 _ _ vD (cW (by simp[AO.tag]))
 have OX:=k5 _ _ UQ (cW (by simp[AO.tag]))
 have UM:=k5 _ _ UN (cW (by simp[AO.tag]))
 have Pk:=k5 _ _ KS (cW (by simp[AO.tag]))
 have OO:upd bI vl (.list (2 * aU.length+101) [.int k 0]) vl=some (.list (2 * aU.length+101) [.int k 0]):=aA;obtain⟨sm,em,_⟩:=fy.aY;refine gA vC rfl rfl rfl (fB OO (gA vC rfl rfl rfl (fB OX (Jt (cP (gM em rfl (cF rfl (rj (show 1≤m by omega) fy fun cC lj k6=>?_))))))))
 obtain⟨sm,em,_⟩:=lj.aY;have xy:=k6 _ _ vC (cW (by simp[AO.tag]))
 have OW:=k6 _ _ OX rfl;have UL:=k6 _ _ UM rfl;have KR:=k6 _ _ Pk rfl;have Uz:=k6 _ _ OO (cW (by simp[AO.tag]))
 have vH:aD (gw aU.length) H cC:=ki.trans (k5.G0.trans k6.to3);refine gA em rfl rfl rfl (gM lj.fix.iY rfl (cF rfl (j3 (show 1≤m by omega) lj (gA xy rfl rfl rfl (fB OW (rI fun d x y z gH=>?_))))))
 have k7:aD aJ cC (upd cC d (.raw 1 (fz 0 1 1 x y z))):=.new gH;have iT:=vH.trans k7.of0;refine⟨.range 0 1 1,[.int 0 0],fun i us gI=>us=[.ref a,.ref g.aY,.int rs.length 0]∧aD (gw (aU.length+1)) cC gI∧(i=0→ef g ie gI aU (.int k 0) b2 rs (.int c0 0) ev bT∧aD aJ cC gI)∧(i=1→ef g ie gI aU (.int k 0) b2 ((true,.int c0 0)::rs) (.int k 0) ev bT),⟨⟨d,1,1,x,y,z,rfl,aA,by decide,by decide⟩,rfl⟩,⟨rfl,k7.of0,fun _=>⟨lj.keep k7,k7⟩,fun e=>by cases e⟩,fun i us gI h=>rfl,?_,?_⟩
 .rintro i gI x hx u2 u3 u4 ⟨hu,k8,h8,_⟩
  cases hu;cases i with
  |succ i=>cases hx
  |zero=>
   cases hx;obtain⟨jU,Nw⟩:=h8 rfl;obtain⟨sm,em,_⟩:=jU.aY;have vJ:=Nw _ _ xy rfl;refine⟨rfl,gA em rfl rfl rfl (gM jU.fix.iY rfl (gA vJ rfl rfl rfl (ji (Nw _ _ OW rfl) rfl (eO (Nw _ _ UL rfl) rfl (gA vJ rfl rfl rfl (ji (Nw _ _ Uz rfl) rfl (cF rfl ?_)))))))⟩;refine A9 (b:=true) (show 5≤m by omega) jU hJ (nm:="v") ((hs.keep (vH.trans Nw.of0) eY hX)) Cz.1 (show(2:Int)≤36 by decide) rfl (by omega) fun eI mE k9=>?_
   exact⟨rfl,(Nw.of0).trans k9.xH,(fun e=>by cases e),fun _=>mE⟩
 .rintro gI u5 u6 u7 ⟨hu,k8,_,h8⟩
  cases hu;have jU:=h8 rfl;obtain⟨sm,em,_⟩:=jU.aY;have vJ:=k8 _ _ xy (fg (by simp only[AO.tag];omega))
  refine⟨iU.clean,gM em rfl (gA vJ rfl rfl rfl (qf (show 2≤m by omega) jU (by omega) fun a' eI mE tZ k9=>?_))⟩
  exact h b2 eI a' (by omega) mE tZ (k9 _ _ (k8 _ _ KR eY) rfl) (vH.trans ((k8.up (dU _)).trans k9.to3))
include hJ hL kO pP mH in
theorem MY{k:Int}{f:Fm}(hE:Ev S g ie W n L f):Ev S g ie W n L (.iV k f):=by
 intro m H v aU tgs aI val b rs vv ev bT j hm GQ hr A hb hA;unfold fP at hm;unfold cost at A hb;unfold RF at hr;simp only[bG] at hA;obtain⟨hv,bv,p,w,s,s',hs,hr,rb,rp,ss,VS,hf⟩:=hr;refine eG (show 4≤m by omega) A.st iU hr (by simp) fun m1 l aE GR d8 hl k1=>?_
 have l1:=A.l1;have l2:=A.l2;have l3:=A.l3;obtain⟨c,rfl⟩:=A.vi;have sF:Wd g aE:=A.wd.kept (k:=0) k1.of0;refine fx (show 4≤m1 by omega) d8 (hs.keep k1) (by decide) sF.iV rfl hl (by simp) fun m2 Gu=>?_
 obtain⟨m3,rfl,_⟩:=dN (show 1≤m2 by omega)
 refine Md ?_;unfold AI;obtain⟨sm,em,_⟩:=d8.aY;refine gM em rfl (ji hl rfl (cF rfl (qo (show 5≤m3 by omega) d8.fix.nil ⟨_,em⟩ (rb.keep k1) (rp.keep k1) (VS.keep k1) fun pl pr aH qH J8 k2=>?_)))
 refine NT 1 (by decide) (k2 _ _ hl rfl) (by decide) fun bl vI=>?_
 have k3:aD aJ aH (upd aH bl (.list 1 [w,s])):=.new vI;have mG:=k1.trans (k2.trans k3);have UR:=k3 _ _ qH rfl;have UO:=k3 _ _ J8 rfl;have Vk:upd aH bl (.list 1 [w,s]) bl=some (.list 1 [w,s]):=aA;refine h9 (2 * aU.length+100) (by simp) (fI:=1425) rfl rfl (show 2≤m3 by omega) fun a k' qu ha=>?_
 refine Me ?_;unfold AJ;refine sA aA rfl (by simp) aF ?_
 rw[bF];refine sA aA rfl (by simp) aF ?_
 rw[bF];refine nL (2 * aU.length+101) (by simp) (g6 _) fun vl Ci=>?_
 have nx:a≠vl:=fun q=>by subst q;rw[aA] at Ci;cases Ci
 refine sA (by rw[aT nx,aA]) rfl (by simp) aF ?_
 refine sA aA rfl (by simp) aF ?_
 rw[bF];have k4:aD aJ (upd aH bl (.list 1 [w,s])) (upd (upd (upd (upd aH bl (.list 1 [w,s])) a (.inst (2 * aU.length+100) 1435 [.ref pl,.ref bl])) vl (.list (2 * aU.length+101) [])) a (.inst (2 * aU.length+100) 1435 [.ref pl,.ref bl,.ref vl,.bool false])):=fun b o hb _=>by
  have n1:b≠a:=fun q=>by subst q;rw[show upd aH bl (.list 1 [w,s]) b=none from ha] at hb;cases hb
  have n2:b≠vl:=fun q=>by
   subst q;rw[aT n1,show upd aH bl (.list 1 (List.drop (Int.toNat 1) [bv,w,s])) b=some o from hb] at Ci;cases Ci
  rw[aT n1,aT n2,aT n1];exact hb
 refine⟨rfl,cF rfl (j0 (show 1≤m3 by omega) (A.st.keep (mG.trans k4)) (by omega) fun cI fy k5=>?_)⟩
 have nW:aD (gw aU.length) H cI:=(mG.trans k4).of0.trans k5.to3;refine MQ hJ (show 12≤n by omega) (show 2≤b by omega) fy (k5 _ _ aA (cW (by simp[AO.tag]))) (k5 _ _ (k4 _ _ UR rfl) rfl) (k5 _ _ (k4 _ _ UO rfl) rfl) (k5 _ _ (k4 _ _ Vk rfl) rfl) (k5 _ _ (by rw[aT nx.symm,aA]) (cW (by simp[AO.tag]))) (VS.keep nW eY hX) (by omega) (by omega) fun b1 cC a' xx lj xy KR k6=>?_
 have vH:=nW.trans k6;refine mj (i:=0) (v:=w) (show 8≤n by omega) lj (by omega) xy KR rfl fun m7 b2 cZ WD th lh nQ Vj k7=>?_
 have iT:=vH.trans k7;have tl:=dZ f (aI:=aI);refine hE m7 _ _ (a'::aU) (none::tgs) aI _ b2 _ (.int k 0) ev bT (j+2) (by omega) (by omega) (hf.kept iT) ⟨lh,A.wd.kept iT,⟨⟨928,_,nQ,rfl⟩,A.cx.keep aF iT⟩,fun t=>by rw[←A.tg t];simp,⟨k,rfl⟩,A.eh,by simp;omega,by simp;omega,by omega⟩ (by omega) ?_
 have zo:=hA.iG iT;unfold Out.seq at zo;cases ht:bG aI f with
 |mk o ns=>
  rw[ht] at zo tl;dsimp only at zo tl⊢;cases o with
  |sig nm ds=>exact fun hd w b H' val cM fG fO hb=>eU.body (pre:=[(true,.int c 0)]) hJ hL pP zo nQ rfl hd w b H' val cM fG fO (by omega)
  |fS t x=>exact fun hd w b H' val cM fG fO hb=>eU.body (pre:=[(true,.int c 0)]) hJ hL pP zo nQ rfl hd w b H' val cM fG fO (by omega)
  |val k'=>
   dsimp only at zo;rw[gE] at zo;intro b3 gI Cp jU k8;have vJ:=k8 _ _ nQ (fg (by simp only[dH,AO.tag];omega))
   have Vi:=k8 _ _ Vj eY;refine mj (i:=1) (v:=s) (show 8≤n by omega) jU (by omega) vJ Vi rfl fun m9 b4 eI hm9 NL mE tZ Vh k9=>?_
   have Cs:=iT.trans ((k8.up (dU _)).trans k9);refine nJ (b:=true) (k:=k) (nm:="v") (show 4≤m9 by omega) mE (ss.keep Cs eY hX) Cz.1 (show(2:Int)≤36 by decide) (.inl rfl) fun HA MA kA=>?_
   refine tP (rs:=rs) (pre:=[(true,.int c 0)]) hJ (show 8≤n by omega) MA (by omega) (kA _ _ tZ (cW (by simp[AO.tag]))) (kA _ _ Vh rfl) (by simp) fun b5 HB Kh MB kB=>?_
   exact zo b5 HB (by omega) MB ((k8.up (dU _)).trans (k9.trans (kA.to2.trans kB)))
end
def gq(ls:bW):aB:=ls.map fun x=>.str x 0
def t5:bW:=((["user-error","wrong-type-argument","args-out-of-range","void-function","void-variable","cyclic-function-indirection","cyclic-variable-indirection","circular-list","setting-constant","invalid-read-syntax","invalid-function","wrong-number-of-arguments","end-of-file","arith-error","beginning-of-buffer","end-of-buffer","buffer-read-only","mark-inactive","search-failed","invalid-regexp","scan-error","file-error","no-catch","coding-system-error"]:List String).map Str.ofString)
def jH:bW:=(["error","quit","void-variable","end-of-buffer","no-catch"]:List String).map Str.ofString
def pX:bW:=(["text-read-only","overflow-error","file-already-exists","file-missing","file-locked","minibuffer-quit"]:List String).map Str.ofString
theorem jJ:t5.Nodup∧("error":Str)∉t5∧("quit":Str)∉t5∧jH.all (fun x=>x=="error"||x=="quit"||t5.contains x)=true∧pX.all (fun x=>!jH.contains x)=true∧(("error":Str)=="quit")=false:=by
 refine⟨?_,?_,?_,?_,?_,?_⟩<;>decide+kernel
def Bp(x:Str):bW:=if x="error" then["error"] else if x="quit" then["quit"] else[x,"error"]
theorem B4:∀x∈jH,cY x=Bp x∧x≠"wrong"∧x≠"far-wrong":=by decide+kernel
def Std(H:AH)(d:Addr)(n:Nat)(Ko:Str→Prop):Prop:=∃es,H d=some (.bR 1 es)∧es.length≤n∧∀x,Ko x→∃l,valueAt es x=some (.ref l)∧H l=some (.list 1 (gq (Bp x)))
variable{us:aB}{d:Addr}
theorem wH{Q:AH→Prop}{Ko:Str→Prop}(h:Std H d n Ko)(hn:n≤1000)(hz:us.length≤10)(q:∀H',(∀KW:Str→Prop,(∀x,KW x→(x=nm∧us=gq (Bp x))∨(Ko x∧x≠nm))→Std H' d (n+1) KW)→(∀a o,a≠d→H a=some o→H' a=some o)→Q H'):bJ H us fun v H=>cJ H (.ref d) (.str nm 0) v Q:=by
 obtain⟨es,h1,h2,h3⟩:=h;refine nL 1 (by decide) (by omega) fun l hl=>?_
 have nd:d≠l:=fun e=>by subst e;rw[h1] at hl;cases hl
 refine VT (by rw[aT nd];exact h1) (by omega) (q _ (fun KW hd=>⟨_,aA,by have:=pD es nm (.ref l);omega,fun x hx=>?_⟩) fun a o ha e=>by rw[aT ha,aT (fun q=>by subst q;rw[hl] at e;cases e)];exact e)
 rw[bK];rcases hd x hx with ⟨rfl,e⟩|⟨hx,ne⟩
 .exact⟨l,bE rfl,by rw[aT nd.symm,aA,e]⟩
 .obtain⟨l',a,b⟩:=h3 x hx
  refine⟨l',by rw[aR ne];exact a,?_⟩
  rw[aT (fun e=>by subst e;rw[h1] at b;cases b),aT (fun e=>by subst e;rw[hl] at b;cases b)];exact b
theorem jI{Q:AH→Prop}{N:Nat}(h:Std H d N (·∈jH))(hn:N≤1000)(hz:us.length≤10)(hm:nm∈pX)(q:∀H',Std H' d (N+1) (·∈jH)→(∀a o,a≠d→H a=some o→H' a=some o)→Q H'):bJ H us fun v H=>cJ H (.ref d) (.str nm 0) v Q:=
 wH h hn hz fun H' s k=>q H' (s _ fun x hx=>.inr ⟨hx,fun e=>by
  subst e
  have:=dC.mp jJ.2.2.2.2.1 x hm
  simp[hx] at this⟩) k
theorem Fe:("text-read-only":Str)∈pX∧("overflow-error":Str)∈pX∧("file-already-exists":Str)∈pX∧("file-missing":Str)∈pX∧("file-locked":Str)∈pX∧("minibuffer-quit":Str)∈pX:=by decide+kernel
theorem zb(hn:1≤n)(cl:eT hd H)(q:∀d N H',Std H' d N (·∈jH)→aD aJ H H'→Q (.ref d) H'):Sat S n hd (.ref 68) [] H Q E:=by
 obtain⟨m,rfl,hm⟩:=dN hn;refine T3 ?_;unfold JB;refine⟨1,by decide,fun d gH=>nL 1 (by decide) (by simp) fun l1 qK=>nL 1 (by decide) (by simp) fun l2 sz=>?_⟩
 have n1:d≠l1:=fun e=>by subst e;rw[aA] at qK;cases qK
 have n2:d≠l2:=fun e=>by subst e;rw[aT n1,aA] at sz;cases sz
 have n3:l1≠l2:=fun e=>by subst e;rw[aA] at sz;cases sz
 have hd2:upd (upd (upd H d (.bR 1 [])) l1 (.list 1 [.str "error" 0])) l2 (.list 1 [.str "quit" 0]) d=some (.bR 1 []):=by rw[aT n2,aT n1,aA]
 unfold oo;dsimp only;rw[hd2];refine⟨by simp,?_⟩
 obtain⟨es,qL⟩:∃es:List (Str×aC),es=(List.zip [("error":Str),("quit":Str)] [Value.ref l1,Value.ref l2]).foldl (fun es p=>stored es p.1 p.2) []:=⟨_,rfl⟩
 rw[←qL];have e0:∀x,valueAt es x=if x="quit" then some (.ref l2) else if x="error" then some (.ref l1) else none:=fun x=>by
  rw[qL,iK,iK,ux,pz,pz,List.foldl_nil,bK,bK];rfl
 have k2:aD aJ H (upd (upd (upd H d (.bR 1 [])) l1 (.list 1 [.str "error" 0])) l2 (.list 1 [.str "quit" 0])):=((aD.new gH).trans (.new qK)).trans (.new sz);have XQ:Std (upd (upd (upd (upd H d (.bR 1 [])) l1 (.list 1 [.str "error" 0])) l2 (.list 1 [.str "quit" 0])) d (.bR 1 es)) d 2 (fun x=>x="error"∨x="quit"):=by
  refine⟨es,aA,?_,fun x hx=>?_⟩
  .rw[qL]
   have h1:=pD ([]:List (Str×aC)) "error" (.ref l1);have h2:=pD (stored ([]:List (Str×aC)) "error" (.ref l1)) "quit" (.ref l2);simp only[rC] at h1;exact gX h2 (by omega)
  .have ne:("error":Str)≠"quit":=by have:=jJ.2.2.2.2.2;exact fun e=>by rw[e,fR] at this;cases this
   rcases hx with rfl|rfl
   .exact⟨l1,by rw[e0,aR ne,bE rfl],by rw[aT n1.symm,aT n3,aA];unfold Bp;rw[bE rfl];rfl⟩
   .exact⟨l2,by rw[e0,bE rfl],by rw[aT n2.symm,aA];unfold Bp;rw[aR ne.symm,bE rfl];rfl⟩
 have k3:=k2.fresh (o:=.bR 1 es) gH;refine nT 1 (by decide) (by simp) fun tp xv=>?_
 have Yl:tp≠d:=fun e=>by subst e;rw[aA] at xv;cases xv
 have iY:∀{H:AH} {o:AO} {a:Addr} {N:Nat} {Ko:Str→Prop},Std H d N Ko→H a=none→Std (upd H a o) d N Ko:=fun⟨es,h1,h2,h3⟩ ha=>⟨es,by rw[aT (fun e=>by subst e;rw[h1] at ha;cases ha)];exact h1,h2,fun x hx=>let⟨l,a1,b1⟩:=h3 x hx;⟨l,a1,by rw[aT (fun e=>by subst e;rw[b1] at ha;cases ha)];exact b1⟩⟩
 refine⟨.tup tp,t5.map fun x=>.str x 0,fun i us aE=>us=[.ref d]∧Std aE d (i+2) (fun x=>(x="error"∨x="quit")∨∃k,k < i∧t5[k]?=some x)∧aD aJ H aE∧aE tp=some (.tup 1 (t5.map fun x=>.str x 0)),⟨rfl,1,aA⟩,⟨rfl,?_,k3.trans (.new xv),aA⟩,fun i us aE h=>⟨1,h.2.2.2⟩,?_,?_⟩
 .obtain⟨Km,a1,a2,a3⟩:=iY (o:=.tup 1 (t5.map fun x=>.str x 0)) XQ xv
  exact⟨Km,a1,a2,fun x hx=>a3 x (hx.elim id fun⟨k,hk,_⟩=>absurd hk (Nat.not_lt_zero _))⟩
 .rintro i aE x Wv u ⟨hu,st,k4,ht⟩
  cases hu;rw[fL] at Wv;obtain⟨y,hy,rfl⟩:=ey.mp Wv;have fT:i < 24:=(cQ.mp hy).1;have O5:y∈t5:=hZ hy;have ne1:y≠"error":=fun e=>jJ.2.1 (e▸O5)
  have ne2:y≠"quit":=fun e=>jJ.2.2.1 (e▸O5)
  refine⟨rfl,wH st (by omega) (by simp) fun aH s k5=>⟨rfl,?_,?_,k5 _ _ Yl ht⟩⟩
  .refine s _ fun x hx=>?_
   rcases hx with hx|⟨k,hk,hx⟩
   .exact .inr ⟨.inl hx,fun e=>by subst e;exact hx.elim ne1 ne2⟩
   .by_cases e:k=i
    .subst e
     rw[hy] at hx;cases hx;refine .inl ⟨rfl,?_⟩;unfold Bp;rw[aR ne1,aR ne2];rfl
    .refine .inr ⟨.inr ⟨k,by omega,hx⟩,fun q=>?_⟩
     subst q;exact e ((jW (cQ.mp hx).1 jJ.1).mp (hx.trans hy.symm))
  .intro a o ha m
   exact k5 a o (fun e=>by subst e;rw[gH] at ha;cases ha) (k4 a o ha m)
 .rintro aE u ⟨hu,st,k4,ht⟩
  cases hu;have XP:Std aE d 26 (·∈jH):=by
   obtain⟨Km,a1,a2,a3⟩:=st;refine⟨Km,a1,a2,fun x hx=>a3 x ?_⟩
   have:=dC.mp jJ.2.2.2.1 x hx
   simp only[kq,dE,fM] at this;rcases this with h|h
   .exact .inl h
   .obtain⟨k,hk⟩:=yh h
    exact .inr ⟨k,by rw[dO];exact(cQ.mp hk).1,hk⟩
  obtain⟨m1,m2,m3,m4,m5,m6⟩:=Fe;refine⟨cl.keep k4 |>.clean,jI XP (by decide) (by simp) m1 fun aH XO k5=>jI XO (by decide) (by simp) m2 fun aO XN k6=>jI XN (by decide) (by simp) m3 fun bI XM k7=>jI XM (by decide) (by simp) m4 fun cI XK k8=>jI XK (by decide) (by simp) m5 fun cC XJ k9=>jI XJ (by decide) (by simp) m6 fun cZ XI kA=>?_⟩
  refine q d _ cZ XI fun a o ha mm=>?_
  have na:a≠d:=fun e=>by subst e;rw[gH] at ha;cases ha
  exact kA _ _ na (k9 _ _ na (k8 _ _ na (k7 _ _ na (k6 _ _ na (k5 _ _ na (k4 a o ha mm))))))
theorem qq(hn:2≤n)(cl:eT hd H)(hm:nm∈jH)(q:∀l H',H' l=some (.list 1 (gq (cY nm)))→aD aJ H H'→Q (.ref l) H'):Sat S n hd (.ref 75) [.str nm 0] H Q E:=by
 obtain⟨m,rfl,qJ⟩:=dN hn;refine T2 ?_;unfold JA;refine cF rfl (zb (show 1≤m by omega) cl fun d N aE ⟨es,h1,h2,h3⟩ k1=>qy h1 (nL 1 (by decide) (by simp) fun e he=>?_))
 have k2:aD aJ aE (upd aE e (.list 1 [.str nm 0])):=.new he;refine zM (k2 _ _ h1 rfl) ?_;obtain⟨l,a,b⟩:=h3 nm hm;rw[a];refine q l _ ?_ (k1.trans k2);rw[k2 _ _ b rfl,(B4 nm hm).1]
theorem iR(hn:1≤n)(F:ko g H)(hs:Sym H v i nm){es:List (Int×aC)}{t:Nat}(hf:H g.eJ=some (.aX t es))(q:Q ((valueAt es i).getD (.ref 98)) H):Sat S n hd (.ref 312) [.ref g.cells,v] H Q E:=by
 obtain⟨m,rfl,hm⟩:=dN hn;obtain⟨a,t,rfl,ht,ha⟩:=hs;refine Qk ?_;unfold DZ;exact gA F.cells rfl rfl rfl (uZ hf (gA ha rfl rfl rfl (Dn hf q)))
theorem oR(hn:2≤n)(F:ko g H)(hs:Sym H v i nm){es:List (Int×aC)}{t:Nat}(hf:H g.eJ=some (.aX t es))(he:valueAt es i=none)(q:Q .none H):Sat S n hd (.ref 326) [.ref g.cells,v,w] H Q E:=by
 obtain⟨m,rfl,hm⟩:=dN hn;refine CT ?_;unfold ug;refine gM F.cells rfl (cF rfl (iR (show 1≤m by omega) F hs hf ?_))
 rw[he];refine⟨fun j us aE=>aE=H∧us=[.ref g.cells,v,w,.ref 98,.int 0 0],0,⟨rfl,rfl⟩,?_⟩
 rintro j aE u5 u6 u7 u8 u9 ⟨rfl,hu⟩
 cases hu;unfold jn;exact cU rfl (jP F.nil rfl) (eX (my (cP q)))
theorem sW(hn:2≤n)(F:ko g H)(hs:Sym H v i nm){es:List (Int×aC)}{t:Nat}(hf:H g.eJ=some (.aX t es)){Gn:bW}(he:valueAt es i=some w)(hp:qQ g H w Gn)(q:∀d bG rest xs,H d=some (.inst 64 119 [bG,rest])→RL H bG xs→sD H xs Gn→xs.length≤10→Q (.ref d) H):Sat S n hd (.ref 326) [.ref g.cells,v,.ref g.vL] H Q E:=by
 obtain⟨m,rfl,hm⟩:=dN hn;obtain⟨a,d,bG,rest,xs,rfl,ha,gH,hh,rt,ss,hx⟩:=hp;refine CT ?_;unfold ug;refine gM F.cells rfl (cF rfl (iR (show 1≤m by omega) F hs hf ?_))
 rw[he];refine⟨fun j us aE=>aE=H∧us=[.ref g.cells,v,.ref g.vL,.ref a,.int 0 0],0,⟨rfl,rfl⟩,?_⟩
 rintro j aE u5 u6 u7 u8 u9 ⟨rfl,hu⟩
 cases hu;unfold jn;refine cU rfl (jP ha rfl) (eX (pj (gA ha rfl rfl rfl (cU rfl (jP gH rfl) (eX (pj (eE (gA ha rfl rfl rfl (oY oJ (K4 (eE (gA ha rfl rfl rfl (q d bG rest xs gH rt ss hx)))))))))))))
theorem zc(hn:3≤n)(F:ko g H)(hs:Sym H v i nm){es:List (Int×aC)}{t:Nat}(hf:H g.eJ=some (.aX t es))(he:valueAt es i=none)(q:Q (.ref 98) H):Sat S n hd (.ref 333) [.ref g.cells,v,w] H Q E:=by
 obtain⟨m,rfl,hm⟩:=dN hn;refine JF ?_;unfold ya;exact gM F.cells rfl (cF rfl (oR (show 2≤m by omega) F hs hf he (oY rfl (eE q))))
theorem xq(hn:3≤n)(F:ko g H)(hs:Sym H v i nm){es:List (Int×aC)}{t:Nat}(hf:H g.eJ=some (.aX t es)){Gn:bW}(he:valueAt es i=some w)(hp:qQ g H w Gn)(q:∀bG xs,RL H bG xs→sD H xs Gn→xs.length≤10→Q bG H):Sat S n hd (.ref 333) [.ref g.cells,v,.ref g.vL] H Q E:=by
 obtain⟨m,rfl,hm⟩:=dN hn;refine JF ?_;unfold ya;exact gM F.cells rfl (cF rfl (sW (show 2≤m by omega) F hs hf he hp fun d bG rest xs gH rt ss hx=>oY rfl (cP (gA gH rfl rfl rt.handed (q bG xs rt ss hx)))))
theorem rQ{x:Str}{ls:bW}:tW (.str x 0) (gq ls)=some (ls.contains x):=by
 unfold tW gq;rw[bE]
 .congr 1
  induction ls with
  |nil=>rfl
  |cons y ls ih=>
   rw[fj,G4,ih,uz]
   congr 1
   show(some (y==x)==some true)=(x==y)
   by_cases h:x=y
   .subst h;simp
   .rw[dw.mpr h,dw.mpr (lH h)];rfl
 .rw[List.all_map,dC];exact fun y _=>rfl
variable{nl:bW}
theorem sD.len:∀{vs:aB} {ns:bW},sD H vs ns→vs.length=ns.length
 |[],[],_=>rfl
 |_::_,_::_,⟨_,c⟩=>by rw[dH,dH,sD.len c]
 |[],_::_,h=>h.elim
 |_::_,[],h=>h.elim
theorem sD.at:∀{vs:aB} {ns:bW} {k:Nat} {v:aC},sD H vs ns→vs[k]?=some v→∃nm,ns[k]?=some nm∧∃i:Int,2≤i∧Sym H v i nm
 |_::_,_::_,0,_,⟨a,_⟩,h=>by cases h;exact⟨_,rfl,a⟩
 |_::_,_::_,k+1,_,⟨_,c⟩,h=>sD.at (k:=k) c h
 |[],[],_,_,_,h=>by cases h
 |[],_::_,_,_,h,_=>h.elim
 |_::_,[],_,_,h,_=>h.elim
theorem jw{A B:Type}{l:List A}{k:Nat}{x:A}{f:A→B}(h:l[k]?=some x):(l.take k).map f++[f x]=(l.take (k+1)).map f:=by
 obtain⟨fT,h⟩:=cQ.mp h;rw[jm fT,h,gW];rfl
theorem oS{es:List (Int×aC)}(hn:6≤n)(F:ko g H)(N:fk g H nl)(cl:eT hd H)(qI:nm∈cK)(qL:H g.eJ=some (.aX 63 es))
  (hk:∀k:Nat,(fC nl nm)[k]?=some nm→(valueAt es k=none∧nm∈jH)∨(qM g H "error-conditions" (.ref g.vL)∧∃v,valueAt es k=some v∧qQ g H v (cY nm)))
  (q:∀l H',H' l=some (.list 1 (gq (cY nm)))→fk g H' (fC (fC nl nm) "error-conditions")→(∀mo v',qM g H mo v'→qM g H' mo v')→(∀k:Nat,(fC (fC nl nm) "error-conditions")[k]?=some "error-conditions"→∃v,qM g H' "error-conditions" v∧Sym H' v k "error-conditions")→aD (aG [6,7]) H H'→Q (.ref l) H'):Sat S n hd (.ref 1499) [.ref g.bH,.str nm 0] H Q E:=by
 obtain⟨m,rfl,hm⟩:=dN hn;refine Ma ?_;unfold AE;refine gA F.bH rfl rfl rfl (gM F.fY rfl (cF rfl (g7 (show 4≤m by omega) F N qI fun v k aE mC RE s1 k1 i1 j1=>?_)))
 have F1:=F.keep k1;have em:("error-conditions":Str)∈cK:=by decide+kernel
 refine gA F1.bH rfl rfl rfl (gM F1.cells rfl (gA F1.bH rfl rfl rfl (gM F1.fY rfl (cF rfl (g7 (show 4≤m by omega) F1 mC em fun v2 YQ aH mz SP s2 k2 i2 j2=>?_)))))
 have F2:=F1.keep k2;have nV:=k1.trans k2;have nodup:=mz.nodup;have ex:∀k:Nat,(fC (fC nl nm) "error-conditions")[k]?=some "error-conditions"→∃v,qM g aH "error-conditions" v∧Sym aH v k "error-conditions":=fun k h=>by
  have e:k=YQ:=(jW (cQ.mp h).1 nodup).mp (h.trans SP.symm);subst e;exact⟨v2,i2,s2⟩
 rcases hk k RE with ⟨e,hb⟩|⟨hi,pv,e,hp⟩
 .refine cF rfl (zc (show 3≤m by omega) F2 (s1.keep k2) (nV _ _ qL rfl) e (oY oJ (eE (cF rfl (qq (show 2≤m by omega) (cl.keep nV) hb fun l aO hl k3=>?_)))))
  exact q l aO hl (mz.keep k3) (fun mo v' h=>let⟨es,a,b⟩:=j2 _ _ (j1 mo v' h);⟨es,k3 _ _ a rfl,b⟩) (fun k h=>let⟨v,⟨es,a,b⟩,c⟩:=ex k h;⟨v,⟨es,k3 _ _ a rfl,b⟩,c.keep k3⟩) (nV.trans k3.of0)
 .have ZL:=j2 _ _ (j1 _ _ hi)
  have:v2=.ref g.vL:=by
   obtain⟨es1,a1,b1⟩:=ZL;obtain⟨es2,a2,b2⟩:=i2;rw[a1] at a2;cases a2;rw[b1] at b2;cases b2;rfl
  subst this;refine cF rfl (xq (show 3≤m by omega) F2 (s1.keep k2) (nV _ _ qL rfl) e (hp.keep nV rfl rfl rfl) fun bG xs rt ss hx=>?_)
  obtain⟨a,d,rfl,ha,hh,rd⟩:∃a d,bG=.ref a∧aH a=some (.inst 1 119 [xs.headD .none,d])∧handedIn (xs.headD .none)=true∧RL aH d xs.tail:=by
   cases xs with
   |nil=>
    have:=ss.len
    unfold cY at this;split at this
    .cases this
    split at this
    .cases this
    split at this
    .cases this
    split at this<;>cases this
   |cons x xs=>exact rt
  have na:a≠98:=fun q=>by subst q;rw[show aH 98=_ from F2.nil] at ha;cases ha
  refine oY (iM ha F2.nil na rfl) (cP ?_);unfold jn;refine cF rfl (j9 (show 2≤m by omega) F2.nil (cl.keep nV) rt (by omega) fun l aO hl k3=>VP hl ?_)
  have ne:(!xs.isEmpty)=true:=by
   cases xs with
   |nil=>exact absurd ha (by
     have:=ss.len
     unfold cY at this;split at this
     .cases this
     split at this
     .cases this
     split at this
     .cases this
     split at this<;>cases this)
   |cons=>rfl
  rw[ne];refine Hk ⟨.list l,xs,fun i bN bI=>bI=aO∧bN=gq ((cY nm).take i),⟨rfl,1,hl⟩,by omega,⟨rfl,rfl⟩,fun i bN bI h=>by rw[h.1];exact⟨1,hl⟩,?_,?_⟩
  .rintro i bN bI x ⟨rfl,rfl⟩ hx
   obtain⟨mo,J9,j,hj,sy⟩:=ss.at hx;obtain⟨sa,st,rfl,td,jz⟩:=sy.keep k3;refine⟨rfl,cU rfl (jP jz rfl) (eX (eE (gA jz rfl rfl rfl ⟨rfl,jw J9⟩)))⟩
  .rintro bN bI ⟨rfl,rfl⟩
   refine⟨(cl.keep (nV.trans k3.of0)).clean,1,by decide,fun D hD=>?_⟩
   have k4:aD aJ bI (upd bI D (.list 1 (gq ((cY nm).take xs.length)))):=.new hD;have GI:=k3.trans k4;refine q D _ (by rw[aA,iL (by rw[←ss.len];exact aF)]) (mz.keep GI) (fun mo v' h=>let⟨es,a,b⟩:=j2 _ _ (j1 mo v' h);⟨es,GI _ _ a rfl,b⟩) (fun k h=>let⟨v,⟨es,a,b⟩,c⟩:=ex k h;⟨v,⟨es,GI _ _ a rfl,b⟩,c.keep GI⟩) (nV.trans GI.of0)
def mX:bW:=sP++[("no-catch":Str)]
theorem jL:mX.all (fun x=>cK.contains x&&(x=="wrong"||x=="far-wrong"||jH.contains x))=true∧(cK.take 37)[33]?=some ("wrong":Str)∧(cK.take 37)[35]?=some ("far-wrong":Str)∧jH.all (fun x=>x != "wrong"&&x != "far-wrong")=true∧("error-conditions":Str)∈cK∧("note":Str)∈cK:=by
 refine⟨?_,?_,?_,?_,?_,?_⟩<;>decide+kernel
theorem Bb{k:Nat}{x y:Str}(h:nl[k]?=some x):(fC nl y)[k]?=some x:=by
 unfold fC;split
 .exact h
 .rw[ru (cQ.mp h).1];exact h
theorem jM{y:Str}{p:bW}(h:p <+:nl):p <+:fC nl y:=by
 unfold fC;split
 .exact h
 .exact h.trans (List.prefix_append _ _)
theorem lI{k:Nat}{x:Str}{p:bW}(h:p <+:nl)(e:p[k]?=some x):nl[k]?=some x:=by
 obtain⟨t,rfl⟩:=h;rw[ru (cQ.mp e).1];exact e
theorem IA(hn:6≤n)(F:ko g H)(N:NS g H)(P:Kr g H)(cl:eT hd H)(qI:nm∈mX)(q:∀l H',H' l=some (.list 1 (gq (cY nm)))→NS g H'→aD (aG [6,7]) H H'→Q (.ref l) H'):Sat S n hd (.ref 1499) [.ref g.bH,.str nm 0] H Q E:=by
 obtain⟨nl,hN,hp⟩:=N.ex;obtain⟨es,qL,⟨v1,e1,p1⟩,⟨v2,e2,p2⟩,e0⟩:=P.tab;have fa:=dC.mp jL.1 nm qI;simp only[dJ,kq,dE,fM] at fa;have Xb:(fC nl nm)[33]?=some ("wrong":Str):=Bb (lI hp jL.2.1);have R4:(fC nl nm)[35]?=some ("far-wrong":Str):=Bb (lI hp jL.2.2.1);have nd:(fC nl nm).Nodup:=by
  unfold fC;split
  .exact hN.nodup
  .rename_i h
   exact lq.mpr ⟨hN.nodup,fX.mpr ⟨lF,pA⟩,fun x hx y hy=>by rw[dQ.mp hy];exact fun e=>h (e▸hx)⟩
 have fw:("far-wrong":Str)≠"wrong":=by decide+kernel
 refine oS hn F hN cl fa.1 qL (fun k hk=>?_) fun l aE hl mC j1 _ k1=>q l aE hl ⟨⟨_,mC,jM (jM hp)⟩,j1 _ _ N.vL⟩ k1
 have same:∀j x,(fC nl nm)[j]?=some x→nm=x→k=j:=fun j x h e=>by
  subst e
  exact(jW (cQ.mp hk).1 nd).mp (hk.trans h.symm)
 rcases fa.2 with (e|e)|hb
 .refine .inr ⟨N.vL,v1,?_,?_⟩
  .rw[same 33 _ Xb e];exact e1
  .rw[e];exact p1
 .refine .inr ⟨N.vL,v2,?_,?_⟩
  .rw[same 35 _ R4 e];exact e2
  .rw[e,show cY "far-wrong"=(["far-wrong","wrong","error"]:bW) from by unfold cY;rw[aR fw,bE rfl]];exact p2
 .have:=dC.mp jL.2.2.2.1 nm hb
  simp only[dJ,nq] at this;refine .inl ⟨e0 k (fun e=>?_) (fun e=>?_),hb⟩
  .have:k=33:=by omega
   subst this;rw[Xb] at hk;cases hk;exact this.1 rfl
  .have:k=35:=by omega
   subst this;rw[R4] at hk;cases hk;exact this.2 rfl
theorem oQ{x:Str}(hn:7≤n)(F:ko g H)(N:NS g H)(P:Kr g H)(cl:eT hd H)(qI:nm∈mX)(hs:Sym H w i x)(hi:2≤i)(q:∀H',NS g H'→aD (aG [6,7]) H H'→Q (.bool ((cY nm).contains x)) H'):Sat S n hd (.ref 1511) [.ref g.bH,w,.str nm 0] H Q E:=by
 obtain⟨m,rfl,hm⟩:=dN hn;obtain⟨sa,st,rfl,td,jz⟩:=hs;refine L8 ?_;unfold AB;have na:sa≠101:=fun e=>by
  subst e;rw[F.t] at jz;simp only[mJ,AO.inst.injEq,uq,pT] at jz;omega
 exact oY (iM jz F.t na rfl) (eX (Hl (gA jz rfl rfl rfl (cF rfl (IA (show 6≤m by omega) F N P cl qI fun l aE hl mC k1=>KZ hl rQ (q aE mC k1))))))
theorem Kr.keep(h:Kr g H)(k:aD M H H')(m0:M 0=false)(m1:M 1=false)(m3:M 63=false)(m4:M 64=false):Kr g H':=
 ⟨let⟨es,a,⟨v,b1,b2⟩,⟨w,c1,c2⟩,d⟩:=h.tab;⟨es,k _ _ a m3,⟨v,b1,b2.keep k m0 m1 m4⟩,⟨w,c1,c2.keep k m0 m1 m4⟩,d⟩⟩
theorem vy{cs:fu}(hn:8≤n)(F:ko g H)(N:NS g H)(P:Kr g H)(cl:eT hd H)(qI:nm∈mX)(hw:Wt H cs w)(hc:cs.length≤10)(q:∀H',NS g H'→aD (aG [6,7]) H H'→Q (.bool (takes cs nm)) H'):Sat S n hd (.ref 1516) [.ref g.bH,w,.str nm 0] H Q E:=by
 obtain⟨m,rfl,hm⟩:=dN hn;refine L7 ?_;unfold AA
 match cs,hw,hc,q with
 |[c],⟨i,hi,hs⟩,_,q=>
  obtain⟨sa,st,rfl,td,jz⟩:=id hs;have ns:=rm F.nil jz (by omega)
  refine cU rfl (jP jz rfl) (eX (eE (nB (iM jz F.nil ns rfl) (eX (xQ (cF rfl (oQ (show 7≤m by omega) F N P cl qI hs hi fun aE mC k1=>?_)))))))
  have:=q aE mC k1
  rw[show takes [c] nm=(cY nm).contains (eW c) from by unfold takes;simp] at this
  exact this
 |c::c2::cs,⟨ss,rl,sy⟩,hc,q=>
  have hl:=sy.len;obtain⟨a,d,rfl,ha⟩:∃a d,w=.ref a∧∃x,H a=some (.inst 1 119 [x,d]):=by
   match ss,rl,hl with
   |x::xs,⟨a,d,e,h,_⟩,_=>exact⟨a,d,e,x,h⟩
  obtain⟨x,ha⟩:=ha;refine cU rfl (jP ha rfl) (eX (cP ?_));unfold jn;refine cF rfl (j9 (show 2≤m by omega) F.nil cl rl (by rw[hl];simp at hc⊢;omega) fun l aE qK k1=>VP qK ?_)
  have ne:(!ss.isEmpty)=true:=by
   cases ss with
   |nil=>cases hl
   |cons=>rfl
  rw[ne];refine Hk ⟨.list l,ss,fun i bN bI=>NS g bI∧aD (aG [6,7]) aE bI∧bN=((c::c2::cs).take i).map fun c=>.bool ((cY nm).contains (eW c)),⟨rfl,1,qK⟩,by rw[hl];simp at hc⊢;omega,⟨N.keep k1,.refl,rfl⟩,fun i bN bI h=>⟨1,h.2.1 _ _ qK rfl⟩,?_,?_⟩
  .rintro i bN bI x ⟨BA,k4,rfl⟩ hx
   obtain⟨mo,J9,j,hj,sx⟩:=sy.at hx;rw[fL] at J9;obtain⟨c',S7,rfl⟩:=ey.mp J9;have xu:=k1.of0.trans k4;have VR:=sx.keep xu;obtain⟨sa,st,rfl,td,jz⟩:=id VR;refine⟨rfl,cU rfl (jP jz rfl) (eX (eE (cF rfl (oQ (show 7≤m by omega) (F.keep xu) BA (P.keep xu rfl rfl rfl rfl) (cl.keep xu) qI VR hj fun cI La k5=>⟨La,k4.trans k5,?_⟩))))⟩
   exact jw (f:=fun c=>Value.bool ((cY nm).contains (eW c))) S7
  .rintro bN bI ⟨BA,k4,rfl⟩
   have xu:=k1.of0.trans k4;refine⟨(cl.keep xu).clean,1,by decide,fun D hD=>?_⟩
   have k5:aD aJ bI (upd bI D (.list 1 (((c::c2::cs).take ss.length).map fun c=>.bool ((cY nm).contains (eW c))))):=.new hD
   refine Po (t:=1) (bs:=(c::c2::cs).map fun c=>(cY nm).contains (eW c)) ?_ ((cl.keep xu).keep k5).clean ?_
   .rw[aA,v3,iL (by rw[hl,dO];exact aF)];rfl
   .have:=q _ (BA.keep k5) (xu.trans k5.of0)
    rw[show takes (c::c2::cs) nm=((c::c2::cs).map fun c=>(cY nm).contains (eW c)).any id from by unfold takes;rw[List.any_map];rfl] at this
    exact this
theorem so{ds:bQ}(hn:5≤n)(F:ko g H)(N:NS g H)(cl:eT hd H)(qI:nm∈mX){dl:Addr}(pO:H dl=some (.list 1 (bL ds)))(hz:ds.length≤1000)(q:∀c s i dv H',H' c=some (.inst 1 119 [s,dv])→Sym H' s i nm→RL H' dv (bL ds)→NS g H'→aD (aG [6,7]) H H'→Q (.ref c) H'):Sat S n hd (.ref 1528) [.ref g.bH,.str nm 0,.ref dl] H Q E:=by
 obtain⟨m,rfl,hm⟩:=dN hn;refine L5 ?_;unfold Ay;obtain⟨nl,hN,hp⟩:=N.ex;have fa:=dC.mp jL.1 nm qI;simp only[dJ,kq,dE,fM] at fa;have li:(bL ds).length=ds.length:=by unfold bL;rw[dO]
 refine gA F.bH rfl rfl rfl (gM F.fY rfl (cF rfl (g7 (show 4≤m by omega) F hN fa.1 fun v k aE mC RE s1 k1 i1 j1=>?_)))
 refine⟨.list dl,bL ds,fun i bN aH=>aH=aE∧bN=(bL ds).take i,⟨rfl,1,k1 _ _ pO rfl⟩,by omega,⟨rfl,rfl⟩,fun i bN aH h=>by rw[h.1];exact⟨1,k1 _ _ pO rfl⟩,?_,?_⟩
 .rintro i bN aH x ⟨rfl,rfl⟩ hx
  refine⟨rfl,eE (cF rfl ?_)⟩;obtain⟨m',rfl,_⟩:=dN (show 1≤m by omega)
  have J5:=hx;unfold bL at J5;rw[fL] at J5;obtain⟨d,gH,rfl⟩:=ey.mp J5;refine L6 ?_;unfold Az;refine cU rfl rfl (eX (cP (cU rfl rfl (eX (cP ⟨rfl,?_⟩)))));obtain⟨fT,hx⟩:=cQ.mp hx;rw[jm fT,hx]
 .rintro bN aH ⟨rfl,rfl⟩
  refine⟨(cl.keep k1).clean,1,by decide,fun D hD=>?_⟩
  rw[iL aF];have k2:aD aJ aH (upd aH D (.list 1 (bL ds))):=.new hD;refine cF rfl (tO (show 3≤m by omega) (t:=1) aA (by decide) (by omega) (fun x hx=>?_) ((cl.keep k1).keep k2) fun dv aO rl k3=>?_)
  .unfold bL at hx
   obtain⟨d,_,rfl⟩:=eF.mp hx
   rfl
  refine h9 1 (by decide) (fI:=116) rfl rfl (show 2≤m by omega) fun c k' qu hc=>?_
  refine CU ?_;unfold uh;refine sA aA rfl (by decide) aF ?_
  rw[bF];refine sA aA rfl (by decide) aF ?_
  rw[bF];have k4:aD aJ aO (upd aO c (.inst 1 119 [v,dv])):=.new hc;have Bj:=k2.trans (k3.trans k4);exact⟨rfl,q c v k dv _ aA (s1.keep Bj) (rl.keep k4) ⟨⟨_,mC.keep Bj,jM hp⟩,let⟨es,a,b⟩:=j1 _ _ N.vL;⟨es,Bj _ _ a rfl,b⟩⟩ (k1.trans Bj.of0)⟩
theorem pK{c:Nat}:eW c∈mX:=by
 unfold eW;rw[yf];cases h:sP[c]? with
 |none=>exact ye _ (by decide+kernel)
 |some x=>exact ye _ (hZ h)
mutual
theorem fD:∀(f:Fm) {aI:bQ} {nm:Str} {ds:bQ},(bG aI f).1=.sig nm ds→nm∈mX∧ds.length≤2
 | .note k,aI,nm,ds,h=>by simp[bG] at h
 | .sig c k,aI,nm,ds,h=>by
  simp only[bG,Out.sig.injEq] at h;obtain⟨rfl,rfl⟩:=h;exact⟨pK,by simp⟩
 | .fS t k,aI,nm,ds,h=>by
  simp only[bG] at h;split at h
  .cases h
  .simp only[Out.sig.injEq] at h
   obtain⟨rfl,rfl⟩:=h;exact⟨List.mem_append_right _ (.head _),by simp⟩
 | .fN fs,aI,nm,ds,h=>by simp only[bG] at h;exact tF fs h
 | .eR t f,aI,nm,ds,h=>by
  simp only[bG] at h;split at h
  .split at h<;>cases h
  .exact fD f h
 | .unwind f g,aI,nm,ds,h=>by
  simp only[bG] at h;split at h
  .exact fD f h
  .exact fD g h
 | .iV k f,aI,nm,ds,h=>by
  simp only[bG] at h;unfold Out.seq at h;split at h
  .cases h
  .rename_i e;exact fD f (aI:=aI) (by rw[e];exact h)
  .cases h
 | .case f rs,aI,nm,ds,h=>by
  simp only[bG] at h;split at h
  .rename_i mo xA ns e
   have:=fD f (aI:=aI) (nm:=mo) (ds:=xA) (by rw[e])
   exact wq rs this h
  .exact fD f h
theorem tF:∀(fs:gU) {aI:bQ} {k:Int} {nm:Str} {ds:bQ},(fb aI k fs).1=.sig nm ds→nm∈mX∧ds.length≤2
 | .nil,aI,k,nm,ds,h=>by simp[fb] at h
 | .cons f r,aI,k,nm,ds,h=>by
  simp only[fb] at h;split at h
  .exact tF r h
  .exact fD f h
theorem wq:∀(rs:gm) {aI:bQ} {mo:Str} {xA:bQ} {ns:cO} {nm:Str} {ds:bQ},mo∈mX∧xA.length≤2→(gB aI mo xA ns rs).1=.sig nm ds→nm∈mX∧ds.length≤2
 | .nil,aI,mo,xA,ns,nm,ds,h0,h=>by simp only[gB,Out.sig.injEq] at h;obtain⟨rfl,rfl⟩:=h;exact h0
 | .cons cs f r,aI,mo,xA,ns,nm,ds,h0,h=>by
  simp only[gB] at h;split at h
  .exact fD f h
  .exact wq r h0 h
end
def nY:gm→List (fu×Fm)
 | .nil=>[]
 | .cons cs f r=>(cs,f)::nY r
def CK(H:AH)(ie:Int)(cs:fu)(f:Fm)(w:aC):Prop:=∃wt nt b h e,RL H w [wt,nt,b]∧(Wt H cs wt∧cs.length≤10)∧RL H nt [h,e]∧Sym H h 30 "note"∧Sym H e ie "e"∧RF H ie f b
def CM(H:AH)(ie:Int)(cs:fu)(f:Fm)(v:aC):Prop:=∃tp wt bl nt bv h e,v=.ref tp∧H tp=some (.tup 1 [wt,.ref bl])∧H bl=some (.list 1 [nt,bv])∧Wt H cs wt∧cs.length≤10∧RL H nt [h,e]∧Sym H h 30 "note"∧Sym H e ie "e"∧RF H ie f bv
theorem pQ.at{H:AH}{ie:Int}:∀{rs:gm} {ws:aB},pQ H ie rs ws→ws.length=(nY rs).length∧∀(k:Nat) w,ws[k]?=some w→∃cs f,(nY rs)[k]?=some (cs,f)∧CK H ie cs f w
 | .nil,ws,h=>by unfold pQ at h;subst h;exact⟨rfl,fun k w h=>by cases h⟩
 | .cons cs f r,ws,h=>by
  unfold pQ at h;obtain⟨w,ws,wt,nt,b,h,e,rfl,x2,x3,x4,x5,x6,x7,x8⟩:=h;have ih:=x8.at;refine⟨by rw[dH,ih.1];rfl,fun k w' hk=>?_⟩
  cases k with
  |zero=>cases hk;exact⟨cs,f,rfl,wt,nt,b,h,e,x2,x3,x4,x5,x6,x7⟩
  |succ k=>exact ih.2 k w' hk
theorem zS{aI:bQ}{nm:Str}{ds:bQ}{ns:cO}:∀{rs:gm} {i:Nat} {cs:fu} {f:Fm},(nY rs)[i]?=some (cs,f)→takes cs nm=true→(∀(k:Nat) p,k < i→(nY rs)[k]?=some p→takes p.1 nm=false)→gB aI nm ds ns rs=((bG aI f).1,ns++lJ nm ds::(bG aI f).2)
 | .nil,i,cs,f,h,_,_=>by cases h
 | .cons zq f' r,0,cs,f,h,t,_=>by cases h;simp only[gB];rw[bE t]
 | .cons zq f' r,i+1,cs,f,h,t,a=>by
  have:=a 0 _ (Nat.succ_pos _) rfl
  simp only[gB];rw[aR (by rw[this];exact eV)]
  exact zS (i:=i) h t fun k p hk hp=>a (k+1) p (by omega) hp
theorem tD{aI:bQ}{nm:Str}{ds:bQ}{ns:cO}:∀{rs:gm},(∀(k:Nat) p,(nY rs)[k]?=some p→takes p.1 nm=false)→gB aI nm ds ns rs=(.sig nm ds,ns)
 | .nil,_=>by simp only[gB]
 | .cons zq f' r,a=>by
  have:=a 0 _ rfl
  simp only[gB];rw[aR (by rw[this];exact eV)]
  exact tD fun k p hp=>a (k+1) p hp
theorem wJ:∀{rs:gm} {i:Nat} {cs:fu} {f:Fm},(nY rs)[i]?=some (cs,f)→cost f+9≤fA rs∧fP f≤kU rs
 | .nil,i,cs,f,h=>by cases h
 | .cons zq f' r,0,cs,f,h=>by cases h;simp only[fA,kU];omega
 | .cons zq f' r,i+1,cs,f,h=>by
  have:=wJ (rs:=r) (i:=i) h
  simp only[fA,kU];omega
section
variable{c:Nat}
theorem CM.keep{cs:fu}{f:Fm}(h:CM H ie cs f v)(k:aD M H H')(m0:M 0=false)(m1:M 1=false):CM H' ie cs f v:=
 let⟨tp,wt,bl,nt,bv,h,e,x1,x2,x3,x4,x5,x6,x7,x8,x9⟩:=h
 ⟨tp,wt,bl,nt,bv,h,e,x1,k _ _ x2 m1,k _ _ x3 m1,x4.keep k m0 m1,x5,x6.keep k m1,x7.keep k m1 m0,x8.keep k m1 m0,RF.keep k m0 m1 f x9⟩
theorem CK.keep{cs:fu}{f:Fm}(h:CK H ie cs f v)(k:aD M H H')(m0:M 0=false)(m1:M 1=false):CK H' ie cs f v:=
 let⟨wt,nt,bv,h,e,x2,x3,x6,x7,x8,x9⟩:=h
 ⟨wt,nt,bv,h,e,x2.keep k m1,⟨x3.1.keep k m0 m1,x3.2⟩,x6.keep k m1,x7.keep k m1 m0,x8.keep k m1 m0,RF.keep k m0 m1 f x9⟩
theorem ef.wI(h:ef g ie H aU val b rs vv ev bT)(N:NS g H')(kk:aD (aG [6,7]) H H'):ef g ie H' aU val b rs vv ev bT:=
 ⟨h.fix.keep kk,let⟨s,a,b⟩:=h.aY;⟨s,kk _ _ a rfl,b⟩,h.o9,kk _ _ h.iB rfl,h.pg,let⟨as,a,b,c⟩:=h.rows;⟨as,kk _ _ a rfl,b.keep kk,c⟩,h.vars.keep kk,N,let⟨vs,a,b,c⟩:=h.fc;⟨vs,kk _ _ a rfl,b.keep kk,c⟩⟩
variable(hJ:ie≠36)(mH:2≤ie)(hL:2≤L)(kO:L≤30)(pP:12≤L)
include hJ hL kO pP mH in
theorem BW{f:Fm}{e e' h s dv nt bv:aC}{bl co:Addr}{ds:bQ}(hE:Ev S g ie W n L f)(hh:48+8 * fP f≤n)(M:ef g ie H (a::aU) val b rs vv ev bT)(ha:H a=some (.inst (2 * aU.length+100) 1686 [e,.ref bl,.ref co]))(vI:H bl=some (.list 1 [nt,bv]))(S5:H co=some (.inst 1 119 [s,dv]))(hs:Sym H s i nm)(rd:RL H dv (bL ds))(RO:ds.length≤100)
  (NC:RL H nt [h,e']) (sh:Sym H h 30 "note") (se:Sym H e ie "e") (NU:Sym H e' ie "e") (hf:RF H ie f bv)
  (wd:Wd g H) (cx:ik H aU tgs) (tg:∀t,some t∈tgs↔t∈aI) (vi:∃k,vv=.int k 0) (eh:handedIn ev=true) (l1:aU.length+cost f+5≤990) (l2:rs.length+cost f+5≤990) (l3:bT.length+cost f+5≤9000) (hb:j+cost f+8≤b)
  (hA:After S g ie W n L H aU rs vv ev (bT++lJ nm ds::(bG aI f).2) j (bG aI f).1):Good S g ie W (n+1) b H:=by
 refine d7 (show 2≤n by omega) M (by omega) ha (by decide) (f:=1683) rfl rfl fun b1 aE xx d8 k1=>?_
 have sC:=k1 _ _ ha (cW (by simp[AO.tag]))
 obtain⟨m,rfl,hm⟩:=dN (show 1≤n by omega)
 refine LP ?_;unfold Am;obtain⟨sm,em,_⟩:=d8.aY;refine gM em rfl (cF rfl (rj (show 1≤m by omega) d8 fun aH dy k2=>?_))
 have kX:=k2 _ _ sC (cW (by simp[AO.tag]))
 have kj:aD (gw aU.length) H aH:=k1.to2.trans k2.to3;have VU:=se.keep kj eY hX;have RI:handedIn e=true:=by obtain⟨sa,st,rfl,_⟩:=se;rfl
 refine gA kX rfl rfl RI (gA kX rfl rfl rfl (gA kX rfl rfl rfl (cF rfl ?_)));obtain⟨m',rfl,qJ⟩:=dN (show 1≤m by omega)
 refine LR ?_;unfold Ao;obtain⟨sa,st,rfl,td,jz⟩:=id VU;have ns:=rm dy.fix.nil jz (by omega)
 obtain⟨sm,em,_⟩:=dy.aY;refine oY (iM jz dy.fix.nil ns rfl) (cP (gM em rfl (gA em rfl rfl rfl (gM dy.fix.iY rfl (cF rfl (j3 (show 1≤m' by omega) dy (qf (show 2≤m' by omega) dy (by omega) fun a' aO fo t4 k3=>?_)))))))
 obtain⟨sm,em,_⟩:=fo.aY;refine gA em rfl rfl rfl (gM fo.fix.iY rfl (cF rfl (A9 (b:=false) (show 5≤m' by omega) fo hJ (nm:="e") (VU.keep k3) Cz.2 mH eh (by omega) fun bI fQ k4=>?_)))
 have ki:aD (gw aU.length) H bI:=kj.trans (k3.to3.trans k4.xH);have vD:=k4 _ _ t4 (cW (by simp[AO.tag]))
 have KS:=ki _ _ vI eY;refine mj (i:=0) (v:=nt) (show 8≤m'+1+1 by omega) fQ (by omega) vD KS rfl fun m5 b5 cI hm5 Kh fy vC Pk k5=>?_
 have nW:=ki.trans k5;have wd5:=wd.kept nW;refine eG (show 4≤m5 by omega) fy iU (NC.keep nW eY) (by simp) fun m6 l6 cC hm6 lj NG k6=>?_
 have vH:aD (gw aU.length) H cC:=nW.trans k6.of0;obtain⟨fa,dd,Oq,hD,NJ⟩:=(wd.kept vH).note;have Kc:handedIn h=true:=by obtain⟨sa,st,rfl,_⟩:=sh;rfl
 refine mi (show 4≤m6 by omega) lj (sh.keep vH eY hX) (by decide) Oq (.inr rfl) NG (by simp;omega) fun a7 fl7 cZ lh nQ U3 k7=>?_
 have iT:aD (gw aU.length) H cZ:=vH.trans k7.to3;have Vm:cZ a'=some (.inst (2 * aU.length+100) 928 [.ref bl,.int rs.length 0,.int (0+1:Nat) 0]):=k7 _ _ (k6 _ _ vC rfl) (cW (by simp[AO.tag]))
 refine qB (j:=j+cost f+2) (show 20≤m'+1+1 by omega) [(e',.ref co)] (pre:=[]) (bN:=[]) lh (wd.kept iT) nQ Kc (k7 _ _ NG rfl) U3 rfl (fun p hp=>?_) (by simp;omega) (by simp) fun m8 b8 gI aaW hm8 hb8 jU ZQ k8=>?_
 .cases hp with
  |head=>exact .inr (.inl ⟨false,"e",NU.keep iT eY hX,Cz.2,mH,rfl,.inr ⟨co,rfl⟩⟩)
  |tail _ h=>cases h
 have Bk:=iT.trans (k8.up (dU _));have vJ:=k8 _ _ Vm (fg (by simp only[dH,AO.tag];omega))
 refine oU (d:=lJ nm ds) (show 6≤m8 by omega) jU (wd.kept Bk) (sh.keep Bk eY hX) ZQ (by simp) (.inr ⟨co,s,i,nm,dv,ds,rfl,Bk _ _ S5 eY,hs.keep Bk eY hX,rd.keep Bk eY,rfl,RO⟩) (by omega) fun eI mE k9=>?_
 have YL:aD (gw aU.length) gI eI:=k9.of fun t ht=>by simp at ht;omega
 have Cs:=Bk.trans YL;have tZ:=k9 _ _ vJ (cW (by simp[AO.tag]))
 refine mj (i:=1) (v:=bv) (show 8≤m'+1+1 by omega) mE (by omega) tZ (Cs _ _ vI eY) rfl fun mA bA HA hmA hbA MA RT Vg kA=>?_
 have J4:=Cs.trans kA;have tl:=dZ f (aI:=aI);refine hE mA _ _ (a'::aU) (none::tgs) aI _ bA _ vv (.ref co) _ (j+1) (by omega) (by omega) (hf.kept J4) ⟨MA,wd.kept J4,⟨⟨928,_,RT,rfl⟩,cx.keep aF J4⟩,fun t=>by rw[←tg t];simp,vi,rfl,by simp;omega,by simp;omega,by simp;omega⟩ (by omega) ?_
 have jy:=hA.iG J4;rw[gC];cases ht:bG aI f with
 |mk o xC=>
  rw[ht] at jy tl;cases o with
  |sig nm ds=>exact fun hd w b H' val cM fG fO hb=>eU.body (pre:=[(false,ev)]) hJ hL (show 5≤L by omega) jy RT rfl hd w b H' val cM fG fO (by omega)
  |fS t x=>exact fun hd w b H' val cM fG fO hb=>eU.body (pre:=[(false,ev)]) hJ hL (show 5≤L by omega) jy RT rfl hd w b H' val cM fG fO (by omega)
  |val k'=>
   intro bB HB hbB MB kB;have Z9:=kB _ _ RT (fg (by simp only[dH,AO.tag];omega))
   refine tP (rs:=rs) (pre:=[(false,ev)]) hJ (show 8≤m'+1+1 by omega) MB (by omega) Z9 (kB _ _ Vg eY) (by simp) fun bC HC hbC MC kC=>?_
   exact jy bC HC (by omega) MC ((kB.up (dU _)).trans kC)
end
def BB(H:AH)(ie:Int)(rws:gm)(vs:aB):Prop:=vs.length=(nY rws).length∧∀(k:Nat) v,vs[k]?=some v→∃cs f,(nY rws)[k]?=some (cs,f)∧CM H ie cs f v
def Cy(S:aN)(g:G)(ie:Int)(W:Goal)(n L:Nat):gm→Prop
 | .nil=>True
 | .cons _ f r=>Ev S g ie W n L f∧Cy S g ie W n L r
theorem Cy.at{S:aN}{g:G}{ie:Int}{W:Goal}{n L:Nat}:∀{rs:gm} {i:Nat} {cs:fu} {f:Fm},Cy S g ie W n L rs→(nY rs)[i]?=some (cs,f)→Ev S g ie W n L f
 | .nil,i,cs,f,_,h=>by cases h
 | .cons zq f' r,0,cs,f,hE,h=>by cases h;exact hE.1
 | .cons zq f' r,i+1,cs,f,hE,h=>Cy.at (i:=i) hE.2 h
section
variable{c:Nat}
theorem BB.keep{rws:gm}{vs:aB}(h:BB H ie rws vs)(k:aD M H H')(m0:M 0=false)(m1:M 1=false):BB H' ie rws vs:=
 ⟨h.1,fun j v hv=>let⟨cs,f,a,b⟩:=h.2 j v hv;⟨cs,f,a,b.keep k m0 m1⟩⟩
theorem Cy.len:∀{rs:gm},(nY rs).length≤fA rs
 | .nil=>aF
 | .cons _ f r=>by have:=Cy.len (rs:=r);simp only[nY,fA,dH];omega
variable(hJ:ie≠36)(mH:2≤ie)(hL:2≤L)(kO:L≤30)(pP:12≤L)
include hL pP in
theorem eU.xk{tg k0:Int}{x y z u:aC}(h:eU S g ie W n L H aU rs vv ev bT j (.fS tg k0))(ha:H a=some (.inst (2 * aU.length+100) 1653 [x,y,z,u])):eU S g ie W n L H (a::aU) rs vv ev bT j (.fS tg k0):=by
 intro hd w b H' val cM fG fO hb tX cl M hu k;have nR:=k _ _ ha (fg (by simp only[dH,AO.tag];omega))
 refine⟨a,aU,val,b,_,fG,fO,bT,_,_,_,1650,rfl,M,nR,rfl,rfl,?_⟩;obtain⟨m,rfl,_⟩:=dN (show 1≤L by omega)
 refine En ?_;unfold uM;obtain⟨c,rfl,hc⟩:=id tX;exact eO hc rfl (Bx (eE (.inr ⟨rfl,⟨_,_,_,_,_,_,M⟩,fun gJ hM k'=>h hd _ b gJ val cM fG fO hb (tX.keep k') (cl.keep k') (hM _ _ _ _ _ _ M) hu ((k.up (dU _)).trans k'.to3)⟩)))
include hJ hL kO pP mH in
theorem eU.xl{rws:gm}{e:aC}{hl:Addr}{vs:aB}{ds:bQ}{G6 ns:cO}(hE:Cy S g ie W n L rws)(hh:48+8 * kU rws≤n)(ha:H a=some (.inst (2 * aU.length+100) 1653 [e,.ref hl,.none,.int rs.length 0]))(SV:H hl=some (.list (2 * aU.length+101) vs))(hv:BB H ie rws vs)(se:Sym H e ie "e")
  (wd:Wd g H) (cx:ik H aU tgs) (tg:∀t,some t∈tgs↔t∈aI) (vi:∃k,vv=.int k 0) (eh:handedIn ev=true) (l1:aU.length+fA rws≤990) (l2:rs.length+fA rws≤990) (l3:(G6++ns).length+fA rws≤9000) (qI:nm∈mX) (RO:ds.length≤2)
  (hA:After S g ie W n L H aU rs vv ev (G6++(gB aI nm ds ns rws).2) j (gB aI nm ds ns rws).1):eU S g ie W n L H (a::aU) rs vv ev (G6++ns) (j+fA rws) (.sig nm (bL ds)):=by
 intro hd w b H' val cM fG fO hb tX cl M hu k;have nR:=k _ _ ha (fg (by simp only[dH,AO.tag];omega))
 have O7:=k _ _ SV (fg (by simp only[dH,AO.tag];omega))
 refine⟨a,aU,val,b,_,fG,fO,_,_,_,_,1650,rfl,M,nR,rfl,rfl,?_⟩;obtain⟨m,rfl,_⟩:=dN (show 1≤L by omega)
 refine En ?_;unfold uM;obtain⟨c,d,rfl,hc,gH⟩:=id tX;have Ci:vs.length≤990:=by rw[hv.1];have:=Cy.len (rs:=rws);omega
 have RI:handedIn e=true:=by obtain⟨sa,st,rfl,_⟩:=se;rfl
 refine eO hc rfl (Bx (cP (gA nR rfl rfl rfl ⟨.list hl,vs,fun i us aE=>us=[.ref a,.ref g.aY,.ref c]∧ef g ie aE (a::aU) val b (cM++rs) fG fO (G6++ns)∧aD (aG [6,7]) H' aE∧∀(k:Nat) p,k < i→(nY rws)[k]?=some p→takes p.1 nm=false,⟨rfl,_,O7⟩,⟨rfl,M,.refl,fun k p h=>absurd h (Nat.not_lt_zero _)⟩,fun i us aE h=>⟨_,h.2.2.1 _ _ O7 (cW (by simp[AO.tag]))⟩,?_,?_⟩)))
 .rintro i aE x hx u5 u6 u7 ⟨GK,d8,k1,Gs⟩
  cases GK;obtain⟨cs,f,Bs,tp,wt,bl,nt,bv,h,e',rfl,xv,vI,NA,Ov,NC,sh,NU,hf⟩:=hv.2 i x hx;have Nz:aD (gw aU.length) H aE:=(k.up (dU _)).trans k1.G1;obtain⟨rc1,rc2⟩:=wJ Bs;refine GF (Nz _ _ xv eY) rfl (cl.keep k1).clean ⟨rfl,rfl,nC ?_⟩;obtain⟨sm,em,_⟩:=d8.aY;have Ow:=k1 _ _ hc rfl;refine gA em rfl rfl rfl (eO Ow rfl (cF rfl (vy (show 8≤m by omega) d8.fix d8.names (wd.kept Nz).VZ (cl.keep k1) qI (NA.keep Nz hX eY) Ov fun aH mz k2=>eX ?_)))
  have dy:=d8.wI mz k2;have kj:aD (gw aU.length) H aH:=Nz.trans k2.G1;cases ht:takes cs nm with
  |false=>
   refine cP ⟨rfl,dy,k1.trans k2,fun k p hk hp=>?_⟩
   by_cases q:k=i
   .subst q;rw[Bs] at hp;cases hp;exact ht
   .exact Gs k p (by omega) hp
  |true=>
   rw[zS Bs ht Gs] at hA;obtain⟨sm,em,_⟩:=dy.aY;have kX:=k2 _ _ (k1 _ _ nR (cW (by simp[AO.tag]))) (cW (by simp[AO.tag]))
   refine eE (gA em rfl rfl rfl (gM dy.fix.iY rfl (gA kX rfl rfl rfl (cF rfl (fF (show 3≤m by omega) dy hJ fun aO fo k3 _=>?_)))))
   rw[hu] at fo;obtain⟨sm,em,_⟩:=fo.aY;refine gM em rfl (cF rfl (rj (show 1≤m by omega) fo fun bI fQ k4=>?_))
   obtain⟨sm,em,_⟩:=fQ.aY;have WN:=k4 _ _ (k3 _ _ (k2 _ _ Ow rfl) rfl) rfl;have RP:=k4 _ _ (k3 _ _ (k2 _ _ (k1 _ _ gH rfl) rfl) rfl) rfl;have vD:=k4 _ _ (k3 _ _ kX (cW (by simp[AO.tag]))) (cW (by simp[AO.tag]))
   have cl4:=(((cl.keep k1).keep k2).keep k3).keep k4;refine gA em rfl rfl rfl (eO WN rfl (eO WN rfl (cF rfl (so (show 5≤m by omega) fQ.fix fQ.names cl4 qI RP (by omega) fun co s si dv cI S5 hs Cn La k5=>?_))))
   have fy:=fQ.wI La k5;have vC:=k5 _ _ vD (cW (by simp[AO.tag]))
   obtain⟨sm,em,_⟩:=fy.aY;refine gM em rfl (gA vC rfl rfl RI (h9 (2 * aU.length+100) (by simp) (fI:=1676) rfl rfl (show 2≤m by omega) fun x k' qu hx=>?_))
   refine LQ ?_;unfold An;refine sA aA rfl (by simp) aF ?_
   rw[bF];refine sA aA rfl (by simp) aF ?_
   rw[bF];refine sA aA rfl (by simp) aF ?_
   rw[bF];have k6:aD aJ cI (upd cI x (.inst (2 * aU.length+100) 1686 [e,.ref bl,.ref co])):=.new hx;have nW:aD (gw aU.length) H cI:=kj.trans (k3.xH.trans (k4.to3.trans k5.G1));refine⟨rfl,cF rfl (j0 (show 1≤m by omega) (fy.keep k6) (by omega) fun cZ lh k7=>.inl ⟨rfl,?_⟩)⟩
   have tV:=(aD.of0 (M:=aG [3]) k6).trans k7;have iT:aD (gw aU.length) H cZ:=nW.trans tV.to3;exact BW (j:=j) (aI:=aI) (tgs:=tgs) hJ mH hL kO pP (Cy.at hE Bs) (by omega) lh (k7 _ _ aA (cW (by simp[AO.tag]))) (iT _ _ vI eY) (tV _ _ S5 rfl) (hs.keep tV) (Cn.keep tV) (by omega) (NC.keep iT eY) (sh.keep iT eY hX) (se.keep iT eY hX) (NU.keep iT eY hX) (hf.kept iT) (wd.kept iT) (cx.keep aF iT) tg vi eh (by omega) (by omega) (by omega) (by omega) (by rw[gC];exact hA.iG iT)
 .rintro aE u8 u9 XB ⟨GK,d8,k1,Gs⟩
  cases GK;rw[tD fun k p hp=>Gs k p (by rw[hv.1];exact(cQ.mp hp).1) hp] at hA
  refine⟨(cl.keep k1).clean,.inr ⟨rfl,⟨_,_,_,_,_,_,d8⟩,fun gJ hM k'=>hA hd _ b gJ val cM fG fO (by omega) (tX.keep k1 |>.keep k') (cl.keep k1 |>.keep k') (hM _ _ _ _ _ _ d8) hu ((k.up (dU _)).trans (k1.G1.trans k'.to3))⟩⟩
end
theorem yV{c:Nat}:(eW c==(":success":Str))=false:=by
 have:sP.all (fun x=>!(x==(":success":Str)))=true:=by decide+kernel
 unfold eW;rw[yf];cases h:sP[c]? with
 |none=>decide+kernel
 |some x=>
  have:=dC.mp this x (hZ h)
  simpa using this
section
variable{c:Nat}
theorem sX(hn:1≤n)(hs:Sym H v i nm)(q:Q .none H):Sat S n hd (.ref 1143) [w,v] H Q E:=by
 obtain⟨m,rfl,hm⟩:=dN hn;obtain⟨sa,st,rfl,td,jz⟩:=hs;refine Eu ?_;unfold uS;exact cU rfl (jP jz rfl) (eX (cP q))
variable(hJ:ie≠36)(mH:2≤ie)(hL:2≤L)(kO:L≤30)(pP:12≤L)
include hJ hL kO pP mH in
theorem Im{f:Fm}{rws:gm}(hE:Ev S g ie W n L f)(hR:Cy S g ie W n L rws):Ev S g ie W n L (.case f rws):=by
 intro m H v aU tgs aI val b rs vv ev bT j hm GQ hr A hb hA;unfold fP at hm;unfold cost at A hb;unfold RF at hr;simp only[bG] at hA;obtain⟨hv,e,w,ws,hs,hr,se,hf,Oa,aa6⟩:=hr;refine eG (show 4≤m by omega) A.st iU hr (by simp;omega) fun m1 l aE GR d8 hl k1=>?_
 have l1:=A.l1;have l2:=A.l2;have l3:=A.l3;have sF:Wd g aE:=A.wd.kept (k:=0) k1.of0;refine fx (show 4≤m1 by omega) d8 (hs.keep k1) (by decide) sF.case rfl hl (by simp;omega) fun m2 Gu=>?_
 obtain⟨m3,rfl,_⟩:=dN (show 1≤m2 by omega)
 refine LO ?_;unfold Al;have RI:handedIn e=true:=by obtain⟨sa,st,rfl,_⟩:=se;rfl
 refine ji hl rfl (cF rfl (sX (show 1≤m3 by omega) (se.keep k1) (nL (2 * aU.length+101) (by simp) (by simp) fun qi SV=>nT 1 (by decide) (by simp) fun tp xv=>?_)))
 have k2:aD aJ aE (upd aE qi (.list (2 * aU.length+101) [])):=.new SV;have k3:aD aJ (upd aE qi (.list (2 * aU.length+101) [])) (upd (upd aE qi (.list (2 * aU.length+101) [])) tp (.tup 1 [.ref qi,.none])):=.new xv;refine GF aA rfl iU.clean ⟨rfl,rfl,nC ?_⟩;refine NT 1 (by decide) (k3 _ _ (k2 _ _ hl rfl) rfl) (by decide) fun sl N8=>?_
 have k4:aD aJ (upd (upd aE qi (.list (2 * aU.length+101) [])) tp (.tup 1 [.ref qi,.none])) (upd (upd (upd aE qi (.list (2 * aU.length+101) [])) tp (.tup 1 [.ref qi,.none])) sl (.list 1 ws)):=.new N8;obtain⟨bI,Bm⟩:∃bI,bI=upd (upd (upd aE qi (.list (2 * aU.length+101) [])) tp (.tup 1 [.ref qi,.none])) sl (.list 1 ws):=⟨_,rfl⟩;have OR:bI sl=some (.list 1 ws):=by rw[Bm];exact aA
 have UZ:bI qi=some (.list (2 * aU.length+101) []):=by rw[Bm];exact k4 _ _ (k3 _ _ aA rfl) rfl
 have ki:aD aJ H bI:=by rw[Bm];exact k1.trans (k2.trans (k3.trans k4))
 have Gv:bI l=some (.list 1 (e::w::ws)):=by rw[Bm];exact k4 _ _ (k3 _ _ (k2 _ _ hl rfl) rfl) rfl
 rw[show upd (upd (upd aE qi (.list (2 * aU.length+101) [])) tp (.tup 1 [.ref qi,.none])) sl (.list 1 (List.drop (Int.toNat 2) (e::w::ws)))=bI from Bm.symm]
 have fQ:=A.st.keep ki;obtain⟨Y4,Bs⟩:=Oa.at;refine⟨.list sl,ws,fun i us cI=>us=[.ref g.aY,.ref l,.none,.ref qi]∧aD (aG [2 * aU.length+101]) bI cI∧∃vs,cI qi=some (.list (2 * aU.length+101) vs)∧vs.length=i∧∀(k:Nat) v,vs[k]?=some v→∃cs f,(nY rws)[k]?=some (cs,f)∧CM cI ie cs f v,⟨rfl,1,OR⟩,⟨rfl,.refl,[],UZ,rfl,fun k v h=>by cases h⟩,fun i us cI h=>⟨1,h.2.1 _ _ OR (cW (by simp[AO.tag]))⟩,?_,?_⟩
 .rintro i cI x hx XA u12 u13 Xz ⟨hu,k5,vs,vB,Ci,Sz⟩
  cases hu;obtain⟨cs,f',J6,rr⟩:=Bs i x hx;have nW:aD (aG [2 * aU.length+101]) H cI:=ki.of0.trans k5;have aba:i < ws.length:=(cQ.mp hx).1;have XW:=rr.keep nW (cW (by simp)) (cW (by simp))
  obtain⟨wt,nt,bv,h,e',rl,⟨NA,Ov⟩,XY,sh,NU,rf⟩:=XW;have fy:=fQ.keep k5 fU.2;obtain⟨sm,em,_⟩:=fy.aY;refine⟨rfl,gM em rfl (cF rfl (kc (show 3≤m3 by omega) fy.fix.nil iU rl (by simp) fun pl cC qH k6=>?_))⟩
  have ON:=k6 _ _ vB rfl;refine Rx (fun b H=>b=false∧aD aJ cC H) ?_ fun K hK=>?_
  .rintro b7 cZ ⟨rfl,k7⟩
   refine cP (nL 1 (by decide) (by simp) fun e8 ZU=>?_)
   have k8:aD aJ cZ (upd cZ e8 (.list 1 [])):=.new ZU;have Cg:=k7.trans k8;refine t9 (Cg _ _ qH rfl) aA (eE (dW (Cg _ _ ON rfl) (ji (Cg _ _ qH rfl) rfl (NT 1 (by decide) (Cg _ _ qH rfl) (by decide) fun bl vI=>nT 1 (by decide) (by simp) fun JX UA=>?_))))
   have k9:aD aJ (upd cZ e8 (.list 1 [])) (upd (upd cZ e8 (.list 1 [])) bl (.list 1 [nt,bv])):=.new vI;have kA:aD aJ (upd (upd cZ e8 (.list 1 [])) bl (.list 1 [nt,bv])) (upd (upd (upd cZ e8 (.list 1 [])) bl (.list 1 [nt,bv])) JX (.tup 1 [wt,.ref bl])):=.new UA;have Wi:=Cg.trans (k9.trans kA);have OM:=Wi _ _ ON rfl;have lv:vs.length < 1000000:=by omega
   refine ff OM (by simp) lv ?_
   have kB:aD (aG [2 * aU.length+101]) _ (upd (upd (upd (upd cZ e8 (.list 1 [])) bl (.list 1 [nt,bv])) JX (.tup 1 [wt,.ref bl])) qi (.list (2 * aU.length+101) (vs++[.ref JX]))):=.set OM (by simp[aG,AO.tag])
   have J1:aD (aG [2 * aU.length+101]) cI (upd (upd (upd (upd cZ e8 (.list 1 [])) bl (.list 1 [nt,bv])) JX (.tup 1 [wt,.ref bl])) qi (.list (2 * aU.length+101) (vs++[.ref JX]))):=(k6.trans Wi).of0.trans kB;refine⟨rfl,k5.trans J1,vs++[.ref JX],aA,by simp[Ci],fun k v hk=>?_⟩
   have f0:aG [2 * aU.length+101] 0=false:=cW (by simp)
   have f1:aG [2 * aU.length+101] 1=false:=cW (by simp)
   by_cases q:k < vs.length
   .rw[ru q] at hk
    obtain⟨cs,f,a1,a2⟩:=Sz k v hk;exact⟨cs,f,a1,a2.keep J1 f0 f1⟩
   .have:k=vs.length:=by
     have:=(cQ.mp hk).1
     simp at this;omega
    subst this;rw[nh] at hk;cases hk;rw[Ci];exact⟨cs,f',J6,JX,wt,bl,nt,bv,h,e',rfl,kB _ _ aA f1,kB _ _ (kA _ _ aA rfl) f1,NA.keep J1 f0 f1,Ov,XY.keep J1 f1,sh.keep J1 f1 f0,NU.keep J1 f1 f0,RF.keep J1 f0 f1 f' rf⟩
  .refine nL 1 (by decide) (by simp) fun e7 ZV=>?_
   have k7:aD aJ cC (upd cC e7 (.list 1 [])):=.new ZV;refine t9 (k7 _ _ qH rfl) aA (pj (ji (k7 _ _ qH rfl) rfl ?_));have Ux:=NA.keep (k6.trans k7) rfl rfl;have YR:=k7 _ _ qH rfl
   match cs,Ux with
   |[c],⟨i,hi,hs⟩=>
    obtain⟨sa,st,rfl,td,jz⟩:=hs;refine cU rfl (jP jz rfl) (eX (pj (ji YR rfl (gA jz rfl rfl rfl (cG ?_)))));rw[yV];exact my (hK false _ ⟨rfl,k7⟩)
   |c::c2::cs,⟨ss,rl,sy⟩=>
    have hl:=sy.len;obtain⟨a,d,rfl,x,ha⟩:∃a d,wt=.ref a∧∃x,(upd cC e7 (.list 1 [])) a=some (.inst 1 119 [x,d]):=by
     match ss,rl,hl with
     |x::xs,⟨a,d,e,h,_⟩,_=>exact⟨a,d,e,x,h⟩
    exact cU rfl (jP ha rfl) (eX (my (hK false _ ⟨rfl,k7⟩)))
 .rintro cI Xy Xx Xw u18 ⟨hu,k5,vs,vB,Ci,Sz⟩
  cases hu;have f0:aG [2 * aU.length+101] 0=false:=cW (by simp)
  have f1:aG [2 * aU.length+101] 1=false:=cW (by simp)
  have fy:=fQ.keep k5 fU.2;obtain⟨sm,em,_⟩:=fy.aY;have Jn:=k5 _ _ Gv f1;refine⟨iU.clean,gM em rfl (ji Jn rfl (gA em rfl rfl rfl (gM fy.fix.iY rfl (cF rfl (j3 (show 1≤m3 by omega) fy (h9 (2 * aU.length+100) (by simp) (fI:=1636) rfl rfl (show 2≤m3 by omega) fun a k hk ha=>?_))))))⟩
  refine LU ?_;unfold Aq;refine sA aA rfl (by simp) aF ?_
  rw[bF];refine sA aA rfl (by simp) aF ?_
  rw[bF];refine sA aA rfl (by simp) aF ?_
  rw[bF];refine sA aA rfl (by simp) aF ?_
  rw[bF];have k6:aD aJ cI (upd cI a (.inst (2 * aU.length+100) 1653 [e,.ref qi,.none,.int rs.length 0])):=.new ha;refine⟨rfl,cF rfl (j0 (show 1≤m3 by omega) (fy.keep k6) (by omega) fun cZ lh k7=>?_)⟩
  have J2:aD (aG [3]) cI cZ:=k6.of0.trans k7;have nQ:cZ a=some (.inst (2 * aU.length+100) 1653 [e,.ref qi,.none,.int rs.length 0]):=k7 _ _ aA (cW (by simp[AO.tag]))
  have Uy:=J2 _ _ vB (cW (by simp[AO.tag]))
  have nW:aD (gw aU.length) H cI:=ki.of0.trans k5.G0;have iT:aD (gw aU.length) H cZ:=nW.trans J2.to3;have n7:BB cZ ie rws vs:=BB.keep ⟨by rw[Ci,Y4],Sz⟩ J2 rfl rfl
  obtain⟨sm,em,_⟩:=lh.aY;have cx7:ik cZ (a::aU) (none::tgs):=⟨⟨1653,_,nQ,rfl⟩,A.cx.keep aF iT⟩;have XF:∀t,some t∈(none::tgs)↔t∈aI:=fun t=>by rw[←A.tg t];simp
  have tl:=dZ f (aI:=aI);refine gM em rfl (ji (J2 _ _ Jn rfl) rfl (cF rfl (hE m3 _ _ (a::aU) (none::tgs) aI _ b rs vv ev bT (j+fA rws+1) (by omega) (by omega) (hf.kept iT) ⟨lh,A.wd.kept iT,cx7,XF,A.vi,A.eh,by simp;omega,by omega,by omega⟩ (by omega) ?_)))
  have jy:=hA.iG iT;cases ht:bG aI f with
  |mk o ns=>
   rw[ht] at jy tl;dsimp only at jy tl⊢;cases o with
   |fS t x=>exact fun hd w b H' val cM fG fO hb=>eU.xk hL pP jy nQ hd w b H' val cM fG fO (by omega)
   |sig nm ds=>
    obtain⟨qI,RO⟩:=fD f (aI:=aI) (nm:=nm) (ds:=ds) (by rw[ht])
    exact fun hd w b H' val cM fG fO hb=>eU.xl (aI:=aI) (tgs:=tgs) hJ mH hL kO pP hR (by omega) nQ Uy n7 (se.keep iT eY hX) (A.wd.kept iT) (A.cx.keep aF iT) A.tg A.vi A.eh (by omega) (by omega) (by simp;omega) qI RO jy hd w b H' val cM fG fO (by omega)
   |val k0=>
    intro b2 gI th jU k8;have vJ:=k8 _ _ nQ (fg (by simp only[dH,AO.tag];omega))
    refine d7 (show 2≤n by omega) jU (by omega) vJ (by decide) (f:=1643) rfl rfl fun b3 eI Cp mE k9=>?_
    have tZ:=k9 _ _ vJ (cW (by simp[AO.tag]))
    obtain⟨mn,rfl,_⟩:=dN (show 1≤n by omega)
    refine LS ?_;unfold Ap;obtain⟨sm,em,_⟩:=mE.aY;refine gA tZ rfl rfl rfl (oY rfl (eE (gM em rfl (gA em rfl rfl rfl (cF rfl (rG (show 1≤mn by omega) mE rfl fun HA MA kA=>?_))))))
    exact jy b3 HA (by omega) MA ((k8.up (dU _)).trans (k9.to2.trans kA.CA))
end
section
variable{c:Nat}
variable(hJ:ie≠36)(mH:2≤ie)(hL:2≤L)(kO:L≤30)(pP:12≤L)
include hJ mH hL kO pP
mutual
theorem lL:∀(f:Fm),Ev S g ie W n L f
 | .note k=>Il mH hL kO
 | .sig c k=>MX mH hL kO
 | .fS t k=>MW mH hL kO
 | .fN fs=>Fl mH hL kO (A4 fs)
 | .eR t f=>Fn hJ mH hL kO (lL f) (by omega)
 | .unwind f g=>BR hJ mH hL kO (by omega) (lL f) (lL g)
 | .iV k f=>MY hJ mH hL kO (by omega) (lL f)
 | .case f rs=>Im hJ mH hL kO pP (lL f) (A5 rs)
theorem A4:∀(fs:gU),Sa S g ie W n L fs
 | .nil=>trivial
 | .cons f r=>⟨lL f,A4 r⟩
theorem A5:∀(rs:gm),Cy S g ie W n L rs
 | .nil=>trivial
 | .cons _ f r=>⟨lL f,A5 r⟩
end
end
mutual
theorem gF:∀(f:Fm) {aI:bQ} {t k:Int},(bG aI f).1=.fS t k→t∈aI
 | .note k',aI,t,k,h=>by simp[bG] at h
 | .sig c k',aI,t,k,h=>by simp[bG] at h
 | .fS t' k',aI,t,k,h=>by
  simp only[bG] at h;split at h
  .rename_i e;cases h;exact fM.mp e
  .cases h
 | .fN fs,aI,t,k,h=>by simp only[bG] at h;exact tE fs h
 | .eR t' f,aI,t,k,h=>by
  simp only[bG] at h;split at h
  .rename_i t2 k2 ns e
   split at h
   .cases h
   .rename_i ne
    cases h
    have:=gF f (aI:=aI++[t']) (t:=t) (k:=k) (by rw[e])
    simp at this
    exact this.elim id fun q=>absurd q ne
  .rename_i p hp
   have:=gF f (aI:=aI++[t']) h
   simp at this
   exact this.elim id fun q=>(hp t k _ (Prod.ext h rfl)).elim
 | .unwind f g,aI,t,k,h=>by
  simp only[bG] at h;split at h
  .exact gF f h
  .exact gF g h
 | .iV k' f,aI,t,k,h=>by
  simp only[bG] at h;unfold Out.seq at h;split at h
  .cases h
  .cases h
  .rename_i e;exact gF f (aI:=aI) (by rw[e];exact h)
 | .case f rs,aI,t,k,h=>by
  simp only[bG] at h;split at h
  .exact wo rs h
  .exact gF f h
theorem tE:∀(fs:gU) {aI:bQ} {k0 t k:Int},(fb aI k0 fs).1=.fS t k→t∈aI
 | .nil,aI,k0,t,k,h=>by simp[fb] at h
 | .cons f r,aI,k0,t,k,h=>by
  simp only[fb] at h;split at h
  .exact tE r h
  .exact gF f h
theorem wo:∀(rs:gm) {aI:bQ} {nm:Str} {ds:bQ} {ns:cO} {t k:Int},(gB aI nm ds ns rs).1=.fS t k→t∈aI
 | .nil,aI,nm,ds,ns,t,k,h=>by simp[gB] at h
 | .cons cs f r,aI,nm,ds,ns,t,k,h=>by
  simp only[gB] at h;split at h
  .exact gF f h
  .exact wo r h
end
theorem M8{f:Fm}{kp:List (Addr×AO)}(hJ:ie≠36)(mH:2≤ie)(hn:50+8 * fP f≤n)(M:ef g ie H [] val b [] vv ev bT)(wd:Wd g H)(hr:RF H ie f v)(hb:cost f+2≤b)(hc:cost f≤980)(NC:bT.length+cost f≤8000)(vi:∃k,vv=.int k 0)(eh:handedIn ev=true)(hv:handedIn v=true)
  (hk:∀p∈kp,(p.2.tag < 2∨(60≤p.2.tag∧p.2.tag < 100))∧∀t k vs,p.2≠.exc t k vs) (ZH:∀p∈kp,H p.1=some p.2)
  (q:∀k val b ev H',(bG [] f).1=.val k→ef g ie H' [] val b [] vv ev (bT++(bG [] f).2)→(∀p∈kp,H' p.1=some p.2)→Q (.int k 0) H')
  (hE:∀x t dl nm ds val b ev H',(bG [] f).1=.sig nm ds→H' x=some (.exc 1 t [.str nm 0,.ref dl])→H' dl=some (.list 1 (bL ds))→ef g ie H' [] val b [] vv ev (bT++(bG [] f).2)→(∀p∈kp,H' p.1=some p.2)→E x H'):Sat S n none (.ref 1115) [.ref g.aY,v] H Q E:=by
 obtain⟨m,rfl,hm⟩:=dN (show 1≤n by omega)
 obtain⟨m2,rfl,Gu⟩:=dN (show 1≤m by omega)
 obtain⟨m3,rfl,SO⟩:=dN (show 1≤m2 by omega)
 obtain⟨W,hW⟩:∃W:Goal,W={PV:=fun val fG vM=>∃k,(bG [] f).1=.val k∧val=.int k 0∧fG=vv∧vM=bT++(bG [] f).2,PE:=fun nm ds fG vM=>∃R3,(bG [] f).1=.sig nm R3∧ds=bL R3∧fG=vv∧vM=bT++(bG [] f).2,kp:=kp,ok:=hk}:=⟨_,rfl⟩
 have at_:∀{H'},aD (gw 0) H H'→W.at H':=fun k=>Goal.keep (H:=H) (by rw[hW];exact ZH) k fun t ht=>fg (by omega)
 refine Mh ?_;unfold AM;obtain⟨sm,em,_⟩:=M.aY;refine gM em rfl (h9 100 (by decide) (fI:=807) rfl rfl (show 2≤m3+1+1 by omega) fun a k' qu ha=>?_)
 refine PY ?_;unfold DG;refine sA aA rfl (by simp) aF ?_
 rw[bF];have k1:aD aJ H (upd H a (.inst 100 817 [v])):=.new ha;refine⟨rfl,cF rfl (Rb (W:=W) (m:=m3+1) rfl (by omega) (M.keep k1) hJ iU rfl (fun aH dy k2=>?_) (fun val b fG fO vM H' M' hp hw=>?_) fun x t nm dl ds val b fG fO vM H' hx pO hp hw M'=>?_)⟩
 rotate_left
 .rw[hW] at hp hw
  obtain⟨k,e1,rfl,rfl,rfl⟩:=hp;exact q k _ b fO H' e1 M' hw
 .rw[hW] at hp hw
  obtain⟨R3,e1,rfl,rfl,rfl⟩:=hp;exact hE x t dl nm R3 _ b fO H' e1 hx pO M' hw
 have kX:aH a=some (.inst 100 817 [v]):=k2 _ _ aA rfl;refine d7 (n:=m3) (show 2≤m3 by omega) dy (by omega) kX (by decide) (f:=814) rfl rfl fun b3 aO Cp fo k3=>?_
 have t4:=k3 _ _ kX rfl;obtain⟨m4,rfl,WE⟩:=dN (show 1≤m3 by omega)
 refine PX ?_;unfold DF;obtain⟨sm,em,_⟩:=fo.aY;refine gM em rfl (cF rfl (rj (show 1≤m4 by omega) fo fun bI fQ k4=>?_))
 obtain⟨sm,em,_⟩:=fQ.aY;have vD:=k4 _ _ t4 rfl;have ki:aD (gw 0) H bI:=k1.of0.trans (k2.to3.trans (k3.to2.trans k4.to3));refine gM em rfl (gA vD rfl rfl hv (cF rfl (lL (L:=12) hJ mH (by decide) (by decide) (by decide) f m4 bI v [] [] [] _ b3 [] vv ev bT 0 (by omega) (by omega) (hr.kept ki) ⟨fQ,wd.kept ki,trivial,fun t=>by simp,vi,eh,by simp;omega,by simp;omega,by omega⟩ (by omega) ?_)))
 cases ht:bG [] f with
 |mk o ns=>
  cases o with
  |val k=>
   intro b5 cI _ fy k5;have pv:W.PV (.int k 0) vv (bT++ns):=by rw[hW];exact⟨k,by rw[ht],rfl,rfl,by rw[ht]⟩
   have w5:=at_ (ki.trans k5);cases b5 with
   |zero=>exact⟨_,_,_,_,_,fy,pv,w5⟩
   |succ b5=>exact .inl ⟨_,_,_,_,_,fy,pv,w5⟩
  |fS t k=>
   have:=gF f (aI:=[]) (t:=t) (k:=k) (by rw[ht])
   cases this
  |sig nm ds=>
   intro hd w b5 cI val cM fG fO _ tX cl fy hu k5;rw[gE] at fy;have pe:W.PE nm (bL ds) vv (bT++ns):=by rw[hW];exact⟨ds,by rw[ht],rfl,rfl,by rw[ht]⟩
   have main:∀(hd:bP) (w:aC) (cI:AH),(hd≠none)→nc cI w (.sig nm (bL ds))→eT hd cI→ef g ie cI [] val b5 cM fG fO (bT++ns)→aD (gw 0) H cI→OA S g ie 12 hd w (fun H'=>Good S g ie W (m4+1+1) b5 H') (Xd S g ie W (m4+1) hd b5) 0 cI:=fun hd w cI hn tX cl fy k5=>by
    refine⟨nm,bL ds,val,b5,cM,fG,fO,_,tX,fy,cl,fun x dl hx pO=>?_⟩
    cases hd with
    |none=>exact absurd rfl hn
    |some y=>
     have k6:aD aJ cI (upd cI x (.exc 1 2 [.str nm 0,.ref dl])):=.new hx;exact⟨2,nm,dl,bL ds,val,b5,cM,fG,fO,_,aA,by decide,k6 _ _ pO rfl,fy.keep k6,by rw[hu];exact pe,at_ (k5.trans k6.of0)⟩
   cases hd with
   |some y=>exact main _ w cI (by simp) tX cl fy (ki.trans k5)
   |none=>
    refine⟨nm,bL ds,val,b5,cM,fG,fO,_,tX,fy,cl,fun x dl hx pO=>?_⟩
    have k6:aD aJ cI (upd cI x (.exc 1 1 [.str nm 0,.ref dl])):=.new hx;obtain⟨sm,em,_⟩:=fy.aY;refine⟨nm,dl,bL ds,⟨_,k6 _ _ em rfl⟩,aA,k6 _ _ pO rfl,fun w6 cC Yx k7=>yI (vg (n:=13) (by decide) rfl (main (some x) w6 cC (by simp) Yx (fun y hy=>?_) ((fy.keep k6).keep k7) ((ki.trans k5).trans (k6.trans k7).of0))) (show 13≤m4+1 by omega)⟩
    cases hy;exact⟨1,_,k7 _ _ aA rfl,aF⟩
def eS(H:AH)(d:Addr):Prop:=∃c s cs sd,H d=some (.list 1 [.ref c,.ref s])∧c≠s∧H c=some (.list 12 (bL cs))∧H s=some (.list 12 [.int sd 0])∧(∀x∈cs,0≤x)∧cs.length≤10∧0≤sd∧sd < 2 ^ 40
end
section
variable{S:aN}{n:Nat}{hd:bP}{H H':AH}{Q:KQ}{E:EPost}{a b d:Addr}{i:Int}
theorem Pq{i j:Int}{a b:Tok}(h:0≤j)(h2:(Builtin.Int.intBits i:Int) * j≤2 ^ 27)(q:Q (.int (i ^ j.toNat) 0) H):dK H .Pow (.int i a) (.int j b) Q:=⟨h,h2,q⟩
theorem Wp{K:Bool→AH→Prop}{f:(Bool→AH→Prop)→Prop}(P:Bool→AH→Prop)(hK:∀x H,P x H→K x H)(hf:∀K:Bool→AH→Prop,(∀x H,P x H→K x H)→f K):jn K f:=hf K hK
theorem gO{many:Int}(hn:1≤n)(Gw:hd=none)(hD:eS H d)(h1:1≤many)(h2:many.natAbs.log2 < 9000)(q:∀r H',0≤r→r < many→eS H' d→aD (aG [12]) H H'→Q (.int r 0) H'):Sat S n hd (.ref 1987) [.ref d,.int many 0] H Q E:=by
 subst Gw;obtain⟨m,rfl,hm⟩:=dN hn;refine LA ?_;unfold zZ;obtain⟨c,s,cs,sd,gH,NO,hc,hs,Ov,Gx,Zj,Ck⟩:=hD;have cl:eT (none:bP) H:=fun x hx=>by cases hx
 refine VO gH rfl cl.clean ⟨rfl,rfl,nC ?_⟩;have aa2:∀ds:bQ,(bL ds).length=ds.length:=fun ds=>by unfold bL;rw[dO]
 refine⟨fun j us aE=>us=[.ref d,.int many 0,.ref c,.ref s]∧∃cs sd,j=cs.length∧aE d=some (.list 1 [.ref c,.ref s])∧aE c=some (.list 12 (bL cs))∧aE s=some (.list 12 [.int sd 0])∧(∀x∈cs,0≤x)∧cs.length≤10∧0≤sd∧sd < 2 ^ 40∧aD (aG [12]) H aE,cs.length,⟨rfl,cs,sd,rfl,gH,hc,hs,Ov,Gx,Zj,Ck,.refl⟩,?_⟩
 rintro j aE u4 u5 u6 u7 ⟨hu,cs,sd,rfl,Co,Ow,UD,KP,Pj,OT,OS,k1⟩
 cases hu;refine Wp (fun b aH=>(b=true→cs≠[])∧aD aJ aE aH) ?_ fun K hK=>?_
 .rintro b aH ⟨hb,k2⟩
  have Kg:=k2 _ _ Ow rfl;have N9:=k2 _ _ UD rfl;have hd2:=k2 _ _ Co rfl;have kj:=k1.trans (k2.mono (M':=aG [12]) fun _ _=>rfl)
  cases b with
  |true=>
   cases cs with
   |nil=>exact absurd rfl (hb rfl)
   |cons c0 cs=>
    refine eE (ji N9 rfl (rF Kg (Rd Kg (by decide) (pk (By (by decide) ?_)))))
    have k3:aD (aG [12]) aH (upd aH c (.list 12 (bL cs))):=.set Kg rfl;have GL:upd aH c (.list 12 (bL cs)) s=some (.list 12 [.int sd 0]):=by rw[aT NO.symm];exact N9
    refine Sf GL (by decide) (by decide) (by simp) ?_
    have k4:aD (aG [12]) (upd aH c (.list 12 (bL cs))) (upd (upd aH c (.list 12 (bL cs))) s (.list 12 [.int ((sd+c0).fmod 1000003) 0])):=.set GL rfl;have f0:0≤(sd+c0).fmod 1000003∧(sd+c0).fmod 1000003 < 1000003:=by
     rw[nj _ (by decide)]
     exact⟨rq _ (by decide),ro _ (by decide)⟩
    refine⟨cs.length,by simp,rfl,cs,_,rfl,(k3.trans k4) _ _ hd2 rfl,(aT NO).trans aA,aA,fun x hx=>KP x (.tail _ hx),by simp at Pj;omega,f0.1,by omega,kj.trans (k3.trans k4)⟩
  |false=>
   refine cP (nL 1 (by decide) (by simp) fun e he=>?_)
   have k3:aD aJ aH (upd aH e (.list 1 [])):=.new he;have NK:=k3 _ _ Kg rfl;have GL:=k3 _ _ N9 rfl;have mG:=kj.trans (k3.mono (M':=aG [12]) fun _ _=>rfl)
   refine t9 NK aA ?_;cases cs with
   |cons c0 cs=>
    have p0:0≤c0:=KP c0 (.head _);refine eE (ji NK rfl (By (by omega) (ji NK rfl (JU (by omega) (yi h2) (Sf NK (by decide) (by decide) (by simp[bL]) ?_)))))
    have k4:aD (aG [12]) (upd aH e (.list 1 [])) (upd (upd aH e (.list 1 [])) c (.list 12 (bL (c0.fdiv many::cs)))):=.set NK rfl;have e1:c0.fmod many=c0 % many:=nj _ (by omega)
    rw[e1];refine q _ _ (rq _ (by omega)) (ro _ (by omega)) ⟨c,s,c0.fdiv many::cs,sd,k4 _ _ (k3 _ _ hd2 rfl) rfl,NO,aA,by rw[aT NO.symm];exact GL,fun x hx=>?_,by simp at Pj⊢;omega,OT,OS⟩ (mG.trans k4)
    rcases bS.mp hx with rfl|hx
    .rw[Int.fdiv_eq_ediv_of_nonneg _ (by omega)]
     exact Int.ediv_nonneg p0 (by omega)
    .exact KP x (.tail _ hx)
   |nil=>
    have b0:∀x:Int,0≤x→x < 2 ^ 40→x.natAbs < 2 ^ 64:=fun x h1 h2=>by omega
    refine cP (ji GL rfl (ji GL rfl (K6 (b0 _ OT OS) (ji GL rfl (K6 (by decide) (pk (pk (By (by decide) (Sf GL (by decide) (by decide) (by simp) ?_)))))))))
    obtain⟨Gm,Ww⟩:∃Gm,Gm=(sd * sd+3 * sd+7919).fmod 1000003:=⟨_,rfl⟩;rw[←Ww];have f0:0≤Gm∧Gm < 1000003:=by
     rw[Ww,nj _ (by decide)]
     exact⟨rq _ (by decide),ro _ (by decide)⟩
    have k4:aD (aG [12]) (upd aH e (.list 1 [])) (upd (upd aH e (.list 1 [])) s (.list 12 [.int Gm 0])):=.set GL rfl;have f7:0≤Gm.fmod 7∧Gm.fmod 7 < 7:=by
     rw[nj _ (by decide)]
     exact⟨rq _ (by decide),ro _ (by decide)⟩
    refine ji aA rfl (JU (by decide) (yi (by decide)) (ji aA rfl (By (by decide) (K6 (b0 _ f7.1 (by omega)) (pk (By (by omega) ?_))))))
    rw[nj _ (show 0≤many by omega)]
    exact q _ _ (rq _ (by omega)) (ro _ (by omega)) ⟨c,s,[],Gm,k4 _ _ (k3 _ _ hd2 rfl) rfl,NO,by rw[aT NO];exact NK,aA,fun x hx=>(by cases hx),by simp,f0.1,by omega⟩ (mG.trans k4)
 .refine nL 1 (by decide) (by simp) fun e he=>?_
  have k2:aD aJ aE (upd aE e (.list 1 [])):=.new he;have Kg:=k2 _ _ Ow rfl;refine t9 Kg aA ?_;cases cs with
  |nil=>exact my (hK false _ ⟨fun h=>(by cases h),k2⟩)
  |cons c0 cs=>
   refine pj (ji Kg rfl (Pq (by decide) (by decide) (Jt ?_)))
   cases decide (c0 < 10 ^ (6:Int).toNat) with
   |false=>exact my (hK false _ ⟨fun h=>(by cases h),k2⟩)
   |true=>exact pj (hK true _ ⟨fun _=>(by simp),k2⟩)
def nats(cs:fu):aB:=cs.map fun c=>.int (c:Nat) 0
mutual
def PF(H:AH):Fm→aC→Prop
 | .note k,v=>∃a,v=.ref a∧H a=some (.tup 1 [.str "note" 0,.int k 0])
 | .sig c k,v=>∃a,v=.ref a∧H a=some (.tup 1 [.str "signal" 0,.int (c:Nat) 0,.int k 0])∧c < 6
 | .fS t k,v=>∃a,v=.ref a∧H a=some (.tup 1 [.str "throw" 0,.int t 0,.int k 0])
 | .fN fs,v=>∃a l vs,v=.ref a∧H a=some (.tup 1 [.str "progn" 0,.ref l])∧H l=some (.tup 1 vs)∧mq H fs vs∧2≤vs.length∧vs.length≤3
 | .eR t f,v=>∃a w,v=.ref a∧H a=some (.tup 1 [.str "catch" 0,.int t 0,w])∧PF H f w∧0≤t∧t < 3
 | .unwind f g,v=>∃a w w2,v=.ref a∧H a=some (.tup 1 [.str "unwind" 0,w,w2])∧PF H f w∧PF H g w2
 | .iV k f,v=>∃a w,v=.ref a∧H a=some (.tup 1 [.str "let" 0,.int k 0,w])∧PF H f w
 | .case f rs,v=>∃a w l ws,v=.ref a∧H a=some (.tup 1 [.str "case" 0,w,.ref l])∧PF H f w∧H l=some (.tup 1 ws)∧kP H rs ws∧ws.length≤2
def mq(H:AH):gU→aB→Prop
 | .nil,vs=>vs=[]
 | .cons f r,vs=>∃w ws,vs=w::ws∧PF H f w∧mq H r ws
def kP(H:AH):gm→aB→Prop
 | .nil,vs=>vs=[]
 | .cons cs f r,vs=>∃w ws a s b,vs=w::ws∧w=.ref a∧H a=some (.tup 1 [.ref s,b])∧H s=some (.tup 1 (nats cs))∧(1≤cs.length∧cs.length≤2∧∀c∈cs,c < 6)∧PF H f b∧kP H r ws
end
def TK(H H':AH):Prop:=∀a xs,H a=some (.tup 1 xs)→H' a=some (.tup 1 xs)
mutual
theorem PF.keep(k:TK H H'):∀(f:Fm) {v:aC},PF H f v→PF H' f v
 | .note _,_,h=>by unfold PF at h⊢;obtain⟨a,e,h⟩:=h;exact⟨a,e,k _ _ h⟩
 | .sig _ _,_,h=>by unfold PF at h⊢;obtain⟨a,e,h,c⟩:=h;exact⟨a,e,k _ _ h,c⟩
 | .fS _ _,_,h=>by unfold PF at h⊢;obtain⟨a,e,h⟩:=h;exact⟨a,e,k _ _ h⟩
 | .fN fs,_,h=>by unfold PF at h⊢;obtain⟨a,l,vs,e,h,h2,h3,h4⟩:=h;exact⟨a,l,vs,e,k _ _ h,k _ _ h2,mq.keep k fs h3,h4⟩
 | .eR _ f,_,h=>by unfold PF at h⊢;obtain⟨a,w,e,h,h2,h3⟩:=h;exact⟨a,w,e,k _ _ h,PF.keep k f h2,h3⟩
 | .unwind f g,_,h=>by unfold PF at h⊢;obtain⟨a,w,w2,e,h,h2,h3⟩:=h;exact⟨a,w,w2,e,k _ _ h,PF.keep k f h2,PF.keep k g h3⟩
 | .iV _ f,_,h=>by unfold PF at h⊢;obtain⟨a,w,e,h,h2⟩:=h;exact⟨a,w,e,k _ _ h,PF.keep k f h2⟩
 | .case f rs,_,h=>by unfold PF at h⊢;obtain⟨a,w,l,ws,e,h,h2,h3,h4,h5⟩:=h;exact⟨a,w,l,ws,e,k _ _ h,PF.keep k f h2,k _ _ h3,kP.keep k rs h4,h5⟩
theorem mq.keep(k:TK H H'):∀(f:gU) {v:aB},mq H f v→mq H' f v
 | .nil,_,h=>by unfold mq at h⊢;exact h
 | .cons f r,_,h=>by unfold mq at h⊢;obtain⟨w,ws,e,h,h2⟩:=h;exact⟨w,ws,e,PF.keep k f h,mq.keep k r h2⟩
theorem kP.keep(k:TK H H'):∀(f:gm) {v:aB},kP H f v→kP H' f v
 | .nil,_,h=>by unfold kP at h⊢;exact h
 | .cons cs f r,_,h=>by
  unfold kP at h⊢;obtain⟨w,ws,a,s,b,e,e2,h,h2,h3,h4,h5⟩:=h;exact⟨w,ws,a,s,b,e,e2,k _ _ h,k _ _ h2,h3,PF.keep k f h4,kP.keep k r h5⟩
end
theorem aD.tk{M:Nat→Bool}(k:aD M H H')(m:M 1=false:=by rfl):TK H H':=fun a xs h=>k a _ h m
theorem TK.list{a:Addr}{t:Nat}{xs:aB}{o:AO}(h:H a=some (.list t xs)):TK H (upd H a o):=fun b ys e=>by
 rw[aT (fun q=>by subst q;rw[h] at e;cases e)];exact e
def gU.snoc:gU→Fm→gU
 | .nil,f=>.cons f .nil
 | .cons g r,f=>.cons g (r.snoc f)
def gm.snoc:gm→fu→Fm→gm
 | .nil,cs,f=>.cons cs f .nil
 | .cons zq g r,cs,f=>.cons zq g (r.snoc cs f)
theorem mq.snoc{H:AH}{f:Fm}{w:aC}(hf:PF H f w):∀{fs:gU} {vs:aB},mq H fs vs→mq H (fs.snoc f) (vs++[w])
 | .nil,vs,h=>by unfold mq at h;subst h;unfold gU.snoc mq mq;exact⟨w,[],rfl,hf,rfl⟩
 | .cons g r,vs,h=>by
  unfold mq at h;obtain⟨w',ws,rfl,h1,h2⟩:=h;unfold gU.snoc mq;exact⟨w',ws++[w],rfl,h1,h2.snoc hf⟩
theorem nH{f:Fm}:∀{fs:gU},ft (fs.snoc f)=ft fs+(cost f+1)∧kS (fs.snoc f)=max (kS fs) (fP f)
 | .nil=>by unfold gU.snoc;simp[ft,kS]
 | .cons g r=>by have:=nH (f:=f) (fs:=r);unfold gU.snoc;simp only[ft,kS];omega
theorem kP.snoc{H:AH}{f:Fm}{cs:fu}{a s:Addr}{b:aC}(h1:H a=some (.tup 1 [.ref s,b]))(h2:H s=some (.tup 1 (nats cs)))(h3:1≤cs.length∧cs.length≤2∧∀c∈cs,c < 6)(hf:PF H f b):∀{rs:gm} {vs:aB},kP H rs vs→kP H (rs.snoc cs f) (vs++[.ref a])
 | .nil,vs,h=>by unfold kP at h;subst h;unfold gm.snoc kP kP;exact⟨_,[],a,s,b,rfl,rfl,h1,h2,h3,hf,rfl⟩
 | .cons zq g r,vs,h=>by
  unfold kP at h;obtain⟨w',ws,a',s',b',rfl,e2,x1,x2,x3,x4,x5⟩:=h;unfold gm.snoc kP;exact⟨w',ws++[.ref a],a',s',b',rfl,e2,x1,x2,x3,x4,x5.snoc h1 h2 h3 hf⟩
theorem nI{cs:fu}{f:Fm}:∀{rs:gm},fA (rs.snoc cs f)=fA rs+(cost f+9)∧kU (rs.snoc cs f)=max (kU rs) (fP f)
 | .nil=>by unfold gm.snoc;simp[fA,kU]
 | .cons zq g r=>by have:=nI (cs:=cs) (f:=f) (rs:=r);unfold gm.snoc;simp only[fA,kU];omega
def cb:Nat→Nat
 |0=>4
 |1=>32
 |k+2=>max (3 * cb (k+1)+4) (cb (k+1)+2 * cb k+20)
theorem wm:∀k,4≤cb k
 |0=>by decide
 |1=>by decide
 |k+2=>by have:=wm k;unfold cb;omega
theorem Iu:∀{k},1≤k→3 * cb (k - 1)+4≤cb k∧cb (k - 1)+2 * cb (k - 2)+20≤cb k
 |0,h=>by omega
 |1,_=>by decide
 |k+2,_=>by
  rw[show k+2 - 1=k+1 from rfl,show k+2 - 2=k from rfl]
  conv=>rhs;rhs;unfold cb
  conv=>lhs;rhs;unfold cb
  omega
theorem oG{k:Nat}(h:k≤1000000):Builtin.Range.small 0 (k:Int) 1=true∧Builtin.Range.rangeSize 0 (k:Int) 1=k:=by
 have e:Builtin.Range.rangeSize 0 (k:Int) 1=k:=by
  unfold Builtin.Range.rangeSize;rw[bE (by decide),Int.ediv_one]
  split<;>omega
 refine⟨?_,e⟩;unfold Builtin.Range.small;rw[e];unfold Builtin.Range.rangeFitsLong;simp only[dJ,jD,kq,dE];refine⟨⟨⟨⟨?_,?_⟩,?_⟩,?_⟩,.inr ?_⟩<;>first|omega|(rw[bE (by decide)];simp only[dJ,jD];omega)
theorem KC{r x y:Int}:tW (.int r 0) [.int x 0,.int y 0]=some (x==r||y==r):=by
 unfold tW zp
 simp
variable{M:Nat→Bool}{v w:aC}
abbrev KD(H H':AH):Prop:=aD (aG [12]) H H'
theorem eS.keep(h:eS H d)(k:aD M H H')(m1:M 1=false:=by rfl)(Wa:M 12=false:=by rfl):eS H' d:=
 let⟨c,s,cs,sd,h1,h2,h3,h4,r⟩:=h;⟨c,s,cs,sd,k _ _ h1 m1,h2,k _ _ h3 Wa,k _ _ h4 Wa,r⟩
theorem oW{us:aB}{q:aC→AH→Prop}(hl:us.length≤1000000)(h:∀a H',aD aJ H H'→H' a=some (.tup 1 us)→q (.ref a) H'):bM H us q:=nT 1 (by decide) hl fun a ha=>h a _ (.new ha) aA
theorem zj{us:aB}{q:aC→AH→Prop}(hl:us.length≤1000000)(h:∀a H',aD aJ H H'→H a=none→H' a=some (.list 1 us)→q (.ref a) H'):bJ H us q:=nL 1 (by decide) hl fun a ha=>h a _ (.new ha) ha aA
theorem BP{Q:KQ}{E:EPost}{k:Nat}(hn:1≤n)(hD:eS H d)(q:∀f v H',PF H' f v→cost f≤cb k→fP f≤k→eS H' d→KD H H'→Q v H'):cV ⟨S,n,none⟩ H (.ref 1987) [.ref d,.int 9 0] (fun Xu H=>bM H [.str "note" 0,Xu] fun Xv H=>Q Xv H) E:=by
 refine cF rfl (gO hn rfl hD (by decide) (by decide) fun r aE h0 h1 zm k1=>oW (by simp) fun a aH k2 ha=>?_)
 exact q (.note r) _ aH (by unfold PF;exact⟨a,rfl,ha⟩) (by have:=wm k;unfold cost;omega) (by unfold fP;omega) (zm.keep k2) (k1.trans k2.of0)
theorem Fj{Q:KQ}{E:EPost}{k:Nat}(hn:1≤n)(hD:eS H d)(q:∀f v H',PF H' f v→cost f≤cb k→fP f≤k→eS H' d→KD H H'→Q v H'):cV ⟨S,n,none⟩ H (.ref 1987) [.ref d,.int 6 0] (fun Sd H=>cV ⟨S,n,none⟩ H (.ref 1987) [.ref d,.int 9 0] (fun Sb H=>bM H [.str "signal" 0,Sd,Sb] fun NR H=>Q NR H) E) E:=by
 refine cF rfl (gO hn rfl hD (by decide) (by decide) fun c aE h0 h1 zm k1=>cF rfl (gO hn rfl zm (by decide) (by decide) fun r aH h2 h3 Kk k2=>oW (by simp) fun a aO k3 ha=>?_))
 have e:((c.toNat:Nat):Int)=c:=Int.toNat_of_nonneg h0;exact q (.sig c.toNat r) _ aO (by unfold PF;rw[e];exact⟨a,rfl,ha,by omega⟩) (by have:=wm k;unfold cost;omega) (by unfold fP;omega) (Kk.keep k3) (k1.trans (k2.trans k3.of0))
theorem Fi{Q:KQ}{E:EPost}{k:Nat}(hn:1≤n)(hD:eS H d)(q:∀f v H',PF H' f v→cost f≤cb k→fP f≤k→eS H' d→KD H H'→Q v H'):cV ⟨S,n,none⟩ H (.ref 1987) [.ref d,.int 3 0] (fun Sd H=>cV ⟨S,n,none⟩ H (.ref 1987) [.ref d,.int 9 0] (fun Sb H=>bM H [.str "throw" 0,Sd,Sb] fun NR H=>Q NR H) E) E:=by
 refine cF rfl (gO hn rfl hD (by decide) (by decide) fun c aE h0 h1 zm k1=>cF rfl (gO hn rfl zm (by decide) (by decide) fun r aH h2 h3 Kk k2=>oW (by simp) fun a aO k3 ha=>?_))
 exact q (.fS c r) _ aO (by unfold PF;exact⟨a,rfl,ha⟩) (by have:=wm k;unfold cost;omega) (by unfold fP;omega) (Kk.keep k3) (k1.trans (k2.trans k3.of0))
theorem M7:∀(k:Nat) {n:Nat} {H:AH} {deep:Int} {Q:KQ} {E:EPost},k+2≤n→deep≤k→eS H d→(∀f v H',PF H' f v→cost f≤cb k→fP f≤k→eS H' d→KD H H'→Q v H')→Sat S n none (.ref 1992) [.ref d,.int deep 0] H Q E:=by
 intro k
 induction k using Nat.strongRecOn with
 |ind k ih=>
 intro n H deep Q E hn hdp hD q;obtain⟨m,rfl,hm⟩:=dN (show(k+1)+1≤n by omega)
 refine Lz ?_;unfold zY;refine Rx (fun v aE=>∃r,v=.int r 0∧0≤r∧r < 13∧(r < 4∨0 < deep)∧eS aE d∧KD H aE) ?_ fun K hK=>?_
 rotate_left
 .refine Ts ?_
  by_cases h:deep≤0
  .rw[decide_eq_true h]
   exact eE (cF rfl (gO (show 1≤m by omega) rfl hD (by decide) (by decide) fun r aE h0 h1 zm k1=>hK _ _ ⟨r,rfl,h0,by omega,.inl h1,zm,k1⟩))
  .rw[decide_eq_false h]
   exact cP (cF rfl (gO (show 1≤m by omega) rfl hD (by decide) (by decide) fun r aE h0 h1 zm k1=>hK _ _ ⟨r,rfl,h0,by omega,.inr (by omega),zm,k1⟩))
 rintro v aE ⟨r,rfl,h0,WY,hr,zm,k1⟩
 refine Jt ?_
 by_cases r2:r < 2
 .rw[decide_eq_true r2]
  exact eE (BP (show 1≤m by omega) zm fun f v H' h1 h2 h3 h4 h5=>q f v H' h1 h2 h3 h4 (k1.trans h5))
 rw[decide_eq_false r2];refine cP (kW ?_)
 by_cases e2:r=2
 .rw[dE.mpr e2]
  exact eE (Fj (show 1≤m by omega) zm fun f v H' h1 h2 h3 h4 h5=>q f v H' h1 h2 h3 h4 (k1.trans h5))
 rw[dw.mpr e2];refine cP (kW ?_)
 by_cases e3:r=3
 .rw[dE.mpr e3]
  exact eE (Fi (show 1≤m by omega) zm fun f v H' h1 h2 h3 h4 h5=>q f v H' h1 h2 h3 h4 (k1.trans h5))
 rw[dw.mpr e3];have Xk:0 < deep:=hr.elim (fun h=>by omega) id
 have RE:1≤k:=by omega
 obtain⟨c1,c2⟩:=Iu RE;have i1:∀{H:AH} {Q:KQ} {E:EPost},eS H d→(∀f v H',PF H' f v→cost f≤cb (k - 1)→fP f≤k - 1→eS H' d→KD H H'→Q v H')→Sat S m none (.ref 1992) [.ref d,.int (deep - 1) 0] H Q E:=fun hD q=>ih (k - 1) (by omega) (by omega) (by omega) hD q
 have i2:∀{H:AH} {Q:KQ} {E:EPost},eS H d→(∀f v H',PF H' f v→cost f≤cb (k - 2)→fP f≤k - 2→eS H' d→KD H H'→Q v H')→Sat S m none (.ref 1992) [.ref d,.int (deep - 2) 0] H Q E:=fun hD q=>ih (k - 2) (by omega) (by omega) (by omega) hD q
 refine cP (oW (by simp) fun t1 aH k2 SH=>Hi SH KC ?_)
 have Kk:=zm.keep k2;have kj:KD H aH:=k1.trans k2.of0
 by_cases R0:(4==r||5==r)=true
 .rw[R0]
  refine eE (cF rfl (gO (show 1≤m by omega) rfl Kk (by decide) (by decide) fun r2 aO h2 h3 RV k3=>pk (rI fun rg x y z Ob=>?_)))
  obtain⟨N,hN⟩:∃N:Nat,(2+r2:Int)=N:=⟨(2+r2).toNat,by omega⟩
  rw[hN];obtain⟨ra,rb⟩:=oG (k:=N) (by omega)
  have kr:aD aJ aO (upd aO rg (.raw 1 (fz 0 N 1 x y z))):=.new Ob;have mG:KD H (upd aO rg (.raw 1 (fz 0 N 1 x y z))):=kj.trans (k3.trans kr.of0);refine⟨.range 0 1 N,(List.range N).map fun(k:Nat)=>Value.int (0+(k:Nat) * 1) 0,fun i bN bI=>eS bI d∧KD H bI∧∃fs,mq bI fs bN∧bN.length=i∧ft fs≤i * (cb (k - 1)+1)∧kS fs≤k - 1,⟨⟨rg,1,N,x,y,z,rfl,aA,ra,rb⟩,rfl⟩,by simp;omega,⟨RV.keep kr,mG,.nil,by unfold mq;rfl,rfl,by simp[ft],by simp[kS]⟩,fun i bN bI _=>rfl,?_,?_⟩
  .rintro i bN bI u ⟨Cv,k4,fs,hp,hl,hc,hh⟩ _
   refine⟨rfl,eE (ua (cF rfl (i1 Cv fun f v cI p5 c5 h5 Kj k5=>⟨Kj,k4.trans k5,fs.snoc f,(mq.keep k5.tk _ hp).snoc p5,by simp[hl],?_,?_⟩)))⟩
   .rw[nH.1,Nat.succ_mul];omega
   .rw[nH.2];omega
  .rintro bN bI ⟨Cv,k4,fs,hp,hl,hc,hh⟩
   rw[dO,pS] at hl hc;refine⟨iU.clean,1,by decide,fun D Tg=>rH 1 (by decide) aA fun tp xv=>oW (by simp) fun a cI k5 ha=>?_⟩
   have kx:aD aJ bI cI:=(aD.new Tg).trans ((aD.new xv).trans k5);refine q (.fN fs) _ cI ?_ ?_ ?_ (Cv.keep kx) (k4.trans kx.of0)
   .unfold PF
    exact⟨a,tp,bN,rfl,ha,k5 _ _ aA rfl,mq.keep kx.tk _ hp,by omega,by omega⟩
   .unfold cost
    have:N * (cb (k - 1)+1)≤3 * (cb (k - 1)+1):=Nat.mul_le_mul_right _ (by omega)
    omega
   .unfold fP;omega
 rw[oj] at R0;rw[R0];simp only[qU,dw] at R0;refine cP (oW (by simp) fun t2 aO k3 N7=>Hi N7 KC ?_)
 have RV:=Kk.keep k3;have mG:KD H aO:=kj.trans k3.of0
 by_cases RZ:(6==r||7==r)=true
 .rw[RZ]
  refine eE (cF rfl (gO (show 1≤m by omega) rfl RV (by decide) (by decide) fun tg bI h2 h3 Cv k4=>ua (cF rfl (i1 Cv fun f w cI p5 c5 h5 Kj k5=>oW (by simp) fun a cC k6 ha=>?_))))
  exact q (.eR tg f) _ cC (by unfold PF;exact⟨a,w,rfl,ha,PF.keep k6.tk f p5,h2,h3⟩) (by unfold cost;omega) (by unfold fP;omega) (Kj.keep k6) (mG.trans (k4.trans (k5.trans k6.of0)))
 rw[oj] at RZ;rw[RZ];simp only[qU,dw] at RZ;refine cP (oW (by simp) fun t3 bI k4 SG=>Hi SG KC ?_)
 have Cv:=RV.keep k4;have ki:KD H bI:=mG.trans k4.of0
 by_cases RY:(8==r||9==r)=true
 .rw[RY]
  refine eE (ua (cF rfl (i1 Cv fun f w cI p5 c5 h5 Kj k5=>ua (cF rfl (i2 Kj fun g w2 cC p6 c6 h6 Ox k6=>oW (by simp) fun a cZ k7 ha=>?_)))))
  have c3:=wm (k - 2);exact q (.unwind f g) _ cZ (by unfold PF;exact⟨a,w,w2,rfl,ha,PF.keep k7.tk f (PF.keep k6.tk f p5),PF.keep k7.tk g p6⟩) (by unfold cost;omega) (by unfold fP;omega) (Ox.keep k7) (ki.trans (k5.trans (k6.trans k7.of0)))
 rw[oj] at RY;rw[RY];simp only[qU,dw] at RY;refine cP (kW ?_)
 by_cases R2:r=10
 .rw[dE.mpr R2]
  refine eE (cF rfl (gO (show 1≤m by omega) rfl Cv (by decide) (by decide) fun tg cI h2 h3 Kj k5=>ua (cF rfl (i1 Kj fun f w cC p6 c6 h6 Ox k6=>oW (by simp) fun a cZ k7 ha=>?_))))
  exact q (.iV tg f) _ cZ (by unfold PF;exact⟨a,w,rfl,ha,PF.keep k7.tk f p6⟩) (by unfold cost;omega) (by unfold fP;omega) (Ox.keep k7) (ki.trans (k5.trans (k6.trans k7.of0)))
 rw[dw.mpr R2];refine cP (zj (by simp) fun rl cI k5 KG J7=>cF rfl (gO (show 1≤m by omega) rfl (Cv.keep k5) (by decide) (by decide) fun r2 cC h2 h3 Ox k6=>pk (rI fun rg x y z Ob=>?_)))
 obtain⟨N,hN⟩:∃N:Nat,(1+r2:Int)=N:=⟨(1+r2).toNat,by omega⟩
 rw[hN];obtain⟨ra,rb⟩:=oG (k:=N) (by omega)
 have kr:aD aJ cC (upd cC rg (.raw 1 (fz 0 N 1 x y z))):=.new Ob;have Ji:KD bI (upd cC rg (.raw 1 (fz 0 N 1 x y z))):=(k5.of0).trans (k6.trans kr.of0);refine⟨.range 0 1 N,(List.range N).map fun(k:Nat)=>Value.int (0+(k:Nat) * 1) 0,fun i us cZ=>us=[.ref d,.int deep 0,.int r 0,.ref rl]∧eS cZ d∧KD bI cZ∧∃rs vs,cZ rl=some (.list 1 vs)∧kP cZ rs vs∧vs.length=i∧fA rs≤i * (cb (k - 2)+9)∧kU rs≤k - 2,⟨⟨rg,1,N,x,y,z,rfl,aA,ra,rb⟩,rfl⟩,⟨rfl,Ox.keep kr,Ji,.nil,[],kr _ _ (k6 _ _ J7 rfl) rfl,by unfold kP;rfl,rfl,by simp[fA],by simp[kU]⟩,fun i us cZ _=>rfl,?_,?_⟩
 .rintro i cZ u hu u1 u2 u3 u4 ⟨jQ,Tf,k7,rs,vs,Hc,Oe,GS,WM,ZM⟩
  cases jQ;refine⟨rfl,cF rfl (gO (show 1≤m by omega) rfl Tf (by decide) (by decide) fun r3 gI h2 h3 Te k8=>pk (rI fun VW x2 y2 z2 UI=>?_))⟩
  obtain⟨N2,hN2⟩:∃N:Nat,(1+r3:Int)=N:=⟨(1+r3).toNat,by omega⟩
  rw[hN2];obtain⟨X0,XZ⟩:=oG (k:=N2) (by omega)
  have Wc:aD aJ gI (upd gI VW (.raw 1 (fz 0 N2 1 x2 y2 z2))):=.new UI;refine⟨.range 0 1 N2,(List.range N2).map fun(k:Nat)=>Value.int (0+(k:Nat) * 1) 0,fun i bN eI=>eS eI d∧KD cZ eI∧∃cs,bN=nats cs∧cs.length=i∧∀c∈cs,c < 6,⟨⟨VW,1,N2,x2,y2,z2,rfl,aA,X0,XZ⟩,rfl⟩,by simp;omega,⟨Te.keep Wc,k8.trans Wc.of0,[],rfl,rfl,fun c h=>(by cases h)⟩,fun i bN eI _=>rfl,?_,?_⟩
  .rintro i bN eI u ⟨Td,k9,cs,rfl,hl,hc⟩ _
   refine⟨rfl,eE (cF rfl (gO (show 1≤m by omega) rfl Td (by decide) (by decide) fun c HA h2 h3 hDA kA=>⟨hDA,k9.trans kA,cs++[c.toNat],?_,by simp[hl],fun x hx=>?_⟩))⟩
   .unfold nats
    rw[gW,List.map_singleton,Int.toNat_of_nonneg h2]
   .rcases dR.mp hx with hx|hx
    .exact hc x hx
    .rw[dQ.mp hx];omega
  .rintro bN eI ⟨Td,k9,cs,rfl,hl,hc⟩
   rw[dO,pS] at hl;refine⟨iU.clean,1,by decide,fun D Tg=>rH 1 (by decide) aA fun tp xv=>?_⟩
   have kA:aD aJ eI (upd (upd eI D (.list 1 (nats cs))) tp (.tup 1 (nats cs))):=(aD.new Tg).trans (.new xv);have Nx:KD cZ (upd (upd eI D (.list 1 (nats cs))) tp (.tup 1 (nats cs))):=k9.trans kA.of0;have UG:=Nx _ _ Hc rfl;refine dW UG (ua (cF rfl (i2 (Td.keep kA) fun f v HB pB cB hB hDB kB=>oW (by simp) fun a HC kC ha=>?_)))
   have Sn:KD cZ HC:=Nx.trans (kB.trans kC.of0);have Bt:=Sn _ _ Hc rfl;have lv:vs.length < 1000000:=by
    have:i < N:=by have:=(cQ.mp hu).1;simpa using this
    omega
   refine ff Bt (by decide) lv ?_
   have tk:TK HC (upd HC rl (.list 1 (vs++[.ref a]))):=TK.list Bt;refine⟨rfl,?_,(k7.trans Sn).fresh KG,rs.snoc cs f,vs++[.ref a],aA,kP.snoc (s:=tp) (tk _ _ ha) (tk _ _ (kC _ _ (kB _ _ aA rfl) rfl)) ⟨by omega,by omega,hc⟩ (PF.keep tk f (PF.keep kC.tk f pB)) (kP.keep tk _ (kP.keep Sn.tk _ Oe)),by simp[GS],?_,?_⟩
   .obtain⟨c',s',zq,Gm,x1,x2,x3,x4,x5⟩:=hDB.keep kC
    have e1:d≠rl:=fun e=>by subst e;have:=k5 _ _ (show bI d=_ from Cv.choose_spec.choose_spec.choose_spec.choose_spec.1) rfl;rw[Cv.choose_spec.choose_spec.choose_spec.choose_spec.1] at KG;cases KG
    refine⟨c',s',zq,Gm,by rw[aT e1];exact x1,x2,?_,?_,x5⟩
    .rw[aT (fun e=>by subst e;rw[x3] at Bt;cases Bt)];exact x3
    .rw[aT (fun e=>by subst e;rw[x4] at Bt;cases Bt)];exact x4
   .rw[nI.1,Nat.succ_mul];omega
   .rw[nI.2];omega
 .rintro cZ u1 u2 u3 u4 ⟨jQ,Tf,k7,rs,vs,Hc,Oe,GS,WM,ZM⟩
  cases jQ;rw[dO,pS] at GS WM;refine⟨iU.clean,ua (cF rfl (i1 Tf fun f w gI p8 c8 h8 Te k8=>rH 1 (by decide) (k8 _ _ Hc rfl) fun tp xv=>oW (by simp) fun a eI k9 ha=>?_))⟩
  have kx:aD aJ gI eI:=(aD.new xv).trans k9;refine q (.case f rs) _ eI ?_ ?_ ?_ (Te.keep kx) (ki.trans (k7.trans (k8.trans kx.of0)))
  .unfold PF
   exact⟨a,w,tp,vs,rfl,ha,PF.keep kx.tk f p8,k9 _ _ aA rfl,kP.keep kx.tk _ (kP.keep k8.tk _ Oe),by omega⟩
  .unfold cost
   have:N * (cb (k - 2)+9)≤2 * (cb (k - 2)+9):=Nat.mul_le_mul_right _ (by omega)
   omega
  .unfold fP;omega
def CN(H:AH):Prop:=H 1975=some (.tup 0 (gq sP))
theorem zL{c:Nat}(h:c < 6):vE (gq sP) (c:Nat)=some (.str (eW c) 0):=by
 have:c=0∨c=1∨c=2∨c=3∨c=4∨c=5:=by omega
 rcases this with rfl|rfl|rfl|rfl|rfl|rfl<;>rfl
theorem M4:("far-wrong":Str)≠"wrong"∧("far-wrong":Str)≠"quit"∧("far-wrong":Str)≠"error"∧("wrong":Str)≠"quit"∧("wrong":Str)≠"error"∧("quit":Str)≠"error":=by decide+kernel
variable{xs:aB}{l:Addr}{nm:Str}{p:Pl}
theorem CN.keep(h:CN H)(k:aD M H H')(m:M 0=false:=by rfl):CN H':=k _ _ h m
theorem Iw{cs:fu}{s:Addr}(hn:1≤n)(cn:CN H)(hs:H s=some (.tup 1 (nats cs)))(hc:∀c∈cs,c < 6)(hl:cs.length≤10)(q:∀H',aD aJ H H'→Q (.bool (takes cs nm)) H'):Sat S n none (.ref 2002) [.ref s,.str nm 0] H Q E:=by
 obtain⟨m,rfl,hm⟩:=dN hn;refine Ly ?_;unfold zX;refine⟨1,by decide,fun d gH=>nL 1 (by decide) (by simp) fun l1 qK=>nL 1 (by decide) (by simp) fun l2 sz=>nL 1 (by decide) (by simp) fun l3 xw=>nL 1 (by decide) (by simp) fun l4 Gv=>?_⟩
 have k1:aD aJ (upd H d (.bR 1 [])) (upd (upd H d (.bR 1 [])) l1 (.list 1 [.str "error" 0])):=.new qK;have k2:aD aJ (upd (upd H d (.bR 1 [])) l1 (.list 1 [.str "error" 0])) (upd (upd (upd H d (.bR 1 [])) l1 (.list 1 [.str "error" 0])) l2 (.list 1 [.str "quit" 0])):=.new sz;have k3:aD aJ (upd (upd (upd H d (.bR 1 [])) l1 (.list 1 [.str "error" 0])) l2 (.list 1 [.str "quit" 0])) (upd (upd (upd (upd H d (.bR 1 [])) l1 (.list 1 [.str "error" 0])) l2 (.list 1 [.str "quit" 0])) l3 (.list 1 [.str "wrong" 0,.str "error" 0])):=.new xw;have k4:aD aJ (upd (upd (upd (upd H d (.bR 1 [])) l1 (.list 1 [.str "error" 0])) l2 (.list 1 [.str "quit" 0])) l3 (.list 1 [.str "wrong" 0,.str "error" 0])) (upd (upd (upd (upd (upd H d (.bR 1 [])) l1 (.list 1 [.str "error" 0])) l2 (.list 1 [.str "quit" 0])) l3 (.list 1 [.str "wrong" 0,.str "error" 0])) l4 (.list 1 [.str "far-wrong" 0,.str "wrong" 0,.str "error" 0])):=.new Gv;obtain⟨bI,Bm⟩:∃bI,bI=upd (upd (upd (upd (upd H d (.bR 1 [])) l1 (.list 1 [.str "error" 0])) l2 (.list 1 [.str "quit" 0])) l3 (.list 1 [.str "wrong" 0,.str "error" 0])) l4 (.list 1 [.str "far-wrong" 0,.str "wrong" 0,.str "error" 0]):=⟨_,rfl⟩;rw[←Bm];rw[←Bm] at k4;have g1:bI l1=some (.list 1 [.str "error" 0]):=k4 _ _ (k3 _ _ (k2 _ _ aA rfl) rfl) rfl;have g2:bI l2=some (.list 1 [.str "quit" 0]):=k4 _ _ (k3 _ _ aA rfl) rfl;have g3:bI l3=some (.list 1 [.str "wrong" 0,.str "error" 0]):=k4 _ _ aA rfl;have g4:bI l4=some (.list 1 [.str "far-wrong" 0,.str "wrong" 0,.str "error" 0]):=by rw[Bm];exact aA
 have gd:bI d=some (.bR 1 []):=k4 _ _ (k3 _ _ (k2 _ _ (k1 _ _ aA rfl) rfl) rfl) rfl;have ki:aD aJ H bI:=(aD.new gH).trans (k1.trans (k2.trans (k3.trans k4)));unfold oo;dsimp only;rw[gd];refine⟨by simp,?_⟩
 obtain⟨es,qL⟩:∃es:List (Str×aC),es=(List.zip [("error":Str),("quit":Str),("wrong":Str),("far-wrong":Str)] [Value.ref l1,Value.ref l2,Value.ref l3,Value.ref l4]).foldl (fun es p=>stored es p.1 p.2) []:=⟨_,rfl⟩
 rw[←qL];have e0:∀x,valueAt es x=if x="far-wrong" then some (.ref l4) else if x="wrong" then some (.ref l3) else if x="quit" then some (.ref l2) else if x="error" then some (.ref l1) else none:=fun x=>by
  rw[qL,iK,iK,iK,iK,ux,pz,pz,pz,pz,List.foldl_nil,bK,bK,bK,bK];rfl
 have nW:aD aJ H (upd bI d (.bR 1 es)):=ki.fresh gH;obtain⟨n1,n2,n3,n4,n5,n6⟩:=M4;have up:∀{l:Addr} {xs:aB},bI l=some (.list 1 xs)→upd bI d (.bR 1 es) l=some (.list 1 xs):=fun{l xs} h=>by
  rw[aT (fun q=>by subst q;rw[gd] at h;cases h)];exact h
 have found:∀(cC:AH) (e:Addr),aD aJ (upd bI d (.bR 1 es)) cC→cC e=some (.list 1 [.str nm 0,.str "error" 0])→∃r,(valueAt es nm).getD (.ref e)=.ref r∧cC r=some (.list 1 (gq (cY nm))):=fun cC e k6 he=>by
  rw[e0];unfold cY
  by_cases q1:nm="far-wrong"
  .subst q1
   rw[bE rfl,aR n1,bE rfl];exact⟨l4,rfl,k6 _ _ (up g4) rfl⟩
  rw[aR q1]
  by_cases q2:nm="wrong"
  .subst q2
   rw[bE rfl,bE rfl];exact⟨l3,rfl,k6 _ _ (up g3) rfl⟩
  rw[aR q2,aR q2,aR q1]
  by_cases q3:nm="quit"
  .subst q3
   rw[bE rfl,aR n6,bE rfl];exact⟨l2,rfl,k6 _ _ (up g2) rfl⟩
  rw[aR q3]
  by_cases q4:nm="error"
  .subst q4
   rw[bE rfl,bE rfl];exact⟨l1,rfl,k6 _ _ (up g1) rfl⟩
  rw[aR q4,aR q4,aR q3];exact⟨e,rfl,he⟩
 have Wx:=nW _ _ hs rfl;have cn5:=cn.keep nW;refine⟨.tup s,nats cs,fun i bN cC=>aD aJ (upd bI d (.bR 1 es)) cC∧bN.length≤i∧bN.isEmpty=!((cs.take i).any fun c=>(cY nm).contains (eW c)),⟨rfl,1,Wx⟩,by unfold nats;simp;omega,⟨.refl,by simp,by simp⟩,fun i bN cC h=>⟨1,h.1 _ _ Wx rfl⟩,?_,?_⟩
 .rintro i bN cC x ⟨k6,GW,ha⟩ hx
  unfold nats at hx;rw[fL] at hx;obtain⟨c,GV,rfl⟩:=ey.mp hx;have S6:=hc c (hZ GV);refine⟨rfl,eO (cn5.keep k6) (zL S6) (qy (k6 _ _ aA rfl) (nL 1 (by decide) (by simp) fun e he=>?_))⟩
  have k7:aD aJ cC (upd cC e (.list 1 [.str nm 0,.str "error" 0])):=.new he;obtain⟨r,e1,e2⟩:=found _ e (k6.trans k7) aA;refine zM (k7 _ _ (k6 _ _ aA rfl) rfl) ?_;rw[e1];refine KZ e2 rQ ?_;obtain⟨fT,GV⟩:=cQ.mp GV;have tk:(cs.take (i+1)).any (fun c=>(cY nm).contains (eW c))=((cs.take i).any (fun c=>(cY nm).contains (eW c))||(cY nm).contains (eW c)):=by
   rw[jm fT,GV,List.any_append];simp
  cases hb:(cY nm).contains (eW c) with
  |true=>exact eE ⟨k6.trans k7,by simp;omega,by rw[tk,hb];simp⟩
  |false=>exact cP ⟨k6.trans k7,by omega,by rw[tk,hb,ha];simp⟩
 .rintro bN cC ⟨k6,GW,ha⟩
  refine⟨iU.clean,1,by decide,fun D hD=>nL 1 (by decide) (by simp) fun e he=>?_⟩
  have k7:aD aJ cC (upd cC D (.list 1 bN)):=.new hD;have k8:aD aJ (upd cC D (.list 1 bN)) (upd (upd cC D (.list 1 bN)) e (.list 1 [])):=.new he;refine t9 (k8 _ _ aA rfl) aA ?_
  have:=q _ (nW.trans (k6.trans (k7.trans k8)))
  rw[ha];unfold takes at this;rw[iL (by unfold nats;rw[dO];exact aF),Bool.not_not]
  exact this
def Ld(H:AH)(ds:bQ)(x:aC):Prop:=(∃d,ds=[d]∧x=.int d 0)∨(∃t d1 d2,ds=[d1,d2]∧x=.ref t∧H t=some (.tup 1 [.int d1 0,.int d2 0]))
def p9(H:AH)(o:Out)(a:Addr):Prop:=match o with
 | .val k=>H a=some (.tup 1 [.str "value" 0,.int k 0])
 | .sig nm ds=>∃x,H a=some (.tup 1 [.str "signal" 0,.str nm 0,x])∧Ld H ds x
 | .fS t k=>H a=some (.tup 1 [.str "throw" 0,.int t 0,.int k 0])
theorem p9.keep{H H':AH}{o:Out}{a:Addr}(h:p9 H o a)(k:TK H H'):p9 H' o a:=by
 cases o with
 |val x=>exact k _ _ h
 |fS t x=>exact k _ _ h
 |sig nm ds=>
  obtain⟨x,h1,h2⟩:=h;exact⟨x,k _ _ h1,h2.imp id fun⟨t,d1,d2,a,b,c⟩=>⟨t,d1,d2,a,b,k _ _ c⟩⟩
def Tl(S:aN)(nd:Addr)(f:Fm):Prop:=∀{n:Nat} {H:AH} {v:aC} {tl:Addr} {aI:bQ} {ns:cO} {vs:aB} {Q:KQ} {E:EPost},fP f+3≤n→CN H→PF H f v→H tl=some (.list 1 (bL aI))→aI.length+fP f≤1000→H nd=some (.list 65 vs)→cX H vs ns→ns.length+cost f≤9000→
 (∀a aQ H',p9 H' (bG aI f).1 a→H' nd=some (.list 65 aQ)→cX H' aQ (ns++(bG aI f).2)→aD (aG [65]) H H'→Q (.ref a) H')→Sat S n none (.ref 2009) [v,.ref tl,.ref nd] H Q E
def R5(S:aN)(nd:Addr):gU→Prop
 | .nil=>True
 | .cons f r=>Tl S nd f∧R5 S nd r
def R6(S:aN)(nd:Addr):gm→Prop
 | .nil=>True
 | .cons _ f r=>Tl S nd f∧R6 S nd r
variable{nd:Addr}{t:Nat}
theorem Ff{x:Int}{ls:bQ}:tW (.int x 0) (bL ls)=some (ls.contains x):=by
 unfold tW bL;rw[bE]
 .congr 1
  induction ls with
  |nil=>rfl
  |cons y ls ih=>
   rw[fj,G4,ih,uz]
   congr 1
   show(some (y==x)==some true)=(x==y)
   by_cases h:x=y
   .subst h;simp
   .rw[dw.mpr h,dw.mpr (lH h)];rfl
 .rw[List.all_map,dC];exact fun y _=>rfl
theorem Hp{k:Int}:Tl S nd (.note k):=by
 intro n H v tl aI ns vs Q E hn cn hp ht zk pN iZ hz q;obtain⟨m,rfl,hm⟩:=dN (show 1≤n by omega)
 refine lC ?_;unfold iu;unfold PF at hp;obtain⟨a,rfl,ha⟩:=hp;have na:a≠nd:=fun e=>by subst e;rw[ha] at pN;cases pN
 have lz:vs.length < 1000000:=by rw[iZ.len];unfold cost at hz;omega
 refine eO ha rfl (cG (eE (dW pN (eO ha rfl (ff pN (by decide) lz (eO (by rw[aT na];exact ha) rfl (oW (by simp) fun b aH k2 hb=>?_)))))))
 have k1:aD (aG [65]) H (upd H nd (.list 65 (vs++[.int k 0]))):=.set pN rfl;refine q b (vs++[.int k 0]) aH (by simp only[bG];exact hb) (k2 _ _ aA rfl) ?_ (k1.trans k2.of0)
 simp only[bG]
 exact((iZ.keep k1).keep k2).snoc (.inl ⟨k,rfl,rfl⟩)
theorem Li{c:Nat}{k:Int}:Tl S nd (.sig c k):=by
 intro n H v tl aI ns vs Q E hn cn hp ht zk pN iZ hz q;obtain⟨m,rfl,hm⟩:=dN (show 1≤n by omega)
 refine lC ?_;unfold iu;unfold PF at hp;obtain⟨a,rfl,ha,hc⟩:=hp;refine eO ha rfl (cG (cP (cG (eE (eO ha rfl (eO cn (zL hc) (eO ha rfl (oW (by simp) fun b aH k2 hb=>?_))))))))
 simp only[bG,gE] at q;exact q b vs aH ⟨_,hb,.inl ⟨k,rfl,rfl⟩⟩ (k2 _ _ pN rfl) (iZ.keep k2) k2.of0
theorem Lh{tg k:Int}:Tl S nd (.fS tg k):=by
 intro n H v tl aI ns vs Q E hn cn hp ht zk pN iZ hz q;obtain⟨m,rfl,hm⟩:=dN (show 1≤n by omega)
 refine lC ?_;unfold iu;unfold PF at hp;obtain⟨a,rfl,ha⟩:=hp;refine eO ha rfl (cG (cP (cG (cP (cG (eE (eO ha rfl (KZ ht Ff ?_))))))));simp only[bG,gE] at q;cases hb:aI.contains tg with
 |true=>
  rw[hb] at q;exact eE (eO ha rfl (eO ha rfl (oW (by simp) fun b aH k2 hb=>q b vs aH hb (k2 _ _ pN rfl) (iZ.keep k2) k2.of0)))
 |false=>
  rw[hb] at q;refine cP (eO ha rfl (eO ha rfl (oW (by simp) fun b aH k2 th=>oW (by simp) fun c aO k3 hc=>?_)))
  have Su:=k2.trans k3;exact q c vs aO ⟨_,hc,.inr ⟨b,tg,k,rfl,rfl,k3 _ _ th rfl⟩⟩ (Su _ _ pN rfl) (iZ.keep Su) Su.of0
theorem Lj{k:Int}{f:Fm}(hf:Tl S nd f):Tl S nd (.iV k f):=by
 intro n H v tl aI ns vs Q E hn cn hp ht zk pN iZ hz q;obtain⟨m,rfl,hm⟩:=dN (show 1≤n by omega)
 refine lC ?_;unfold iu;unfold PF at hp;obtain⟨a,w,rfl,ha,hw⟩:=hp;unfold fP at hn zk;unfold cost at hz;refine eO ha rfl (cG (cP (cG (cP (cG (cP (cG (cP (cG (eE (eO ha rfl (cF rfl (hf (show fP f+3≤m by omega) cn hw ht (by omega) pN iZ (by omega) fun b aQ aH hb pb kR k2=>?_)))))))))))))
 simp only[bG] at q;unfold Out.seq at q;have kX:=k2 _ _ ha rfl;cases h:bG aI f with
 |mk o xC=>
  rw[h] at hb kR q;cases o with
  |val x=>
   refine eO hb rfl (cG (eE (eO kX rfl (oW (by simp) fun c aO k3 hc=>?_))))
   exact q c aQ aO hc (k3 _ _ pb rfl) (by show cX aO aQ (ns++(xC++[]));rw[gE];exact kR.keep k3) (k2.trans k3.of0)
  |sig nm ds=>
   obtain⟨x,xx,th⟩:=id hb;exact eO xx rfl (cG (cP (q b aQ aH hb pb kR k2)))
  |fS t x=>exact eO hb rfl (cG (cP (q b aQ aH hb pb kR k2)))
theorem EX{tg:Int}{f:Fm}(hf:Tl S nd f):Tl S nd (.eR tg f):=by
 intro n H v tl aI ns vs Q E hn cn hp ht zk pN iZ hz q;obtain⟨m,rfl,hm⟩:=dN (show 1≤n by omega)
 refine lC ?_;unfold iu;unfold PF at hp;obtain⟨a,w,rfl,ha,hw,t0,t3⟩:=hp;unfold fP at hn zk;unfold cost at hz;have Yz:(bL aI).length+([Value.int tg 0]:aB).length≤1000000:=by unfold bL;simp;omega
 refine eO ha rfl (cG (cP (cG (cP (cG (cP (cG (cP (cG (cP (cG (eE (eO ha rfl (eO ha rfl (zj (by simp) fun e aE k1 _ he=>Bz 1 (by decide) (k1 _ _ ht rfl) he Yz fun XE UB=>?_)))))))))))))))
 have k2:aD aJ aE (upd aE XE (.list 1 (bL aI++[.int tg 0]))):=.new UB;have nV:=k1.trans k2;have e1:bL aI++[.int tg 0]=bL (aI++[tg]):=by unfold bL;simp
 refine cF rfl (hf (aI:=aI++[tg]) (show fP f+3≤m by omega) (cn.keep nV) (PF.keep nV.tk f hw) (by rw[aA,e1]) (by simp;omega) (nV _ _ pN rfl) (iZ.keep nV) (by omega) fun b aQ aO hb mx il k3=>?_)
 simp only[bG] at q;have mG:aD (aG [65]) H aO:=nV.of0.trans k3;have t4:=mG _ _ ha rfl;refine Wp (fun b' bI=>bI=aO∧(b'=true↔∃k,(bG (aI++[tg]) f).1=.fS tg k)) ?_ fun K hK=>?_
 .rintro b' bI ⟨rfl,Cq⟩
  cases h:bG (aI++[tg]) f with
  |mk o xC=>
   rw[h] at hb il q Cq;cases b' with
   |true=>
    obtain⟨k,e⟩:=Cq.mp rfl;dsimp only at e;subst e;refine eE (eO hb rfl (oW (by simp) fun c cI k5 hc=>?_))
    dsimp only at q;rw[bE rfl] at q;exact q c aQ cI hc (k5 _ _ mx rfl) (il.keep k5) (mG.trans k5.of0)
   |false=>
    refine cP ?_;cases o with
    |val x=>exact q b aQ bI hb mx il mG
    |sig nm ds=>exact q b aQ bI hb mx il mG
    |fS t x=>
     have ne:t≠tg:=fun e=>by
      have:=Cq.mpr ⟨x,by rw[e]⟩
      cases this
     dsimp only at q;rw[aR ne] at q;exact q b aQ bI hb mx il mG
 .cases h:bG (aI++[tg]) f with
  |mk o xC=>
   rw[h] at hb hK;cases o with
   |val x=>exact eO hb rfl (cG (my (hK false _ ⟨rfl,by simp⟩)))
   |sig nm ds=>
    obtain⟨x,xx,th⟩:=id hb;exact eO xx rfl (cG (my (hK false _ ⟨rfl,by simp⟩)))
   |fS t x=>
    refine eO hb rfl (cG (pj (eO hb rfl (eO t4 rfl (kW ?_)))))
    by_cases e:t=tg
    .subst e
     rw[fR];exact pj (hK true _ ⟨rfl,by simp⟩)
    .rw[dw.mpr e]
     exact my (hK false _ ⟨rfl,by simp[e]⟩)
theorem BD{f g:Fm}(hf:Tl S nd f)(hg:Tl S nd g):Tl S nd (.unwind f g):=by
 intro n H v tl aI ns vs Q E hn cn hp ht zk pN iZ hz q;obtain⟨m,rfl,hm⟩:=dN (show 1≤n by omega)
 refine lC ?_;unfold iu;unfold PF at hp;obtain⟨a,w,w2,rfl,ha,hw,NB⟩:=hp;unfold fP at hn zk;unfold cost at hz;have Nq:=dZ f (aI:=aI);refine eO ha rfl (cG (cP (cG (cP (cG (cP (cG (cP (cG (cP (cG (cP (cG (eE (eO ha rfl (cF rfl (hf (show fP f+3≤m by omega) cn hw ht (by omega) pN iZ (by omega) fun b aQ aH hb pb kR k2=>?_)))))))))))))))))
 refine eO (k2 _ _ ha rfl) rfl (cF rfl (hg (show fP g+3≤m by omega) (cn.keep k2) (PF.keep k2.tk g NB) (k2 _ _ ht rfl) (by omega) pb kR (by simp;omega) fun c GD aO hc mx il k3=>?_))
 simp only[bG] at q;rw[gC] at il;have mG:=k2.trans k3;cases h:bG aI g with
 |mk o xC=>
  rw[h] at hc il q;cases o with
  |val x=>exact eO hc rfl (cG (eE (q b GD aO (hb.keep k3.tk) mx il mG)))
  |sig nm ds=>
   obtain⟨x,xx,th⟩:=id hc;exact eO xx rfl (cG (cP (q c GD aO hc mx il mG)))
  |fS t x=>exact eO hc rfl (cG (cP (q c GD aO hc mx il mG)))
theorem EW{fs:gU}(hf:R5 S nd fs):Tl S nd (.fN fs):=by
 intro n H v tl aI ns vs Q E hn cn hp ht zk pN iZ hz q;obtain⟨m,rfl,hm⟩:=dN (show 1≤n by omega)
 refine lC ?_;unfold iu;unfold PF at hp;obtain⟨a,l,ws,rfl,ha,hl,SW,h2,h3⟩:=hp;unfold fP at hn zk;unfold cost at hz;simp only[bG] at q;refine eO ha rfl (cG (cP (cG (cP (cG (cP (cG (eE (oW (by simp) fun b aE k1 hb=>eO (k1 _ _ ha rfl) rfl ?_)))))))))
 refine⟨.tup l,ws,fun i us aH=>∃r k0 w zi aQ,us=[.ref a,.ref tl,.ref nd,.str "progn" 0,.ref w]∧(i=0∨p9 aH (.val k0) w)∧mq aH r (ws.drop i)∧aH nd=some (.list 65 aQ)∧cX aH aQ (ns++zi)∧fb aI 0 fs=((fb aI k0 r).1,zi++(fb aI k0 r).2)∧aD (aG [65]) H aH∧R5 S nd r∧ft r+zi.length≤ft fs∧kS r≤kS fs,⟨rfl,1,k1 _ _ hl rfl⟩,⟨fs,0,b,[],vs,rfl,.inl rfl,mq.keep k1.tk _ SW,k1 _ _ pN rfl,by rw[gE];exact iZ.keep k1,rfl,k1.of0,hf,by simp,aF⟩,fun i us aH ⟨_,_,_,_,_,_,_,_,_,_,_,k,_⟩=>⟨1,k _ _ hl rfl⟩,?_,?_⟩
 .rintro i aH x hx u1 u2 u3 u4 u5 ⟨r,k0,w,zi,aQ,hu,h0,hr,pb,kR,hT,k2,Ki,hc,hh⟩
  cases hu;cases r with
  |nil=>
   unfold mq at hr
   have:=(cQ.mp hx).1
   have e:=iE List.length hr;rw[jq] at e;simp at e;omega
  |cons f r=>
   unfold mq at hr;obtain⟨w',tc,e,N5,Cu⟩:=hr;obtain⟨fT,hx⟩:=cQ.mp hx;rw[jo fT,hx] at e;obtain⟨rfl,rfl⟩:=qW e;simp only[ft,kS] at hc hh;have Nq:=dZ f (aI:=aI);refine⟨rfl,cF rfl (Ki.1 (show fP f+3≤m by omega) (cn.keep k2) N5 (k2 _ _ ht rfl) (by omega) pb kR (by simp;omega) fun b2 GD aO th mx il k3=>?_)⟩
   have mG:=k2.trans k3;rw[gC] at il;simp only[fb] at hT;cases h:bG aI f with
   |mk o xC=>
    rw[h] at th il hT Nq;cases o with
    |val k'=>
     refine eO th rfl (Bx (cP ⟨r,k',b2,zi++xC,GD,rfl,.inr th,mq.keep k3.tk _ Cu,mx,il,?_,mG,Ki.2,by simp at Nq⊢;omega,by omega⟩))
     rw[hT,gC]
    |sig nm ds=>
     obtain⟨x,Cp,NL⟩:=id th;refine eO Cp rfl (Bx (eE (q b2 GD aO ?_ mx ?_ mG)))
     .rw[hT];exact th
     .rw[hT];exact il
    |fS t x=>
     refine eO th rfl (Bx (eE (q b2 GD aO ?_ mx ?_ mG)))
     .rw[hT];exact th
     .rw[hT];exact il
 .rintro aH u1 u2 u3 u4 u5 ⟨r,k0,w,zi,aQ,hu,h0,hr,pb,kR,hT,k2,Ki,hc,hh⟩
  cases hu;refine⟨iU.clean,?_⟩;cases r with
  |cons f r=>
   unfold mq at hr;obtain⟨w',tc,e,_⟩:=hr;rw[nk] at e;cases e
  |nil=>
   simp only[fb,gE] at hT;refine q w aQ aH ?_ pb ?_ k2
   .rw[hT];exact h0.elim (fun h=>by omega) id
   .rw[hT];exact kR
theorem Hq{f:Fm}{rws:gm}(hf:Tl S nd f)(hR:R6 S nd rws):Tl S nd (.case f rws):=by
 intro n H v tl aI ns vs Q E hn cn hp ht zk pN iZ hz q;obtain⟨m,rfl,hm⟩:=dN (show 1≤n by omega)
 refine lC ?_;unfold iu;unfold PF at hp;obtain⟨a,w,l,ws,rfl,ha,hw,hl,Oa,h2⟩:=hp;unfold fP at hn zk;unfold cost at hz;have Nq:=dZ f (aI:=aI);refine eO ha rfl (cG (cP (cG (cP (cG (cP (cG (cP (cG (cP (cG (cP (cG (cP (eO ha rfl (cF rfl (hf (show fP f+3≤m by omega) cn hw ht (by omega) pN iZ (by omega) fun b aQ aH hb pb kR k2=>?_)))))))))))))))))
 simp only[bG] at q;cases h:bG aI f with
 |mk o zi=>
  rw[h] at hb kR q Nq;dsimp only at Nq;cases o with
  |val x=>exact eO hb rfl (cG (cP (q b aQ aH hb pb kR k2)))
  |fS t x=>exact eO hb rfl (cG (cP (q b aQ aH hb pb kR k2)))
  |sig nm ds=>
   dsimp only at q kR;obtain⟨x,xx,th⟩:=id hb;refine eO xx rfl (cG (eE (eO (k2 _ _ ha rfl) rfl ?_)));refine⟨.tup l,ws,fun i us aO=>∃r,us=[.ref a,.ref tl,.ref nd,.str "case" 0,.ref b]∧kP aO r (ws.drop i)∧aO nd=some (.list 65 aQ)∧cX aO aQ (ns++zi)∧gB aI nm ds zi rws=gB aI nm ds zi r∧aD (aG [65]) H aO∧aO b=some (.tup 1 [.str "signal" 0,.str nm 0,x])∧Ld aO ds x∧R6 S nd r∧fA r≤fA rws∧kU r≤kU rws,⟨rfl,1,k2 _ _ hl rfl⟩,⟨rws,rfl,kP.keep k2.tk _ Oa,pb,kR,rfl,k2,xx,th,hR,aF,aF⟩,fun i us aO ⟨_,_,_,_,_,_,k,_⟩=>⟨1,k _ _ hl rfl⟩,?_,?_⟩
   .rintro i aO y hy u1 u2 u3 u4 u5 ⟨r,hu,hr,mx,il,hT,k3,Cp,Kf,Ki,hc,hh⟩
    cases hu;cases r with
    |nil=>
     unfold kP at hr
     have:=(cQ.mp hy).1
     have e:=iE List.length hr;rw[jq] at e;simp at e;omega
    |cons cs f' r=>
     unfold kP at hr;obtain⟨w',tc,ra,s,bd,e,rfl,SJ,hs,⟨c1,c2,c3⟩,Ta,Cu⟩:=hr;obtain⟨fT,hy⟩:=cQ.mp hy;rw[jo fT,hy] at e;obtain⟨rfl,rfl⟩:=qW e;simp only[fA,kU] at hc hh;refine GF SJ rfl iU.clean ⟨rfl,rfl,nC (eO Cp rfl (cF rfl (Iw (show 1≤m by omega) (cn.keep k3) hs c3 (by omega) fun bI k4=>eX ?_)))⟩
     have ki:=k3.trans (k4.of0 (M:=aG [65]));have RP:Ld bI ds x:=Kf.imp id fun⟨t,d1,d2,a,b,c⟩=>⟨t,d1,d2,a,b,k4 _ _ c rfl⟩
     have NL:=k4 _ _ Cp rfl;have CI:=k4 _ _ mx rfl;have KH:=il.keep k4;simp only[gB] at hT;cases gj:takes cs nm with
     |false=>
      rw[gj,aR eV] at hT;exact cP ⟨r,rfl,kP.keep k4.tk _ Cu,CI,KH,hT,ki,NL,RP,Ki.2,by omega,by omega⟩
     |true=>
      rw[gj,bE rfl] at hT;have lz:aQ.length < 1000000:=by rw[KH.len];simp;omega
      refine eE (dW CI (eO NL rfl (oW (by simp) fun t1 cI k5 SH=>?_)))
      have Kh:=k5 _ _ NL rfl;have fin:∀(t2:Addr) (cC:AH),aD aJ cI cC→cC t2=some (.tup 1 (bL ds))→ds≠[]→ds.length≤2→dK cC .Add (.ref t1) (.ref t2) fun TC H=>cV ⟨S,m,none⟩ H (.builtin "list.append") ([.ref nd]++[TC]) (fun aaX H=>cV ⟨S,m,none⟩ H (.ref 2009) [bd,.ref tl,.ref nd] (fun TB H=>Q TB H) fun aaU H=>False) fun aaV H=>False:=fun t2 cC k6 N7 gz sz=>by
       have li:([Value.str nm 0]:aB).length+(bL ds).length≤1000000:=by unfold bL;simp;omega
       refine VG 1 (by decide) (k6 _ _ SH rfl) N7 (by simp) (by unfold bL;simpa using gz) li fun t3 SG=>?_
       have k7:aD aJ cC (upd cC t3 (.tup 1 ([.str nm 0]++bL ds))):=.new SG;have Bh:=k5.trans (k6.trans k7);have O3:=Bh _ _ CI rfl;refine ff O3 (by decide) lz ?_
       have k8:aD (aG [65]) _ (upd (upd cC t3 (.tup 1 ([.str nm 0]++bL ds))) nd (.list 65 (aQ++[.ref t3]))):=.set O3 rfl;have Sq:=(Bh.of0 (M:=aG [65])).trans k8;have Bk:=ki.trans Sq;have n8:cX (upd (upd cC t3 (.tup 1 ([.str nm 0]++bL ds))) nd (.list 65 (aQ++[.ref t3]))) (aQ++[.ref t3]) ((ns++zi)++[lJ nm ds]):=(KH.keep Sq).snoc (.inr ⟨t3,_,.str nm::ds.map .int,rfl,k8 _ _ aA rfl,by rw[List.singleton_append,jX,tL];rfl,rfl⟩)
       refine cF rfl (Ki.1 (show fP f'+3≤m by omega) (cn.keep Bk) (PF.keep Sq.tk f' (PF.keep k4.tk f' Ta)) (Bk _ _ ht rfl) (by omega) aA n8 (by simp;omega) fun b2 GD eI Z8 UU O0 k9=>?_)
       refine q b2 GD eI (by rw[hT];exact Z8) UU ?_ (Bk.trans k9)
       rw[hT];dsimp only;rw[gC,gC] at O0;exact O0
      refine Rx (fun v cC=>∃t2,v=.ref t2∧aD aJ cI cC∧cC t2=some (.tup 1 (bL ds))∧ds≠[]∧ds.length≤2) (fun v cC ⟨t2,e,k6,h6,gz,sz⟩=>by subst e;exact fin t2 cC k6 h6 gz sz) fun K hK=>?_
      rcases RP with ⟨d0,rfl,rfl⟩|⟨tt,d1,d2,rfl,rfl,Jj⟩
      .refine eO Kh rfl (cU rfl rfl (eX (cP (eO Kh rfl (oW (by simp) fun t2 cC k6 N7=>hK _ _ ⟨t2,rfl,k6,N7,by simp,by simp⟩)))))
      .refine eO Kh rfl (cU rfl (XD (k5 _ _ Jj rfl)) (eX (eE (eO Kh rfl (hK _ _ ⟨tt,rfl,.refl,k5 _ _ Jj rfl,by simp,by simp⟩)))))
   .rintro aO u1 u2 u3 u4 u5 ⟨r,hu,hr,mx,il,hT,k3,Cp,Kf,Ki,hc,hh⟩
    cases hu;refine⟨iU.clean,?_⟩;cases r with
    |cons cs f r=>
     unfold kP at hr;obtain⟨w',tc,ra,s,bd,e,_⟩:=hr;rw[nk] at e;cases e
    |nil=>
     simp only[gB] at hT;exact q b aQ aO (by rw[hT];exact⟨x,Cp,Kf⟩) mx (by rw[hT];exact il) k3
mutual
theorem lB:∀(f:Fm),Tl S nd f
 | .note k=>Hp
 | .sig c k=>Li
 | .fS t k=>Lh
 | .fN fs=>EW (zT fs)
 | .eR t f=>EX (lB f)
 | .unwind f g=>BD (lB f) (lB g)
 | .iV k f=>Lj (lB f)
 | .case f rs=>Hq (lB f) (zU rs)
theorem zT:∀(fs:gU),R5 S nd fs
 | .nil=>trivial
 | .cons f r=>⟨lB f,zT r⟩
theorem zU:∀(rs:gm),R6 S nd rs
 | .nil=>trivial
 | .cons _ f r=>⟨lB f,zU r⟩
end
structure Dt(g:G)(H:AH)(nl:bW):Prop where
 fix:ko g H
 names:fk g H nl
 pre:cK.take 37 <+:nl
 cn:CN H
def Js(nl:bW)(ie:Int):Prop:=∀k:Nat,nl[k]?=some ("e":Str)→(k:Int)=ie
def jA(g:G)(H H':AH):Prop:=∀nm v,qM g H nm v→qM g H' nm v
theorem Fz{k:Nat}{nm:Str}(h:(cK.take 37)[k]?=some nm):nm∈cK:=tw (hZ h)
theorem It{c:Nat}:eW c∈cK:=by
 have:=dC.mp jL.1 (eW c) pK
 simp only[dJ,fM] at this;exact this.1
variable{gJ:AH}{us:aB}{g:G}{nl lX:bW}
theorem jA.refl:jA g H H:=fun _ _ h=>h
theorem jA.trans(h:jA g H H')(h':jA g H' gJ):jA g H gJ:=fun a b c=>h' a b (h a b c)
theorem jA.of(k:aD aJ H H'):jA g H H':=fun _ _ ⟨es,a,b⟩=>⟨es,k _ _ a rfl,b⟩
theorem Dt.keep(h:Dt g H nl)(k:aD aJ H H'):Dt g H' nl:=⟨h.fix.keep k,h.names.keep k,h.pre,h.cn.keep k⟩
theorem Js.mono{ie:Int}(h:Js lX ie)(l:nl <+:lX):Js nl ie:=fun k hk=>h k (lI l hk)
theorem Dl(hn:5≤n)(D:Dt g H nl)(hm:nm∈cK)(q:∀v (k:Nat) lX H',Dt g H' lX→nl <+:lX→lX[k]?=some nm→Sym H' v k nm→jA g H H'→aD (aG [6,7]) H H'→Q v H'):Sat S n none (.ref 1946) [.ref g.bH,.str nm 0] H Q E:=
 lP hn D.fix D.names hm fun v k H' N hk s k1 _ j1=>q v k _ H' ⟨D.fix.keep k1,N,jM D.pre,D.cn.keep k1⟩ (jM (uo _)) hk s j1 k1
theorem jE{k:Nat}(hn:5≤n)(D:Dt g H nl)(hk:(cK.take 37)[k]?=some nm)(q:∀v lX H',Dt g H' lX→nl <+:lX→Sym H' v k nm→handedIn v=true→jA g H H'→aD (aG [6,7]) H H'→Q v H'):Sat S n none (.ref 1946) [.ref g.bH,.str nm 0] H Q E:=
 Dl hn D (Fz hk) fun v j lX H' D' l hj s im k1=>by
  have e:j=k:=(jW (cQ.mp hj).1 D'.names.nodup).mp (hj.trans (lI D'.pre hk).symm);subst e;exact q v lX H' D' l s (by obtain⟨a,t,rfl,_⟩:=s;rfl) im k1
theorem W5(hn:5≤n)(D:Dt g H nl)(q:∀v lX H',Dt g H' lX→nl <+:lX→(∀ie,Js lX ie→Sym H' v ie "e")→handedIn v=true→jA g H H'→aD (aG [6,7]) H H'→Q v H'):Sat S n none (.ref 1946) [.ref g.bH,.str "e" 0] H Q E:=
 Dl hn D Cz.2 fun v j lX H' D' l hj s im k1=>q v lX H' D' l (fun ie h=>by rw[←h j hj];exact s) (by obtain⟨a,t,rfl,_⟩:=s;rfl) im k1
theorem Kz:(cK.take 37)[0]?=some ("nil":Str)∧(cK.take 37)[1]?=some ("t":Str)∧(mX.all fun x=>x != "nil"&&x != "t")=true:=by
 refine⟨?_,?_,?_⟩<;>decide+kernel
theorem JS{c:Nat}(hn:5≤n)(D:Dt g H nl)(q:∀v lX H',Dt g H' lX→nl <+:lX→(∃i:Int,2≤i∧Sym H' v i (eW c))→handedIn v=true→jA g H H'→aD (aG [6,7]) H H'→Q v H'):Sat S n none (.ref 1946) [.ref g.bH,.str (eW c) 0] H Q E:=
 Dl hn D It fun v j lX H' D' l hj s im k1=>q v lX H' D' l ⟨j,by
  have:=dC.mp Kz.2.2 (eW c) pK
  simp only[dJ,nq] at this;have h0:j≠0:=fun e=>by subst e;rw[lI D'.pre Kz.1] at hj;exact this.1 (gZ hj).symm
  have h1:j≠1:=fun e=>by subst e;rw[lI D'.pre Kz.2.1] at hj;exact this.2 (gZ hj).symm
  omega,s⟩ (by obtain⟨a,t,rfl,_⟩:=s;rfl) im k1
theorem oz(hn:3≤p.n)(hd:p.hd=none)(hu:∀x∈us,handedIn x=true)(hl:us.length≤100)(h:H a=some (.list t us))(ht:t≠0)(q:∀w H',RL H' w us→handedIn w=true→aD aJ H H'→Q w H'):cV p H (.ref 230) [.ref a] Q E:=by
 obtain⟨S,n,gH⟩:=p;dsimp only at hn hd;subst hd;exact cF rfl (tO hn h ht (by omega) hu iU fun w aH r k2=>q w aH r r.handed k2)
theorem gN(hn:3≤p.n)(hd:p.hd=none)(hu:∀x∈us,handedIn x=true)(hl:us.length≤100)(q:∀w H',RL H' w us→handedIn w=true→aD aJ H H'→Q w H'):bJ H us fun l H=>cV p H (.ref 230) [l] Q E:=
 zj (by omega) fun l aE k1 _ h1=>oz hn hd hu hl h1 (by decide) fun w aH r h k2=>q w aH r h (k1.trans k2)
theorem h2{x y:aC}(hx:handedIn x=true)(hy:handedIn y=true):∀z∈[x,y],handedIn z=true:=fun z hz=>by
 rcases bS.mp hz with rfl|hz
 .exact hx
 .rw[dQ.mp hz];exact hy
theorem h3{x y u:aC}(hx:handedIn x=true)(hy:handedIn y=true)(hu:handedIn u=true):∀z∈[x,y,u],handedIn z=true:=fun z hz=>by
 rcases bS.mp hz with rfl|hz
 .exact hx
 .exact h2 hy hu z hz
theorem h1{x:aC}(hx:handedIn x=true):∀z∈[x],handedIn z=true:=fun z hz=>by rw[dQ.mp hz];exact hx
def Dat(S:aN)(g:G)(f:Fm):Prop:=∀{n:Nat} {H:AH} {v:aC} {nl:bW} {Q:KQ} {E:EPost},fP f+9≤n→Dt g H nl→PF H f v→
 (∀w lX H',(∀ie,Js lX ie→RF H' ie f w)→handedIn w=true→Dt g H' lX→nl <+:lX→jA g H H'→aD (aG [6,7]) H H'→Q w H')→Sat S n none (.ref 1997) [.ref g.bH,v] H Q E
def Hm(S:aN)(g:G):gU→Prop
 | .nil=>True
 | .cons f r=>Dat S g f∧Hm S g r
def Hn(S:aN)(g:G):gm→Prop
 | .nil=>True
 | .cons _ f r=>Dat S g f∧Hn S g r
theorem Fo{k:Int}:Dat S g (.note k):=by
 intro n H v nl Q E hn D hp q;obtain⟨m,rfl,hm⟩:=dN (show 1≤n by omega)
 refine lD ?_;unfold iw;unfold PF at hp;obtain⟨a,rfl,ha⟩:=hp;refine eO ha rfl (cG (eE (gM D.fix.bH rfl (cF rfl (jE (k:=30) (show 5≤m by omega) D (by decide+kernel) fun s lX aE D1 l1 s1 Ck i1 k1=>eO (k1 _ _ ha rfl) rfl (gN (show 3≤m by omega) rfl (h2 Ck rfl) (by simp) fun w aH r hw k2=>?_))))))
 exact q w lX aH (fun ie _=>by unfold RF;exact⟨s,s1.keep k2,r⟩) hw (D1.keep k2) l1 (i1.trans (.of k2)) (k1.trans k2.of0)
theorem Ip{t k:Int}:Dat S g (.fS t k):=by
 intro n H v nl Q E hn D hp q;obtain⟨m,rfl,hm⟩:=dN (show 1≤n by omega)
 refine lD ?_;unfold iw;unfold PF at hp;obtain⟨a,rfl,ha⟩:=hp;refine eO ha rfl (cG (cP (cG (cP (cG (cP (cG (cP (cG (cP (cG (eE (gM D.fix.bH rfl (cF rfl (jE (k:=24) (show 5≤m by omega) D (by decide+kernel) fun s lX aE D1 l1 s1 Ck i1 k1=>eO (k1 _ _ ha rfl) rfl (eO (k1 _ _ ha rfl) rfl (gN (show 3≤m by omega) rfl (h3 Ck rfl rfl) (by simp) fun w aH r hw k2=>?_)))))))))))))))))
 exact q w lX aH (fun ie _=>by unfold RF;exact⟨s,s1.keep k2,r⟩) hw (D1.keep k2) l1 (i1.trans (.of k2)) (k1.trans k2.of0)
theorem BU{t:Int}{f:Fm}(hf:Dat S g f):Dat S g (.eR t f):=by
 intro n H v nl Q E hn D hp q;obtain⟨m,rfl,hm⟩:=dN (show 1≤n by omega)
 refine lD ?_;unfold iw;unfold PF at hp;unfold fP at hn;obtain⟨a,w,rfl,ha,hw,t0,t3⟩:=hp;refine eO ha rfl (cG (cP (cG (cP (cG (cP (cG (eE (gM D.fix.bH rfl (cF rfl (jE (k:=17) (show 5≤m by omega) D (by decide+kernel) fun s NX aE D1 l1 s1 Ck i1 k1=>eO (k1 _ _ ha rfl) rfl (eO (k1 _ _ ha rfl) rfl (cF rfl (hf (show fP f+9≤m by omega) D1 (PF.keep k1.tk f hw) fun w2 Sj aH r2 NB D2 l2 i2 k2=>gN (show 3≤m by omega) rfl (h3 Ck rfl NB) (by simp) fun w aO r hw k3=>?_))))))))))))))
 have SI:smallInt t=true:=by
  unfold smallInt
  simp
  omega
 exact q w Sj aO (fun ie e=>by unfold RF;exact⟨s,w2,(s1.keep k2).keep k3,r,RF.keep k3 rfl rfl f (r2 ie e),SI⟩) hw (D2.keep k3) (l1.trans l2) (i1.trans (i2.trans (.of k3))) (k1.trans (k2.trans k3.of0))
theorem y0{f f2:Fm}(hf:Dat S g f)(tY:Dat S g f2):Dat S g (.unwind f f2):=by
 intro n H v nl Q E hn D hp q;obtain⟨m,rfl,hm⟩:=dN (show 1≤n by omega)
 refine lD ?_;unfold iw;unfold PF at hp;unfold fP at hn;obtain⟨a,w,w',rfl,ha,hw,N5⟩:=hp;refine eO ha rfl (cG (cP (cG (cP (cG (cP (cG (cP (cG (eE (gM D.fix.bH rfl (cF rfl (jE (k:=18) (show 5≤m by omega) D (by decide+kernel) fun s NX aE D1 l1 s1 Ck i1 k1=>eO (k1 _ _ ha rfl) rfl (cF rfl (hf (show fP f+9≤m by omega) D1 (PF.keep k1.tk f hw) fun w2 Sj aH r2 NB D2 l2 i2 k2=>eO (k2 _ _ (k1 _ _ ha rfl) rfl) rfl (cF rfl (tY (show fP f2+9≤m by omega) D2 (PF.keep k2.tk f2 (PF.keep k1.tk f2 N5)) fun w3 vF aO r3 Sy D3 l3 i3 k3=>gN (show 3≤m by omega) rfl (h3 Ck NB Sy) (by simp) fun w bI r hw k4=>?_)))))))))))))))))
 have GI:=k3.trans (k4.of0 (M:=aG [6,7]));exact q w vF bI (fun ie e=>by unfold RF;exact⟨s,w2,w3,(s1.keep k2).keep GI,r,RF.keep GI rfl rfl f (r2 ie (e.mono l3)),RF.keep k4 rfl rfl f2 (r3 ie e)⟩) hw (D3.keep k4) (l1.trans (l2.trans l3)) (i1.trans (i2.trans (i3.trans (.of k4)))) (k1.trans (k2.trans GI))
theorem Ir{k:Int}{f:Fm}(hf:Dat S g f):Dat S g (.iV k f):=by
 intro n H v nl Q E hn D hp q;obtain⟨m,rfl,hm⟩:=dN (show 1≤n by omega)
 refine lD ?_;unfold iw;unfold PF at hp;unfold fP at hn;obtain⟨a,w,rfl,ha,hw⟩:=hp;refine eO ha rfl (cG (cP (cG (cP (cG (eE (gM D.fix.bH rfl (cF rfl (jE (k:=36) (show 5≤m by omega) D (by decide+kernel) fun s1 NX aE D1 l1 y1 z1 i1 k1=>eO (k1 _ _ ha rfl) rfl (gN (show 3≤m by omega) rfl (h2 z1 rfl) (by simp) fun p aH rp Zs k2=>?_))))))))))
 have D2:=D1.keep k2;refine gM D2.fix.bH rfl (cF rfl (jE (k:=15) (show 5≤m by omega) D2 (by decide+kernel) fun s3 vF aO D3 l3 y3 z3 i3 k3=>gN (show 3≤m by omega) rfl (h1 Zs) (by simp) fun pp bI XX Zo k4=>?_))
 have D4:=D3.keep k4;have xu:aD (aG [6,7]) H bI:=k1.trans (k2.of0.trans (k3.trans k4.of0));refine eO (xu _ _ ha rfl) rfl (cF rfl (hf (show fP f+9≤m by omega) D4 (PF.keep xu.tk f hw) fun w5 NW cI r5 Y7 D5 l5 i5 k5=>?_))
 refine gM D5.fix.bH rfl (cF rfl (jE (k:=36) (show 5≤m by omega) D5 (by decide+kernel) fun s6 Si cC D6 l6 y6 z6 i6 k6=>gN (show 3≤m by omega) rfl (fun x hx=>?_) (by simp) fun w cZ r hw k7=>?_))
 .rcases bS.mp hx with rfl|hx
  .exact z3
  .exact h3 Zo Y7 z6 x hx
 have tV:aD (aG [6,7]) cI cZ:=k6.trans k7.of0;have Bh:aD (aG [6,7]) bI cZ:=k5.trans tV;have Wj:aD (aG [6,7]) aH cZ:=k3.trans (k4.of0.trans Bh);refine q w Si cZ (fun ie e=>?_) hw (D6.keep k7) (l1.trans (l3.trans (l5.trans l6))) (i1.trans ((jA.of k2).trans (i3.trans ((jA.of k4).trans (i5.trans (i6.trans (.of k7))))))) (xu.trans Bh)
 unfold RF;exact⟨s3,pp,p,w5,s6,s1,(y3.keep k4).keep Bh,r,XX.keep Bh,rp.keep Wj,y6.keep k7,(y1.keep k2).keep Wj,RF.keep tV rfl rfl f (r5 ie (e.mono l6))⟩
theorem Iq{c:Nat}{k:Int}:Dat S g (.sig c k):=by
 intro n H v nl Q E hn D hp q;obtain⟨m,rfl,hm⟩:=dN (show 1≤n by omega)
 refine lD ?_;unfold iw;unfold PF at hp;obtain⟨a,rfl,ha,hc⟩:=hp;refine eO ha rfl (cG (cP (cG (cP (cG (cP (cG (cP (cG (cP (cG (cP (cG (eE (gM D.fix.bH rfl (cF rfl (jE (k:=2) (show 5≤m by omega) D (by decide+kernel) fun s1 NX aE D1 l1 y1 z1 i1 k1=>gM D1.fix.bH rfl (eO (k1 _ _ ha rfl) rfl (eO D1.cn (zL hc) (cF rfl (JS (show 5≤m by omega) D1 fun s2 Sj aH D2 l2 y2 z2 i2 k2=>gN (show 3≤m by omega) rfl (h2 z1 z2) (by simp) fun q1 aO r3 Zn k3=>?_)))))))))))))))))))))
 have D3:=D2.keep k3;refine gM D3.fix.bH rfl (cF rfl (jE (k:=25) (show 5≤m by omega) D3 (by decide+kernel) fun s4 Jf bI D4 l4 y4 z4 i4 k4=>gM D4.fix.bH rfl (cF rfl (jE (k:=2) (show 5≤m by omega) D4 (by decide+kernel) fun s5 NW cI D5 l5 y5 z5 i5 k5=>?_))))
 have Bi:=k4.trans k5;have nW:aD (aG [6,7]) H cI:=k1.trans (k2.trans (k3.of0.trans Bi));refine eO (nW _ _ ha rfl) rfl (gN (show 3≤m by omega) rfl (h1 rfl) (by simp) fun dv cC r6 Cn k6=>gN (show 3≤m by omega) rfl (h2 z5 Cn) (by simp) fun q2 cZ r7 Zm k7=>gN (show 3≤m by omega) rfl (h3 z4 Zn Zm) (by simp) fun w gI r hw k8=>?_)
 have Wh:=k7.trans k8;have Cg:=k6.trans Wh;have Sr:aD (aG [6,7]) aO gI:=Bi.trans Cg.of0;refine q w NW gI (fun ie e=>?_) hw (D5.keep Cg) (l1.trans (l2.trans (l4.trans l5))) (i1.trans (i2.trans ((jA.of k3).trans (i4.trans (i5.trans (.of Cg)))))) (nW.trans Cg.of0)
 unfold RF;obtain⟨i,hi,y2⟩:=y2;exact⟨s4,q1,q2,s2,dv,(y4.keep k5).keep Cg,r,⟨s1,((y1.keep k2).keep k3).keep Sr,r3.keep Sr⟩,⟨i,hi,(y2.keep k3).keep Sr⟩,⟨s5,y5.keep Cg,r7.keep k8⟩,r6.keep Wh⟩
def gU.app:gU→gU→gU
 | .nil,b=>b
 | .cons f r,b=>.cons f (r.app b)
def gm.app:gm→gm→gm
 | .nil,b=>b
 | .cons cs f r,b=>.cons cs f (r.app b)
theorem gU.lN{f:Fm}{r:gU}:∀{d:gU},(d.snoc f).app r=d.app (.cons f r)
 | .nil=>rfl
 | .cons g d=>by unfold gU.snoc gU.app;rw[gU.lN]
theorem gm.lN{cs:fu}{f:Fm}{r:gm}:∀{d:gm},(d.snoc cs f).app r=d.app (.cons cs f r)
 | .nil=>rfl
 | .cons zq g d=>by unfold gm.snoc gm.app;rw[gm.lN]
theorem gU.oA:∀{d:gU},d.app .nil=d
 | .nil=>rfl
 | .cons g d=>by unfold gU.app;rw[gU.oA]
theorem gm.oA:∀{d:gm},d.app .nil=d
 | .nil=>rfl
 | .cons cs g d=>by unfold gm.app;rw[gm.oA]
variable{ie:Int}
theorem nS.snoc{f:Fm}(hf:RF H ie f w):∀{fs:gU} {vs:aB},nS H ie fs vs→nS H ie (fs.snoc f) (vs++[w])
 | .nil,vs,h=>by unfold nS at h;subst h;unfold gU.snoc nS nS;exact⟨w,[],rfl,hf,rfl⟩
 | .cons g r,vs,h=>by
  unfold nS at h;obtain⟨w',ws,rfl,h1,h2⟩:=h;unfold gU.snoc nS;exact⟨w',ws++[w],rfl,h1,h2.snoc hf⟩
theorem pQ.snoc{cs:fu}{f:Fm}(hf:CK H ie cs f w):∀{rs:gm} {vs:aB},pQ H ie rs vs→pQ H ie (rs.snoc cs f) (vs++[w])
 | .nil,vs,h=>by
  obtain⟨wt,nt,b,h',e,x2,x3,x4,x5,x6,x7⟩:=hf;unfold pQ at h;subst h;unfold gm.snoc pQ pQ;exact⟨w,[],wt,nt,b,h',e,rfl,x2,x3,x4,x5,x6,x7,rfl⟩
 | .cons zq g r,vs,h=>by
  unfold pQ at h;obtain⟨w',ws,wt,nt,b,h',e,rfl,x2,x3,x4,x5,x6,x7,x8⟩:=h;unfold gm.snoc pQ;exact⟨w',ws++[w],wt,nt,b,h',e,rfl,x2,x3,x4,x5,x6,x7,x8.snoc hf⟩
theorem sD.snoc(h0:∃i:Int,2≤i∧Sym H v i nm):∀{vs:aB} {ns:bW},sD H vs ns→sD H (vs++[v]) (ns++[nm])
 |[],[],_=>⟨h0,trivial⟩
 |_::_,_::_,⟨a,c⟩=>⟨a,sD.snoc h0 c⟩
 |[],_::_,h=>h.elim
 |_::_,[],h=>h.elim
theorem Dt.QO(h:Dt g H nl)(k:aD M H H')(m0:M 0=false)(m1:M 1=false)(m6:M 6=false)(m7:M 7=false)(Sk:M 60=false):Dt g H' nl:=⟨h.fix.keep k m0 m1 Sk,h.names.keep k m0 m1 m6 m7,h.pre,h.cn.keep k m0⟩
theorem jA.ofM(k:aD M H H')(m:M 6=false):jA g H H':=fun _ _ ⟨es,a,b⟩=>⟨es,k _ _ a m,b⟩
theorem BS{fs:gU}(hf:Hm S g fs):Dat S g (.fN fs):=by
 intro n H v nl Q E hn D hp q;obtain⟨m,rfl,hm⟩:=dN (show 1≤n by omega)
 refine lD ?_;unfold iw;unfold PF at hp;unfold fP at hn;obtain⟨a,l,ws,rfl,ha,hl,SW,w2,w3⟩:=hp;refine eO ha rfl (cG (cP (cG (eE (gM D.fix.bH rfl (cF rfl (jE (k:=4) (show 5≤m by omega) D (by decide+kernel) fun s NX aE D1 l1 y1 z1 i1 k1=>zj (by simp) fun sl aH k2 _ N8=>eO (k2 _ _ (k1 _ _ ha rfl) rfl) rfl ?_)))))))
 have kj:aD (aG [6,7]) H aH:=k1.trans k2.of0;refine⟨.tup l,ws,fun i bN aO=>∃vF r done,Dt g aO vF∧nl <+:vF∧fs=done.app r∧mq aO r (ws.drop i)∧Hm S g r∧(∀ie,Js vF ie→nS aO ie done bN)∧(∀x∈bN,handedIn x=true)∧bN.length=i∧jA g aH aO∧aD (aG [6,7]) aH aO∧kS r≤kS fs,⟨rfl,1,kj _ _ hl rfl⟩,by omega,⟨NX,fs,.nil,D1.keep k2,l1,rfl,mq.keep kj.tk _ SW,hf,fun ie _=>by unfold nS;rfl,fun x hx=>(by cases hx),rfl,.refl,.refl,aF⟩,fun i bN aO ⟨_,_,_,_,_,_,_,_,_,_,_,_,k,_⟩=>⟨1,k _ _ (kj _ _ hl rfl) rfl⟩,?_,?_⟩
 .rintro i bN aO x ⟨vF,r,done,D3,l3,e3,hr,Kd,vN,hh,hlen,i3,k3,hg⟩ hx
  cases r with
  |nil=>
   unfold mq at hr
   have:=(cQ.mp hx).1
   have e:=iE List.length hr;rw[jq] at e;simp at e;omega
  |cons f r=>
   unfold mq at hr;obtain⟨w',tc,e,N5,Cu⟩:=hr;obtain⟨fT,hx⟩:=cQ.mp hx;rw[jo fT,hx] at e;obtain⟨rfl,rfl⟩:=qW e;simp only[kS] at hg;refine⟨rfl,eE (cF rfl (Kd.1 (show fP f+9≤m by omega) D3 N5 fun w Jf bI r4 Y8 D4 l4 i4 k4=>⟨Jf,r,done.snoc f,D4,l3.trans l4,by rw[e3,gU.lN],mq.keep k4.tk _ Cu,Kd.2,fun ie he=>(nS.keep k4 rfl rfl _ (vN ie (he.mono l4))).snoc (r4 ie he),fun x hx=>?_,by simp[hlen],i3.trans i4,k3.trans k4,by omega⟩))⟩
   rcases dR.mp hx with hx|hx
   .exact hh x hx
   .rw[dQ.mp hx];exact Y8
 .rintro bN aO ⟨vF,r,done,D3,l3,e3,hr,Kd,vN,hh,hlen,i3,k3,hg⟩
  refine⟨iU.clean,1,by decide,fun L hL=>?_⟩
  have k4:aD aJ aO (upd aO L (.list 1 bN)):=.new hL;have la:([s]:aB).length+bN.length≤1000000:=by simp;omega
  refine Bz 1 (by decide) (k4 _ _ (k3 _ _ N8 rfl) rfl) aA la fun L2 kO=>?_
  have k5:aD aJ (upd aO L (.list 1 bN)) (upd (upd aO L (.list 1 bN)) L2 (.list 1 ([s]++bN))):=.new kO;have n7:∀x∈[s]++bN,handedIn x=true:=fun x hx=>by
   rcases dR.mp hx with hx|hx
   .rw[dQ.mp hx];exact z1
   .exact hh x hx
  refine oz (t:=1) (show 3≤m by omega) rfl n7 (by simp;omega) aA (by decide) fun w cC r6 N4 k6=>?_
  have N0:=k4.trans (k5.trans k6);cases r with
  |cons f r=>
   unfold mq at hr;obtain⟨w',tc,e,_⟩:=hr;rw[nk] at e;cases e
  |nil=>
   rw[gU.oA] at e3;subst e3;refine q w vF cC (fun ie he=>?_) N4 (D3.keep N0) l3 (i1.trans ((jA.of k2).trans (i3.trans (.of N0)))) (kj.trans (k3.trans N0.of0))
   unfold RF;exact⟨s,bN,((y1.keep k2).keep k3).keep N0,r6,nS.keep N0 rfl rfl _ (vN ie he),by omega,by omega⟩
theorem Fp{f:Fm}{rws:gm}(hf:Dat S g f)(hR:Hn S g rws):Dat S g (.case f rws):=by
 intro n H v nl Q E hn D hp q;obtain⟨m,rfl,hm⟩:=dN (show 1≤n by omega)
 refine lD ?_;unfold iw;unfold PF at hp;unfold fP at hn;obtain⟨a,w,l,ws,rfl,ha,hw,hl,Oa,NB⟩:=hp;have f0:aG [9] 0=false:=rfl;refine eO ha rfl (cG (cP (cG (cP (cG (cP (cG (cP (cG (cP (cG (cP (cG (cP (nL 9 (by decide) (by simp) fun rl J7=>?_)))))))))))))))
 have k1:aD aJ H (upd H rl (.list 9 [])):=.new J7;refine eO (k1 _ _ ha rfl) rfl ?_;refine⟨.tup l,ws,fun i us aO=>∃vF r done tc,us=[.ref g.bH,.ref a,.str "case" 0,.ref rl]∧Dt g aO vF∧nl <+:vF∧rws=done.app r∧kP aO r (ws.drop i)∧Hn S g r∧(∀ie,Js vF ie→pQ aO ie done tc)∧aO rl=some (.list 9 tc)∧(∀x∈tc,handedIn x=true)∧tc.length=i∧jA g H aO∧aD (aG [6,7]) H aO∧kU r≤kU rws,⟨rfl,1,k1 _ _ hl rfl⟩,⟨nl,rws,.nil,[],rfl,D.keep k1,uo _,rfl,kP.keep k1.tk _ Oa,hR,fun ie _=>by unfold pQ;rfl,aA,fun x hx=>(by cases hx),rfl,.of k1,k1.of0,aF⟩,fun i us aO ⟨_,_,_,_,_,_,_,_,_,_,_,_,_,_,_,k,_⟩=>⟨1,k _ _ hl rfl⟩,?_,?_⟩
 .rintro i aO y hy u1 u2 u3 u4 ⟨vF,r,done,tc,hu,D3,l3,e3,hr,Kd,vN,He,hh,hlen,i3,k3,hg⟩
  cases hu;cases r with
  |nil=>
   unfold kP at hr
   have:=(cQ.mp hy).1
   have e:=iE List.length hr;rw[jq] at e;simp at e;omega
  |cons cs f' r=>
   unfold kP at hr;obtain⟨w',Xm,ra,s,bd,e,rfl,SJ,hs,⟨c1,c2,c3⟩,Ta,Cu⟩:=hr;obtain⟨fT,hy⟩:=cQ.mp hy;rw[jo fT,hy] at e;obtain⟨rfl,rfl⟩:=qW e;simp only[kU] at hg;refine GF SJ rfl iU.clean ⟨rfl,rfl,nC ?_⟩;refine⟨.tup s,nats cs,fun i bN bI=>∃Jf,Dt g bI Jf∧vF <+:Jf∧sD bI bN ((cs.take i).map eW)∧(∀x∈bN,handedIn x=true)∧jA g aO bI∧aD (aG [6,7]) aO bI,⟨rfl,1,hs⟩,by unfold nats;simp;omega,⟨vF,D3,uo _,trivial,fun x hx=>(by cases hx),.refl,.refl⟩,fun i bN bI ⟨_,_,_,_,_,_,k⟩=>⟨1,k _ _ hs rfl⟩,?_,?_⟩
   .rintro j bN bI x ⟨Jf,D4,l4,sy,Jo,i4,k4⟩ hx
    unfold nats at hx;rw[fL] at hx;obtain⟨c,GV,rfl⟩:=ey.mp hx;obtain⟨O6,GV⟩:=cQ.mp GV;have S6:=c3 c (by rw[←GV];exact rz O6)
    refine⟨rfl,eE (gM D4.fix.bH rfl (eO D4.cn (zL S6) (cF rfl (JS (show 5≤m by omega) D4 fun v NW cI D5 l5 y5 z5 i5 k5=>⟨NW,D5,l4.trans l5,?_,fun x hx=>?_,i4.trans i5,k4.trans k5⟩))))⟩
    .rw[jm O6,GV,gW]
     exact(sy.keep k5 rfl rfl).snoc y5
    .rcases dR.mp hx with hx|hx
     .exact Jo x hx
     .rw[dQ.mp hx];exact z5
   .rintro bN bI ⟨Jf,D4,l4,sy,Jo,i4,k4⟩
    rw[iL (by unfold nats;rw[dO];exact aF)] at sy
    have GW:=sy.len;rw[dO] at GW;refine⟨iU.clean,1,by decide,fun L hL=>?_⟩
    have k5:aD aJ bI (upd bI L (.list 1 bN)):=.new hL;refine Rx (fun v cC=>Wt cC cs v∧handedIn v=true∧aD aJ (upd bI L (.list 1 bN)) cC) ?_ fun K hK=>?_
    .rintro wv cC ⟨NA,Y5,k6⟩
     have Ji:=k5.trans k6;have D6:=D4.keep Ji;refine gM D6.fix.bH rfl (cF rfl (jE (k:=30) (show 5≤m by omega) D6 (by decide+kernel) fun s7 nl7 cZ D7 l7 y7 z7 i7 k7=>gM D7.fix.bH rfl (cF rfl (W5 (show 5≤m by omega) D7 fun s8 nl8 gI D8 l8 y8 z8 i8 k8=>gN (show 3≤m by omega) rfl (h2 z7 z8) (by simp) fun nt eI r9 NC k9=>?_))))
     have D9:=D8.keep k9;have Rv:aD (aG [6,7]) cC eI:=k7.trans (k8.trans k9.of0);have Ny:aD (aG [6,7]) aO eI:=k4.trans (Ji.of0.trans Rv);have YX:jA g aO eI:=i4.trans ((jA.of Ji).trans (i7.trans (i8.trans (.of k9))));have UH:=Ny _ _ He rfl;refine dW UH (cF rfl (Kd.1 (show fP f'+9≤m by omega) D9 (PF.keep Ny.tk f' Ta) fun bv Yn HA rA S8 DA lA iA kA=>gN (show 3≤m by omega) rfl (h3 Y5 NC S8) (by simp) fun Nr HB rB J6 kB=>?_))
     have Gr:aD (aG [6,7]) eI HB:=kA.trans kB.of0;have Rw:=Ny.trans Gr;have OU:=Rw _ _ He rfl;have lv:tc.length < 1000000:=by omega
     refine ff OU (by decide) lv ?_
     have kC:aD (aG [9]) HB (upd HB rl (.list 9 (tc++[Nr]))):=.set OU rfl;refine⟨Yn,r,done.snoc cs f',tc++[Nr],rfl,(DA.keep kB).QO kC rfl rfl rfl rfl rfl,l3.trans (l4.trans (l7.trans (l8.trans lA))),by rw[e3,gm.lN],kP.keep kC.tk _ (kP.keep Rw.tk _ Cu),Kd.2,fun ie he=>(pQ.keep kC rfl rfl _ (pQ.keep Rw rfl rfl _ (vN ie (he.mono (l4.trans (l7.trans (l8.trans lA))))))).snoc ?_,aA,fun x hx=>?_,by simp[hlen],i3.trans (YX.trans (iA.trans ((jA.of kB).trans (.ofM kC rfl)))),(k3.trans Rw).fresh J7,by omega⟩
     .exact⟨wv,nt,bv,s7,s8,rB.keep kC,⟨(NA.keep (Rv.trans Gr) rfl rfl).keep kC rfl rfl,by omega⟩,(r9.keep Gr).keep kC,(((y7.keep k8).keep k9).keep Gr).keep kC,(((y8 ie (he.mono lA)).keep k9).keep Gr).keep kC,RF.keep kC rfl rfl f' (RF.keep kB rfl rfl f' (rA ie he))⟩
     .rcases dR.mp hx with hx|hx
      .exact hh x hx
      .rw[dQ.mp hx];exact J6
    .refine fB aA (kW ?_)
     match cs,c1,c2,sy,GW,hK with
     |[c],_,_,sy,GW,hK=>
      match bN,GW,sy,Jo,hK with
      |[x],_,sy,Jo,hK=>exact eE (ji aA rfl (hK _ _ ⟨sy.1.imp fun i h=>⟨h.1,h.2.keep k5⟩,Jo x (.head _),.refl⟩))
     |[c,c'],_,_,sy,GW,hK=>
      match bN,GW,sy,Jo,hK with
      |[x,x'],_,sy,Jo,hK=>exact cP (oz (t:=1) (show 3≤m by omega) rfl Jo (by simp) aA (by decide) fun w cC r6 N4 k6=>hK _ _ ⟨⟨[x,x'],r6,(sy.keep k5 rfl rfl).keep k6 rfl rfl⟩,N4,k6⟩)
 .rintro aO u1 u2 u3 u4 ⟨vF,r,done,tc,hu,D3,l3,e3,hr,Kd,vN,He,hh,hlen,i3,k3,hg⟩
  cases hu;cases r with
  |cons cs f r=>
   unfold kP at hr;obtain⟨w',tc,ra,s,bd,e,_⟩:=hr;rw[nk] at e;cases e
  |nil=>
  rw[gm.oA] at e3;subst e3;refine⟨iU.clean,gM D3.fix.bH rfl (cF rfl (jE (k:=19) (show 5≤m by omega) D3 (by decide+kernel) fun s4 Jf bI D4 l4 y4 z4 i4 k4=>gM D4.fix.bH rfl (cF rfl (W5 (show 5≤m by omega) D4 fun s5 NW cI D5 l5 y5 z5 i5 k5=>?_))))⟩
  have Bi:=k4.trans k5;refine eO (Bi _ _ (k3 _ _ ha rfl) rfl) rfl (cF rfl (hf (show fP f+9≤m by omega) D5 (PF.keep Bi.tk f (PF.keep k3.tk f hw)) fun w6 Si cC r6 N4 D6 l6 i6 k6=>zj (by simp) fun L1 cZ k7 _ hL1=>?_))
  have J2:aD (aG [6,7]) cI cZ:=k6.trans k7.of0;have YN:=Bi.trans J2;have la:([s4,s5,w6]:aB).length+tc.length≤1000000:=by simp;omega
  refine Bz 1 (by decide) hL1 (YN _ _ He rfl) la fun L2 kO=>?_
  have k8:aD aJ cZ (upd cZ L2 (.list 1 ([s4,s5,w6]++tc))):=.new kO;have n7:∀x∈[s4,s5,w6]++tc,handedIn x=true:=fun x hx=>by
   rcases dR.mp hx with hx|hx
   .exact h3 z4 z5 N4 x hx
   .exact hh x hx
  refine oz (t:=1) (show 3≤m by omega) rfl n7 (by simp;omega) aA (by decide) fun wv eI r9 Y6 k9=>?_
  have Jh:=k8.trans k9;have Sp:=J2.trans (Jh.of0 (M:=aG [6,7]));have Ny:=Bi.trans Sp;refine q wv Si eI (fun ie he=>?_) Y6 (D6.keep (k7.trans Jh)) (l3.trans (l4.trans (l5.trans l6))) (i3.trans (i4.trans (i5.trans (i6.trans (.of (k7.trans Jh)))))) (k3.trans Ny)
  unfold RF;exact⟨s4,s5,w6,tc,(y4.keep k5).keep Sp,r9,(y5 ie (he.mono l6)).keep Sp,RF.keep (k7.trans Jh) rfl rfl f (r6 ie he),pQ.keep Ny rfl rfl _ (vN ie (he.mono (l4.trans (l5.trans l6)))),by omega⟩
mutual
theorem jc:∀(f:Fm),Dat S g f
 | .note k=>Fo
 | .sig c k=>Iq
 | .fS t k=>Ip
 | .fN fs=>BS (wZ fs)
 | .eR t f=>BU (jc f)
 | .unwind f g=>y0 (jc f) (jc g)
 | .iV k f=>Ir (jc f)
 | .case f rs=>Fp (jc f) (w4 rs)
theorem wZ:∀(fs:gU),Hm S g fs
 | .nil=>trivial
 | .cons f r=>⟨jc f,wZ r⟩
theorem w4:∀(rs:gm),Hn S g rs
 | .nil=>trivial
 | .cons _ f r=>⟨jc f,w4 r⟩
end
variable{H₀:AH}{C:Addr}{fs:aB}
theorem sN{Q:AH→Prop}{i:Nat}(k:aD aJ H₀ H)(h0:H₀ a=none)(h:H a=some (.inst t C fs))(e:lK.lookup (C,nm)=some i)(ht:t≠0)(hi:i≤fs.length)(q:∀H',aD aJ H₀ H'→H' a=some (.inst t C (jS fs i v))→aD (aG [t]) H H'→Q H'):bU H (.ref a) nm v Q:=
 sA h e ht hi (q _ (k.fresh h0) aA (.set h (by simp[aG,AO.tag])))
theorem B0(hn:3≤n)(nn:mD H)(q:∀o Rn nm H',H' o=some (.inst 1 1921 [.ref Rn,.ref nm])→H' Rn=some (.list 7 [.ref 98,.ref 101])→H' nm=some (.bR 6 (List.zip [("nil":Str),("t":Str)] [.ref 98,.ref 101]))→aD aJ H H'→Q (.ref o) H'):cV ⟨S,n,none⟩ H (.ref 1921) [] Q E:=by
 refine h9 1 (by decide) (fI:=1862) rfl rfl (show 2≤n by omega) fun o k hk ho=>?_
 refine LJ ?_;unfold Ag;refine nL 7 (by decide) (by simp) fun r hr=>?_
 have k1:aD aJ (upd H o (.inst 1 1921 [])) (upd (upd H o (.inst 1 1921 [])) r (.list 7 [.ref 98,.ref 101])):=.new hr;refine sN (H₀:=H) ((aD.new ho).trans k1) ho (k1 _ _ aA rfl) rfl (by decide) aF fun aH k2 GP e2=>⟨6,by decide,fun m hm=>?_⟩
 have Oc:=e2 _ _ (aA (H:=upd H o (.inst 1 1921 [])) (a:=r) (o:=AO.list 7 [.ref 98,.ref 101])) rfl;have k3:aD aJ aH (upd aH m (.bR 6 [])):=.new hm;unfold oo;dsimp only;rw[aA];refine⟨by simp,?_⟩
 rw[bF];have Ss:aD aJ aH (upd aH m (.bR 6 (List.foldl (fun es (p:Str×aC)=>stored es p.1 p.2) [] (List.zip [("nil":Str),("t":Str)] [.ref 98,.ref 101])))):=.new hm
 refine sN (H₀:=H) (k2.trans Ss) ho (Ss _ _ GP rfl) rfl (by decide) aF fun bI k4 GO e4=>⟨rfl,q o r m bI GO (e4 _ _ (Ss _ _ Oc rfl) rfl) ?_ k4⟩
 have:=e4 _ _ (aA (H:=aH) (a:=m) (o:=AO.bR 6 (List.foldl (fun es (p:Str×aC)=>stored es p.1 p.2) [] (List.zip [("nil":Str),("t":Str)] [.ref 98,.ref 101])))) rfl
 rw[this];have ht:("t":Str)∉[("nil":Str)]:=by decide+kernel
 have:=rV (nl:=[("nil":Str)]) (vs:=[Value.ref 98]) (v:=.ref 101) rfl ht
 rw[show List.foldl (fun es (p:Str×aC)=>stored es p.1 p.2) [] (List.zip [("nil":Str),("t":Str)] [.ref 98,.ref 101])=stored ([("nil":Str)].zip [Value.ref 98]) "t" (.ref 101) from rfl,this]
 rfl
theorem IB(hn:3≤n)(q:∀c f pl H',H' c=some (.inst 1 343 [.ref f,.ref pl])→H' f=some (.aX 62 [])→H' pl=some (.aX 63 [])→aD aJ H H'→Q (.ref c) H'):cV ⟨S,n,none⟩ H (.ref 343) [] Q E:=by
 refine h9 1 (by decide) (fI:=277) rfl rfl (show 2≤n by omega) fun o k hk ho=>?_
 refine Qo ?_;unfold Ec;refine Nt 62 (by decide) fun r hr=>?_
 have k1:aD aJ (upd H o (.inst 1 343 [])) (upd (upd H o (.inst 1 343 [])) r (.aX 62 [])):=.new hr;refine sN (H₀:=H) ((aD.new ho).trans k1) ho (k1 _ _ aA rfl) rfl (by decide) aF fun aH k2 GP e2=>Nt 63 (by decide) fun m hm=>?_
 have Oc:=e2 _ _ (aA (H:=upd H o (.inst 1 343 [])) (a:=r) (o:=AO.aX 62 [])) rfl;have k3:aD aJ aH (upd aH m (.aX 63 [])):=.new hm;exact sN (H₀:=H) (k2.trans k3) ho (k3 _ _ GP rfl) rfl (by decide) aF fun bI k4 GO e4=>⟨rfl,q o r m bI GO (e4 _ _ (k3 _ _ Oc rfl) rfl) (e4 _ _ (aA (H:=aH) (a:=m) (o:=AO.aX 63 [])) rfl) k4⟩
theorem xo(hn:3≤n)(q:∀c f au pe H',H' c=some (.inst 1 580 [.ref f,.ref au,.ref pe])→H' f=some (.aX 5 [])→aD aJ H H'→Q (.ref c) H'):cV ⟨S,n,none⟩ H (.ref 580) [] Q E:=by
 refine h9 1 (by decide) (fI:=535) rfl rfl (show 2≤n by omega) fun o k hk ho=>?_
 refine Qe ?_;unfold DT;refine Nt 5 (by decide) fun r hr=>?_
 have k1:aD aJ (upd H o (.inst 1 580 [])) (upd (upd H o (.inst 1 580 [])) r (.aX 5 [])):=.new hr;refine sN (H₀:=H) ((aD.new ho).trans k1) ho (k1 _ _ aA rfl) rfl (by decide) aF fun aH k2 GP e2=>Nt 65 (by decide) fun m hm=>?_
 have Oc:=e2 _ _ (aA (H:=upd H o (.inst 1 580 [])) (a:=r) (o:=AO.aX 5 [])) rfl;have k3:aD aJ aH (upd aH m (.aX 65 [])):=.new hm;refine sN (H₀:=H) (k2.trans k3) ho (k3 _ _ GP rfl) rfl (by decide) aF fun bI k4 GO e4=>Nt 65 (by decide) fun m2 Gu=>?_
 have k5:aD aJ bI (upd bI m2 (.aX 65 [])):=.new Gu;exact sN (H₀:=H) (k4.trans k5) ho (k5 _ _ GO rfl) rfl (by decide) aF fun cC k6 Og e6=>⟨rfl,q o r m m2 cC Og (e6 _ _ (k5 _ _ (e4 _ _ (k3 _ _ Oc rfl) rfl) rfl) rfl) k6⟩
theorem Fv(hn:3≤n)(q:∀c f H',H' c=some (.inst 1 636 [.ref f])→H' f=some (.aX 1 [])→aD aJ H H'→Q (.ref c) H'):cV ⟨S,n,none⟩ H (.ref 636) [] Q E:=by
 refine h9 1 (by decide) (fI:=598) rfl rfl (show 2≤n by omega) fun o k hk ho=>?_
 refine Qb ?_;unfold DQ;refine Nt 1 (by decide) fun r hr=>?_
 have no:o≠r:=fun q=>by subst q;rw[aA] at hr;cases hr
 have k1:aD aJ (upd H o (.inst 1 636 [])) (upd (upd H o (.inst 1 636 [])) r (.aX 1 [])):=.new hr;refine sA (k1 _ _ aA rfl) rfl (by decide) aF ⟨rfl,q o r _ aA (by rw[aT no.symm,aA]) (((aD.new ho).trans k1).fresh ho)⟩
structure W0(g:G)(H:AH):Prop where
 bH:H g.bH=some (.inst 60 1970 [.ref g.fY,.ref g.cells,.ref g.vars,.ref g.bare,.none,.none,.int 0 0])
 fY:H g.fY=some (.inst 1 1921 [.ref g.fZ,.ref g.names])
 fZ:H g.fZ=some (.list 7 [.ref 98,.ref 101])
 names:H g.names=some (.bR 6 (List.zip [("nil":Str),("t":Str)] [.ref 98,.ref 101]))
 cells:H g.cells=some (.inst 1 343 [.ref g.fns,.ref g.eJ])
 fns:H g.fns=some (.aX 62 [])
 eJ:H g.eJ=some (.aX 63 [])
 vars:H g.vars=some (.inst 1 580 [.ref g.dflt,.ref g.auto,.ref g.perm])
 dflt:H g.dflt=some (.aX 5 [])
 bare:H g.bare=some (.inst 1 636 [.ref g.jG])
 jG:H g.jG=some (.aX 1 [])
theorem Iv(hn:6≤n)(nn:mD H)(q:∀g:G,∀H',W0 g H'→aD aJ H H'→Q (.ref g.bH) H'):cV ⟨S,n,none⟩ H (.ref 1970) [] Q E:=by
 refine h9 60 (by decide) (fI:=1939) rfl rfl (show 2≤n by omega) fun o k hk ho=>?_
 have hk:k+2=n:=hk;refine LG ?_;unfold Ad;have k0:aD aJ H (upd H o (.inst 60 1970 [])):=.new ho;refine B0 (show 3≤k by omega) (nn.keep k0) fun ob Rn Yc aE b1 b2 b3 k1=>?_
 refine sN (H₀:=H) (k0.trans k1) ho (k1 _ _ aA rfl) rfl (by decide) aF fun aH k2 GP e2=>IB (show 3≤k by omega) fun ce fn pl aO c1 c2 c3 k3=>?_
 refine sN (H₀:=H) (k2.trans k3) ho (k3 _ _ GP rfl) rfl (by decide) aF fun bI k4 GO e4=>xo (show 3≤k by omega) fun va df au pe cI v1 v2 k5=>?_
 refine sN (H₀:=H) (k4.trans k5) ho (k5 _ _ GO rfl) rfl (by decide) aF fun cC k6 Og e6=>Fv (show 3≤k by omega) fun ba bv cZ l1 l2 k7=>?_
 refine sN (H₀:=H) (k6.trans k7) ho (k7 _ _ Og rfl) rfl (by decide) aF fun gI k8 Zz e8=>?_
 refine sN (H₀:=H) k8 ho Zz rfl (by decide) aF fun eI k9 Zy e9=>?_
 refine sN (H₀:=H) k9 ho Zy rfl (by decide) aF fun HA kA Zx eA=>?_
 refine sN (H₀:=H) kA ho Zx rfl (by decide) aF fun HB kB Zw eB=>?_
 have To:aD (aG [60]) cZ HB:=e8.trans (e9.trans (eA.trans eB));have Tp:aD (aG [60]) cI HB:=e6.trans (k7.of0.trans To);have R1:aD (aG [60]) aO HB:=e4.trans (k5.of0.trans Tp);have Tq:aD (aG [60]) aE HB:=e2.trans (k3.of0.trans R1);exact⟨rfl,q ⟨o,0,0,0,0,va,df,au,pe,ob,Yc,Rn,ce,fn,pl,ba,bv,0,0⟩ HB ⟨Zw,Tq _ _ b1 rfl,Tq _ _ b2 rfl,Tq _ _ b3 rfl,R1 _ _ c1 rfl,R1 _ _ c2 rfl,R1 _ _ c3 rfl,Tp _ _ v1 rfl,Tp _ _ v2 rfl,To _ _ l1 rfl,To _ _ l2 rfl⟩ kB⟩
structure W1(g:G)(H:AH):Prop where
 fix:ko g H
 fZ:H g.fZ=some (.list 7 [.ref 98,.ref 101])
 names:H g.names=some (.bR 6 (List.zip [("nil":Str),("t":Str)] [.ref 98,.ref 101]))
 fns:H g.fns=some (.aX 62 [])
 eJ:H g.eJ=some (.aX 63 [])
 dflt:H g.dflt=some (.aX 5 [])
 aY:H g.aY=some (.inst 2 1132 [.ref g.bH,.int 100000 0,.ref g.iB,.int 0 0,.ref 98,.int 0 0,.ref g.iY])
 iB:H g.iB=some (.list 3 [])
 rows:H g.rows=some (.list 4 [])
theorem B1(hn:6≤n)(nn:mD H)(tt:H 101=some (.inst 0 92 [.int 1 0,.str "t" 0]))(w0:W0 g H)(q:∀g':G,∀H',g'.bH=g.bH→W1 g' H'→aD (aG [60]) H H'→Q (.ref g'.aY) H'):cV ⟨S,n,none⟩ H (.ref 1132) [.ref g.bH,.int 100000 0] Q E:=by
 refine h9 2 (by decide) (fI:=977) rfl rfl (show 2≤n by omega) fun o k hk ho=>?_
 have hk:k+2=n:=hk;refine PM ?_;unfold Dv;have k0:aD aJ H (upd H o (.inst 2 1132 [])):=.new ho;refine sN (H₀:=H) k0 ho aA rfl (by decide) aF fun aE k1 ZD e1=>?_
 refine sN (H₀:=H) k1 ho ZD rfl (by decide) aF fun aH k2 GP e2=>nL 3 (by decide) (by simp) fun fr oX=>?_
 have k3:aD aJ aH (upd aH fr (.list 3 [])):=.new oX;refine sN (H₀:=H) (k2.trans k3) ho (k3 _ _ GP rfl) rfl (by decide) aF fun bI k4 GO e4=>?_
 have U2:=e4 _ _ (aA (H:=aH) (a:=fr) (o:=AO.list 3 [])) rfl;refine sN (H₀:=H) k4 ho GO rfl (by decide) aF fun cI k5 ZC e5=>?_
 refine sN (H₀:=H) k5 ho ZC rfl (by decide) aF fun cC k6 Og e6=>?_
 refine sN (H₀:=H) k6 ho Og rfl (by decide) aF fun cZ k7 ZA e7=>?_
 have U1:=e7 _ _ (e6 _ _ (e5 _ _ U2 rfl) rfl) rfl;refine h9 1 (by decide) (fI:=703) rfl rfl (show 2≤k by omega) fun st k' qu td=>?_
 refine P5 ?_;unfold DK;have k8:aD aJ cZ (upd cZ st (.inst 1 734 [])):=.new td;refine sN (H₀:=cZ) k8 td aA rfl (by decide) aF fun eI k9 Zi e9=>nL 4 (by decide) (by simp) fun Nr J6=>?_
 have kA:aD aJ eI (upd eI Nr (.list 4 [])):=.new J6;refine sN (H₀:=cZ) (k9.trans kA) td (kA _ _ Zi rfl) rfl (by decide) aF fun HB kB Zh eB=>⟨rfl,?_⟩
 have UE:=eB _ _ (aA (H:=eI) (a:=Nr) (o:=AO.list 4 [])) rfl;refine sN (H₀:=H) (k7.trans kB) ho (kB _ _ ZA rfl) rfl (by decide) aF fun HC kC SM eC=>?_
 refine sA (kC _ _ w0.bH rfl) rfl (by decide) (by simp) ⟨rfl,?_⟩
 have eD:aD (aG [60]) HC (upd HC g.bH (.inst 60 1970 (jS [.ref g.fY,.ref g.cells,.ref g.vars,.ref g.bare,.none,.none,.int 0 0] 5 (.ref o)))):=.set (kC _ _ w0.bH rfl) rfl;have kD:aD (aG [60]) H (upd HC g.bH (.inst 60 1970 (jS [.ref g.fY,.ref g.cells,.ref g.vars,.ref g.bare,.none,.none,.int 0 0] 5 (.ref o)))):=kC.of0.trans eD;refine q ⟨g.bH,o,fr,st,Nr,g.vars,g.dflt,g.auto,g.perm,g.fY,g.names,g.fZ,g.cells,g.fns,g.eJ,g.bare,g.jG,0,0⟩ _ rfl ⟨⟨kD _ _ nn rfl,kD _ _ tt rfl,aA,eD _ _ (eC _ _ Zh rfl) rfl,kD _ _ w0.vars rfl,kD _ _ w0.fY rfl,kD _ _ w0.cells rfl,kD _ _ w0.bare rfl,kD _ _ w0.jG rfl⟩,kD _ _ w0.fZ rfl,kD _ _ w0.names rfl,kD _ _ w0.fns rfl,kD _ _ w0.eJ rfl,kD _ _ w0.dflt rfl,eD _ _ SM rfl,eD _ _ (eC _ _ (kB _ _ U1 rfl) rfl) rfl,eD _ _ (eC _ _ UE rfl) rfl⟩ kD
theorem W1.namesOk(w:W1 g H):fk g H (cK.take 2):=by
 refine⟨⟨[.ref 98,.ref 101],rfl,w.names,fun k nm v h1 h2=>?_⟩,⟨_,w.fZ,rfl⟩,by decide+kernel,fun x hx=>tw hx⟩
 cases k with
 |zero=>cases h1;cases h2;exact⟨98,0,rfl,by decide,w.fix.nil⟩
 |succ k=>
  cases k with
  |zero=>cases h1;cases h2;exact⟨101,0,rfl,by decide,w.fix.t⟩
  |succ k=>cases h2
structure ib where
 C:Addr
 nm:Str
 lo:Int
 hi:Int
 w:Addr
def iq(H:AH):List ib→aB→Prop
 |[],[]=>True
 |r::rs,v::vs=>(∃a,v=.ref a∧H a=some (.tup 1 [.str r.nm 0,.int r.lo 0,.int r.hi 0,.ref r.w]))∧iq H rs vs
 |_,_=>False
def km(H:AH):List ib→aB→Prop
 |[],[]=>True
 |r::rs,v::vs=>(∃a,v=.ref a∧H a=some (.inst 1 r.C [.str r.nm 0,.int r.lo 0,.int r.hi 0,.ref r.w]))∧km H rs vs
 |_,_=>False
variable{vs:aB}{rs:List ib}{r:ib}
theorem iq.keep(k:aD M H H')(m:M 1=false):∀{rs:List ib} {vs:aB},iq H rs vs→iq H' rs vs
 |[],[],_=>trivial
 |_::_,_::_,⟨⟨a,e,h⟩,c⟩=>⟨⟨a,e,k _ _ h m⟩,iq.keep k m c⟩
 |[],_::_,h=>h.elim
 |_::_,[],h=>h.elim
theorem km.keep(k:aD M H H')(m:M 1=false):∀{rs:List ib} {vs:aB},km H rs vs→km H' rs vs
 |[],[],_=>trivial
 |_::_,_::_,⟨⟨a,e,h⟩,c⟩=>⟨⟨a,e,k _ _ h m⟩,km.keep k m c⟩
 |[],_::_,h=>h.elim
 |_::_,[],h=>h.elim
theorem iq.len:∀{rs:List ib} {vs:aB},iq H rs vs→vs.length=rs.length
 |[],[],_=>rfl
 |_::_,_::_,⟨_,c⟩=>by rw[dH,dH,iq.len c]
 |[],_::_,h=>h.elim
 |_::_,[],h=>h.elim
theorem km.len:∀{rs:List ib} {vs:aB},km H rs vs→vs.length=rs.length
 |[],[],_=>rfl
 |_::_,_::_,⟨_,c⟩=>by rw[dH,dH,km.len c]
 |[],_::_,h=>h.elim
 |_::_,[],h=>h.elim
theorem iq.snoc(h0:H a=some (.tup 1 [.str r.nm 0,.int r.lo 0,.int r.hi 0,.ref r.w])):∀{rs:List ib} {vs:aB},iq H rs vs→iq H (rs++[r]) (vs++[.ref a])
 |[],[],_=>⟨⟨a,rfl,h0⟩,trivial⟩
 |_::_,_::_,⟨x,c⟩=>⟨x,iq.snoc h0 c⟩
 |[],_::_,h=>h.elim
 |_::_,[],h=>h.elim
theorem km.snoc(h0:H a=some (.inst 1 r.C [.str r.nm 0,.int r.lo 0,.int r.hi 0,.ref r.w])):∀{rs:List ib} {vs:aB},km H rs vs→km H (rs++[r]) (vs++[.ref a])
 |[],[],_=>⟨⟨a,rfl,h0⟩,trivial⟩
 |_::_,_::_,⟨x,c⟩=>⟨x,km.snoc h0 c⟩
 |[],_::_,h=>h.elim
 |_::_,[],h=>h.elim
theorem km.append:∀{rs VV:List ib} {vs aQ:aB},km H rs vs→km H VV aQ→km H (rs++VV) (vs++aQ)
 |[],_,[],_,_,h=>h
 |_::_,_,_::_,_,⟨x,c⟩,h=>⟨x,c.append h⟩
 |[],_,_::_,_,h,_=>h.elim
 |_::_,_,[],_,h,_=>h.elim
theorem iq.at:∀{rs:List ib} {vs:aB} {k:Nat} {v:aC},iq H rs vs→vs[k]?=some v→∃r,rs[k]?=some r∧∃a,v=.ref a∧H a=some (.tup 1 [.str r.nm 0,.int r.lo 0,.int r.hi 0,.ref r.w])
 |r::_,_::_,0,_,⟨x,_⟩,h=>by cases h;exact⟨r,rfl,x⟩
 |_::_,_::_,k+1,_,⟨_,c⟩,h=>iq.at (k:=k) c h
 |[],[],_,_,_,h=>by cases h
 |[],_::_,_,_,h,_=>h.elim
 |_::_,[],_,_,h,_=>h.elim
theorem km.at:∀{rs:List ib} {vs:aB} {k:Nat} {v:aC},km H rs vs→vs[k]?=some v→∃r,rs[k]?=some r∧∃a,v=.ref a∧H a=some (.inst 1 r.C [.str r.nm 0,.int r.lo 0,.int r.hi 0,.ref r.w])
 |r::_,_::_,0,_,⟨x,_⟩,h=>by cases h;exact⟨r,rfl,x⟩
 |_::_,_::_,k+1,_,⟨_,c⟩,h=>km.at (k:=k) c h
 |[],[],_,_,_,h=>by cases h
 |[],_::_,_,_,h,_=>h.elim
 |_::_,[],_,_,h,_=>h.elim
theorem dY(r:ib){Q:aC→AH→Prop}(h:aD aJ H₀ H∧iq H rs vs)(q:∀a H',aD aJ H₀ H'∧iq H' (rs++[r]) (vs++[.ref a])→Q (.ref a) H'):bM H [.str r.nm 0,.int r.lo 0,.int r.hi 0,.ref r.w] Q:=
 oW (by simp) fun a H' k ha=>q a H' ⟨h.1.trans k,iq.snoc ha (iq.keep k rfl h.2)⟩
theorem uj{p:Pl}(hd:p.hd=none)(hn:2≤p.n)(C fI:Addr)(hC:(C=458∧fI=434)∨(C=418∧fI=401)){Q:KQ}{L:Addr}(h:aD aJ H₀ H∧iq H rs vs)(hl:H L=some (.list 1 vs))(hr:∀r∈rs,r.C=C)(hz:rs.length≤100)(q:∀l aQ H',H' l=some (.list 1 aQ)→km H' rs aQ→aD aJ H₀ H'→Q (.ref l) H'):
  gK p.hd H (.ref L) (fun Xt H C15 D16=>cS H p.hd Xt 4 fun GH=>iX GH fun Xs GH=>(true=true∧(iX GH fun Xr GH=>(true=true∧(iX GH fun v20 GH=>(true=true∧(iX GH fun Xq GH=>(true=true∧(jB GH (if true=true then(cV p H (.ref C) [Xs,Xr,v20,Xq] (fun NR H=>C15 NR H) fun x23 H=>False) else(D16 H))))))))))) Q:=by
 obtain⟨S,n,gH⟩:=p;dsimp only at hd hn;subst hd;obtain⟨k0,hR⟩:=h;have hlen:=hR.len;refine⟨.list L,vs,fun i bN aE=>aD aJ H aE∧km aE (rs.take i) bN,⟨rfl,1,hl⟩,by omega,⟨.refl,trivial⟩,fun i bN aE h=>⟨1,h.1 _ _ hl rfl⟩,?_,?_⟩
 .rintro i bN aE v ⟨k1,hF⟩ hv
  obtain⟨r,RC,a,rfl,ha⟩:=hR.at hv;obtain⟨fT,RC⟩:=cQ.mp RC;have hCr:=hr r (by rw[←RC];exact rz fT)
  refine GF (k1 _ _ ha rfl) rfl iU.clean ⟨rfl,rfl,rfl,rfl,nC (eE ?_)⟩;have fin:∀(c:Addr) (aH:AH),aH c=some (.inst 1 C [.str r.nm 0,.int r.lo 0,.int r.hi 0,.ref r.w])→aD aJ aE aH→aD aJ H aH∧km aH (rs.take (i+1)) (bN++[.ref c]):=fun c aH hc k2=>by
   refine⟨k1.trans k2,?_⟩;rw[jm fT,RC];exact km.snoc (r:=r) (by rw[hCr];exact hc) (km.keep k2 rfl hF)
  rcases hC with ⟨rfl,rfl⟩|⟨rfl,rfl⟩
  .refine h9 1 (by decide) (fI:=434) rfl rfl hn fun c k' qu hc=>?_
   refine Qg ?_;unfold DV;refine sA aA rfl (by decide) aF ?_
   rw[bF];refine sA aA rfl (by decide) aF ?_
   rw[bF];refine sA aA rfl (by decide) aF ?_
   rw[bF];refine sA aA rfl (by decide) aF ?_
   rw[bF];exact⟨rfl,fin c _ aA (.new hc)⟩
  .refine h9 1 (by decide) (fI:=401) rfl rfl hn fun c k' qu hc=>?_
   refine Qi ?_;unfold DX;refine sA aA rfl (by decide) aF ?_
   rw[bF];refine sA aA rfl (by decide) aF ?_
   rw[bF];refine sA aA rfl (by decide) aF ?_
   rw[bF];refine sA aA rfl (by decide) aF ?_
   rw[bF];exact⟨rfl,fin c _ aA (.new hc)⟩
 .rintro bN aE ⟨k1,hF⟩
  rw[hlen,iL aF] at hF;refine⟨iU.clean,1,by decide,fun D hD=>?_⟩
  have k2:aD aJ aE (upd aE D (.list 1 bN)):=.new hD;exact q D bN _ aA (km.keep k2 rfl hF) (k0.trans (k1.trans k2))
def ve:List ib:=[⟨458,"quote",1,1,1157⟩,⟨458,"function",1,1,1157⟩,⟨458,"progn",0,-1,1150⟩,⟨458,"if",2,-1,1190⟩,⟨458,"when",1,-1,1197⟩,⟨458,"unless",1,-1,1204⟩,⟨458,"cond",0,-1,1237⟩,⟨458,"and",0,-1,1277⟩,⟨458,"or",0,-1,1284⟩,⟨458,"while",1,-1,1317⟩,⟨458,"prog1",1,-1,1350⟩]
def bindR:List ib:=[⟨458,"setq",0,-1,1397⟩,⟨458,"setq-default",0,-1,1404⟩,⟨458,"let",1,-1,1444⟩,⟨458,"let*",1,-1,1484⟩]
def Dj:List ib:=[⟨458,"catch",1,-1,1582⟩,⟨458,"unwind-protect",1,-1,1622⟩,⟨458,"condition-case",2,-1,1695⟩,⟨458,"ignore-errors",0,-1,1702⟩]
def Dm:List ib:=[⟨418,"funcall",1,-1,1714⟩,⟨418,"apply",1,-1,1728⟩,⟨418,"eval",1,2,1735⟩,⟨418,"throw",2,2,1742⟩,⟨418,"signal",2,2,1749⟩,⟨418,"mapcar",2,2,1789⟩,⟨418,"mapc",2,2,1796⟩,⟨418,"macroexpand",1,2,1836⟩,⟨418,"macroexpand-1",1,2,1843⟩]
theorem G3{rs:List ib}{C:Addr}(h:(rs.all fun r=>r.C==C)=true):∀r∈rs,r.C=C:=fun r hr=>dE.mp (dC.mp h r hr)
theorem zd(hn:3≤n)(q:∀l aQ H',H' l=some (.list 1 aQ)→km H' ve aQ→aD aJ H H'→Q (.ref l) H'):Sat S n none (.ref 1489) [] H Q E:=by
 obtain⟨m,rfl,hm⟩:=dN hn;refine Mc ?_;unfold AG;refine dY ⟨458,"quote",1,1,1157⟩ (H₀:=H) (rs:=[]) (vs:=[]) ⟨.refl,trivial⟩ fun a1 aE h=>?_
 refine dY ⟨458,"function",1,1,1157⟩ h fun a2 aE h=>?_
 refine dY ⟨458,"progn",0,-1,1150⟩ h fun a3 aE h=>?_
 refine dY ⟨458,"if",2,-1,1190⟩ h fun a4 aE h=>?_
 refine dY ⟨458,"when",1,-1,1197⟩ h fun a5 aE h=>?_
 refine dY ⟨458,"unless",1,-1,1204⟩ h fun a6 aE h=>?_
 refine dY ⟨458,"cond",0,-1,1237⟩ h fun a7 aE h=>?_
 refine dY ⟨458,"and",0,-1,1277⟩ h fun a8 aE h=>?_
 refine dY ⟨458,"or",0,-1,1284⟩ h fun a9 aE h=>?_
 refine dY ⟨458,"while",1,-1,1317⟩ h fun a10 aE h=>?_
 refine dY ⟨458,"prog1",1,-1,1350⟩ h fun a11 aE h=>?_
 refine zj (by simp) fun L aH k2 _ hL=>?_
 exact uj (p:=⟨S,m,none⟩) (rs:=ve) rfl hm 458 434 (.inl ⟨rfl,rfl⟩) ⟨h.1.trans k2,iq.keep k2 rfl h.2⟩ hL (G3 rfl) (by decide) q
theorem B3(hn:3≤n)(q:∀l aQ H',H' l=some (.list 1 aQ)→km H' bindR aQ→aD aJ H H'→Q (.ref l) H'):Sat S n none (.ref 1494) [] H Q E:=by
 obtain⟨m,rfl,hm⟩:=dN hn;refine Mb ?_;unfold AF;refine dY ⟨458,"setq",0,-1,1397⟩ (H₀:=H) (rs:=[]) (vs:=[]) ⟨.refl,trivial⟩ fun a1 aE h=>?_
 refine dY ⟨458,"setq-default",0,-1,1404⟩ h fun a2 aE h=>?_
 refine dY ⟨458,"let",1,-1,1444⟩ h fun a3 aE h=>?_
 refine dY ⟨458,"let*",1,-1,1484⟩ h fun a4 aE h=>?_
 refine zj (by simp) fun L aH k2 _ hL=>?_
 exact uj (p:=⟨S,m,none⟩) (rs:=bindR) rfl hm 458 434 (.inl ⟨rfl,rfl⟩) ⟨h.1.trans k2,iq.keep k2 rfl h.2⟩ hL (G3 rfl) (by decide) q
theorem Iz(hn:3≤n)(q:∀l aQ H',H' l=some (.list 1 aQ)→km H' Dj aQ→aD aJ H H'→Q (.ref l) H'):Sat S n none (.ref 1707) [] H Q E:=by
 obtain⟨m,rfl,hm⟩:=dN hn;refine LN ?_;unfold Ak;refine dY ⟨458,"catch",1,-1,1582⟩ (H₀:=H) (rs:=[]) (vs:=[]) ⟨.refl,trivial⟩ fun a1 aE h=>?_
 refine dY ⟨458,"unwind-protect",1,-1,1622⟩ h fun a2 aE h=>?_
 refine dY ⟨458,"condition-case",2,-1,1695⟩ h fun a3 aE h=>?_
 refine dY ⟨458,"ignore-errors",0,-1,1702⟩ h fun a4 aE h=>?_
 refine zj (by simp) fun L aH k2 _ hL=>?_
 exact uj (p:=⟨S,m,none⟩) (rs:=Dj) rfl hm 458 434 (.inl ⟨rfl,rfl⟩) ⟨h.1.trans k2,iq.keep k2 rfl h.2⟩ hL (G3 rfl) (by decide) q
theorem B2(hn:3≤n)(q:∀l aQ H',H' l=some (.list 1 aQ)→km H' Dm aQ→aD aJ H H'→Q (.ref l) H'):Sat S n none (.ref 1848) [] H Q E:=by
 obtain⟨m,rfl,hm⟩:=dN hn;refine LK ?_;unfold Ah;refine dY ⟨418,"funcall",1,-1,1714⟩ (H₀:=H) (rs:=[]) (vs:=[]) ⟨.refl,trivial⟩ fun a1 aE h=>?_
 refine dY ⟨418,"apply",1,-1,1728⟩ h fun a2 aE h=>?_
 refine dY ⟨418,"eval",1,2,1735⟩ h fun a3 aE h=>?_
 refine dY ⟨418,"throw",2,2,1742⟩ h fun a4 aE h=>?_
 refine dY ⟨418,"signal",2,2,1749⟩ h fun a5 aE h=>?_
 refine dY ⟨418,"mapcar",2,2,1789⟩ h fun a6 aE h=>?_
 refine dY ⟨418,"mapc",2,2,1796⟩ h fun a7 aE h=>?_
 refine dY ⟨418,"macroexpand",1,2,1836⟩ h fun a8 aE h=>?_
 refine dY ⟨418,"macroexpand-1",1,2,1843⟩ h fun a9 aE h=>?_
 refine zj (by simp) fun L aH k2 _ hL=>?_
 exact uj (p:=⟨S,m,none⟩) (rs:=Dm) rfl hm 418 401 (.inr ⟨rfl,rfl⟩) ⟨h.1.trans k2,iq.keep k2 rfl h.2⟩ hL (G3 rfl) (by decide) q
theorem nN:cK.Nodup:=by decide+kernel
theorem gP{k:Nat}{nm:Str}(h:cK[k]?=some nm):fC (cK.take k) nm=cK.take (k+1):=by
 obtain⟨fT,h⟩:=cQ.mp h
 have:nm∉cK.take k:=fun hm=>by
  obtain⟨j,hj⟩:=yh hm;have SQ:j < k:=by have:=(cQ.mp hj).1;rw[qY] at this;omega
  rw[jV SQ] at hj
  have:j=k:=(jW (cQ.mp hj).1 nN).mp (hj.trans (cQ.mpr ⟨fT,h⟩).symm)
  omega
 unfold fC;rw[aR this,jm fT,h]
theorem oE{k j:Nat}{nm:Str}(h:cK[k]?=some nm)(hj:(cK.take (k+1))[j]?=some nm):j=k:=by
 have SQ:j < k+1:=by have:=(cQ.mp hj).1;rw[qY] at this;omega
 rw[jV SQ] at hj
 exact(jW (cQ.mp hj).1 nN).mp (hj.trans h.symm)
variable{f:Addr}
theorem lT{es:List (Int×aC)}(hn:2≤n)(F:ko g H)(hs:Sym H v i nm)(hi:i≠0)(hf:H f=some (.inst 1 C fs))(hC:C=458∨C=418∨C=183)(Oq:H g.fns=some (.aX 62 es))(hz:es.length≤1000)(q:∀aE,aD aJ H aE→Q .none (upd aE g.fns (.aX 62 (stored es i (.ref f))))):Sat S n none (.ref 298) [.ref g.cells,v,.ref f] H Q E:=by
 obtain⟨m,rfl,hm⟩:=dN hn;refine Qm ?_;unfold Ea jn;obtain⟨sa,st,rfl,td,jz⟩:=id hs;have ns:=rm F.nil jz hi;refine oY (iM jz F.nil ns rfl) (my (cP (rI fun rg x y z Ob=>?_)))
 have k1:aD aJ H (upd H rg (.raw 1 (fz 0 100 1 x y z))):=.new Ob;obtain⟨ra,rb⟩:=oG (k:=100) (by decide)
 refine⟨.range 0 1 100,(List.range 100).map fun(k:Nat)=>Value.int (0+(k:Nat) * 1) 0,fun i us aE=>i=0∧us=[.ref g.cells,.ref sa,.ref f,.ref f]∧aE=upd H rg (.raw 1 (fz 0 100 1 x y z)),⟨⟨rg,1,100,x,y,z,rfl,aA,ra,rb⟩,rfl⟩,⟨rfl,rfl,rfl⟩,fun i us aE _=>rfl,?_,?_⟩
 .rintro i aE u hu Xz Xy Xx Xw ⟨rfl,jQ,rfl⟩
  cases jQ;have RK:=k1 _ _ hf rfl;have c1:jZ.contains C=true:=by rcases hC with rfl|rfl|rfl<;>rfl
  have c2:xE (.ref C) (.ref 92)=false:=by rcases hC with rfl|rfl|rfl<;>rfl
  refine⟨rfl,cU rfl (jP RK c1) ?_⟩;rw[c2];exact eX (K4 (eE (gA (k1 _ _ F.cells rfl) rfl rfl rfl (gA (k1 _ _ jz (by match st,td with|0,_=>rfl|1,_=>rfl)) rfl rfl rfl (Sg (k1 _ _ Oq rfl) (by omega) (q _ k1))))))
 .rintro aE u1 u2 u3 u4 ⟨h,_⟩
  rw[dO,pS] at h;cases h
theorem dt2:aD (aG [6,7]) H H'→aD (aG [6,7,62]) H H':=fun k=>k.mono fun t h=>by
 unfold aG at h⊢;rw[jl] at h⊢;intro q;have q:=fM.mp q;exact h (fM.mpr (by simp at q⊢;omega))
theorem qp(hn:7≤n)(F:ko g H)(N:fk g H (cK.take 2))(hl:H l=some (.list 1 vs))(hF:km H rs vs)(qI:∀(k:Nat) r,rs[k]?=some r→cK[2+k]?=some r.nm∧(r.C=458∨r.C=418))(hz:rs.length≤40)(Oq:H g.fns=some (.aX 62 []))
  (q:∀es H',fk g H' (cK.take (2+rs.length))→H' g.fns=some (.aX 62 es)→es.length≤rs.length→(∀(k:Nat) v,vs[k]?=some v→valueAt es (2+k:Nat)=some v)→(∀i:Int,2+rs.length≤i→valueAt es i=none)→aD (aG [6,7,62]) H H'→Q .none H'):Sat S n none (.ref 1967) [.ref g.bH,.ref l] H Q E:=by
 obtain⟨m,rfl,hm⟩:=dN hn;refine LC ?_;unfold Aa;have hlen:=hF.len;refine⟨.list l,vs,fun i us aE=>us=[.ref g.bH,.ref l]∧fk g aE (cK.take (2+i))∧aD (aG [6,7,62]) H aE∧∃es,aE g.fns=some (.aX 62 es)∧es.length≤i∧(∀(k:Nat) v,k < i→vs[k]?=some v→valueAt es (2+k:Nat)=some v)∧(∀j:Int,2+i≤j→valueAt es j=none),⟨rfl,1,hl⟩,⟨rfl,N,.refl,[],Oq,aF,fun k v h=>absurd h (Nat.not_lt_zero _),fun j _=>rfl⟩,fun i us aE h=>⟨1,h.2.2.1 _ _ hl rfl⟩,?_,?_⟩
 .rintro i aE v hv u1 u2 ⟨hu,mC,k1,es,qL,RM,Jq,Gs⟩
  cases hu;obtain⟨r,hr,f,rfl,hf⟩:=hF.at hv;obtain⟨SN,hC⟩:=qI i r hr;have aa9:i < rs.length:=(cQ.mp hr).1;have F1:=F.keep k1;have RK:=k1 _ _ hf rfl;refine⟨rfl,gA F1.bH rfl rfl rfl (gM F1.cells rfl (gM F1.bH rfl (gA (i:=0) RK ?_ rfl rfl (cF rfl (lP (show 5≤m by omega) F1 mC (hZ SN) fun sv k aH mz hk s2 k2 _ _=>?_)))))⟩
  .rcases hC with h|h<;>rw[h]<;>rfl
  rw[gP SN] at mz hk;have hk:=oE SN hk;subst hk;have Pd:=k2 _ _ qL rfl;have F2:=F1.keep k2;refine cF rfl (lT (show 2≤m by omega) F2 s2 (by omega) (k2 _ _ RK rfl) (by rcases hC with h|h;exact .inl h;exact .inr (.inl h)) Pd (by omega) fun aO k3=>?_)
  have Pc:=k3 _ _ Pd rfl;have k4:aD (aG [62]) aO (upd aO g.fns (.aX 62 (stored es (2+i:Nat) (.ref f)))):=.set Pc rfl;have YM:aD (aG [6,7,62]) aO (upd aO g.fns (.aX 62 (stored es (2+i:Nat) (.ref f)))):=.set Pc rfl;refine⟨rfl,(mz.keep k3).keep k4,k1.trans ((dt2 k2).trans (k3.of0.trans YM)),_,aA,?_,fun k v hk Bl=>?_,fun j hj=>?_⟩
  .have:=pD es ((2+i:Nat):Int) (.ref f);omega
  .rw[bK]
   by_cases e:k=i
   .subst e
    rw[bE rfl];exact hv.symm.trans Bl
   .rw[aR (by omega)]
    exact Jq k v (by omega) Bl
  .rw[bK,aR (by omega)]
   exact Gs j (by omega)
 .rintro aE u1 u2 ⟨hu,mC,k1,es,qL,RM,Jq,Gs⟩
  cases hu;rw[hlen] at mC RM Jq Gs;exact⟨iU.clean,q es aE mC qL RM (fun k v hv=>Jq k v (by rw[←hlen];exact(cQ.mp hv).1) hv) Gs k1⟩
variable{es:List (Int×aC)}
theorem BY{y:Str}(hn:3≤n)(hy:y.cps.all (· < 128)=true)(hz:y.cps.toList.length≤1000)(q:∀t H',aD aJ H H'→Q (.ref t) H'):Sat S n none (.ref 249) [.str y 0] H Q E:=by
 obtain⟨m,rfl,hm⟩:=dN hn;refine Qr ?_;unfold Ef;refine⟨.str y,y.cps.toList.map fun c=>Value.str ⟨#[c]⟩ 0,fun i bN aE=>aE=H,⟨rfl,hy,rfl⟩,by rw[dO];omega,rfl,fun i bN aE h=>⟨hy,rfl⟩,?_,?_⟩
 .rintro i bN aE v rfl hv
  rw[fL] at hv;obtain⟨c,hc,rfl⟩:=ey.mp hv;exact⟨rfl,eE (Vw rfl rfl)⟩
 .rintro bN aE rfl
  refine⟨iU.clean,1,by decide,fun D hD=>?_⟩
  have k1:aD aJ aE (upd aE D (.list 1 bN)):=.new hD;refine h9 1 (by decide) (fI:=138) rfl rfl (show 2≤m by omega) fun c k' qu hc=>?_
  refine Qw ?_;unfold Ek;refine sA aA rfl (by decide) aF ?_
  rw[bF];refine sA aA rfl (by decide) aF ?_
  rw[bF];exact⟨rfl,q c _ (k1.trans (.new hc))⟩
theorem uG{p:Pl}{x y:aC}(t:Nat)(ht:t≠0)(hn:2≤p.n)(q:∀c H',aD aJ H H'→H c=none→H' c=some (.inst t 119 [x,y])→Q (.ref c) H'):cV p H (.ref 119) [x,y] Q E:=by
 refine h9 t ht (fI:=116) rfl rfl hn fun c k' qu hc=>?_
 refine CU ?_;unfold uh;refine sA aA rfl ht aF ?_;rw[bF];refine sA aA rfl ht aF ?_;rw[bF];exact⟨rfl,q c _ (.new hc) hc aA⟩
theorem BZ{x:aC}{kx:Addr}(hn:3≤n)(F:ko g H)(hs:Sym H v i nm)(hf:H g.eJ=some (.aX 63 es))(he:valueAt es i=none)(hz:es.length≤1000)(q:∀a d H',H a=none→H d=none→H' a=some (.inst 64 119 [.ref kx,.ref d])→H' d=some (.inst 64 119 [x,.ref 98])→H' g.eJ=some (.aX 63 (stored es i (.ref a)))→aD (aG [63]) H H'→Q .none H'):Sat S n none (.ref 340) [.ref g.cells,v,.ref kx,x] H Q E:=by
 obtain⟨m,rfl,hm⟩:=dN hn;refine JE ?_;unfold xZ;refine gM F.cells rfl (cF rfl (oR (show 2≤m by omega) F hs hf he (nB rfl (cP (uG 64 (by decide) (show 2≤m by omega) fun d aE k1 Gw Co=>uG 64 (by decide) (show 2≤m by omega) fun a aH k2 Tb kX=>?_)))))
 have kj:=k1.trans k2;have F2:=F.keep kj;have Vn:H a=none:=by
  cases h:H a with
  |none=>rfl
  |some o=>rw[k1 _ _ h rfl] at Tb;cases Tb
 obtain⟨sa,st,rfl,td,jz⟩:=hs.keep kj;refine gM F2.cells rfl (cF rfl (iR (show 1≤m by omega) F2 ⟨sa,st,rfl,td,jz⟩ (kj _ _ hf rfl) ?_))
 rw[he];refine cU rfl (jP F2.nil rfl) (eX (eE (gA F2.cells rfl rfl rfl (gA jz rfl rfl rfl (Sg (kj _ _ hf rfl) (by omega) ?_)))))
 have k3:aD (aG [63]) aH (upd aH g.eJ (.aX 63 (stored es i (.ref a)))):=.set (kj _ _ hf rfl) rfl;exact q a d _ Vn Gw (k3 _ _ kX rfl) (k3 _ _ (k2 _ _ Co rfl) rfl) aA (kj.of0.trans k3)
theorem vr{x:aC}{a d kx ky:Addr}{bG:aC}(hn:3≤n)(F:ko g H)(hs:Sym H v i nm)(hf:H g.eJ=some (.aX 63 es))(he:valueAt es i=some (.ref a))(ha:H a=some (.inst 64 119 [.ref kx,.ref d]))(hd:H d=some (.inst 64 119 [bG,.ref 98])){ox oy:AO}(hx:H kx=some ox)(hy:H ky=some oy)(nt:jr ox=true)(SA:sH H (.ref ky)=some (.ref 92))(ne:kx≠ky)(hh:handedIn bG=true)
  (q:∀fr H',H' d=some (.inst 64 119 [bG,.ref fr])→(∀b o,b≠d→H b=some o→H' b=some o)→Q .none H'):Sat S n none (.ref 340) [.ref g.cells,v,.ref ky,x] H Q E:=by
 obtain⟨m,rfl,hm⟩:=dN hn;refine JE ?_;unfold xZ;refine gM F.cells rfl (cF rfl ?_);obtain⟨m',rfl,qJ⟩:=dN (show 1≤m by omega)
 refine CT ?_;unfold ug;refine gM F.cells rfl (cF rfl (iR (show 1≤m' by omega) F hs hf ?_))
 rw[he];refine⟨fun j us aE=>aE=H∧((j=1∧us=[.ref g.cells,v,.ref ky,.ref a,.int 0 0])∨(j=0∧us=[.ref g.cells,v,.ref ky,.ref 98,.int 1 0])),1,⟨rfl,.inl ⟨rfl,rfl⟩⟩,?_⟩
 rintro j aE u5 u6 u7 u8 u9 ⟨rfl,⟨rfl,hu⟩|⟨rfl,hu⟩⟩
 .cases hu
  unfold jn;refine cU rfl (jP ha rfl) (eX (pj (gA ha rfl rfl rfl (cU rfl (jP hd rfl) (eX (pj (eE (gA ha rfl rfl rfl (oY (iM hx hy ne (by rw[nt];rfl)) (xP (cU rfl SA (eX (my (xP (cP (gA ha rfl rfl rfl (gA hd rfl rfl rfl (pk (Kq (cP ⟨0,by omega,rfl,.inr ⟨rfl,rfl⟩⟩))))))))))))))))))))
 .cases hu
  unfold jn;refine cU rfl (jP F.nil rfl) (eX (my (cP (nB rfl (cP ?_)))));refine uG 64 (by decide) (show 2≤m'+1 by omega) fun d2 aH k2 abc hd2=>uG 64 (by decide) (show 2≤m'+1 by omega) fun fr aO k3 abb oX=>?_
  have vG:=k2.trans k3;have F3:=F.keep vG;refine gM F3.cells rfl (cF rfl (iR (show 1≤m'+1 by omega) F3 (hs.keep vG) (vG _ _ hf rfl) ?_))
  rw[he];have t4:=vG _ _ ha rfl;have Kf:=vG _ _ hd rfl;refine cU rfl (jP t4 rfl) (eX (cP ?_));refine⟨fun j us bI=>bI=aO∧((j=1∧us=[.ref g.cells,v,.ref ky,x,.none,.ref fr,.ref a])∨(j=0∧us=[.ref g.cells,v,.ref ky,x,.none,.ref fr,.ref d])),1,⟨rfl,.inl ⟨rfl,rfl⟩⟩,?_⟩
  rintro j bI u1 u2 u3 u4 u5 u6 u7 ⟨rfl,⟨rfl,hu⟩|⟨rfl,hu⟩⟩
  .cases hu
   exact gA t4 rfl rfl rfl (cU rfl (jP Kf rfl) (eX (eE (gA t4 rfl rfl rfl ⟨0,by omega,rfl,.inr ⟨rfl,rfl⟩⟩))))
  .cases hu
   refine gA Kf rfl rfl rfl (cU rfl (jP F3.nil rfl) (eX (cP (sA Kf rfl (by decide) (by simp) ?_))))
   exact q fr _ aA fun b o hb h=>by rw[aT hb];exact vG _ _ h rfl
def G.gV(g:G)(ec:Addr):G:={g with vL:=ec}
theorem qM.fn{v w:aC}(h:qM g H nm v)(h':qM g H nm w):v=w:=by
 obtain⟨e1,a1,b1⟩:=h;obtain⟨e2,a2,b2⟩:=h';rw[a1] at a2;cases a2;rw[b1] at b2;cases b2;rfl
theorem tA:cK[32]?=some ("error-conditions":Str)∧cK[34]?=some ("error-message":Str)∧("error-conditions":Str)≠"error-message":=by decide+kernel
theorem jN{x:Str}(h:x∈nl):fC nl x=nl:=bE h
theorem CS(k:aD (aG [6,7]) H H'):aD (aG [6,7,63]) H H':=k.mono fun t h=>by
 unfold aG at h⊢;rw[jl] at h⊢;exact fun q=>h (fM.mpr (by have:=fM.mp q;simp at this⊢;omega))
theorem Lg(k:aD (aG [63]) H H'):aD (aG [6,7,63]) H H':=k.mono fun t h=>by
 unfold aG at h⊢;rw[jl] at h⊢;exact fun q=>h (fM.mpr (by have:=fM.mp q;simp at this⊢;omega))
theorem lV{name msg parent:Str}{k0 k:Nat}(hn:8≤n)(F:ko g H)(N:fk g H (cK.take k0))(hp:parent∈cK)(RG:fC (fC (cK.take k0) parent) "error-conditions"=cK.take k)(UY:32 < k)(Df:cK[k]?=some name)
  (qL:H g.eJ=some (.aX 63 es)) (hez:es.length≤10) (QY:valueAt es (k:Nat)=none)
  (hk:∀j:Nat,(fC (cK.take k0) parent)[j]?=some parent→(valueAt es j=none∧parent∈jH)∨(qM g H "error-conditions" (.ref g.vL)∧∃v,valueAt es j=some v∧qQ g H v (cY parent)))
  (Vc:∀x∈cY parent,x≠name) (Vd:∀x∈name::cY parent,x∈cK.take (k+1)∧x≠"nil"∧x≠"t") (Gx:(cY parent).length≤5) (GR:msg.cps.all (· < 128)=true) (Gu:msg.cps.toList.length≤1000) (hl:H l=some (.list 1 [.str parent 0]))
  (q:∀ec a H',fk g H' (fC (cK.take (k+1)) "error-message")→jA g H H'→qM g H' "error-conditions" (.ref ec)→H' g.eJ=some (.aX 63 (stored es (k:Nat) (.ref a)))→qQ (g.gV ec) H' (.ref a) (name::cY parent)→aD (aG [6,7,63]) H H'→Q .none H'):Sat S n none (.ref 1504) [.ref g.bH,.str name 0,.str msg 0,.ref l] H Q E:=by
 obtain⟨m,rfl,hm⟩:=dN hn;refine L9 ?_;unfold AD;refine nL 8 (by decide) (by simp) fun J0 WB=>?_
 have k1:aD aJ H (upd H J0 (.list 8 [.str name 0])):=.new WB;refine⟨.list l,[.str parent 0],fun i us aE=>us=[.ref g.bH,.str name 0,.str msg 0,.ref l,.ref J0]∧aE l=some (.list 1 [.str parent 0])∧(i=0→aE=upd H J0 (.list 8 [.str name 0]))∧(i=1→fk g aE (cK.take k)∧jA g H aE∧(∃ec,qM g aE "error-conditions" (.ref ec)∧Sym aE (.ref ec) 32 "error-conditions")∧aE J0=some (.list 8 (gq (name::cY parent)))∧aD (aG [6,7]) H aE),⟨rfl,1,k1 _ _ hl rfl⟩,⟨rfl,k1 _ _ hl rfl,fun _=>rfl,fun e=>by cases e⟩,fun i us aE h=>⟨1,h.2.1⟩,?_,?_⟩
 .rintro i aE x hx u2 u3 u4 u5 u6 ⟨hu,qK,h0,_⟩
  cases hu;cases i with
  |succ i=>cases hx
  |zero=>
   cases hx;have h0:=h0 rfl;subst h0;have F1:=F.keep k1;refine⟨rfl,BN aA (cF rfl (oS (show 6≤m by omega) F1 (N.keep k1) iU hp (k1 _ _ qL rfl) (fun j hj=>(hk j hj).imp id fun⟨⟨e1,e2,e3⟩,v,h1,h2⟩=>⟨⟨e1,k1 _ _ e2 rfl,e3⟩,v,h1,h2.keep k1 rfl rfl rfl⟩) fun cl aH Ph mz j2 e2 k2=>?_))⟩
   rw[RG] at mz e2;have KI:aH J0=some (.list 8 [.str name 0]):=k2 _ _ aA rfl;have kj:aD (aG [6,7]) H aH:=k1.of0.trans k2;refine⟨.list cl,gq (cY parent),fun i bN aO=>aO=aH∧bN=gq ((cY parent).take i),⟨rfl,1,Ph⟩,by unfold gq;rw[dO];omega,⟨rfl,rfl⟩,fun i bN aO h=>by rw[h.1];exact⟨1,Ph⟩,?_,?_⟩
   .rintro i bN aO x ⟨rfl,rfl⟩ hx
    unfold gq at hx;rw[fL] at hx;obtain⟨y,hy,rfl⟩:=ey.mp hx;refine⟨rfl,IE (t:=8) (xs:=gq [name]) KI rQ ?_⟩
    have:(![name].contains y)=true:=by
     have:=Vc y (hZ hy)
     simp[this]
    rw[this];exact eE ⟨rfl,jw hy⟩
   .rintro bN aO ⟨rfl,rfl⟩
    have li:(gq (cY parent)).length=(cY parent).length:=by unfold gq;rw[dO]
    rw[li,iL aF];refine⟨iU.clean,1,by decide,fun D hD=>?_⟩
    have k4:aD aJ aO (upd aO D (.list 1 (gq (cY parent)))):=.new hD;have lx:([.str name 0]:aB).length+(gq (cY parent)).length≤1000000:=by rw[li];simp;omega
    refine IF (k4 _ _ KI rfl) aA (by decide) lx ?_
    have k5:aD (aG [8]) (upd aO D (.list 1 (gq (cY parent)))) (upd (upd aO D (.list 1 (gq (cY parent)))) J0 (.list 8 ([.str name 0]++gq (cY parent)))):=.set (k4 _ _ KI rfl) rfl;refine⟨rfl,k5 _ _ (k4 _ _ (k2 _ _ qK rfl) rfl) rfl,(fun e=>by cases e),fun _=>⟨(mz.keep k4).keep k5,(jA.of k1).trans (jA.trans j2 ((jA.of k4).trans (.ofM k5 rfl))),?_,aA,(kj.trans k4.of0).fresh WB⟩⟩
    obtain⟨v,⟨Km,x1,x2⟩,x3⟩:=e2 32 (by rw[jV UY];exact tA.1)
    obtain⟨sa,st,rfl,td,jz⟩:=(x3.keep k4).keep k5;exact⟨sa,⟨Km,k5 _ _ (k4 _ _ x1 rfl) rfl,x2⟩,sa,st,rfl,td,jz⟩
 .rintro aE u7 u8 u9 XB XA ⟨hu,qK,_,h1⟩
  cases hu;obtain⟨mC,i1,⟨ec,OL,sec⟩,O4,k1⟩:=h1 rfl;have F1:=F.keep k1;refine⟨iU.clean,gA F1.bH rfl rfl rfl (gM F1.fY rfl (cF rfl (g7 (show 4≤m by omega) F1 mC (hZ Df) fun v j aH mz hj s2 k2 aa5 i2=>?_)))⟩
  rw[gP Df] at mz hj;have hj:=oE Df hj;subst hj;have kj:=k1.trans k2;have Uj:(gq (name::cY parent)).length=(cY parent).length+1:=by unfold gq;rw[dO];rfl
  refine⟨.list J0,gq (name::cY parent),fun i bN aO=>fk g aO (cK.take (j+1))∧sD aO bN ((name::cY parent).take i)∧(∀x∈bN,handedIn x=true)∧jA g aH aO∧aD (aG [6,7]) aH aO,⟨rfl,8,k2 _ _ O4 rfl⟩,by omega,⟨mz,trivial,fun x hx=>(by cases hx),.refl,.refl⟩,fun i bN aO h=>⟨8,h.2.2.2.2 _ _ (k2 _ _ O4 rfl) rfl⟩,?_,?_⟩
  .rintro i bN aO x ⟨Lb,sy,hh,i3,k3⟩ hx
   unfold gq at hx;rw[fL] at hx;obtain⟨y,hy,rfl⟩:=ey.mp hx;obtain⟨c1,c2,c3⟩:=Vd y (hZ hy);have F3:=(F.keep kj).keep k3;refine⟨rfl,eE (gA F3.bH rfl rfl rfl (gM F3.fY rfl (cF rfl (g7 (show 4≤m by omega) F3 Lb (tw c1) fun v2 j2 bI BA Ol s4 k4 _ i4=>?_))))⟩
   rw[jN c1] at BA Ol;refine⟨BA,?_,fun x hx=>?_,i3.trans i4,k3.trans k4⟩
   .obtain⟨fT,Y1⟩:=cQ.mp hy
    rw[jm fT,Y1];refine sD.snoc ⟨j2,?_,s4⟩ (sy.keep k4 rfl rfl);have z0:cK[0]?=some ("nil":Str):=by decide+kernel
    have z1:cK[1]?=some ("t":Str):=by decide+kernel
    have n0:j2≠0:=fun e=>by
     subst e;rw[jV (by omega),z0] at Ol
     exact c2 (gZ Ol).symm
    have n1:j2≠1:=fun e=>by
     subst e;rw[jV (by omega),z1] at Ol
     exact c3 (gZ Ol).symm
    omega
   .rcases dR.mp hx with hx|hx
    .exact hh x hx
    .rw[dQ.mp hx];obtain⟨sa,st,rfl,_⟩:=s4;rfl
  .rintro bN aO ⟨Lb,sy,hh,i3,k3⟩
   rw[Uj,iL (by simp)] at sy
   refine⟨iU.clean,1,by decide,fun D hD=>?_⟩
   have k4:aD aJ aO (upd aO D (.list 1 bN)):=.new hD;have vN:bN.length=(cY parent).length+1:=by rw[sy.len];rfl
   refine oz (t:=1) (show 3≤m by omega) rfl hh (by omega) aA (by decide) fun bG cI r5 Ze k5=>?_
   have Bi:=k4.trans k5;have nW:aD (aG [6,7]) H cI:=kj.trans (k3.trans Bi.of0);have F5:=F.keep nW;have em:("error-conditions":Str)∈cK.take (j+1):=hZ (i:=32) (by rw[jV (by omega)];exact tA.1)
   refine gA F5.bH rfl rfl rfl (gM F5.cells rfl (gA F5.bH rfl rfl rfl (gM F5.fY rfl (cF rfl (g7 (show 4≤m by omega) F5 (Lb.keep Bi) (tw em) fun wv j6 cC Pw hj6 s6 k6 Uu i6=>?_)))))
   rw[jN em] at Pw;have Sv:jA g aE cC:=jA.trans i2 (i3.trans ((jA.of Bi).trans i6))
   have:wv=.ref ec:=Uu.fn (Sv _ _ OL)
   subst this;have vH:=nW.trans k6;have F6:=F.keep vH;have J3:aD (aG [6,7]) aH cC:=k3.trans (Bi.of0.trans k6);refine cF rfl (BZ (show 3≤m by omega) F6 (s2.keep J3) (vH _ _ qL rfl) QY (by omega) fun a d cZ Tb Gw nQ Z0 Oe k7=>?_)
   have tV:aD (aG [6,7,63]) H cZ:=(CS vH).trans (Lg k7);have F7:=F.keep tV;have VI:=Pw.keep k7;refine gA F7.bH rfl rfl rfl (gM F7.cells rfl (gA F7.bH rfl rfl rfl (gM F7.fY rfl (cF rfl (g7 (show 4≤m by omega) F7 VI (hZ tA.2.1) fun mv j8 gI K9 hj8 s8 k8 aa4 i8=>?_)))))
   refine cF rfl (BY (show 3≤m by omega) GR Gu fun tx eI k9=>?_)
   have Jg:aD (aG [6,7]) cZ eI:=k8.trans k9.of0;have YP:aD (aG [6,7,63]) cZ eI:=CS Jg;have Cs:=tV.trans YP;have F9:=F.keep Cs;have TY:=((((sec.keep k2).keep J3).keep k7).keep Jg);have XT:=s8.keep k9;obtain⟨ea,et,S1,het,WJ⟩:=id TY;obtain⟨ma,mt,rfl,hmt,Jm⟩:=id XT;cases S1;have ne:ec≠ma:=fun e=>by
    subst e;rw[WJ] at Jm;simp only[mJ,AO.inst.injEq,uq,tr] at Jm;exact tA.2.2 Jm.2.2.2.1.1
   have Ke:=Jg _ _ Z0 rfl;have tZ:=Jg _ _ nQ rfl;have Wy:=Jg _ _ Oe rfl;refine cF rfl (vr (a:=a) (d:=d) (kx:=ec) (ky:=ma) (show 3≤m by omega) F9 (((s2.keep J3).keep k7).keep Jg) Wy (by rw[bK,bE rfl]) tZ Ke WJ Jm rfl (jP Jm rfl) ne Ze fun fr HA ZZ kA=>?_)
   have kd:∀{b:Addr} {o:AO},eI b=some o→(∀xs,o≠.inst 64 119 xs)→HA b=some o:=fun{b o} h gz=>kA b o (fun e=>by subst e;rw[Ke] at h;exact gz _ (gZ h).symm) h
   have kT:aD (aG [64]) eI HA:=fun b o h Yt=>kA b o (fun e=>by subst e;rw[Ke] at h;cases h;cases Yt) h
   have Yq:a≠d:=fun e=>by
    subst e;rw[tZ] at Ke;simp only[mJ,AO.inst.injEq,uq] at Ke;have e1:(Value.ref ec:aC)=bG:=Ke.2.2.1;have e2:(Value.ref a:aC)=.ref 98:=Ke.2.2.2.1;cases e2;rw[Cs _ _ F.nil rfl] at tZ;cases tZ
   refine q ec a HA ?_ ?_ ?_ (kT _ _ Wy rfl) ⟨a,d,bG,.ref fr,bN,rfl,kA a _ Yq tZ,ZZ,rfl,?_,?_,by omega⟩ ?_
   .exact(K9.keep k9).keep kT
   .exact i1.trans (jA.trans Sv ((jA.ofM k7 rfl).trans (jA.trans i8 ((jA.of k9).trans (.ofM kT rfl)))))
   .obtain⟨e1,x1,x2⟩:=(i8 _ _ ((jA.ofM k7 rfl) _ _ (Sv _ _ OL)))
    exact⟨e1,kT _ _ (k9 _ _ x1 rfl) rfl,x2⟩
   .exact((((r5.keep k6).keep k7).keep Jg).keep kT)
   .exact(((((sy.keep Bi rfl rfl).keep k6 rfl rfl).keep k7 rfl rfl).keep Jg rfl rfl).keep kT rfl rfl)
   .intro b o hb mb
    exact kA b o (fun e=>by subst e;have:=CS vH _ _ hb mb;rw[Gw] at this;cases this) (Cs b o hb mb)
def allR:List ib:=ve++bindR++Dj++Dm
theorem IJ:allR.map (·.nm)=(cK.drop 2).take 28:=by decide+kernel
theorem II{k:Nat}{r:ib}(h:allR[k]?=some r):cK[2+k]?=some r.nm∧(r.C=458∨r.C=418):=by
 have fT:k < 28:=(cQ.mp h).1
 constructor
 .have:(allR.map (·.nm))[k]?=some r.nm:=by rw[fL,h];rfl
  rw[IJ,jV fT,List.getElem?_drop] at this;exact this
 .have:(allR.all fun r=>r.C==458||r.C==418)=true:=rfl
  have:=dC.mp this r (hZ h)
  simpa using this
theorem aD.sub{l l':fu}(k:aD (aG l) H H')(h:∀t∈l,t∈l'):aD (aG l') H H':=k.mono fun t ht=>by
 unfold aG at ht⊢;rw[jl] at ht⊢;exact fun q=>ht (fM.mpr (h t (fM.mp q)))
abbrev mB:fu:=[5,6,7,61,62,63]
theorem ko.gV(F:ko g H):ko (g.gV a) H:=⟨F.nil,F.t,F.bH,F.iY,F.vars,F.fY,F.cells,F.bare,F.jG⟩
theorem fk.gV(N:fk g H nl):fk (g.gV a) H nl:=⟨N.tab,N.rows,N.nodup,N.sub⟩
theorem TR{k:Nat}{nm:Str}{lo hi:Int}{w:Addr}(hF:km H rs vs)(qL:H g.fns=some (.aX 62 es))(Jq:∀(k:Nat) v,vs[k]?=some v→valueAt es (2+k:Nat)=some v)(hr:rs[k]?=some ⟨C,nm,lo,hi,w⟩):∃f nm,FnAt H g.fns (2+k:Nat) f C [.str nm 0,.int lo 0,.int hi 0,.ref w]:=by
 have fT:k < vs.length:=by rw[hF.len];exact(cQ.mp hr).1
 have hv:vs[k]?=some vs[k]:=lr fT;obtain⟨r,h1,f,h2,h3⟩:=hF.at hv;rw[hr] at h1;cases h1;exact⟨f,nm,⟨es,qL,by rw[Jq k _ hv,h2]⟩,h3⟩
theorem Fy:cK[30]?=some ("note":Str)∧cK[31]?=some ("error":Str)∧cK[33]?=some ("wrong":Str)∧cK[35]?=some ("far-wrong":Str)∧cK[36]?=some ("v":Str)∧(∀x∈[("wrong":Str),"error"],x∈cK.take 34∧x≠"nil"∧x≠"t")∧(∀x∈[("far-wrong":Str),"wrong","error"],x∈cK.take 36∧x≠"nil"∧x≠"t")∧cY "error"=[("error":Str)]∧cY "wrong"=[("wrong":Str),"error"]∧("error":Str)∈jH∧("wrong":Str)∈cK.take 35∧("error-conditions":Str)∈cK.take 35∧("error-message":Str)∈cK.take 36∧(("error":Str)≠"wrong"∧("wrong":Str)≠"far-wrong"∧("error":Str)≠"far-wrong"):=by
 refine⟨?_,?_,?_,?_,?_,?_,?_,?_,?_,?_,?_,?_,?_,?_⟩<;>decide+kernel
theorem oH:(("Wrong":Str).cps.all (· < 128)=true∧("Wrong":Str).cps.toList.length≤1000)∧(("Far wrong":Str).cps.all (· < 128)=true∧("Far wrong":Str).cps.toList.length≤1000):=by decide+kernel
theorem IC(hn:12≤n)(w:W1 g H)(pN:H nd=some (.list 10 []))(hT:H eb=some (.raw 61 (tabObj #[])))(q:∀g':G,∀H',g'.bH=g.bH→g'.aY=g.aY→g'.fc=nd→ko g' H'→Wd g' H'→fk g' H' (cK.take 37)→qM g' H' "error-conditions" (.ref g'.vL)→H' g'.dflt=some (.aX 5 (stored [] 36 (.int 77 0)))→H' g'.aY=some (.inst 2 1132 [.ref g'.bH,.int 100000 0,.ref g'.iB,.int 0 0,.ref 98,.int 0 0,.ref g'.iY])→H' g'.iB=some (.list 3 [])→H' g'.rows=some (.list 4 [])→H' nd=some (.list 10 [])→aD (aG mB) H H'→(∃ps,H' eb=some (.raw 61 (tabObj ps)))→Q .none H'):Sat S n none (.ref 2023) [.ref g.bH,.ref nd] H Q E:=by
 obtain⟨m,rfl,hm⟩:=dN hn;refine Lx ?_;unfold zW;have F:=w.fix;refine gM F.bH rfl (cF rfl (zd (show 3≤m by omega) fun l1 v1 aE qK f1 k1=>cF rfl (B3 (show 3≤m by omega) fun l2 v2 aH sz f2 k2=>?_)))
 have z1:v1.length=11:=f1.len;have z2:v2.length=4:=f2.len;have lx:v1.length+v2.length≤1000000:=by omega
 refine Bz 1 (by decide) (k2 _ _ qK rfl) sz lx fun l3 xw=>?_
 have k3:aD aJ aH (upd aH l3 (.list 1 (v1++v2))):=.new xw;refine cF rfl (Iz (show 3≤m by omega) fun l4 v4 bI Gv f4 k4=>?_)
 have z4:v4.length=4:=f4.len;have lx:(v1++v2).length+v4.length≤1000000:=by simp;omega
 refine Bz 1 (by decide) (k4 _ _ aA rfl) Gv lx fun l5 Jn=>?_
 have k5:aD aJ bI (upd bI l5 (.list 1 (v1++v2++v4))):=.new Jn;refine cF rfl (B2 (show 3≤m by omega) fun l6 v6 cC NG f6 k6=>?_)
 have z6:v6.length=9:=f6.len;have lx:(v1++v2++v4).length+v6.length≤1000000:=by simp;omega
 refine Bz 1 (by decide) (k6 _ _ aA rfl) NG lx fun l7 GS=>?_
 have k7:aD aJ cC (upd cC l7 (.list 1 (v1++v2++v4++v6))):=.new GS;obtain⟨cZ,WT⟩:∃cZ,cZ=upd cC l7 (.list 1 (v1++v2++v4++v6)):=⟨_,rfl⟩;have UX:cZ l7=some (.list 1 (v1++v2++v4++v6)):=by rw[WT];exact aA
 rw[←WT] at k7⊢;have tV:=k6.trans k7;have Bh:=k4.trans (k5.trans tV);have Wk:=k2.trans (k3.trans Bh);have iT:aD aJ H cZ:=k1.trans Wk;have Pm:km cZ allR (v1++v2++v4++v6):=(((km.keep Wk rfl f1).append (km.keep (k3.trans Bh) rfl f2)).append (km.keep (k5.trans tV) rfl f4)).append (km.keep k7 rfl f6);have F7:=F.keep iT;refine cF rfl (qp (rs:=allR) (show 7≤m by omega) F7 (w.namesOk.keep iT) UX Pm (fun k r=>II) (by decide) (iT _ _ w.fns rfl) fun es gI K9 qL RM Jq Gs k8=>?_)
 have Bk:aD (aG mB) H gI:=iT.of0.trans (k8.sub (by simp))
 have F8:=F.keep Bk;obtain⟨Tv,Xa,Tu,b35,Tt,bw,bf,ce,cw,be,mw,Yu,Un,ne⟩:=Fy;refine gA F8.bH rfl rfl rfl (gM F8.cells rfl (gM F8.bH rfl (cF rfl (lP (show 5≤m by omega) F8 K9 (hZ Tv) fun sv j eI Pu hj s9 k9 _ _=>?_))))
 rw[show 2+allR.length=30 from rfl,gP Tv] at Pu hj
 have hj:=oE Tv hj;subst hj;have Cs:aD (aG mB) H eI:=Bk.trans (k9.sub (by simp))
 have WQ:eI eb=some (.raw 61 (tabObj #[])):=k9 _ _ (k8 _ _ (iT _ _ hT rfl) rfl) rfl;obtain⟨m',rfl,qJ⟩:=dN (show 1≤m by omega)
 refine cF rfl (Iy WQ fun dd HA hD kA hTA=>?_)
 have We:aD (aG [61]) eI HA:=fun a o h mt=>kA a o (fun e=>by subst e;rw[WQ] at h;cases h;cases mt) h
 have J4:aD (aG mB) H HA:=Cs.trans (We.sub (by simp))
 refine h9 1 (by decide) (fI:=180) rfl rfl (show 2≤m'+1 by omega) fun fa k' qu SY=>?_
 have NJ:handedIn dd=true:=by obtain⟨_,_,_,_,_,_,_,_,rfl,_⟩:=hD;rfl
 refine Qv ?_;unfold Ej;refine sA aA rfl (by decide) aF ?_
 rw[bF];refine sA aA rfl (by decide) aF ?_
 rw[bF];refine sA aA rfl (by decide) aF ?_
 rw[bF];refine sA aA rfl (by decide) aF ?_
 rw[bF];refine sA aA rfl (by decide) aF ?_
 rw[bF];have kB:aD aJ HA (upd HA fa (.inst 1 183 [.int 1 0,.str "note" 0,.int 1 0,.int 1 0,dd])):=.new SY;obtain⟨HB,WS⟩:∃HB,HB=upd HA fa (.inst 1 183 [.int 1 0,.str "note" 0,.int 1 0,.int 1 0,dd]):=⟨_,rfl⟩;have O9:HB fa=some (.inst 1 183 [.int 1 0,.str "note" 0,.int 1 0,.int 1 0,dd]):=by rw[WS];exact aA
 refine⟨rfl,?_⟩;show cV _ (upd HA fa (.inst 1 183 [.int 1 0,.str "note" 0,.int 1 0,.int 1 0,dd])) _ _ _ _;rw[←WS] at kB⊢;have Gr:aD (aG [61]) eI HB:=We.trans kB.of0;have Wo:aD (aG mB) H HB:=Cs.trans (Gr.sub (by simp))
 have FB:=F.keep Wo;have Pb:=Gr _ _ (k9 _ _ qL rfl) rfl;refine cF rfl (lT (show 2≤m'+1 by omega) FB (s9.keep Gr) (by decide) O9 (.inr (.inr rfl)) Pb (by have:allR.length=28:=rfl;omega) fun HC kC=>?_)
 have U5:=kC _ _ Pb rfl;have kD:aD (aG [62]) HC (upd HC g.fns (.aX 62 (stored es (30:Nat) (.ref fa)))):=.set U5 rfl;obtain⟨HD,Tc⟩:∃HD,HD=upd HC g.fns (.aX 62 (stored es (30:Nat) (.ref fa))):=⟨_,rfl⟩;have U4:HD g.fns=some (.aX 62 (stored es (30:Nat) (.ref fa))):=by rw[Tc];exact aA
 rw[←Tc] at kD;show bJ (upd HC g.fns (.aX 62 (stored es (30:Nat) (.ref fa)))) _ _;rw[←Tc];have NZ:aD (aG [62]) HB HD:=kC.of0.trans kD;have Wn:aD (aG mB) H HD:=Wo.trans (NZ.sub (by simp))
 have Ru:aD (aG [61,62]) eI HD:=(Gr.sub (by simp)).trans (NZ.sub (by simp))
 have ND:fk g HD (cK.take 31):=Pu.keep Ru;refine zj (by simp) fun e1 HE kE _ S1=>?_
 have UP:HE g.eJ=some (.aX 63 []):=kE _ _ (Ru _ _ (k9 _ _ (k8 _ _ (iT _ _ w.eJ rfl) rfl) rfl) rfl) rfl;have Wm:aD (aG mB) H HE:=Wn.trans kE.of0;have FE:=F.keep Wm;have a31:fC (cK.take 31) "error"=cK.take 32:=gP Xa;refine cF rfl (lV (k0:=31) (k:=33) (show 8≤m'+1 by omega) FE (ND.keep kE) (hZ Xa) (by rw[a31];exact gP tA.1) (by decide) Tu UP (by simp) rfl (fun j hj=>.inl ⟨rfl,be⟩) (fun x hx=>by rw[ce] at hx;rw[dQ.mp hx];exact ne.1) (by rw[ce];exact bw) (by rw[ce];decide) oH.1.1 oH.1.2 S1 fun ec a1 HF NF iF Ut X8 V2 kF=>?_)
 rw[show fC (cK.take (33+1)) ("error-message":Str)=cK.take 35 from gP tA.2.1] at NF
 rw[ce] at V2;have YT:aD (aG mB) H HF:=Wm.trans (kF.sub (by simp))
 refine zj (by simp) fun e2 HG kG _ ZW=>?_
 have X7:=kG _ _ X8 rfl;have OK:qM (g.gV ec) HG "error-conditions" (.ref ec):=(jA.of kG) _ _ Ut;have V1:qQ (g.gV ec) HG (.ref a1) ["wrong","error"]:=V2.keep kG rfl rfl rfl;have Wl:aD (aG mB) H HG:=YT.trans kG.of0;have FG:ko (g.gV ec) HG:=(F.keep Wl).gV;have R4:fC (fC (cK.take 35) ("wrong":Str)) "error-conditions"=cK.take 35:=by rw[jN mw,jN Yu]
 refine cF rfl (lV (g:=g.gV ec) (k0:=35) (k:=35) (es:=stored [] (33:Nat) (.ref a1)) (show 8≤m'+1 by omega) FG ((NF.keep kG).gV) (hZ Tu) R4 (by decide) b35 X7 (by have:=pD ([]:List (Int×aC)) ((33:Nat):Int) (.ref a1);simp only[rC] at this;exact gX this (by decide)) (by rw[bK,aR (by decide)];rfl) (fun j hj=>.inr ⟨OK,.ref a1,?_,by rw[cw];exact V1⟩) (fun x hx=>?_) (by rw[cw];exact bf) (by rw[cw];decide) oH.2.1 oH.2.2 ZW fun Kn a2 HH NH iH OJ X6 V0 kH=>?_)
 .rw[jN mw] at hj
  have:j=33:=(jW (cQ.mp hj).1 (nN.sublist (List.take_sublist _ _))).mp (hj.trans (by rw[jV (by decide)];exact Tu.symm))
  subst this;rw[bK,bE rfl]
 .rw[cw] at hx
  rcases bS.mp hx with rfl|hx
  .exact ne.2.1
  .rw[dQ.mp hx];exact ne.2.2
 have eec:Kn=ec:=by have:=OJ.fn (iH _ _ OK);cases this;rfl
 subst eec;rw[cw] at V0;rw[show fC (cK.take (35+1)) ("error-message":Str)=cK.take 36 from jN Un] at NH
 have YS:aD (aG mB) H HH:=Wl.trans (kH.sub (by simp))
 have FH:ko (g.gV Kn) HH:=(F.keep YS).gV;refine gA FH.bH rfl rfl rfl (gM FH.vars rfl (gM FH.bH rfl (cF rfl (lP (g:=g.gV Kn) (show 5≤m'+1 by omega) FH NH (hZ Tt) fun vv jv HI NI RH sI kI aa3 iI=>?_))))
 rw[gP Tt] at NI RH;have RH:=oE Tt RH;subst RH;have FI:=FH.keep kI;obtain⟨va,vt,rfl,hvt,Y9⟩:=sI;have W4:HI g.dflt=some (.aX 5 []):=kI _ _ (kH _ _ (kG _ _ (kF _ _ (kE _ _ (Ru _ _ (k9 _ _ (k8 _ _ (iT _ _ w.dflt rfl) rfl) rfl) rfl) rfl) rfl) rfl) rfl) rfl;refine gA Y9 rfl rfl rfl (cF rfl (jx (g:=g.gV Kn) (show 1≤m'+1 by omega) FI W4 (by simp) ?_))
 have kJ:aD (aG [5]) HI (upd HI g.dflt (.aX 5 (stored [] 36 (.int 77 0)))):=.set W4 rfl;have Rt:aD (aG [5,6,7]) HH (upd HI g.dflt (.aX 5 (stored [] 36 (.int 77 0)))):=(kI.sub (by simp)).trans (kJ.sub (by simp))
 have Nu:aD (aG [5,6,7,63]) HD (upd HI g.dflt (.aX 5 (stored [] 36 (.int 77 0)))):=kE.of0.trans ((kF.sub (by simp)).trans (kG.of0.trans ((kH.sub (by simp)).trans (Rt.sub (by simp)))))
 have N1:aD (aG mB) H (upd HI g.dflt (.aX 5 (stored [] 36 (.int 77 0)))):=Wn.trans (Nu.sub (by simp))
 have YI:aD (aG [5,6,7,61,62,63]) cZ (upd HI g.dflt (.aX 5 (stored [] 36 (.int 77 0)))):=(k8.sub (by simp)).trans ((k9.sub (by simp)).trans ((Ru.sub (by simp)).trans (Nu.sub (by simp))))
 have fJ:km (upd HI g.dflt (.aX 5 (stored [] 36 (.int 77 0)))) allR (v1++v2++v4++v6):=km.keep YI rfl Pm;have Pa:=Nu _ _ U4 rfl;have Vl:∀(k:Nat) v,(v1++v2++v4++v6)[k]?=some v→valueAt (stored es (30:Nat) (.ref fa)) (2+k:Nat)=some v:=fun k v hv=>by
  have:k < 28:=by have:=(cQ.mp hv).1;simp at this;omega
  rw[bK,aR (by omega)]
  exact Jq k v hv
 have sp:=fun{k:Nat} {C:Addr} {nm:Str} {lo hi:Int} {w:Addr} (hr:allR[k]?=some ⟨C,nm,lo,hi,w⟩)=>TR (g:=g) fJ Pa Vl hr
 have YK:aD (aG [5,6,7,61,62,63]) HA (upd HI g.dflt (.aX 5 (stored [] 36 (.int 77 0)))):=kB.of0.trans ((NZ.sub (by simp)).trans (Nu.sub (by simp)))
 have YJ:aD (aG [5,6,7,61,62,63]) HB (upd HI g.dflt (.aX 5 (stored [] 36 (.int 77 0)))):=(NZ.sub (by simp)).trans (Nu.sub (by simp))
 have X5:=Rt _ _ X6 rfl;have Us:qM (g.gV Kn) (upd HI g.dflt (.aX 5 (stored [] 36 (.int 77 0)))) "error-conditions" (.ref Kn):=(jA.ofM kJ rfl) _ _ (iI _ _ OJ);refine q {(g.gV Kn) with fc:=nd} _ rfl rfl rfl ⟨FI.nil.keep kJ,kJ _ _ FI.t rfl,kJ _ _ FI.bH rfl,kJ _ _ FI.iY rfl,kJ _ _ FI.vars rfl,kJ _ _ FI.fY rfl,kJ _ _ FI.cells rfl,kJ _ _ FI.bare rfl,kJ _ _ FI.jG rfl⟩ ⟨sp (k:=0) rfl,sp (k:=2) rfl,sp (k:=13) rfl,sp (k:=15) rfl,sp (k:=16) rfl,sp (k:=17) rfl,sp (k:=22) rfl,sp (k:=23) rfl,⟨fa,dd,⟨⟨_,Pa,by rw[bK];exact bE rfl⟩,YJ _ _ O9 rfl⟩,hD.keep YK rfl,NJ⟩,⟨_,X5,⟨.ref a1,by rw[bK,aR (by decide),bK];exact bE rfl,(V1.keep kH rfl rfl rfl).keep Rt rfl rfl rfl⟩,⟨.ref a2,by rw[bK];exact bE rfl,V0.keep Rt rfl rfl rfl⟩,fun i h1 h2=>by rw[bK,aR (by simpa using h2),bK,aR (by simpa using h1)];rfl⟩⟩ ⟨(NI.keep kJ).tab,(NI.keep kJ).rows,NI.nodup,NI.sub⟩ Us aA (N1 _ _ w.aY rfl) (N1 _ _ w.iB rfl) (N1 _ _ w.rows rfl) (N1 _ _ pN rfl) N1 ?_
 obtain⟨ps,Jl⟩:=hTA;have Ur:aD (aG [5,6,7,62,63]) HA (upd HI g.dflt (.aX 5 (stored [] 36 (.int 77 0)))):=kB.of0.trans ((NZ.sub (by simp)).trans (Nu.sub (by simp)))
 exact⟨ps,Ur _ _ Jl rfl⟩
def R7(nm:Str)(ds:bQ):Prop:=(nm="no-catch"∧∃a b,ds=[a,b])∨(nm≠"no-catch"∧∃a,ds=[a])
theorem Fq{c:Nat}:eW c≠"no-catch":=by
 have h:(sP.all fun x=>x != ("no-catch":Str))=true∧("error":Str)≠"no-catch":=by decide+kernel
 unfold eW;rw[yf];cases e:sP[c]? with
 |none=>exact h.2
 |some x=>exact nq.mp (dC.mp h.1 x (hZ e))
mutual
theorem ir:∀(f:Fm) {aI:bQ} {nm:Str} {ds:bQ},(bG aI f).1=.sig nm ds→R7 nm ds
 | .note k,aI,nm,ds,h=>by simp[bG] at h
 | .sig c k,aI,nm,ds,h=>by
  simp only[bG,Out.sig.injEq] at h;obtain⟨rfl,rfl⟩:=h;exact .inr ⟨Fq,_,rfl⟩
 | .fS t k,aI,nm,ds,h=>by
  simp only[bG] at h;split at h
  .cases h
  .simp only[Out.sig.injEq] at h
   obtain⟨rfl,rfl⟩:=h;exact .inl ⟨rfl,_,_,rfl⟩
 | .fN fs,aI,nm,ds,h=>by simp only[bG] at h;exact wA fs h
 | .eR t f,aI,nm,ds,h=>by
  simp only[bG] at h;split at h
  .split at h<;>cases h
  .exact ir f h
 | .unwind f g,aI,nm,ds,h=>by
  simp only[bG] at h;split at h
  .exact ir f h
  .exact ir g h
 | .iV k f,aI,nm,ds,h=>by
  simp only[bG] at h;unfold Out.seq at h;split at h
  .cases h
  .rename_i e;exact ir f (aI:=aI) (by rw[e];exact h)
  .cases h
 | .case f rs,aI,nm,ds,h=>by
  simp only[bG] at h;split at h
  .rename_i mo xA ns e
   have:=ir f (aI:=aI) (nm:=mo) (ds:=xA) (by rw[e])
   exact zQ rs this h
  .exact ir f h
theorem wA:∀(fs:gU) {aI:bQ} {k:Int} {nm:Str} {ds:bQ},(fb aI k fs).1=.sig nm ds→R7 nm ds
 | .nil,aI,k,nm,ds,h=>by simp[fb] at h
 | .cons f r,aI,k,nm,ds,h=>by
  simp only[fb] at h;split at h
  .exact wA r h
  .exact ir f h
theorem zQ:∀(rs:gm) {aI:bQ} {mo:Str} {xA:bQ} {ns:cO} {nm:Str} {ds:bQ},R7 mo xA→(gB aI mo xA ns rs).1=.sig nm ds→R7 nm ds
 | .nil,aI,mo,xA,ns,nm,ds,h0,h=>by simp only[gB,Out.sig.injEq] at h;obtain⟨rfl,rfl⟩:=h;exact h0
 | .cons cs f r,aI,mo,xA,ns,nm,ds,h0,h=>by
  simp only[gB] at h;split at h
  .exact ir f h
  .exact zQ r h0 h
end
def GN(d:PyData):Prop:=d.canLay0=true∧d.depth≤3
theorem KY:∀ds:bQ,PyData.canLayAll0 (ds.map .int)=true∧PyData.depthAll (ds.map .int)≤1
 |[]=>⟨rfl,g6 _⟩
 |_::r=>⟨by rw[fj,PyData.canLayAll0,(KY r).1];rfl,by have:=(KY r).2;rw[fj,PyData.depthAll];simp only[PyData.depth];omega⟩
theorem Jy:(mX.all fun x=>PyData.strOk x)=true:=by decide+kernel
theorem Ih{nm:Str}{ds:bQ}(h:nm∈mX):GN (lJ nm ds):=by
 obtain⟨a,b⟩:=KY ds;have s:=dC.mp Jy nm h;unfold GN lJ;simp only[PyData.canLay0,PyData.canLayAll0,PyData.depth,PyData.depthAll,a,s];exact⟨rfl,by omega⟩
mutual
theorem gQ:∀(f:Fm) {aI:bQ},∀d∈(bG aI f).2,GN d
 | .note k,aI,d,h=>by simp only[bG,dQ] at h;subst h;exact⟨by simp only[PyData.canLay0],by simp only[PyData.depth];omega⟩
 | .sig c k,aI,d,h=>by simp only[bG] at h;cases h
 | .fS t k,aI,d,h=>by simp only[bG] at h;cases h
 | .fN fs,aI,d,h=>by simp only[bG] at h;exact wC fs d h
 | .eR t f,aI,d,h=>by
  simp only[bG] at h
  have:=fun ns (e:ns=(bG (aI++[t]) f).2) (h:d∈ns)=>gQ f d (e▸h)
  split at h
  .rename_i e;exact this _ (by rw[e]) h
  .exact this _ rfl h
 | .unwind f g,aI,d,h=>by
  simp only[bG] at h;split at h<;>exact(dR.mp h).elim (gQ f d) (gQ g d)
 | .iV k f,aI,d,h=>by
  simp only[bG] at h
  have:=fun ns (e:ns=(bG aI f).2) (h:d∈ns)=>gQ f d (e▸h)
  unfold Out.seq at h;split at h
  .rename_i e;exact this _ (by rw[e]) (by simpa using h)
  .rename_i e;exact this _ (by rw[e]) h
  .rename_i e;exact this _ (by rw[e]) h
 | .case f rs,aI,d,h=>by
  simp only[bG] at h
  have:=fun ns (e:ns=(bG aI f).2) d (h:d∈ns)=>gQ f d (e▸h)
  split at h
  .rename_i mo xA ns e
   exact zR rs (fD f (aI:=aI) (nm:=mo) (ds:=xA) (by rw[e])).1 (this _ (by rw[e])) d h
  .exact this _ rfl _ h
theorem wC:∀(fs:gU) {aI:bQ} {k:Int},∀d∈(fb aI k fs).2,GN d
 | .nil,aI,k,d,h=>by simp only[fb] at h;cases h
 | .cons f r,aI,k,d,h=>by
  simp only[fb] at h
  have:=fun ns (e:ns=(bG aI f).2) (h:d∈ns)=>gQ f d (e▸h)
  split at h
  .rename_i e;exact(dR.mp h).elim (this _ (by rw[e])) (wC r d)
  .exact this _ rfl h
theorem zR:∀(rs:gm) {aI:bQ} {nm:Str} {ds:bQ} {ns:cO},nm∈mX→(∀d∈ns,GN d)→∀d∈(gB aI nm ds ns rs).2,GN d
 | .nil,aI,nm,ds,ns,h0,h1,d,h=>by simp only[gB] at h;exact h1 d h
 | .cons cs f r,aI,nm,ds,ns,h0,h1,d,h=>by
  simp only[gB] at h;split at h
  .rcases dR.mp h with h|h
   .exact h1 d h
   .rcases bS.mp h with rfl|h
    .exact Ih h0
    .exact gQ f d h
  .exact zR r h0 h1 d h
end
theorem EN:∀{ns:cO},(∀d∈ns,GN d)→PyData.canLayAll0 ns=true∧PyData.depthAll ns≤3
 |[],_=>⟨rfl,g6 _⟩
 |d::r,h=>by
  obtain⟨a,b⟩:=EN (ns:=r) fun x hx=>h x (.tail _ hx)
  obtain⟨c,e⟩:=h d (.head _);exact⟨by rw[PyData.canLayAll0,a,c];rfl,by rw[PyData.depthAll];omega⟩
variable{ys:aB}
theorem H8{k:Nat}{x:aC}{d:PyData}(h:zK x=some d):ml (k+1) H x=some d:=by
 unfold zK at h;split at h
 .cases h;rfl
 .cases h;rfl
 .cases h
theorem AZ{f g:aC→Option PyData}(h:∀x d,f x=some d→g x=some d):∀{xs:aB} {ds:cO},xs.mapM f=some ds→xs.mapM g=some ds
 |[],ds,e=>e
 |x::xs,ds,e=>by
  rw[jX] at e⊢;cases h1:f x with
  |none=>rw[h1] at e;cases e
  |some d=>
   rw[h1] at e;cases h2:xs.mapM f with
   |none=>rw[h2] at e;cases e
   |some r=>rw[h2] at e;rw[h x d h1,AZ h h2];exact e
theorem H7{d:PyData}{k:Nat}(h:lM H v d):ml (k+2) H v=some d:=by
 rcases h with ⟨i,rfl,rfl⟩|⟨a,xs,ds,rfl,h,r,rfl⟩
 .rfl
 .show(match H a with
   |some (.list _ xs)=>(xs.mapM (ml (k+1) H)).map PyData.list
   |some (.tup _ xs)=>(xs.mapM (ml (k+1) H)).map PyData.tuple
   |_=>none)=_
  rw[h]
  show(xs.mapM (ml (k+1) H)).map PyData.tuple=_
  rw[AZ (fun x d h=>H8 h) r];rfl
theorem wK{k:Nat}:∀{vs:aB} {ds:cO},cX H vs ds→vs.mapM (ml (k+2) H)=some ds
 |[],[],_=>rfl
 |v::vs,d::ds,⟨a,c⟩=>by rw[jX,H7 a,wK c];rfl
 |[],_::_,h=>h.elim
 |_::_,[],h=>h.elim
theorem Fw{Q:Bool→Prop}{ds:cO}{t t':Nat}(h:H a=some (.list t xs))(h':H b=some (.list t' ys))(n1:cX H xs ds)(n2:cX H ys ds)(gn:∀d∈ds,GN d)(q:Q false):bD H .NotEq (.ref a) (.ref b) Q:=by
 cases ys with
 |nil=>
  cases ds with
  |cons d ds=>exact n2.elim
  |nil=>
   cases xs with
   |cons x xs=>exact n1.elim
   |nil=>exact t9 h h' q
 |cons y ys=>
  unfold bD;dsimp only;rw[h,h'];dsimp only;obtain⟨c,e⟩:=EN gn;have r:∀{a xs t},H a=some (.list t xs)→cX H xs ds→ml 3 H (.ref a)=some (.list ds):=fun{a xs t} h n=>by
   show(match H a with
    |some (.list _ xs)=>(xs.mapM (ml 2 H)).map PyData.list
    |some (.tup _ xs)=>(xs.mapM (ml 2 H)).map PyData.tuple
    |_=>none)=_
   rw[h]
   show(xs.mapM (ml 2 H)).map PyData.list=_
   rw[wK n];rfl
  have c1:(PyData.list ds).canLay0=true:=by rw[PyData.canLay0];exact c
  refine⟨3,_,_,r h n1,r h' n2,c1,c1,by rw[PyData.depth];omega,?_⟩
  rw[SeqAt.eqv_refl _ c1];exact q
theorem Nc{Q:Bool→Prop}{d:PyData}{k t:Nat}(h:H a=some (.tup t xs))(r1:ml k H (.ref a)=some d)(r2:ml k H (.ref b)=some d)(c:d.canLay0=true)(e:d.depth≤40)(q:Q false):bD H .NotEq (.ref a) (.ref b) Q:=by
 unfold bD;dsimp only;rw[h];dsimp only;refine⟨k,d,d,r1,r2,c,c,e,?_⟩;rw[SeqAt.eqv_refl _ c];exact q
def Kp(H:AH)(kp:List (Addr×AO)):Prop:=∀p∈kp,H p.1=some p.2
def Kt(kp:List (Addr×AO)):Prop:=∀p∈kp,(p.2.tag < 2∨(60≤p.2.tag∧p.2.tag < 100))∧∀t k vs,p.2≠.exc t k vs
theorem yA{xs:aB}{a:Addr}:((a,AO.tup 1 xs).2.tag < 2∨(60≤(a,AO.tup 1 xs).2.tag∧(a,AO.tup 1 xs).2.tag < 100))∧∀t k vs,(a,AO.tup 1 xs).2≠.exc t k vs:=⟨.inl (show 1 < 2 by decide),fun _ _ _ h=>by cases h⟩
theorem wU:∀{vs:aB} {ds:cO},cX H vs ds→∃kp,Kp H kp∧Kt kp∧∀H',Kp H' kp→cX H' vs ds
 |[],[],_=>⟨[],fun _ h=>by (cases h),fun _ h=>by (cases h),fun _ _=>trivial⟩
 |v::vs,d::ds,⟨a,c⟩=>by
  obtain⟨kp,k1,k2,k3⟩:=wU c;rcases a with ⟨i,rfl,rfl⟩|⟨a,xs,ds,rfl,h,r,rfl⟩
  .exact⟨kp,k1,k2,fun H' h=>⟨.inl ⟨i,rfl,rfl⟩,k3 H' h⟩⟩
  .refine⟨(a,.tup 1 xs)::kp,fun p hp=>?_,fun p hp=>?_,fun H' h'=>⟨.inr ⟨a,xs,ds,rfl,h' (a,.tup 1 xs) (.head _),r,rfl⟩,k3 H' fun p hp=>h' p (.tail _ hp)⟩⟩
   .rcases bS.mp hp with rfl|hp
    .exact h
    .exact k1 p hp
   .rcases bS.mp hp with rfl|hp
    .exact yA
    .exact k2 p hp
 |[],_::_,h=>h.elim
 |_::_,[],h=>h.elim
theorem MR{o:Out}(h:p9 H o a):∃kp,Kp H kp∧Kt kp∧∀H',Kp H' kp→p9 H' o a:=by
 have one:∀{xs},H a=some (.tup 1 xs)→∃kp,Kp H kp∧Kt kp∧∀H',Kp H' kp→H' a=some (.tup 1 xs):=fun{xs} h=>
  ⟨[(a,.tup 1 xs)],fun p hp=>by rw[dQ.mp hp];exact h,fun p hp=>by rw[dQ.mp hp];exact yA,fun H' h'=>h' (a,.tup 1 xs) (.head _)⟩
 cases o with
 |val k=>exact one h
 |fS t k=>exact one h
 |sig nm ds=>
  obtain⟨x,h1,h2⟩:=h;rcases h2 with ⟨d,rfl,rfl⟩|⟨t,d1,d2,rfl,rfl,h2⟩
  .obtain⟨kp,k1,k2,k3⟩:=one h1
   exact⟨kp,k1,k2,fun H' h'=>⟨_,k3 H' h',.inl ⟨d,rfl,rfl⟩⟩⟩
  .obtain⟨kp,k1,k2,k3⟩:=one h1
   refine⟨(t,.tup 1 [.int d1 0,.int d2 0])::kp,fun p hp=>?_,fun p hp=>?_,fun H' h'=>⟨_,k3 H' fun p hp=>h' p (.tail _ hp),.inr ⟨t,d1,d2,rfl,rfl,h' (t,.tup 1 [.int d1 0,.int d2 0]) (.head _)⟩⟩⟩
   .rcases bS.mp hp with rfl|hp
    .exact h2
    .exact k1 p hp
   .rcases bS.mp hp with rfl|hp
    .exact yA
    .exact k2 p hp
theorem Na{is:bQ}(hn:1≤n)(hl:H l=some (.list t (bL is)))(hz:is.length≤1000)(q:∀d H',eS H' d→aD aJ H H'→Q (.ref d) H'):Sat S n none (.ref 1980) [.ref l] H Q E:=by
 obtain⟨m,rfl,hm⟩:=dN hn;refine LB ?_;unfold z9;refine XR 1 (by decide) hl (by decide) fun a ha=>?_
 have k1:aD aJ H (upd H a (.list 1 ((bL is).take (10:Int).toNat))):=.new ha;obtain⟨aE,WU⟩:∃aE,aE=upd H a (.list 1 ((bL is).take (10:Int).toNat)):=⟨_,rfl⟩;have sC:aE a=some (.list 1 ((bL is).take 10)):=by rw[WU];exact aA
 rw[←WU] at k1⊢;have R2:(bL is).take 10=bL (is.take 10):=by unfold bL;rw[List.map_take]
 rw[R2] at sC;have l10:(is.take 10).length≤10:=by rw[qY];omega
 have li:∀ds:bQ,(bL ds).length=ds.length:=fun ds=>by unfold bL;rw[dO]
 refine⟨.list a,bL (is.take 10),fun i bN aH=>aH=aE∧∃cs,bN=bL cs∧cs.length=i∧∀x∈cs,0≤x,⟨rfl,1,sC⟩,by rw[li];omega,⟨rfl,[],rfl,rfl,fun _ h=>by cases h⟩,fun i bN aH h=>by rw[h.1];exact⟨1,sC⟩,?_,?_⟩
 .rintro i bN aH x ⟨rfl,cs,rfl,hc,hp⟩ hx
  unfold bL at hx;rw[fL] at hx;obtain⟨y,hy,rfl⟩:=ey.mp hx;refine⟨rfl,eE ?_⟩;unfold zG;dsimp only;refine Pq (by decide) (by decide+kernel) ?_
  refine And.intro (by decide) ⟨rfl,cs++[_],by unfold bL;rw[gW];rfl,by simp[hc],fun z hz=>?_⟩
  rcases dR.mp hz with hz|hz
  .exact hp z hz
  .rw[dQ.mp hz]
   exact Int.fmod_nonneg_of_pos _ (by decide)
 .rintro bN aH ⟨rfl,cs,rfl,hc,hp⟩
  rw[li] at hc;refine⟨iU.clean,12,by decide,fun D hD=>?_⟩
  have k2:aD aJ aH (upd aH D (.list 12 (bL cs))):=.new hD;refine fB (k2 _ _ (k1 _ _ hl rfl) rfl) (pk ⟨12,cs,aA,rfl,⟨by decide,pk (nL 12 (by decide) (by simp) fun s hs=>?_)⟩⟩)
  have k3:aD aJ (upd aH D (.list 12 (bL cs))) (upd (upd aH D (.list 12 (bL cs))) s (.list 12 [.int (29+((bL is).length:Int)+cs.sum.fmod 1000003) 0])):=.new hs;refine zj (by simp) fun d cI k5 Gw hd=>?_
  have ns:D≠s:=fun e=>by subst e;rw[aA] at hs;cases hs
  have f1:=Int.fmod_nonneg_of_pos cs.sum (show(0:Int) < 1000003 by decide)
  have f2:=Int.fmod_lt_of_pos cs.sum (show(0:Int) < 1000003 by decide)
  refine q d cI ⟨D,s,cs,_,hd,ns,k5 _ _ (k3 _ _ aA rfl) rfl,k5 _ _ aA rfl,hp,by omega,?_,?_⟩ (k1.trans (k2.trans (k3.trans k5)))
  .rw[li];omega
  .rw[li]
   have:(2:Int) ^ 40=1099511627776:=by decide
   omega
theorem GJ{α:Type}{K:α}{f:α→Prop}(h:∀K',K'=K→f K'):jn K f:=h K rfl
theorem OC:("v":Str)∈cK∧cK[36]?=some ("v":Str):=by decide+kernel
variable{dn:Addr}{val ev:aC}{hU k:Nat}{bT:cO}{dd:PyData}
theorem rR(hn:5≤n)(M:ef g ie H [] val hU [] (.int 77 0) ev bT)(GU:H dn=some (.list 65 vs))(iZ:cX H vs bT)(gn:∀d∈bT,GN d)(ha:H a=some (.tup t xs))(r1:ml k H (.ref a)=some dd)(r2:ml k H (.ref b)=some dd)(c:dd.canLay0=true)(e:dd.depth≤40)(hT:∃ps,H eb=some (.raw 61 (tabObj ps)))(q:∀H',(∃ps,H' eb=some (.raw 61 (tabObj ps)))→Q (.bool true) H'):
  jn (fun(H:AH)=>aL H (.ref g.aY) "stack" fun TN=>getM H TN "depth" fun Vq Ub=>cV (⟨S,n,none⟩:Pl) H Vq (Ub++[]) (fun TO H=>bD H .Eq TO (.int 0 0) fun Pp=>aW H (.bool Pp) fun VC=>oZ .And VC (Q (.bool Pp) H) (aL H (.ref g.bH) "variables" fun TL=>getM H TL "default_value" fun Vp Ua=>getM H (.ref g.bH) "symbol" fun Vo T9=>cV (⟨S,n,none⟩:Pl) H Vo (T9++[(.str "v" 0)]) (fun TH H=>aL H TH "number" fun TJ=>cV (⟨S,n,none⟩:Pl) H Vp (Ua++[TJ]) (fun TM H=>bD H .Eq TM (.int 77 0) fun VB=>Q (.bool VB) H) fun Tx H=>E Tx H) fun Tw H=>E Tw H)) fun Tz H=>E Tz H) fun xT=>bD H .NotEq (.ref a) (.ref b) fun VA=>gk .Or VA (if false=true then(Q (.bool false) H) else(xT H)) (if true=true then(Q (.bool false) H) else(xT H)) (bD H .NotEq (.ref g.fc) (.ref dn) fun Vz=>gk .Or Vz (if false=true then(Q (.bool false) H) else(xT H)) (if true=true then(Q (.bool false) H) else(xT H)) (aL H (.ref g.aY) "frames" fun TG=>bJ H [] fun TF H=>bD H .NotEq TG TF fun Vy=>gk .Or Vy (if false=true then(Q (.bool false) H) else(xT H)) (if true=true then(Q (.bool false) H) else(xT H)) (if false=true then(Q (.bool false) H) else(xT H)))):=by
 refine GJ fun K hK=>Nc ha r1 r2 c e (xP ?_)
 obtain⟨ns,US,kR,_⟩:=M.fc;refine Fw US GU kR iZ gn (xP ?_);obtain⟨s,em,_⟩:=M.aY;refine gA em rfl rfl rfl (zj (by simp) fun z aE k1 _ hz=>t9 (k1 _ _ M.iB rfl) hz (xP (cP ?_)))
 subst hK;have M1:=M.keep k1;have F:=M1.fix;obtain⟨s,em,_⟩:=M1.aY;refine gA em rfl rfl rfl (gM F.iY rfl (cF rfl (j3 (show 1≤n by omega) M1 (kW (eX (xQ ?_))))))
 obtain⟨nl,N,pf⟩:=M1.names.ex;refine gA F.bH rfl rfl rfl (gM F.vars rfl (gM F.bH rfl (cF rfl (lP hn F N OC.1 fun sv j aH mz hj s2 k2 _ _=>?_))))
 have ej:j=36:=by
  have hJ:(fC nl "v")[36]?=some ("v":Str):=by
   have:=lI (jM (y:="v") pf) (k:=36) (x:="v") (by rw[jV (by decide)];exact OC.2)
   exact this
  exact(jW (cQ.mp hj).1 mz.nodup).mp (hj.trans hJ.symm)
 subst ej;obtain⟨sa,st,rfl,td,jz⟩:=s2;obtain⟨es,he,_,_,hv,_⟩:=M1.vars.tab;refine gA jz rfl rfl rfl (cF rfl (ig (show 1≤n by omega) (F.keep k2) (k2 _ _ he rfl) ?_))
 show bD aH .Eq ((valueAt es 36).getD .none) (.int 77 0) _;rw[hv];exact kW (q aH (hT.imp fun ps h=>k2 _ _ (k1 _ _ h rfl) rfl))
theorem VF:(cK.take 37).contains ("e":Str)=false:=by decide+kernel
theorem cb4:cb 4≤980:=by decide
theorem Vt{nl:bW}(nd:nl.Nodup)(pf:cK.take 37 <+:nl):∃ie:Int,Js nl ie∧ie≠36∧2≤ie:=by
 have low:∀k:Nat,nl[k]?=some ("e":Str)→37≤k:=fun k hk=>by
  refine Nat.le_of_not_lt fun fT=>?_
  have YF:(cK.take 37).length=37:=by decide+kernel
  have h1:(cK.take 37)[k]?=some (cK.take 37)[k]:=lr (by rw[YF];exact fT)
  have h2:=lI pf h1;rw[hk] at h2;have h3:("e":Str)∈cK.take 37:=by rw[gZ h2];exact rz _
  have:=VF
  rw[fM.mpr h3] at this;cases this
 by_cases h:∃k:Nat,nl[k]?=some ("e":Str)
 .obtain⟨k,hk⟩:=h
  have:=low k hk
  refine⟨k,fun j hj=>?_,by omega,by omega⟩
  rw[(jW (cQ.mp hj).1 nd).mp (hj.trans hk.symm)]
 .exact⟨1000,fun j hj=>absurd ⟨j,hj⟩ h,by decide,by decide⟩
theorem Ey{k:Int}{j:Nat}(h:H a=some (.tup t [.str "value" 0,.int k 0])):ml (j+2) H (.ref a)=some (.tuple [.str "value",.int k]):=by
 show(match H a with
  |some (.list _ xs)=>(xs.mapM (ml (j+1) H)).map PyData.list
  |some (.tup _ xs)=>(xs.mapM (ml (j+1) H)).map PyData.tuple
  |_=>none)=_
 rw[h];rfl
theorem uk{x:aC}{d:PyData}{j:Nat}(h:H a=some (.tup t [.str "signal" 0,.str nm 0,x]))(hx:ml (j+1) H x=some d):ml (j+2) H (.ref a)=some (.tuple [.str "signal",.str nm,d]):=by
 show(match H a with
  |some (.list _ xs)=>(xs.mapM (ml (j+1) H)).map PyData.list
  |some (.tup _ xs)=>(xs.mapM (ml (j+1) H)).map PyData.tuple
  |_=>none)=_
 rw[h]
 show([.str "signal" 0,.str nm 0,x].mapM (ml (j+1) H)).map PyData.tuple=_
 rw[jX,jX,jX,hx];rfl
theorem Ez{x y:Int}{j:Nat}(h:H a=some (.tup t [.int x 0,.int y 0])):ml (j+2) H (.ref a)=some (.tuple [.int x,.int y]):=by
 show(match H a with
  |some (.list _ xs)=>(xs.mapM (ml (j+1) H)).map PyData.list
  |some (.tup _ xs)=>(xs.mapM (ml (j+1) H)).map PyData.tuple
  |_=>none)=_
 rw[h];rfl
theorem Bo:PyData.strOk "value"=true∧PyData.strOk "signal"=true∧(("value":Str)=="value")=true∧(("signal":Str)=="value")=false:=by decide+kernel
theorem Rc{is:bQ}(hn:100≤n)(cn:CN H)(nn:mD H)(tt:H 101=some (.inst 0 92 [.int 1 0,.str "t" 0]))(hT:H eb=some (.raw 61 (tabObj #[])))(hl:H l=some (.list t (bL is)))(hz:is.length≤63)(q:∀H',(∃ps,H' eb=some (.raw 61 (tabObj ps)))→Q (.bool true) H'):Sat S n none (.ref 2030) [.ref l] H Q E:=by
 obtain⟨m,rfl,hm⟩:=dN (show 1≤n by omega)
 refine Lw ?_;unfold zV;refine cF rfl (Na (show 1≤m by omega) hl (by omega) fun d aE hD k1=>cF rfl (M7 4 (show 4+2≤m by omega) (by decide) hD fun f v aH pf hc hh Kk k2=>?_))
 have hc:=gX hc cb4;have kj:aD (aG [12]) H aH:=k1.of0.trans k2;refine nL 65 (by decide) (by simp) fun dn GU=>nL 10 (by decide) (by simp) fun nd pN=>?_
 have k3:aD aJ aH (upd aH dn (.list 65 [])):=.new GU;have k4:aD aJ (upd aH dn (.list 65 [])) (upd (upd aH dn (.list 65 [])) nd (.list 10 [])):=.new pN;obtain⟨bI,Bm⟩:∃bI,bI=upd (upd aH dn (.list 65 [])) nd (.list 10 []):=⟨_,rfl⟩;have CI:bI nd=some (.list 10 []):=by rw[Bm];exact aA
 have Va:bI dn=some (.list 65 []):=by rw[Bm];exact k4 _ _ aA rfl
 rw[←Bm] at k4⊢;have Bj:=k3.trans k4;refine oW (by simp) fun tp cI k5 xv=>GF xv rfl iU.clean ⟨rfl,rfl,nC (zj (by simp) fun tl cC k6 _ zk=>?_)⟩
 have J3:aD aJ aH cC:=Bj.trans (k5.trans k6);have Ji:aD aJ bI cC:=k5.trans k6;have vH:aD (aG [12]) H cC:=kj.trans J3.of0;refine cF rfl (lB f (aI:=[]) (ns:=[]) (vs:=[]) (show fP f+3≤m by omega) (cn.keep vH) (PF.keep J3.tk f pf) zk (by simp;omega) (Ji _ _ Va rfl) trivial (by simp;omega) fun due aQ cZ hO U9 O1 k7=>?_)
 rw[lE] at O1;have tV:aD (aG [12,65]) H cZ:=(vH.sub (by simp)).trans (k7.sub (by simp))
 refine Iv (show 6≤m by omega) (tV _ _ nn rfl) fun g0 gI w0 k8=>B1 (show 6≤m by omega) (k8 _ _ (tV _ _ nn rfl) rfl) (k8 _ _ (tV _ _ tt rfl) rfl) w0 fun g1 eI eg w1 k9=>?_
 have Jh:aD (aG [60]) cZ eI:=k8.of0.trans k9;have Rv:aD (aG [60,65]) cC eI:=(k7.sub (by simp)).trans (Jh.sub (by simp))
 rw[←eg];refine cF rfl (IC (show 12≤m by omega) w1 (Rv _ _ (Ji _ _ CI rfl) rfl) (Jh _ _ (tV _ _ hT rfl) rfl) fun g HA ew em en F W N YU WL Jm oX J6 O2 kA Jl=>?_)
 obtain⟨ps,Jl⟩:=Jl;rw[←ew,←em,←en];rw[←en] at O2;have Nx:aD (aG [5,6,7,60,61,62,63]) cZ HA:=(Jh.sub (by simp)).trans (kA.sub (by simp))
 have J4:aD (aG [5,6,7,12,60,61,62,63,65]) H HA:=(tV.sub (by simp)).trans (Nx.sub (by simp))
 have YO:aD (aG [5,6,7,60,61,62,63,65]) aH HA:=(J3.of0.trans (k7.trans (.refl))).sub (l:=[65]) (by simp) |>.trans (Nx.sub (by simp))
 have D:Dt g HA (cK.take 37):=⟨F,N,uo _,cn.keep J4⟩;have X9:PF HA f v:=PF.keep YO.tk f pf;refine⟨rfl,rfl,rfl,rfl,gM Jm rfl (cF rfl (jc f (show fP f+9≤m by omega) D X9 fun w lX HB rf hw D' pre YV kB=>cF rfl ?_))⟩
 obtain⟨ie,he,hJ,h2⟩:=Vt D'.names.nodup D'.pre;have M:ef g ie HB [] (.ref 98) 100000 [] (.int 77 0) .none []:=
  ⟨D'.fix,⟨0,kB _ _ Jm rfl,by decide⟩,rfl,kB _ _ oX rfl,by decide,⟨[],kB _ _ J6 rfl,trivial,by decide⟩,⟨⟨_,kB _ _ WL rfl,by decide,fun k hk=>.inl (dQ.mp hk),rfl,?_⟩⟩,⟨⟨lX,D'.names,D'.pre⟩,YV _ _ YU⟩,⟨[],kB _ _ O2 rfl,trivial,by decide⟩⟩
 rotate_left
 .show(valueAt [((36:Int),Value.int 77 0)] ie).getD .none=.none
  unfold valueAt;rw[ql (by simpa using fun e:(36:Int)=ie=>hJ e.symm)];rfl
 have So:aD (aG [5,6,7,60,61,62,63]) cZ HB:=Nx.trans (kB.sub (by simp))
 have U8:HB dn=some (.list 65 aQ):=So _ _ U9 rfl;obtain⟨Rr,p1,p2,p3⟩:=wU (O1.keep So);obtain⟨Rq,p4,p5,p6⟩:=MR (hO.keep So.tk);have wB:Wd g HB:=W.keep kB rfl rfl rfl rfl rfl;have kt:Kt ((eb,.raw 61 (tabObj ps))::(dn,.list 65 aQ)::(Rr++Rq)):=fun p hp=>by
  rcases bS.mp hp with rfl|hp
  .exact⟨.inr (show 60≤61∧61 < 100 by decide),fun _ _ _ h=>by cases h⟩
  rcases bS.mp hp with rfl|hp
  .exact⟨.inr (show 60≤65∧65 < 100 by decide),fun _ _ _ h=>by cases h⟩
  .exact(dR.mp hp).elim (p2 p) (p5 p)
 have YH:Kp HB ((eb,.raw 61 (tabObj ps))::(dn,.list 65 aQ)::(Rr++Rq)):=fun p hp=>by
  rcases bS.mp hp with rfl|hp
  .exact kB _ _ Jl rfl
  rcases bS.mp hp with rfl|hp
  .exact U8
  .exact(dR.mp hp).elim (p1 p) (p4 p)
 have OH:∀{HC:AH},Kp HC ((eb,.raw 61 (tabObj ps))::(dn,.list 65 aQ)::(Rr++Rq))→(∃ps,HC eb=some (.raw 61 (tabObj ps)))∧HC dn=some (.list 65 aQ)∧cX HC aQ (bG [] f).2∧p9 HC (bG [] f).1 due:=fun h=>
  ⟨⟨ps,h (eb,.raw 61 (tabObj ps)) (.head _)⟩,h (dn,.list 65 aQ) (.tail _ (.head _)),p3 _ fun p hp=>h p (.tail _ (.tail _ (ye _ hp))),p6 _ fun p hp=>h p (.tail _ (.tail _ (List.mem_append_right _ hp)))⟩
 refine M8 (kp:=(eb,.raw 61 (tabObj ps))::(dn,.list 65 aQ)::(Rr++Rq)) hJ h2 (show 50+8 * fP f≤m by omega) M wB (rf ie he) (by omega) hc (by simp;omega) ⟨77,rfl⟩ rfl hw (fun p hp=>?_) YH (fun k val hU ev HC ht MC kC=>?_) fun x t dl nm ds val hU ev HC ht hx pO MC kC=>?_
 .exact kt p hp
 .rw[lE] at MC
  obtain⟨c0,c1,c2,c3⟩:=OH kC;refine GJ fun K1 e1=>oY (c:=false) rfl (cP ?_)
  rw[e1];refine oW (by simp) fun ta HD kD Cj=>GJ fun K2 e2=>GJ fun K3 e3=>?_
  refine eO Cj rfl (cG ?_);rw[Bo.2.2.1];refine pj (eO Cj rfl (cU rfl rfl (eX (my ?_))));rw[e3];refine cP ?_;rw[e2];rw[ht] at c3;have U7:=kD _ _ c3 rfl;refine rR (k:=2) (show 5≤m by omega) (MC.keep kD) (kD _ _ c1 rfl) (c2.keep kD) (gQ f) Cj (Ey Cj) (Ey U7) ?_ ?_ (c0.imp fun _ h=>kD _ _ h rfl) q
  .simp only[PyData.canLay0,PyData.canLayAll0,Bo.1,Bool.and_self]
  .simp only[PyData.depth,PyData.depthAll];omega
 .rw[lE] at MC
  obtain⟨c0,c1,c2,c3⟩:=OH kC;rw[ht] at c3;obtain⟨x0,c4,c5⟩:=c3;obtain⟨Ym,_⟩:=fD f ht;have sO:=dC.mp Jy nm Ym;refine⟨⟨1,t,_,hx⟩,GJ fun K1 e1=>Kl hx rfl rfl (.inl rfl) (Bx ?_)⟩
  rcases ir f ht with ⟨rfl,d1,d2,rfl⟩|⟨ne,d1,rfl⟩
  .rw[show((("no-catch":Str) != "no-catch"))=false from by decide+kernel]
   refine cP (Kl hx rfl rfl (.inr rfl) (rH 1 (by decide) pO fun tu Zc=>?_))
   have kt:aD aJ HC (upd HC tu (.tup 1 (bL [d1,d2]))):=.new Zc;rw[e1];refine Kl (kt _ _ hx rfl) rfl rfl (.inl rfl) (oW (by simp) fun ta HD kD Cj=>GJ fun K2 e2=>GJ fun K3 e3=>?_)
   refine eO Cj rfl (cG ?_);rw[Bo.2.2.2];refine my ?_;rw[e3];refine cP ?_;rw[e2];have Nv:=kt.trans kD;rcases c5 with ⟨_,e,_⟩|⟨t2,b1,b2,e,rfl,c6⟩
   .cases e
   cases e;refine rR (k:=3) (show 5≤m by omega) (MC.keep Nv) (Nv _ _ c1 rfl) (c2.keep Nv) (gQ f) Cj (uk Cj (Ez (kD _ _ aA rfl))) (uk (Nv _ _ c4 rfl) (Ez (Nv _ _ c6 rfl))) ?_ ?_ (c0.imp fun _ h=>Nv _ _ h rfl) q
   .simp only[PyData.canLay0,PyData.canLayAll0,Bo.2.1,sO,Bool.and_self]
   .simp only[PyData.depth,PyData.depthAll];omega
  .rw[show(nm != ("no-catch":Str))=true from nq.mpr ne]
   refine eE (Kl hx rfl rfl (.inr rfl) (ji pO rfl ?_));rw[e1];refine Kl hx rfl rfl (.inl rfl) (oW (by simp) fun ta HD kD Cj=>GJ fun K2 e2=>GJ fun K3 e3=>?_)
   refine eO Cj rfl (cG ?_);rw[Bo.2.2.2];refine my ?_;rw[e3];refine cP ?_;rw[e2];rcases c5 with ⟨b1,e,rfl⟩|⟨t2,b1,b2,e,rfl,c6⟩
   .cases e
    refine rR (k:=2) (show 5≤m by omega) (MC.keep kD) (kD _ _ c1 rfl) (c2.keep kD) (gQ f) Cj (uk Cj (d:=.int d1) rfl) (uk (kD _ _ c4 rfl) (d:=.int d1) rfl) ?_ ?_ (c0.imp fun _ h=>kD _ _ h rfl) q
    .simp only[PyData.canLay0,PyData.canLayAll0,Bo.2.1,sO,Bool.and_self]
    .simp only[PyData.depth,PyData.depthAll];omega
   .cases e
def sL:Nat→bQ→aB
 |_,[]=>[]
 |t,i::r=>.int i t::sL (t+1) r
theorem A2:∀{is:bQ} {t:Nat},(sL t is).map er=bL is
 |[],_=>rfl
 |i::r,t=>by unfold sL bL;rw[fj,fj,A2];rfl
theorem wQ:∀{is:bQ} {t:Nat} {v:aC},v∈sL t is→∃k i,v=.int i (t+k)∧is[k]?=some i
 |[],_,_,h=>by cases h
 |i::r,t,v,h=>by
  unfold sL at h;rcases bS.mp h with rfl|h
  .exact⟨0,i,rfl,rfl⟩
  .obtain⟨k,j,e,h⟩:=wQ h
   exact⟨k+1,j,by rw[e,Nat.add_assoc,Nat.add_comm 1 k],h⟩
def pq:List (Nat×Int):=[(531,100),(533,100000),(668,-1),(914,0),(916,1),(304,0),(314,1)]
def JY(tk:Nat)(is:bQ)(t:Tok):Option Int:=if tk≤t then is[t - tk]? else pq.lookup t
theorem uK{tk:Nat}{is:bQ}{t:Nat}{i:Int}(h:pq.lookup t=some i)(hk:1000≤tk):JY tk is t=some i:=by
 have:t < 1000:=by
  have hm:(pq.all fun p=>decide (p.1 < 1000))=true:=by decide
  have:(t,i)∈pq:=by
   revert h
   generalize pq=l
   intro h
   induction l with
   |nil=>cases h
   |cons p r ih=>
    obtain⟨n,u⟩:=p;rw[eP] at h;split at h
    .rename_i q;cases h;rw[eq_of_beq q];exact .head _
    .exact .tail _ (ih h)
  exact ur (dC.mp hm _ this)
 unfold JY;rw[aR (by omega)];exact h
theorem Hr{tk:Nat}{is:bQ}{k:Nat}:JY tk is (tk+k)=is[k]?:=by
 unfold JY;rw[bE (qX _ _),Nat.add_sub_cancel_left]
theorem Ii:(tz.all fun p=>match p.2 with
 | .int i t=>t != 0&&pq.lookup t==some i
 |_=>true)=true:=by decide+kernel
theorem YB(P:Params):(KK P).lookup 98=some (instObj 92 97)∧(KK P).lookup 101=some (instObj 92 100)∧
  (KK P).lookup 97=some (dictOf [⟨PyData.keyHash P "number",.str "number" 310,.int 0 304⟩,⟨PyData.keyHash P "name",.str "name" 312,.str "nil" 305⟩] 2)∧
  (KK P).lookup 100=some (dictOf [⟨PyData.keyHash P "number",.str "number" 320,.int 1 314⟩,⟨PyData.keyHash P "name",.str "name" 322,.str "t" 315⟩] 2)∧
  (KK P).lookup 1975=some ⟨.type "tuple",none,.seq #[.str "error" 2864,.str "quit" 2865,.str "void-variable" 2866,.str "wrong" 2867,.str "far-wrong" 2868,.str "end-of-buffer" 2869] 0,#[]⟩∧(KK P).lookup 2011=none:=
 ⟨by kernel_rfl,by kernel_rfl,by kernel_rfl,by kernel_rfl,by kernel_rfl,by kernel_rfl⟩
def H0(l:Addr)(is:bQ):AH:=fun a=>if a=98 then some (.inst 0 92 [.int 0 0,.str "nil" 0]) else if a=101 then some (.inst 0 92 [.int 1 0,.str "t" 0]) else if a=1975 then some (.tup 0 (gq sP)) else if a=2011 then some (.raw 61 (tabObj #[])) else if a=l then some (.list 0 (bL is)) else none
def gone(h:Heap):Heap:=h.update eb fun _=>⟨.none,none,.freed,#[]⟩
theorem jb{h:Heap}{b:Addr}(hb:b≠eb):(gone h).get? b=h.get? b:=kz h _ (lH hb)
theorem BM{h:Heap}:(gone h).get? eb=none:=by
 unfold gone Heap.get? Heap.update;obtain⟨objs,l⟩:=h;dsimp only;rw[Array.getElem?_modify,bE rfl];cases objs[eb]?<;>rfl
theorem oK{h:Heap}{b:Addr}{o:Obj}(e:(gone h).get? b=some o):b≠eb∧h.get? b=some o:=by
 have:b≠eb:=fun q=>by subst q;rw[BM] at e;cases e
 exact⟨this,jb this▸e⟩
theorem uX{h:Heap}{a:Addr}{m:gL}(n:h.Ns a m)(ha:a≠eb):(gone h).Ns a m:=
 let⟨o,es,ep,e,r⟩:=n;⟨o,es,ep,(jb ha).trans e,r⟩
theorem Fd{w:World}{s:aK}{mg mb:gL}{l:Addr}{is:bQ}{vals:Array aC}{tk:Nat}(X:(KK w.params).In s.heap)(g:s.heap.Ns mainGlobals mg)(b:s.heap.Ns builtinsNs mb)(lim:s.heap.NoLimit)(bi:∀x:Str,x≠"__name__"→mb x=bootBuiltins x)
  (sys:∃o,s.heap.get? sysModules=some o) (bmain:∃bm o,mg "__builtins__"=some (.ref bm)∧bm≠builtinsNs∧s.heap.get? bm=some o∧o.cls=.type "module"∧o.dict=some builtinsNs∧o.data=.plain) (gens:s.gens=#[])
  (hT:s.heap.get? eb=some (tabObj #[])) (hl:s.heap.get? l=some {cls:=.type "list",data:=.seq vals}) (hv:vals.toList=sL tk is) (hz:is.length≤63) (gj:1000≤tk) (SD:tk+is.length≤s.toks):
  wpAny (model pw w) callerA (call (.ref 2030) [.ref l]) (fun v s'=>v=.bool true∧OldK s.heap s'.heap∧s'.os=s.os∧s'.gens=#[]) (fun _ _=>False) s:=by
 obtain⟨Sm,KA,Wg,OI,C8,QP⟩:=YB w.params;have ne:∀{a o},(KK w.params).lookup a=some o→a≠eb:=fun{a o} e q=>by subst q;rw[QP] at e;cases e
 obtain⟨bm,bo,b1,b2,b3,b4,b5,b6⟩:=bmain;have Yp:bm≠eb:=fun q=>by subst q;rw[hT] at b3;cases b3;cases b4
 let S:aN:={w:=w,base:=gone s.heap,mg:=mg,mb:=mb,os:=s.os,X:=fun a o e=>(jb (ne e)).trans (X a o e),g:=uX g (by decide),b:=uX b (by decide),lim:=lim.imp fun mc h=>⟨uX h.1 (by decide),h.2⟩,bi:=bi,sys:=sys.imp fun o e=>(jb (by decide)).trans e,bmain:=⟨bm,bo,b1,b2,(jb Yp).trans b3,b4,b5,b6⟩}
 have nl:∀{a o},s.heap.get? a=some o→o.cls≠.type "list"→l≠a:=fun{a o} e hc q=>by subst q;rw[hl] at e;cases e;exact hc rfl
 have Ys:l≠98:=nl (X _ _ Sm) (fun h=>by cases h)
 have Um:l≠101:=nl (X _ _ KA) (fun h=>by cases h)
 have QN:l≠1975:=nl (X _ _ C8) (by decide+kernel)
 have JM:l≠2011:=nl hT (fun h=>by cases h)
 let ρ:Addr→Role:=fun a=>if a=eb then .own else if a < s.heap.objs.size then .base else .free
 have rb:∀{a o},s.heap.get? a=some o→a≠eb→ρ a=.base:=fun{a o} e h=>by
  show(if a=eb then _ else _)=_
  rw[aR h,bE (eZ e)]
 have B:Body S ρ (JY tk is) [] (H0 l is) s:=by
  refine⟨gens,rfl,.of_keep fun b o e=>(oK e).2,fun b o e=>rb (oK e).2 (oK e).1,X,g,b,lim,fun a ha=>?_,fun t i h=>?_,dG (by decide:0 < 1000) (gX gj (gX (qX _ _) SD)),fun p hp=>(by cases hp),pA,fun a o h=>?_,fun p hp=>?_⟩
  .show(if a=eb then _ else _)=_
   have:a≠eb:=fun q=>by subst q;exact absurd (eZ hT) (pV.mpr ha)
   rw[aR this,aR (pV.mpr ha)]
  .unfold JY at h
   split at h
   .rename_i hle
    exact dG ((Nat.sub_lt_iff_lt_add hle).mp (cQ.mp h).1) (by rw[Nat.add_comm];exact SD)
   .rename_i hle
    exact dG (Nat.not_le.mp hle) (gX (qX _ _) SD)
  .unfold H0 at h
   split at h
   .rename_i q;subst q;cases h
    refine⟨97,_,2,rb (X _ _ Sm) (by decide),X _ _ Sm,rb (X _ _ Wg) (by decide),X _ _ Wg,⟨⟨_,rfl⟩,rfl,rfl,⟨_,rfl⟩,rfl,rfl,trivial⟩,fun e he=>?_⟩
    rcases bS.mp he with rfl|he
    .exact⟨by decide,uK rfl gj⟩
    .rw[dQ.mp he];exact trivial
   split at h
   .rename_i q;subst q;cases h
    refine⟨100,_,2,rb (X _ _ KA) (by decide),X _ _ KA,rb (X _ _ OI) (by decide),X _ _ OI,⟨⟨_,rfl⟩,rfl,rfl,⟨_,rfl⟩,rfl,rfl,trivial⟩,fun e he=>?_⟩
    rcases bS.mp he with rfl|he
    .exact⟨by decide,uK rfl gj⟩
    .rw[dQ.mp he];exact trivial
   split at h
   .rename_i q;subst q;cases h
    refine⟨_,0,rb (X _ _ C8) (by decide),X _ _ C8,rfl,fun v hv=>?_,by decide⟩
    simp only[bS,lF,or_false] at hv;rcases hv with rfl|rfl|rfl|rfl|rfl|rfl<;>exact trivial
   split at h
   .rename_i q;subst q;cases h
    exact⟨bE rfl,hT,fun h=>by cases h.1⟩
   split at h
   .rename_i q;subst q;cases h
    refine⟨vals,0,rb hl JM,hl,by rw[hv];exact A2,fun v Bl=>?_,by unfold bL;rw[dO];omega⟩
    rw[hv] at Bl;obtain⟨k,i,rfl,hi⟩:=wQ Bl;exact⟨q9 (dG (by decide:0 < 1000) (gX gj (qX _ _))),Hr.trans hi⟩
   .cases h
  .have:=dC.mp Ii p hp
   obtain⟨x,v⟩:=p;cases v<;>try exact trivial
   rename_i i t;simp only[dJ,nq,dE] at this;exact⟨this.1,uK this.2 gj⟩
 have Gp:=Rc (S:=S) (n:=100) (H:=H0 l is) (l:=l) (t:=0) (is:=is) (Q:=fun v H'=>v=.bool true∧∃ps,H' eb=some (.raw 61 (tabObj ps))) (E:=fun _ _=>False) aF rfl rfl rfl rfl
  (by unfold H0;rw[aR Ys,aR Um,aR QN,aR JM,bE rfl]) hz fun H' h=>⟨rfl,h⟩
 have:=Gp callerA [] [.ref l] [.ref l] s rfl (fun v h=>h) rfl rfl ⟨by decide,by decide⟩ ⟨ρ,JY tk is,B,fun v hv=>by rw[dQ.mp hv];exact trivial⟩
 refine wpAny_call (v7 this fun r s' z=>?_)
 rcases r with e|(v|_|_|_)<;>first|exact z.elim|skip
 .obtain⟨x,H',e,B',hE⟩:=z;exact hE.elim
 .obtain⟨H',⟨cH,mW,B',_⟩,Bl,ps,Jl⟩:=z
  refine⟨?_,⟨fun b o e=>?_,fun b o e=>?_⟩,B'.os,B'.gens⟩
  .rename_i v _
   cases v<;>first|(cases Bl;done)|(unfold er at Bl;exact Bl)
  .have lay:=B'.lay _ _ Jl
   by_cases hb:b=eb
   .subst hb
    rw[hT] at e;cases e;exact .inr (.inl ⟨((tM X (V8 w.params)).tab hT).isCodeTable,rfl,#[],ps,rfl,by rw[lay.2.1,Array.empty_append]⟩)
   .rcases B'.old.old b o ((jb hb).trans e) with x|⟨⟨c,oc,vs,c1,c2⟩,hc,r⟩|⟨rfl,hc,r,z⟩
    .exact .inl x
    .exact .inr (.inl ⟨⟨c,oc,vs,(oK c1).2,c2⟩,hc,r⟩)
    .exact .inr (.inr ⟨rfl,hc,r,fun key=>by rw[OldK.staticOf_congr (jb (h:=s.heap) (show cStatics≠eb by decide)).symm key];exact z key⟩)
  .by_cases hb:b=eb
   .subst hb;exact⟨_,(B'.lay _ _ Jl).2.1⟩
   .exact B'.old.there b o ((jb hb).trans e)
theorem items_int{R:WRecords}:∀{xs:List WData},WShape.hasItems R xs .int=true→∃ns:bQ,xs=ns.map WData.int
 |[],_=>⟨[],rfl⟩
 |x::xs,h=>by
  simp only[WShape.hasItems,dJ] at h;obtain⟨i,rfl⟩:=hasW_int h.1;obtain⟨ns,rfl⟩:=items_int h.2;exact⟨i::ns,rfl⟩
theorem wO{R:WRecords}{cl:Str→bP}{P:Params}{ord:List DictEntry→List DictEntry}:∀(ns:bQ) (s:aK),layAllW R cl P ord (ns.map .int) s=some (sL s.toks ns,{s with toks:=s.toks+ns.length})
 |[],s=>by simp only[ry,layAllW,sL];rfl
 |n::ns,s=>by
  simp only[fj,layAllW,layW,wO ns {s with toks:=s.toks+1},sL]
  rw[dH,Nat.add_assoc s.toks 1,Nat.add_comm 1]
theorem yX{R:WRecords}{w:World}{sJ s₁:aK}{ns:bQ}{vals:aB}{as:List Addr}(L:Laid R w sJ s₁ [.list (ns.map .int)] vals as):vals=[.ref sJ.heap.objs.size]∧s₁.heap.get? sJ.heap.objs.size=some {cls:=.type "list",data:=.seq (sL sJ.toks ns).toArray}∧s₁.toks=sJ.toks+ns.length:=by
 obtain⟨ord,_,e⟩:=L.laid;simp only[layAllW,layW,wO,mJ,nv] at e;obtain⟨rfl,rfl⟩:=e;exact⟨rfl,mM _ rfl,rfl⟩
abbrev oh:RowW:=PySem.Challenge.rw_np0118_01.row.toRowW
theorem H9{args:List WData}(h:oh.claim.pre args=true):∃ns:bQ,args=[.list (ns.map .int)]∧ns.length≤63:=by
 obtain⟨h1,h2⟩:=pre_splitW h;obtain⟨d,r,rfl,h3,h4⟩:=hasAllW_cons (e:=.list .int) (es:=[]) h1;obtain rfl:=hasAllW_nil h4;obtain⟨xs,rfl,h5⟩:=hasW_list h3;obtain⟨ns,rfl⟩:=items_int h5;refine⟨ns,rfl,?_⟩;have h6:=(holds_andW (a:=.not (.lt (.lit (.int 63)) (.len (.arg 0)))) h2).1;have h7:=condW_of h6 (by wtm_val)
 simp only[dO,q6,decide_eq_false_iff_not] at h7;omega
theorem wR{q:Program}{loose:bW}{H1:Params→Heap}{tk:Nat}{d:DefRec}{YG:List (Str×Expr)}(hd:d.name="law")(Sl:∀w:World,(KK w.params).In (H1 w.params))(h1:∀P,(H1 P).get? eb=some (tabObj #[])∧∃o,(H1 P).get? sysModules=some o)(gj:1000≤tk):
  WalkX q loose (XL q []) (fun s=>(s.heap,s.toks)) (fun w=>(H1 w.params,tk)) oh d YG fun f vs=>PySem.call f vs:=by
 intro w sJ s₁ mg mb G hY a o pm cd doc dV kV ho Pe RQ WL WC Q3 args vals as L UK aa8 hrd Xj gz;obtain⟨ns,rfl,hz⟩:=H9 UK;obtain⟨rfl,hl,ht⟩:=yX L;have e1:sJ.heap=H1 w.params:=iE Prod.fst hY;have e2:sJ.toks=tk:=iE Prod.snd hY;obtain⟨t1,o2,t2⟩:=h1 w.params;have X:(KK w.params).In s₁.heap:=(Sl w).keeps fun b o e=>L.keeps b o (by rw[e1];exact e)
 have T:=G.T;have hm:=dE.mp (dC.mp (uY w.params) (("law":Str),.ref 2030) (lookup_mem (by decide+kernel)))
 have WH:=mg_of X T.g hm;rw[hd,WH] at WC;obtain rfl:2030=a:=by cases WC;rfl
 refine dD (Fd (tk:=sJ.toks) (is:=ns) X T.g T.b T.nolimit T.builtins ⟨o2,L.keeps _ _ (by rw[e1];exact t2)⟩ T.bmain Q3 (L.keeps _ _ (by rw[e1];exact t1)) hl (List.toList_toArray ..) hz (by rw[e2];exact gj) (Nat.le_of_eq ht.symm)) (fun v s' h=>?_) fun _ _ h=>h.elim
 obtain⟨rfl,h2,h3,h4⟩:=h;exact⟨.inl ⟨_,.bool true,[],rfl,fun _=>rfl,.bool true,by wrow_post,fun _=>⟨pA,fun a ha=>by cases ha⟩⟩,h2,h3,.of_eq h4⟩
end
end aV
noncomputable section
namespace Hd
abbrev pw:Program:=PySem.Challenge.pw_np0118_01
def S'(x:String):Str:=Str.ofString x
def S(x:String)(t:Nat):Value:=.str (Str.ofString x) t
def I(i:Int):Value:=.int i 0
def J(i:Int)(t:Nat):Value:=.int i t
def N:Value:=.none
def Tr:Value:=.bool true
def Fa:Value:=.bool false
def R(a:Nat):Value:=.ref a
def Y(x:String):Value:=.type x
def B(x:String):Value:=.builtin x
def E(P:Params)(x:String)(t:Nat)(v:Value):DictEntry:=⟨PyData.keyHash P (Str.ofString x),.str (Str.ofString x) t,v⟩
def TU(l:List Value):Obj:=⟨.type "tuple",none,.seq (List.toArray l) 0,List.toArray []⟩
def FL(l:List Value):Obj:=⟨.none,none,.fields (List.toArray l),List.toArray []⟩
def CO(l:List Value):Obj:=⟨.type "code",none,.fields (List.toArray l),List.toArray []⟩
def V3:Stmt:=.Pass ⟨0,0,0,0⟩
def fd(i:Nat):Stmt:=(pw.main.body[i]?).getD V3
def QR:Stmt→List Stmt
 | .ClassDef _ _ _ b .. =>b
 |_=>[]
def md(i j:Nat):Stmt:=((QR (fd i))[j]?).getD V3
def kN:Stmt→Arguments
 | .FunctionDef _ a .. =>a
 |_=>⟨[],[],none,[],[],none,[]⟩
def jF:Stmt→List Stmt
 | .FunctionDef _ _ b .. =>b
 |_=>[]
def eK:Stmt→Scope
 | .FunctionDef _ _ _ _ _ _ s .. =>s
 |_=>{kind:=.module,names:=[],isGenerator:=false,isCoroutine:=false,more:=[]}
def FN(st:Stmt)(n q:String)(cls:Value)(g b:Nat)(dv kv doc md:Value)(an:Option Nat)(code ct:Value)(cl:List (Str×Nat))(d:Option Nat)(sl:List (Option Value)):Obj:=
 ⟨cls,d,.func {name:=Str.ofString n,qualname:=Str.ofString q,params:=kN st,body:=.stmts (jF st),scope:=eK st,globals:=g,closure:=cl,defaults:=dv,kwdefaults:=kv,doc:=doc,pyModule:=md,annotations:=an,code:=code,closureTuple:=ct,builtins:=b},List.toArray sl⟩
def putAt:List Obj→Nat→Obj→List Obj
 |[],_,_=>[]
 |_::r,0,o=>o::r
 |x::r,n+1,o=>x::putAt r n o
def G5:List (Nat×Obj)→List Obj→List Obj
 |[],l=>l
 |p::r,l=>G5 r (putAt l p.1 p.2)
def alt:List Obj→List Obj×List Obj
 |[]=>([],[])
 |[x]=>([x],[])
 |x::y::r=>match alt r with
  |(a,b)=>(x::a,y::b)
def bt:Nat→List Obj→BT
 |0,_=>.nil
 |_+1,[]=>.nil
 |n+1,o::r=>match alt r with
  |(a,b)=>.node o (bt n a) (bt n b)
def TS(t:Nat):List String→List Value
 |[]=>[]
 |x::r=>S x t::TS (t+1) r
def NN(t:Nat):Value:=S "/claim/cut.py" t
def Z(i:Nat):Value:=.int (Int.ofNat i) 0
def f7(a t ln k:Nat)(st:Stmt)(n q:String)(m:Value)(as:List String)(r:List Obj):List Obj:=
 TU []::FL []::TU (TS (t+3) as)::TU []::FN st n (q++n) N 0 0 N N N N none N N [] none []::
 CO [S n t,S (q++n) (t+1),NN (t+2),Z ln,Z k,I 0,I 0,I 3,R a,Tr,I 181,R (a+1),N,R (a+2),R (a+3),R (a+4),Z (t+3+as.length),Z ln,NN (t+4+as.length)]::
 FN st n (q++n) (Y "function") 3 0 N N N m none (R (a+5)) N [] none []::r
def PR:Obj:=⟨Y "builtin_function_or_method",none,.fields (List.toArray [B "type.__prepare__",Y "type"]),List.toArray []⟩
def IS(a:Nat):Obj:=⟨Y "builtin_function_or_method",none,.fields (List.toArray [B "object.__init_subclass__",R a]),List.toArray []⟩
def SU(a:Nat):Obj:=⟨Y "super",none,.fields (List.toArray [R a,R a,R a]),List.toArray []⟩
def GA(t a:Nat):Obj:=⟨Y "getset_descriptor",none,.fields (List.toArray [S "__dict__" t,R a,B "function.__dict__",B "function.__dict__#set"]),List.toArray []⟩
def GB(t a:Nat):Obj:=⟨Y "getset_descriptor",none,.fields (List.toArray [S "__weakref__" t,R a,B "ExceptionGroup.__weakref__",N]),List.toArray []⟩
def FR(a b:Nat)(m:Value):Obj:=⟨Y "frame",none,.plain,List.toArray [some (R a),some (R 3),some (R b),none,some m,none,some (R 0)]⟩
def CC(n:String)(t ln a:Nat):Obj:=CO [S n t,S n (t+1),NN (t+2),Z ln,I 0,I 0,I 0,I 0,R a,Fa,I 181,R (a+1),N,N,N,N,Z (t+3),Z ln,NN (t+4)]
def en(P:Params)(x:String×Nat×Nat):DictEntry:=E P x.1 x.2.1 (R x.2.2)
def DA(P:Params)(n:String)(t ln:Nat)(m:Value)(l:List (String×Nat×Nat)):Obj:=
 ⟨Y "dict",none,.dict (List.toArray (E P "__module__" t m::E P "__qualname__" (t+2) (S n (t+1))::E P "__firstlineno__" (t+4) (J (Int.ofNat ln) (t+3))::l.map (en P))) (3+l.length),List.toArray []⟩
def DB(P:Params)(t ln:Nat)(m:Value)(l:List (String×Nat×Nat))(d k:Nat):Obj:=
 ⟨Y "dict",none,.dict (List.toArray (E P "__module__" t m::E P "__firstlineno__" (t+4) (J (Int.ofNat ln) (t+3))::(l.map (en P)++[E P "__doc__" d N]))) k,List.toArray []⟩
def CL(n:String)(b:List Value)(a:Nat)(r:List Value)(s:Option Value)(t u:Nat)(w:String):Obj:=
 ⟨Y "type",none,.cls ⟨S' n,b,R a::r,a - 1,S' n,true,[],[],false,none,false⟩,List.toArray [s,none,some (S n t),some (S n u),some (B w),some Tr]⟩
def CF(n q:String)(t ln k a:Nat)(x y z:Value)(u:Nat):Obj:=CO [S n t,S (q++n) (t+1),NN (t+2),Z ln,Z k,I 0,I 0,I 3,R a,Tr,I 181,R (a+1),N,x,y,z,Z u,Z ln,NN (u+1)]
def FP(st:Stmt)(n q:String):Obj:=FN st n (q++n) N 0 0 N N N N none N N [] none []
def FO(st:Stmt)(n q:String)(d m:Value)(c:Nat):Obj:=FN st n (q++n) (Y "function") 3 0 d N N m none (R c) N [] none []
def FD:List Nat→List Value
 |l::a::r=>Z l::Z a::(match r with
  |b::r=>R b::FD r
  |[]=>[])
 |_=>[]
def Gy(P:Params)(l:List (String×Nat×Nat))(r:List DictEntry):List DictEntry:=l.map (en P)++r
def FC:List Nat→List Value
 |l::a::r=>Z l::I 4::R a::FC r
 |_=>[]
def Xc:Value:=S "__main__" 164
def GC:Value:=S "emacs.errors" 194
def nU:Value:=S "emacs.objects" 271
def xG:Value:=S "emacs.cells" 529
def ti:Value:=S "emacs.functions" 665
def Gz:Value:=S "emacs.lambdalists" 819
def o7:Value:=S "emacs.variables" 911
def Jv:Value:=S "emacs.specpdl" 1141
def fK:Value:=S "emacs.machine" 1206
def gg:Value:=S "emacs.forms" 1742
def xS:Value:=S "emacs.signals" 2218
def gu:Value:=S "emacs.exits" 2272
def iD:Value:=S "emacs.callers" 2516
def qn:Value:=S "emacs.obarray" 2700
def vQ:Value:=S "emacs.world" 2795
def ud:Value:=S "law_np0118_01" 2862
def Uc(P:Params):List Obj:=
 boot_o_0 P::
 boot_o_1 P::
 boot_o_2 P::
 boot_o_3 P::
 boot_o_4 P::
 boot_o_5 P::
 boot_o_6 P::
 boot_o_7 P::
 boot_o_8 P::
 boot_o_9 P::
 boot_o_10 P::
 TU []::
 FL []::
 CC "<module>" 182 1 11::
 FR 13 3 Xc::[]
def s0(P:Params):List Obj:=[]++(Uc P)
def QB(P:Params):List Obj:=
 f7 15 187 1 1 (fd 0) "_wall" "" Xc ["k"] (
 TU [(Y "Exception")]::
 PR::
 DA P "LispSignal" 203 5 GC [("__init__",216,35),("__static_attributes__",219,36)]::
 TU []::
 FL (FC [7,34])::
 CC "LispSignal" 198 5 25::
 FR 27 24 GC::
 f7 29 208 7 3 (md 2 0) "__init__" "LispSignal." GC ["self","symbol","data"] (
 TU (TS 217 ["data","symbol"])::
 DB P 203 5 GC [("__init__",216,35),("__static_attributes__",219,36),("__weakref__",221,39)] 222 3::
 CL "LispSignal" [(Y "Exception")] 38 [(Y "Exception"),(Y "BaseException"),(Y "object")] (some (R 22)) 196 204 "Exception.__new__"::
 GB 220 38::
 SU 38::
 IS 38::
 TU [(Y "Exception")]::
 PR::
 DA P "OutOfSteps" 234 10 GC [("__init__",246,55),("__static_attributes__",248,56)]::
 TU []::
 FL (FC [12,54])::
 CC "OutOfSteps" 229 10 45::
 FR 47 44 GC::
 f7 49 239 12 2 (md 3 0) "__init__" "OutOfSteps." GC ["self","limit"] (
 TU [(S "limit" 247)]::[])))
def QA(P:Params):List Obj:=
 DB P 234 10 GC [("__init__",246,55),("__static_attributes__",248,56),("__weakref__",250,59)] 251 3::
 CL "OutOfSteps" [(Y "Exception")] 58 [(Y "Exception"),(Y "BaseException"),(Y "object")] (some (R 42)) 227 235 "Exception.__new__"::
 GB 249 58::
 SU 58::
 IS 58::
 f7 62 256 14 0 (fd 4) "standard_conditions" "" GC ["found","name"] (
 f7 69 264 25 1 (fd 5) "conditions_of" "" GC ["name"] (
 TU []::
 PR::
 DA P "Symbol" 280 28 nU [("__init__",293,89),("__static_attributes__",296,90)]::
 TU []::
 FL (FC [30,88])::
 CC "Symbol" 275 28 79::
 FR 81 78 nU::
 f7 83 285 30 3 (md 7 0) "__init__" "Symbol." nU ["self","number","name"] (
 TU (TS 294 ["name","number"])::
 DB P 280 28 nU [("__init__",293,89),("__static_attributes__",296,90),("__dict__",298,93),("__weakref__",300,94)] 301 4::
 CL "Symbol" [(Y "object")] 92 [(Y "object")] none 273 281 "object.__new__"::
 GA 297 92::
 GB 299 92::
 SU 92::
 IS 92::
 ⟨(Y "dict"),none,.dict (List.toArray [(E P "number" 310 (J 0 304)),(E P "name" 312 (S "nil" 305))]) 2,List.toArray []⟩::
 ⟨(R 92),(some 97),.plain,List.toArray []⟩::[])))
def Qz(P:Params):List Obj:=
 ⟨(Y "frame"),none,.dict (List.toArray [(E P "self" 306 (R 98)),(E P "number" 307 (J 0 304)),(E P "name" 308 (S "nil" 305))]) 3,List.toArray []⟩::
 ⟨(Y "dict"),none,.dict (List.toArray [(E P "number" 320 (J 1 314)),(E P "name" 322 (S "t" 315))]) 2,List.toArray []⟩::
 ⟨(R 92),(some 100),.plain,List.toArray []⟩::
 ⟨(Y "frame"),none,.dict (List.toArray [(E P "self" 316 (R 101)),(E P "number" 317 (J 1 314)),(E P "name" 318 (S "t" 315))]) 3,List.toArray []⟩::
 TU []::
 PR::
 DA P "Cons" 331 35 nU [("__init__",344,116),("__static_attributes__",347,117)]::
 TU []::
 FL (FC [37,115])::
 CC "Cons" 326 35 106::
 FR 108 105 nU::
 f7 110 336 37 3 (md 10 0) "__init__" "Cons." nU ["self","car","cdr"] (
 TU (TS 345 ["car","cdr"])::
 DB P 331 35 nU [("__init__",344,116),("__static_attributes__",347,117),("__dict__",349,120),("__weakref__",351,121)] 352 4::
 CL "Cons" [(Y "object")] 119 [(Y "object")] none 324 332 "object.__new__"::
 GA 348 119::
 GB 350 119::
 SU 119::
 IS 119::
 TU []::
 PR::
 DA P "Text" 362 40 nU [("__init__",375,138),("__static_attributes__",378,139)]::
 TU []::
 FL (FC [42,137])::[])
def ML(P:Params):List Obj:=
 CC "Text" 357 40 127::
 FR 129 126 nU::
 TU [N]::
 TU []::
 FL []::
 TU (TS 370 ["self","codes","spans"])::
 TU []::
 FP (md 11 0) "__init__" "Text."::
 CF "__init__" "Text." 367 42 3 132 (R 134) (R 135) (R 136) 373::
 FO (md 11 0) "__init__" "Text." (R 131) nU 137::
 TU (TS 376 ["codes","spans"])::
 DB P 362 40 nU [("__init__",375,138),("__static_attributes__",378,139),("__dict__",380,142),("__weakref__",382,143)] 383 4::
 CL "Text" [(Y "object")] 141 [(Y "object")] none 355 363 "object.__new__"::
 GA 379 141::
 GB 381 141::
 SU 141::
 IS 141::
 TU []::
 PR::
 DA P "Vector" 393 45 nU [("__init__",405,159),("__static_attributes__",407,160)]::
 TU []::
 FL (FC [47,158])::
 CC "Vector" 388 45 149::
 FR 151 148 nU::[]
def MK(P:Params):List Obj:=
 f7 153 398 47 2 (md 12 0) "__init__" "Vector." nU ["self","things"] (
 TU [(S "things" 406)]::
 DB P 393 45 nU [("__init__",405,159),("__static_attributes__",407,160),("__dict__",409,163),("__weakref__",411,164)] 412 4::
 CL "Vector" [(Y "object")] 162 [(Y "object")] none 386 394 "object.__new__"::
 GA 408 162::
 GB 410 162::
 SU 162::
 IS 162::
 TU []::
 PR::
 DA P "Subr" 422 49 nU [("__init__",438,180),("__static_attributes__",444,181)]::
 TU []::
 FL (FC [51,179])::
 CC "Subr" 417 49 170::
 FR 172 169 nU::
 f7 174 427 51 6 (md 13 0) "__init__" "Subr." nU ["self","number","name","least","most","deed"] (
 TU (TS 439 ["deed","least","most","name","number"])::
 DB P 422 49 nU [("__init__",438,180),("__static_attributes__",444,181),("__dict__",446,184),("__weakref__",448,185)] 449 4::
 CL "Subr" [(Y "object")] 183 [(Y "object")] none 415 423 "object.__new__"::
 GA 445 183::
 GB 447 183::
 SU 183::
 IS 183::
 TU []::[]))
def MJ(P:Params):List Obj:=
 PR::
 DA P "Opaque" 459 57 nU [("shown",470,201),("kind",477,208),("same_as",485,215),("__static_attributes__",486,216)]::
 TU []::
 FL (FC [59,200,62,207,65,214])::
 CC "Opaque" 454 57 191::
 FR 193 190 nU::
 f7 195 464 59 1 (md 14 0) "shown" "Opaque." nU ["self"] (
 f7 202 471 62 1 (md 14 1) "kind" "Opaque." nU ["self"] (
 f7 209 478 65 2 (md 14 2) "same_as" "Opaque." nU ["self","other"] (
 TU []::
 DB P 459 57 nU [("shown",470,201),("kind",477,208),("same_as",485,215),("__static_attributes__",486,216),("__dict__",488,219),("__weakref__",490,220)] 491 4::
 ⟨(Y "type"),none,.cls ⟨S' "Opaque",[(Y "object")],[(R 218),(Y "object")],217,S' "Opaque",true,[],[(R 385),(R 458)],false,none,false⟩,List.toArray [none,none,some (S "Opaque" 452),some (S "Opaque" 460),some (B "object.__new__"),some Tr]⟩::
 GA 487 218::
 GB 489 218::
 SU 218::
 IS 218::
 TU [(R 98)]::
 TU []::
 FL []::
 TU (TS 497 ["things","tail","found","place"])::
 TU []::
 FP (fd 15) "list_of" ""::
 CF "list_of" "" 494 67 2 224 (R 226) (R 227) (R 228) 501::
 FO (fd 15) "list_of" "" (R 223) nU 229::[])))
def MI(P:Params):List Obj:=
 f7 231 504 72 1 (fd 16) "split_list" "" nU ["datum","things","at","slow"] (
 f7 238 514 84 1 (fd 17) "items_of" "" nU ["datum","things","tail"] (
 TU []::
 FL []::
 FP (fd 18) "text_of" ""::
 CF "text_of" "" 523 87 1 245 N N (R 247) 526::
 FO (fd 18) "text_of" "" N nU 248::
 f7 250 535 92 1 (fd 22) "is_keyword" "" xG ["symbol"] (
 f7 257 542 94 1 (fd 23) "is_constant" "" xG ["symbol"] (
 TU []::
 PR::
 DA P "Cells" 556 96 xG [("__init__",567,277),("function_of",575,284),("is_defined",583,291),("set_function",594,298),("indirect_function",603,305),("plist_of",611,312),("set_plist",620,319),("place_of",631,326),("get",641,333),("put",654,340),("__static_attributes__",657,341)]::
 TU []::
 FL (FC [98,276,102,283,105,290,108,297,120,304,126,311,129,318,132,325,144,332,148,339])::
 CC "Cells" 551 96 267::
 FR 269 266 xG::
 f7 271 561 98 1 (md 24 0) "__init__" "Cells." xG ["self"] (
 f7 278 568 102 2 (md 24 1) "function_of" "Cells." xG ["self","symbol"] (
 f7 285 576 105 2 (md 24 2) "is_defined" "Cells." xG ["self","symbol"] (
 f7 292 584 108 3 (md 24 3) "set_function" "Cells." xG ["self","symbol","function","at","turn"] (
 f7 299 595 120 2 (md 24 4) "indirect_function" "Cells." xG ["self","datum","at"] (
 f7 306 604 126 2 (md 24 5) "plist_of" "Cells." xG ["self","symbol"] (
 f7 313 612 129 3 (md 24 6) "set_plist" "Cells." xG ["self","symbol","plist"] (
 f7 320 621 132 3 (md 24 7) "place_of" "Cells." xG ["self","symbol","name","at","steps"] ([]))))))))))))
def MH(P:Params):List Obj:=
 f7 327 632 144 3 (md 24 8) "get" "Cells." xG ["self","symbol","name","found"] (
 f7 334 642 148 4 (md 24 9) "put" "Cells." xG ["self","symbol","name","value","found","fresh","last"] (
 TU (TS 655 ["functions","plists"])::
 DB P 556 96 xG [("__init__",567,277),("function_of",575,284),("is_defined",583,291),("set_function",594,298),("indirect_function",603,305),("plist_of",611,312),("set_plist",620,319),("place_of",631,326),("get",641,333),("put",654,340),("__static_attributes__",657,341),("__dict__",659,344),("__weakref__",661,345)] 662 4::
 CL "Cells" [(Y "object")] 343 [(Y "object")] none 549 557 "object.__new__"::
 GA 658 343::
 GB 660 343::
 SU 343::
 IS 343::
 f7 348 670 163 3 (fd 27) "count_fits" "" ti ["many","least","most"] (
 TU [(R 218)]::
 PR::
 DA P "Function" 686 165 ti [("begin",699,368),("shown",706,375),("kind",713,382),("__static_attributes__",714,383)]::
 TU []::
 FL (FC [167,367,170,374,173,381])::
 CC "Function" 681 165 358::
 FR 360 357 ti::
 f7 362 691 167 3 (md 28 0) "begin" "Function." ti ["self","machine","arguments"] (
 f7 369 700 170 1 (md 28 1) "shown" "Function." ti ["self"] (
 f7 376 707 173 1 (md 28 2) "kind" "Function." ti ["self"] (
 TU []::
 DB P 686 165 ti [("begin",699,368),("shown",706,375),("kind",713,382),("__static_attributes__",714,383)] 715 2::
 ⟨(Y "type"),none,.cls ⟨S' "Function",[(R 218)],[(R 385),(R 218),(Y "object")],384,S' "Function",true,[],[(R 418)],false,none,false⟩,List.toArray [some (R 355),none,some (S "Function" 679),some (S "Function" 687),some (B "object.__new__"),some Tr]⟩::
 SU 385::[]))))))
def MG(P:Params):List Obj:=
 IS 385::
 TU [(R 385)]::
 PR::
 DA P "Caller" 725 175 ti [("__init__",740,401),("shown",747,408),("begin",756,415),("__static_attributes__",761,416)]::
 TU []::
 FL (FC [177,400,183,407,186,414])::
 CC "Caller" 720 175 391::
 FR 393 390 ti::
 f7 395 730 177 5 (md 29 0) "__init__" "Caller." ti ["self","name","least","most","work"] (
 f7 402 741 183 1 (md 29 1) "shown" "Caller." ti ["self"] (
 f7 409 748 186 3 (md 29 2) "begin" "Caller." ti ["self","machine","arguments"] (
 TU (TS 757 ["least","most","name","work"])::
 DB P 725 175 ti [("__init__",740,401),("shown",747,408),("begin",756,415),("__static_attributes__",761,416)] 762 2::
 CL "Caller" [(R 385)] 418 [(R 385),(R 218),(Y "object")] (some (R 388)) 718 726 "object.__new__"::
 SU 418::
 IS 418::
 TU [(R 218)]::
 PR::
 DA P "Special" 772 190 ti [("__init__",787,434),("shown",794,441),("kind",801,448),("begin",810,455),("__static_attributes__",815,456)]::
 TU []::
 FL (FC [192,433,198,440,201,447,204,454])::
 CC "Special" 767 190 424::
 FR 426 423 ti::
 f7 428 777 192 5 (md 30 0) "__init__" "Special." ti ["self","name","least","most","work"] ([]))))
def MF(P:Params):List Obj:=
 f7 435 788 198 1 (md 30 1) "shown" "Special." ti ["self"] (
 f7 442 795 201 1 (md 30 2) "kind" "Special." ti ["self"] (
 f7 449 802 204 3 (md 30 3) "begin" "Special." ti ["self","machine","forms"] (
 TU (TS 811 ["least","most","name","work"])::
 DB P 772 190 ti [("__init__",787,434),("shown",794,441),("kind",801,448),("begin",810,455),("__static_attributes__",815,456)] 816 2::
 CL "Special" [(R 218)] 458 [(R 218),(Y "object")] (some (R 421)) 765 773 "object.__new__"::
 SU 458::
 IS 458::
 TU []::
 PR::
 DA P "LambdaList" 832 211 Gz [("__init__",846,474),("takes",855,481),("bounds",863,488),("__static_attributes__",867,489)]::
 TU []::
 FL (FC [213,473,218,480,222,487])::
 CC "LambdaList" 827 211 464::
 FR 466 463 Gz::
 f7 468 837 213 4 (md 34 0) "__init__" "LambdaList." Gz ["self","needed","optional","rest"] (
 f7 475 847 218 2 (md 34 1) "takes" "LambdaList." Gz ["self","many","most"] (
 f7 482 856 222 1 (md 34 2) "bounds" "LambdaList." Gz ["self","most"] (
 TU (TS 864 ["needed","optional","rest"])::
 DB P 832 211 Gz [("__init__",846,474),("takes",855,481),("bounds",863,488),("__static_attributes__",867,489),("__dict__",869,492),("__weakref__",871,493)] 872 4::
 CL "LambdaList" [(Y "object")] 491 [(Y "object")] none 825 833 "object.__new__"::
 GA 868 491::
 GB 870 491::
 SU 491::[]))))))
def ME(P:Params):List Obj:=
 IS 491::
 f7 496 875 225 1 (fd 35) "bad_function" "" Gz ["function"] (
 TU []::
 FL []::
 FP (fd 36) "read_lambda_list" ""::
 CF "read_lambda_list" "" 882 227 2 503 N N (R 505) 885::
 FO (fd 36) "read_lambda_list" "" N Gz 506::
 f7 508 888 248 2 (fd 37) "values_for" "" Gz ["told","arguments","pairs","place","symbol"] (
 f7 515 899 255 4 (fd 38) "bind_parameters" "" Gz ["stack","told","arguments","function","symbol","value"] (
 TU []::
 PR::
 DA P "Variables" 925 264 o7 [("__init__",936,535),("default_value",944,542),("set_default",953,549),("make_automatic",962,556),("make_permanent",971,563),("is_automatic",979,570),("is_permanent",987,577),("__static_attributes__",991,578)]::
 TU []::
 FL (FC [266,534,271,541,274,548,277,555,280,562,283,569,286,576])::
 CC "Variables" 920 264 525::
 FR 527 524 o7::
 f7 529 930 266 1 (md 43 0) "__init__" "Variables." o7 ["self"] (
 f7 536 937 271 2 (md 43 1) "default_value" "Variables." o7 ["self","symbol"] (
 f7 543 945 274 3 (md 43 2) "set_default" "Variables." o7 ["self","symbol","value"] (
 f7 550 954 277 3 (md 43 3) "make_automatic" "Variables." o7 ["self","symbol","value"] (
 f7 557 963 280 3 (md 43 4) "make_permanent" "Variables." o7 ["self","symbol","flag"] (
 f7 564 972 283 2 (md 43 5) "is_automatic" "Variables." o7 ["self","symbol"] (
 f7 571 980 286 2 (md 43 6) "is_permanent" "Variables." o7 ["self","symbol"] (
 TU (TS 988 ["automatic","defaults","permanent"])::[]))))))))))
def MD(P:Params):List Obj:=
 DB P 925 264 o7 [("__init__",936,535),("default_value",944,542),("set_default",953,549),("make_automatic",962,556),("make_permanent",971,563),("is_automatic",979,570),("is_permanent",987,577),("__static_attributes__",991,578),("__dict__",993,581),("__weakref__",995,582)] 996 4::
 CL "Variables" [(Y "object")] 580 [(Y "object")] none 918 926 "object.__new__"::
 GA 992 580::
 GB 994 580::
 SU 580::
 IS 580::
 TU []::
 PR::
 DA P "Locals" 1006 288 o7 [("__init__",1017,598),("is_local",1025,605),("names",1032,612),("make_local",1041,619),("kill",1049,626),("kill_all",1057,633),("__static_attributes__",1059,634)]::
 TU []::
 FL (FC [290,597,293,604,296,611,299,618,302,625,305,632])::
 CC "Locals" 1001 288 588::
 FR 590 587 o7::
 f7 592 1011 290 1 (md 44 0) "__init__" "Locals." o7 ["self"] (
 f7 599 1018 293 2 (md 44 1) "is_local" "Locals." o7 ["self","symbol"] (
 f7 606 1026 296 1 (md 44 2) "names" "Locals." o7 ["self"] (
 f7 613 1033 299 3 (md 44 3) "make_local" "Locals." o7 ["self","variables","symbol"] (
 f7 620 1042 302 2 (md 44 4) "kill" "Locals." o7 ["self","symbol"] (
 f7 627 1050 305 2 (md 44 5) "kill_all" "Locals." o7 ["self","variables"] (
 TU [(S "values" 1058)]::
 DB P 1006 288 o7 [("__init__",1017,598),("is_local",1025,605),("names",1032,612),("make_local",1041,619),("kill",1049,626),("kill_all",1057,633),("__static_attributes__",1059,634),("__dict__",1061,637),("__weakref__",1063,638)] 1064 4::
 CL "Locals" [(Y "object")] 636 [(Y "object")] none 999 1007 "object.__new__"::
 GA 1060 636::
 GB 1062 636::[]))))))
def Mz(P:Params):List Obj:=
 SU 636::
 IS 636::[]
def T8(P:Params):Obj:=⟨N,none,.dict (List.toArray [(E P "type.__subclasses__.Exception.0" 223 (I 38)),(E P "type.__subclasses__.Exception.n" 224 (I 2)),(E P "type.__subclasses__.Exception.1" 252 (I 58))]) 3,List.toArray []⟩
def zi(P:Params)(r:List DictEntry):List DictEntry:=(E P "__doc__" 166 N::E P "__package__" 167 N::E P "__loader__" 168 (B "__main__.__loader__#opaque")::E P "__spec__" 169 N::Gy P [("__annotations__",170,6),("__builtins__",171,4)] (E P "__file__" 173 (S "/claim/cut.py" 172)::E P "__cached__" 174 N::Gy P [("_wall",193,21),("LispSignal",226,38),("OutOfSteps",255,58),("standard_conditions",263,68),("conditions_of",270,75),("Symbol",303,92),("NIL",313,98),("T",323,101),("Cons",354,119),("Text",385,141),("Vector",414,162),("Subr",451,183),("Opaque",493,218),("list_of",503,230),("split_list",513,237),("items_of",522,244),("text_of",528,249)] (E P "MOST_LINKS" 532 (J 100 531)::E P "MOST_PARTS" 534 (J 100000 533)::Gy P [("is_keyword",541,256),("is_constant",548,263),("Cells",664,343)] (E P "MANY" 669 (J (-1) 668)::Gy P [("count_fits",678,354),("Function",717,385),("Caller",764,418),("Special",818,458)] (E P "OPTIONAL" 822 (S "&optional" 821)::E P "REST" 824 (S "&rest" 823)::Gy P [("LambdaList",874,491),("bad_function",881,502),("read_lambda_list",887,507),("values_for",898,514),("bind_parameters",910,521)] (E P "VOID" 913 N::E P "LOCAL" 915 (J 0 914)::E P "DEFAULT" 917 (J 1 916)::Gy P [("Variables",998,580),("Locals",1066,636)] (r)))))))
def xC(P:Params)(r:List DictEntry):List DictEntry:=zi P (Gy P [("value_in",1075,647),("set_in",1085,654),("Bound",1120,671),("bind",1131,682),("bind_variables",1132,682),("unbind",1140,689),("BindingStack",1205,734)] (E P "THROW" 1209 (S "throw" 1208)::E P "SIGNAL" 1211 (S "signal" 1210)::Gy P [("Thrown",1242,755),("Frame",1288,789),("StartFrame",1321,817),("CallFrame",1356,843),("ArgumentsFrame",1393,869),("SequenceFrame",1428,895),("BodyFrame",1474,928),("ExpandFrame",1498,947),("begins_with",1506,956),("is_same",1514,963),("Machine",1741,1132),("need_symbol",1751,1143),("progn",1759,1150),("quote",1767,1157),("IfFrame",1802,1181),("if_form",1810,1190),("when_form",1818,1197),("unless_form",1826,1204),("CondFrame",1861,1228),("cond",1871,1237),("JoinFrame",1908,1261),("join",1917,1270),("and_form",1925,1277),("or_form",1933,1284),("WhileFrame",1969,1308),("while_form",1977,1317)] (r)))
def T7(P:Params):Obj:=⟨(Y "dict"),none,.dict (List.toArray (E P "__name__" 165 (S "emacs.variables" 911)::zi P [])) 48,List.toArray []⟩
def W8:List Nat:=[1,0,20,5,0,27,10,0,47,14,0,67,25,0,74,28,0,81,35,0,108,40,0,129,45,0,151,49,0,172,57,0,193,67,0,229,72,0,236,84,0,243,87,0,248,92,0,255,94,0,262,96,0,269,163,0,353,165,0,360,175,0,393,190,0,426,211,0,466,225,0,501,227,0,506,248,0,513,255,0,520,264,0,527,288,0,590]
def QC(P:Params):Obj:=FL (FD W8)
def s1(P:Params):List Obj:=G5 [(2,T8 P),(3,T7 P),(12,QC P)] (s0 P)++(QB P++(QA P++(Qz P++(ML P++(MK P++(MJ P++(MI P++(MH P++(MG P++(MF P++(ME P++(MD P++(Mz P)))))))))))))
def My(P:Params):List Obj:=
 f7 641 1067 307 3 (fd 45) "value_in" "" o7 ["variables","own","symbol"] (
 f7 648 1076 311 4 (fd 46) "set_in" "" o7 ["variables","own","symbol","value"] (
 TU []::
 PR::
 DA P "Bound" 1093 316 o7 [("__init__",1108,668),("__static_attributes__",1113,669)]::
 TU []::
 FL (FC [318,667])::
 CC "Bound" 1088 316 658::
 FR 660 657 o7::
 f7 662 1098 318 5 (md 47 0) "__init__" "Bound." o7 ["self","sort","own","symbol","value"] (
 TU (TS 1109 ["own","sort","symbol","value"])::
 DB P 1093 316 o7 [("__init__",1108,668),("__static_attributes__",1113,669),("__dict__",1115,672),("__weakref__",1117,673)] 1118 4::
 CL "Bound" [(Y "object")] 671 [(Y "object")] none 1086 1094 "object.__new__"::
 GA 1114 671::
 GB 1116 671::
 SU 671::
 IS 671::
 f7 676 1121 323 4 (fd 48) "bind" "" o7 ["variables","own","symbol","value","bound"] (
 f7 683 1133 332 2 (fd 50) "unbind" "" o7 ["variables","bound"] (
 TU []::
 PR::
 DA P "BindingStack" 1150 338 Jv [("__init__",1162,703),("depth",1169,710),("bind",1178,717),("note",1186,724),("unbind_to",1195,731),("__static_attributes__",1198,732)]::
 TU []::
 FL (FC [340,702,344,709,347,716,352,723,355,730])::[])))))
def Mx(P:Params):List Obj:=
 CC "BindingStack" 1145 338 693::
 FR 695 692 Jv::
 f7 697 1155 340 2 (md 52 0) "__init__" "BindingStack." Jv ["self","world"] (
 f7 704 1163 344 1 (md 52 1) "depth" "BindingStack." Jv ["self"] (
 f7 711 1170 347 3 (md 52 2) "bind" "BindingStack." Jv ["self","symbol","value"] (
 f7 718 1179 352 2 (md 52 3) "note" "BindingStack." Jv ["self","cleanup"] (
 f7 725 1187 355 2 (md 52 4) "unbind_to" "BindingStack." Jv ["self","depth","row"] (
 TU (TS 1196 ["rows","world"])::
 DB P 1150 338 Jv [("__init__",1162,703),("depth",1169,710),("bind",1178,717),("note",1186,724),("unbind_to",1195,731),("__static_attributes__",1198,732),("__dict__",1200,735),("__weakref__",1202,736)] 1203 4::
 CL "BindingStack" [(Y "object")] 734 [(Y "object")] none 1143 1151 "object.__new__"::
 GA 1199 734::
 GB 1201 734::
 SU 734::
 IS 734::
 TU [(Y "Exception")]::
 PR::
 DA P "Thrown" 1219 365 fK [("__init__",1232,752),("__static_attributes__",1235,753)]::
 TU []::
 FL (FC [367,751])::
 CC "Thrown" 1214 365 742::
 FR 744 741 fK::
 f7 746 1224 367 3 (md 56 0) "__init__" "Thrown." fK ["self","tag","value"] (
 TU (TS 1233 ["tag","value"])::
 DB P 1219 365 fK [("__init__",1232,752),("__static_attributes__",1235,753),("__weakref__",1237,756)] 1238 3::[]))))))
def Mw(P:Params):List Obj:=
 CL "Thrown" [(Y "Exception")] 755 [(Y "Exception"),(Y "BaseException"),(Y "object")] (some (R 739)) 1212 1220 "Exception.__new__"::
 GB 1236 755::
 SU 755::
 IS 755::
 TU []::
 PR::
 DA P "Frame" 1250 370 fK [("step",1262,772),("leave",1271,779),("wants",1280,786),("__static_attributes__",1281,787)]::
 TU []::
 FL (FC [372,771,375,778,378,785])::
 CC "Frame" 1245 370 762::
 FR 764 761 fK::
 f7 766 1255 372 2 (md 57 0) "step" "Frame." fK ["self","machine"] (
 f7 773 1263 375 3 (md 57 1) "leave" "Frame." fK ["self","machine","leaving"] (
 f7 780 1272 378 3 (md 57 2) "wants" "Frame." fK ["self","machine","leaving"] (
 TU []::
 DB P 1250 370 fK [("step",1262,772),("leave",1271,779),("wants",1280,786),("__static_attributes__",1281,787),("__dict__",1283,790),("__weakref__",1285,791)] 1286 4::
 ⟨(Y "type"),none,.cls ⟨S' "Frame",[(Y "object")],[(R 789),(Y "object")],788,S' "Frame",true,[],[(R 817),(R 843),(R 869),(R 895),(R 928),(R 947),(R 1181),(R 1228),(R 1261),(R 1308)],false,none,false⟩,List.toArray [none,none,some (S "Frame" 1243),some (S "Frame" 1251),some (B "object.__new__"),some Tr]⟩::
 GA 1282 789::
 GB 1284 789::
 SU 789::
 IS 789::
 TU [(R 789)]::
 PR::
 DA P "StartFrame" 1296 380 fK [("__init__",1308,807),("step",1316,814),("__static_attributes__",1318,815)]::[])))
def Mv(P:Params):List Obj:=
 TU []::
 FL (FC [382,806,385,813])::
 CC "StartFrame" 1291 380 797::
 FR 799 796 fK::
 f7 801 1301 382 2 (md 58 0) "__init__" "StartFrame." fK ["self","form"] (
 f7 808 1309 385 2 (md 58 1) "step" "StartFrame." fK ["self","machine"] (
 TU [(S "form" 1317)]::
 DB P 1296 380 fK [("__init__",1308,807),("step",1316,814),("__static_attributes__",1318,815)] 1319 2::
 CL "StartFrame" [(R 789)] 817 [(R 789),(Y "object")] (some (R 794)) 1289 1297 "object.__new__"::
 SU 817::
 IS 817::
 TU [(R 789)]::
 PR::
 DA P "CallFrame" 1329 388 fK [("__init__",1342,833),("step",1350,840),("__static_attributes__",1353,841)]::
 TU []::
 FL (FC [390,832,394,839])::
 CC "CallFrame" 1324 388 823::
 FR 825 822 fK::
 f7 827 1334 390 3 (md 59 0) "__init__" "CallFrame." fK ["self","function","arguments"] (
 f7 834 1343 394 2 (md 59 1) "step" "CallFrame." fK ["self","machine"] (
 TU (TS 1351 ["arguments","function"])::
 DB P 1329 388 fK [("__init__",1342,833),("step",1350,840),("__static_attributes__",1353,841)] 1354 2::
 CL "CallFrame" [(R 789)] 843 [(R 789),(Y "object")] (some (R 820)) 1322 1330 "object.__new__"::
 SU 843::[]))))
def Mu(P:Params):List Obj:=
 IS 843::
 TU [(R 789)]::
 PR::
 DA P "ArgumentsFrame" 1364 397 fK [("__init__",1377,859),("step",1385,866),("__static_attributes__",1390,867)]::
 TU []::
 FL (FC [399,858,405,865])::
 CC "ArgumentsFrame" 1359 397 849::
 FR 851 848 fK::
 f7 853 1369 399 3 (md 60 0) "__init__" "ArgumentsFrame." fK ["self","head","forms"] (
 f7 860 1378 405 2 (md 60 1) "step" "ArgumentsFrame." fK ["self","machine"] (
 TU (TS 1386 ["forms","found","head","is_waiting"])::
 DB P 1364 397 fK [("__init__",1377,859),("step",1385,866),("__static_attributes__",1390,867)] 1391 2::
 CL "ArgumentsFrame" [(R 789)] 869 [(R 789),(Y "object")] (some (R 846)) 1357 1365 "object.__new__"::
 SU 869::
 IS 869::
 TU [(R 789)]::
 PR::
 DA P "SequenceFrame" 1401 414 fK [("__init__",1413,885),("step",1422,892),("__static_attributes__",1425,893)]::
 TU []::
 FL (FC [416,884,420,891])::
 CC "SequenceFrame" 1396 414 875::
 FR 877 874 fK::
 f7 879 1406 416 2 (md 61 0) "__init__" "SequenceFrame." fK ["self","forms"] (
 f7 886 1414 420 2 (md 61 1) "step" "SequenceFrame." fK ["self","machine","form"] ([]))))
def Mt(P:Params):List Obj:=
 TU (TS 1423 ["forms","place"])::
 DB P 1401 414 fK [("__init__",1413,885),("step",1422,892),("__static_attributes__",1425,893)] 1426 2::
 CL "SequenceFrame" [(R 789)] 895 [(R 789),(Y "object")] (some (R 872)) 1394 1402 "object.__new__"::
 SU 895::
 IS 895::
 TU [(R 789)]::
 PR::
 DA P "BodyFrame" 1436 426 fK [("__init__",1449,911),("step",1458,918),("leave",1467,925),("__static_attributes__",1471,926)]::
 TU []::
 FL (FC [428,910,433,917,442,924])::
 CC "BodyFrame" 1431 426 901::
 FR 903 900 fK::
 f7 905 1441 428 3 (md 62 0) "__init__" "BodyFrame." fK ["self","forms","depth"] (
 f7 912 1450 433 2 (md 62 1) "step" "BodyFrame." fK ["self","machine","value"] (
 f7 919 1459 442 3 (md 62 2) "leave" "BodyFrame." fK ["self","machine","leaving"] (
 TU (TS 1468 ["depth","forms","place"])::
 DB P 1436 426 fK [("__init__",1449,911),("step",1458,918),("leave",1467,925),("__static_attributes__",1471,926)] 1472 2::
 CL "BodyFrame" [(R 789)] 928 [(R 789),(Y "object")] (some (R 898)) 1429 1437 "object.__new__"::
 SU 928::
 IS 928::
 TU [(R 789)]::
 PR::
 DA P "ExpandFrame" 1482 445 fK [("step",1494,944),("__static_attributes__",1495,945)]::
 TU []::[])))
def Ms(P:Params):List Obj:=
 FL (FC [447,943])::
 CC "ExpandFrame" 1477 445 934::
 FR 936 933 fK::
 f7 938 1487 447 2 (md 63 0) "step" "ExpandFrame." fK ["self","machine"] (
 TU []::
 DB P 1482 445 fK [("step",1494,944),("__static_attributes__",1495,945)] 1496 2::
 CL "ExpandFrame" [(R 789)] 947 [(R 789),(Y "object")] (some (R 931)) 1475 1483 "object.__new__"::
 SU 947::
 IS 947::
 f7 950 1499 450 2 (fd 64) "begins_with" "" fK ["datum","name"] (
 f7 957 1507 452 2 (fd 65) "is_same" "" fK ["one","other"] (
 TU []::
 PR::
 DA P "Machine" 1522 454 fK [("__init__",1535,977),("tell",1543,984),("push",1551,991),("pop",1558,998),("done",1566,1005),("refuse_count",1575,1012),("value_of",1584,1019),("set_value",1593,1026),("look",1601,1033),("forms_of",1610,1040),("look_at_call",1620,1047),("expanded",1629,1054),("function_of",1638,1061),("apply",1648,1068),("enter",1659,1075),("leave",1667,1082),("throw",1673,1087),("signal",1682,1094),("step",1691,1101),("run",1702,1108),("eval",1710,1115),("call",1719,1122),("reset",1726,1129),("__static_attributes__",1734,1130)]::
 TU []::
 FL (FC [456,976,466,983,469,990,472,997,475,1004,479,1011,482,1018,490,1025,495,1032,503,1039,509,1046,519,1053,525,1060,533,1067,546,1074,554,1081,563,1086,569,1093,572,1100,583,1107,596,1114,599,1121,602,1128])::
 CC "Machine" 1517 454 967::
 FR 969 966 fK::
 f7 971 1527 456 3 (md 66 0) "__init__" "Machine." fK ["self","world","limit"] (
 f7 978 1536 466 2 (md 66 1) "tell" "Machine." fK ["self","value"] (
 f7 985 1544 469 2 (md 66 2) "push" "Machine." fK ["self","frame"] (
 f7 992 1552 472 1 (md 66 3) "pop" "Machine." fK ["self"] (
 f7 999 1559 475 2 (md 66 4) "done" "Machine." fK ["self","value"] (
 f7 1006 1567 479 3 (md 66 5) "refuse_count" "Machine." fK ["self","function","many"] ([])))))))))
def H6(P:Params):List Obj:=
 f7 1013 1576 482 2 (md 66 6) "value_of" "Machine." fK ["self","symbol","found"] (
 f7 1020 1585 490 3 (md 66 7) "set_value" "Machine." fK ["self","symbol","value"] (
 f7 1027 1594 495 2 (md 66 8) "look" "Machine." fK ["self","form"] (
 f7 1034 1602 503 2 (md 66 9) "forms_of" "Machine." fK ["self","datum","found"] (
 f7 1041 1611 509 3 (md 66 10) "look_at_call" "Machine." fK ["self","head","forms","function"] (
 f7 1048 1621 519 2 (md 66 11) "expanded" "Machine." fK ["self","form","function"] (
 f7 1055 1630 525 2 (md 66 12) "function_of" "Machine." fK ["self","datum","found"] (
 f7 1062 1639 533 3 (md 66 13) "apply" "Machine." fK ["self","datum","arguments","function"] (
 f7 1069 1649 546 3 (md 66 14) "enter" "Machine." fK ["self","function","arguments","parts","depth"] (
 f7 1076 1660 554 2 (md 66 15) "leave" "Machine." fK ["self","leaving"] (
 TU []::
 FL []::
 FP (md 66 16) "throw" "Machine."::
 CF "throw" "Machine." 1668 563 3 1083 N N (R 1085) 1671::
 FO (md 66 16) "throw" "Machine." N fK 1086::
 f7 1088 1674 569 3 (md 66 17) "signal" "Machine." fK ["self","name","data"] (
 f7 1095 1683 572 1 (md 66 18) "step" "Machine." fK ["self","error","thrown"] (
 f7 1102 1692 583 2 (md 66 19) "run" "Machine." fK ["self","frame","floor","depth","mark"] (
 f7 1109 1703 596 2 (md 66 20) "eval" "Machine." fK ["self","form"] (
 f7 1116 1711 599 3 (md 66 21) "call" "Machine." fK ["self","function","arguments"] (
 f7 1123 1720 602 1 (md 66 22) "reset" "Machine." fK ["self"] (
 TU (TS 1727 ["floor","frames","limit","stack","steps","value","world"])::
 DB P 1522 454 fK [("__init__",1535,977),("tell",1543,984),("push",1551,991),("pop",1558,998),("done",1566,1005),("refuse_count",1575,1012),("value_of",1584,1019),("set_value",1593,1026),("look",1601,1033),("forms_of",1610,1040),("look_at_call",1620,1047),("expanded",1629,1054),("function_of",1638,1061),("apply",1648,1068),("enter",1659,1075),("leave",1667,1082),("throw",1673,1087),("signal",1682,1094),("step",1691,1101),("run",1702,1108),("eval",1710,1115),("call",1719,1122),("reset",1726,1129),("__static_attributes__",1734,1130),("__dict__",1736,1133),("__weakref__",1738,1134)] 1739 4::
 CL "Machine" [(Y "object")] 1132 [(Y "object")] none 1515 1523 "object.__new__"::[]))))))))))))))))
def H5(P:Params):List Obj:=
 GA 1735 1132::
 GB 1737 1132::
 SU 1132::
 IS 1132::
 f7 1137 1744 605 2 (fd 68) "need_symbol" "" gg ["machine","datum"] (
 f7 1144 1752 608 2 (fd 69) "progn" "" gg ["machine","forms"] (
 f7 1151 1760 615 2 (fd 70) "quote" "" gg ["machine","forms"] (
 TU [(R 789)]::
 PR::
 DA P "IfFrame" 1775 617 gg [("__init__",1788,1171),("step",1796,1178),("__static_attributes__",1799,1179)]::
 TU []::
 FL (FC [619,1170,623,1177])::
 CC "IfFrame" 1770 617 1161::
 FR 1163 1160 gg::
 f7 1165 1780 619 3 (md 71 0) "__init__" "IfFrame." gg ["self","yes","no"] (
 f7 1172 1789 623 2 (md 71 1) "step" "IfFrame." gg ["self","machine"] (
 TU (TS 1797 ["no","yes"])::
 DB P 1775 617 gg [("__init__",1788,1171),("step",1796,1178),("__static_attributes__",1799,1179)] 1800 2::
 CL "IfFrame" [(R 789)] 1181 [(R 789),(Y "object")] (some (R 1158)) 1768 1776 "object.__new__"::
 SU 1181::
 IS 1181::
 f7 1184 1803 626 2 (fd 72) "if_form" "" gg ["machine","forms"] (
 f7 1191 1811 629 2 (fd 73) "when_form" "" gg ["machine","forms"] (
 f7 1198 1819 632 2 (fd 74) "unless_form" "" gg ["machine","forms"] ([]))))))))
def H4(P:Params):List Obj:=
 TU [(R 789)]::
 PR::
 DA P "CondFrame" 1834 635 gg [("__init__",1847,1218),("step",1855,1225),("__static_attributes__",1858,1226)]::
 TU []::
 FL (FC [637,1217,641,1224])::
 CC "CondFrame" 1829 635 1208::
 FR 1210 1207 gg::
 f7 1212 1839 637 3 (md 75 0) "__init__" "CondFrame." gg ["self","body","clauses"] (
 f7 1219 1848 641 2 (md 75 1) "step" "CondFrame." gg ["self","machine"] (
 TU (TS 1856 ["body","clauses"])::
 DB P 1834 635 gg [("__init__",1847,1218),("step",1855,1225),("__static_attributes__",1858,1226)] 1859 2::
 CL "CondFrame" [(R 789)] 1228 [(R 789),(Y "object")] (some (R 1205)) 1827 1835 "object.__new__"::
 SU 1228::
 IS 1228::
 f7 1231 1862 647 2 (fd 76) "cond" "" gg ["machine","clauses","place","clause"] (
 TU [(R 789)]::
 PR::
 DA P "JoinFrame" 1879 655 gg [("__init__",1892,1251),("step",1901,1258),("__static_attributes__",1905,1259)]::
 TU []::
 FL (FC [657,1250,662,1257])::
 CC "JoinFrame" 1874 655 1241::
 FR 1243 1240 gg::
 f7 1245 1884 657 3 (md 77 0) "__init__" "JoinFrame." gg ["self","forms","ends_by_nil"] (
 f7 1252 1893 662 2 (md 77 1) "step" "JoinFrame." gg ["self","machine","form"] ([])))))
def H3(P:Params):List Obj:=
 TU (TS 1902 ["ends_by_nil","forms","place"])::
 DB P 1879 655 gg [("__init__",1892,1251),("step",1901,1258),("__static_attributes__",1905,1259)] 1906 2::
 CL "JoinFrame" [(R 789)] 1261 [(R 789),(Y "object")] (some (R 1238)) 1872 1880 "object.__new__"::
 SU 1261::
 IS 1261::
 f7 1264 1909 671 3 (fd 78) "join" "" gg ["machine","forms","ends_by_nil"] (
 f7 1271 1918 675 2 (fd 79) "and_form" "" gg ["machine","forms"] (
 f7 1278 1926 680 2 (fd 80) "or_form" "" gg ["machine","forms"] (
 TU [(R 789)]::
 PR::
 DA P "WhileFrame" 1941 685 gg [("__init__",1954,1298),("step",1962,1305),("__static_attributes__",1966,1306)]::
 TU []::
 FL (FC [687,1297,692,1304])::
 CC "WhileFrame" 1936 685 1288::
 FR 1290 1287 gg::
 f7 1292 1946 687 3 (md 81 0) "__init__" "WhileFrame." gg ["self","test","body"] (
 f7 1299 1955 692 2 (md 81 1) "step" "WhileFrame." gg ["self","machine"] (
 TU (TS 1963 ["body","is_testing","test"])::
 DB P 1941 685 gg [("__init__",1954,1298),("step",1962,1305),("__static_attributes__",1966,1306)] 1967 2::
 CL "WhileFrame" [(R 789)] 1308 [(R 789),(Y "object")] (some (R 1285)) 1934 1942 "object.__new__"::
 SU 1308::
 IS 1308::
 f7 1311 1970 701 2 (fd 82) "while_form" "" gg ["machine","forms"] ([]))))))
def T6(P:Params):Obj:=⟨N,none,.dict (List.toArray [(E P "type.__subclasses__.Exception.0" 223 (I 38)),(E P "type.__subclasses__.Exception.n" 224 (I 3)),(E P "type.__subclasses__.Exception.1" 252 (I 58)),(E P "type.__subclasses__.Exception.2" 1239 (I 755))]) 4,List.toArray []⟩
def T5(P:Params):Obj:=⟨(Y "dict"),none,.dict (List.toArray (E P "__name__" 165 (S "emacs.forms" 1742)::xC P [])) 83,List.toArray []⟩
def W7:List Nat:=W8++[307,0,646,311,0,653,316,0,660,323,0,681,332,0,688,338,0,695,365,0,744,370,0,764,380,0,799,388,0,825,397,0,851,414,0,877,426,0,903,445,0,936,450,0,955,452,0,962,454,0,969,605,0,1142,608,0,1149,615,0,1156,617,0,1163,626,0,1189,629,0,1196,632,0,1203,635,0,1210,647,0,1236,655,0,1243,671,0,1269,675,0,1276,680,0,1283,685,0,1290,701,0,1316]
def Qy(P:Params):Obj:=FL (FD W7)
def s2(P:Params):List Obj:=G5 [(2,T6 P),(3,T5 P),(12,Qy P)] (s1 P)++(My P++(Mx P++(Mw P++(Mv P++(Mu P++(Mt P++(Ms P++(H6 P++(H5 P++(H4 P++(H3 P)))))))))))
def H2(P:Params):List Obj:=
 TU [(R 789)]::
 PR::
 DA P "Prog1Frame" 1985 704 gg [("__init__",1997,1331),("step",2005,1338),("__static_attributes__",2009,1339)]::
 TU []::
 FL (FC [706,1330,711,1337])::
 CC "Prog1Frame" 1980 704 1321::
 FR 1323 1320 gg::
 f7 1325 1990 706 2 (md 83 0) "__init__" "Prog1Frame." gg ["self","forms"] (
 f7 1332 1998 711 2 (md 83 1) "step" "Prog1Frame." gg ["self","machine"] (
 TU (TS 2006 ["forms","kept","place"])::
 DB P 1985 704 gg [("__init__",1997,1331),("step",2005,1338),("__static_attributes__",2009,1339)] 2010 2::
 CL "Prog1Frame" [(R 789)] 1341 [(R 789),(Y "object")] (some (R 1318)) 1978 1986 "object.__new__"::
 SU 1341::
 IS 1341::
 f7 1344 2013 719 2 (fd 84) "prog1" "" gg ["machine","forms"] (
 TU [(R 789)]::
 PR::
 DA P "SetFrame" 2028 723 gg [("__init__",2041,1364),("step",2050,1371),("__static_attributes__",2054,1372)]::
 TU []::
 FL (FC [725,1363,730,1370])::
 CC "SetFrame" 2023 723 1354::
 FR 1356 1353 gg::
 f7 1358 2033 725 3 (md 85 0) "__init__" "SetFrame." gg ["self","forms","is_default"] (
 f7 1365 2042 730 2 (md 85 1) "step" "SetFrame." gg ["self","machine","symbol"] ([])))))
def HZ(P:Params):List Obj:=
 TU (TS 2051 ["forms","is_default","place"])::
 DB P 2028 723 gg [("__init__",2041,1364),("step",2050,1371),("__static_attributes__",2054,1372)] 2055 2::
 CL "SetFrame" [(R 789)] 1374 [(R 789),(Y "object")] (some (R 1351)) 2021 2029 "object.__new__"::
 SU 1374::
 IS 1374::
 f7 1377 2058 742 3 (fd 86) "set_default" "" gg ["machine","symbol","value"] (
 f7 1384 2067 746 4 (fd 87) "set_pairs" "" gg ["machine","forms","name","is_default"] (
 f7 1391 2077 755 2 (fd 88) "setq" "" gg ["machine","forms"] (
 f7 1398 2085 757 2 (fd 89) "setq_default" "" gg ["machine","forms"] (
 f7 1405 2093 759 2 (fd 90) "read_bindings" "" gg ["machine","datum","found","item","parts"] (
 TU [(R 789)]::
 PR::
 DA P "LetFrame" 2111 768 gg [("__init__",2124,1425),("step",2134,1432),("__static_attributes__",2139,1433)]::
 TU []::
 FL (FC [770,1424,776,1431])::
 CC "LetFrame" 2106 768 1415::
 FR 1417 1414 gg::
 f7 1419 2116 770 3 (md 91 0) "__init__" "LetFrame." gg ["self","pairs","body"] (
 f7 1426 2125 776 2 (md 91 1) "step" "LetFrame." gg ["self","machine","depth","place"] (
 TU (TS 2135 ["body","is_waiting","pairs","values"])::
 DB P 2111 768 gg [("__init__",2124,1425),("step",2134,1432),("__static_attributes__",2139,1433)] 2140 2::
 CL "LetFrame" [(R 789)] 1435 [(R 789),(Y "object")] (some (R 1412)) 2104 2112 "object.__new__"::
 SU 1435::
 IS 1435::[])))))))
def HY(P:Params):List Obj:=
 f7 1438 2143 788 2 (fd 92) "let" "" gg ["machine","forms"] (
 TU [(R 789)]::
 PR::
 DA P "LetStarFrame" 2158 790 gg [("__init__",2172,1458),("step",2180,1465),("leave",2189,1472),("__static_attributes__",2194,1473)]::
 TU []::
 FL (FC [792,1457,798,1464,808,1471])::
 CC "LetStarFrame" 2153 790 1448::
 FR 1450 1447 gg::
 f7 1452 2163 792 4 (md 93 0) "__init__" "LetStarFrame." gg ["self","pairs","body","depth"] (
 f7 1459 2173 798 2 (md 93 1) "step" "LetStarFrame." gg ["self","machine"] (
 f7 1466 2181 808 3 (md 93 2) "leave" "LetStarFrame." gg ["self","machine","leaving"] (
 TU (TS 2190 ["body","depth","pairs","place"])::
 DB P 2158 790 gg [("__init__",2172,1458),("step",2180,1465),("leave",2189,1472),("__static_attributes__",2194,1473)] 2195 2::
 CL "LetStarFrame" [(R 789)] 1475 [(R 789),(Y "object")] (some (R 1445)) 2151 2159 "object.__new__"::
 SU 1475::
 IS 1475::
 f7 1478 2198 811 2 (fd 94) "let_star" "" gg ["machine","forms"] (
 TU []::
 FL []::
 FP (fd 95) "choosing_forms" ""::
 CF "choosing_forms" "" 2206 813 0 1485 N N (R 1487) 2209::
 FO (fd 95) "choosing_forms" "" N gg 1488::
 TU []::
 FL []::[])))))
def HX(P:Params):List Obj:=
 FP (fd 96) "binding_forms" ""::
 CF "binding_forms" "" 2212 816 0 1490 N N (R 1492) 2215::
 FO (fd 96) "binding_forms" "" N gg 1493::
 TU []::
 FL []::
 FP (fd 100) "conditions" ""::
 CF "conditions" "" 2224 822 2 1495 N N (R 1497) 2227::
 FO (fd 100) "conditions" "" N xS 1498::
 TU []::
 FL []::
 FP (fd 101) "define_error" ""::
 CF "define_error" "" 2230 828 4 1500 N N (R 1502) 2233::
 FO (fd 101) "define_error" "" N xS 1503::
 f7 1505 2236 836 3 (fd 102) "takes_name" "" xS ["world","wanted","name"] (
 TU []::
 FL []::
 FP (fd 103) "is_handled" ""::
 CF "is_handled" "" 2245 838 3 1512 N N (R 1514) 2248::
 FO (fd 103) "is_handled" "" N xS 1515::
 f7 1517 2251 843 1 (fd 104) "datum_of" "" xS ["part"] (
 TU []::
 FL []::
 FP (fd 105) "error_object" ""::
 CF "error_object" "" 2258 847 3 1524 N N (R 1526) 2261::[]))
def HW(P:Params):List Obj:=
 FO (fd 105) "error_object" "" N xS 1527::
 f7 1529 2264 849 1 (fd 106) "data_of" "" xS ["datum","found"] (
 TU [(R 789)]::
 PR::
 DA P "CatchFrame" 2281 853 gu [("__init__",2294,1549),("step",2302,1556),("wants",2311,1563),("leave",2320,1570),("__static_attributes__",2324,1571)]::
 TU []::
 FL (FC [855,1548,860,1555,867,1562,870,1569])::
 CC "CatchFrame" 2276 853 1539::
 FR 1541 1538 gu::
 f7 1543 2286 855 3 (md 108 0) "__init__" "CatchFrame." gu ["self","body","depth"] (
 f7 1550 2295 860 2 (md 108 1) "step" "CatchFrame." gu ["self","machine"] (
 f7 1557 2303 867 3 (md 108 2) "wants" "CatchFrame." gu ["self","machine","leaving"] (
 f7 1564 2312 870 3 (md 108 3) "leave" "CatchFrame." gu ["self","machine","leaving"] (
 TU (TS 2321 ["body","depth","tag"])::
 DB P 2281 853 gu [("__init__",2294,1549),("step",2302,1556),("wants",2311,1563),("leave",2320,1570),("__static_attributes__",2324,1571)] 2325 2::
 CL "CatchFrame" [(R 789)] 1573 [(R 789),(Y "object")] (some (R 1536)) 2274 2282 "object.__new__"::
 SU 1573::
 IS 1573::
 f7 1576 2328 876 2 (fd 109) "catch" "" gu ["machine","forms"] (
 TU [(R 789)]::
 PR::
 DA P "UnwindFrame" 2343 879 gu [("__init__",2356,1596),("step",2364,1603),("leave",2373,1610),("__static_attributes__",2379,1611)]::
 TU []::
 FL (FC [881,1595,888,1602,899,1609])::[]))))))
def HV(P:Params):List Obj:=
 CC "UnwindFrame" 2338 879 1586::
 FR 1588 1585 gu::
 f7 1590 2348 881 3 (md 110 0) "__init__" "UnwindFrame." gu ["self","cleanup","depth"] (
 f7 1597 2357 888 2 (md 110 1) "step" "UnwindFrame." gu ["self","machine"] (
 f7 1604 2365 899 3 (md 110 2) "leave" "UnwindFrame." gu ["self","machine","leaving"] (
 TU (TS 2374 ["cleanup","depth","is_cleaning","kept","leaving"])::
 DB P 2343 879 gu [("__init__",2356,1596),("step",2364,1603),("leave",2373,1610),("__static_attributes__",2379,1611)] 2380 2::
 CL "UnwindFrame" [(R 789)] 1613 [(R 789),(Y "object")] (some (R 1583)) 2336 2344 "object.__new__"::
 SU 1613::
 IS 1613::
 f7 1616 2383 908 2 (fd 111) "unwind_protect" "" gu ["machine","forms"] (
 TU [(R 789)]::
 PR::
 DA P "HandlerFrame" 2398 911 gu [("__init__",2413,1636),("step",2422,1643),("leave",2434,1650),("__static_attributes__",2439,1651)]::
 TU []::
 FL (FC [913,1635,919,1642,927,1649])::
 CC "HandlerFrame" 2393 911 1626::
 FR 1628 1625 gu::
 f7 1630 2403 913 5 (md 112 0) "__init__" "HandlerFrame." gu ["self","variable","handlers","success","depth"] (
 f7 1637 2414 919 2 (md 112 1) "step" "HandlerFrame." gu ["self","machine","value"] (
 f7 1644 2423 927 3 (md 112 2) "leave" "HandlerFrame." gu ["self","machine","leaving","wanted","forms","value"] (
 TU (TS 2435 ["depth","handlers","success","variable"])::
 DB P 2398 911 gu [("__init__",2413,1636),("step",2422,1643),("leave",2434,1650),("__static_attributes__",2439,1651)] 2440 2::
 CL "HandlerFrame" [(R 789)] 1653 [(R 789),(Y "object")] (some (R 1623)) 2391 2399 "object.__new__"::[])))))))
def HU(P:Params):List Obj:=
 SU 1653::
 IS 1653::
 f7 1656 2443 938 4 (fd 113) "go_on_with" "" gu ["machine","variable","forms","value"] (
 TU [(R 789)]::
 PR::
 DA P "CaughtFrame" 2460 944 gu [("__init__",2474,1676),("step",2482,1683),("__static_attributes__",2486,1684)]::
 TU []::
 FL (FC [946,1675,951,1682])::
 CC "CaughtFrame" 2455 944 1666::
 FR 1668 1665 gu::
 f7 1670 2465 946 4 (md 114 0) "__init__" "CaughtFrame." gu ["self","variable","forms","value"] (
 f7 1677 2475 951 2 (md 114 1) "step" "CaughtFrame." gu ["self","machine"] (
 TU (TS 2483 ["forms","value","variable"])::
 DB P 2460 944 gu [("__init__",2474,1676),("step",2482,1683),("__static_attributes__",2486,1684)] 2487 2::
 CL "CaughtFrame" [(R 789)] 1686 [(R 789),(Y "object")] (some (R 1663)) 2453 2461 "object.__new__"::
 SU 1686::
 IS 1686::
 f7 1689 2490 954 2 (fd 115) "condition_case" "" gu ["machine","forms","handlers","success","handler","parts"] (
 f7 1696 2502 965 2 (fd 116) "ignore_errors" "" gu ["machine","forms"] (
 TU []::
 FL []::
 FP (fd 117) "exit_forms" ""::
 CF "exit_forms" "" 2510 968 0 1703 N N (R 1705) 2513::
 FO (fd 117) "exit_forms" "" N gu 1706::[])))))
def HT(P:Params):List Obj:=
 f7 1708 2518 972 2 (fd 119) "funcall" "" iD ["machine","arguments"] (
 f7 1715 2526 974 2 (fd 120) "need_list" "" iD ["machine","datum","found"] (
 f7 1722 2535 979 2 (fd 121) "apply_to" "" iD ["machine","arguments"] (
 f7 1729 2543 985 2 (fd 122) "form_value" "" iD ["machine","arguments"] (
 f7 1736 2551 987 2 (fd 123) "throw" "" iD ["machine","arguments"] (
 f7 1743 2559 989 2 (fd 124) "signal" "" iD ["machine","arguments","symbol","data"] (
 f7 1750 2569 996 2 (fd 125) "sequence_items" "" iD ["machine","datum","found"] (
 TU [(R 789)]::
 PR::
 DA P "MapFrame" 2585 1005 iD [("__init__",2599,1770),("step",2607,1777),("__static_attributes__",2613,1778)]::
 TU []::
 FL (FC [1007,1769,1014,1776])::
 CC "MapFrame" 2580 1005 1760::
 FR 1762 1759 iD::
 f7 1764 2590 1007 4 (md 126 0) "__init__" "MapFrame." iD ["self","function","items","result"] (
 f7 1771 2600 1014 2 (md 126 1) "step" "MapFrame." iD ["self","machine"] (
 TU (TS 2608 ["found","function","is_waiting","items","result"])::
 DB P 2585 1005 iD [("__init__",2599,1770),("step",2607,1777),("__static_attributes__",2613,1778)] 2614 2::
 CL "MapFrame" [(R 789)] 1780 [(R 789),(Y "object")] (some (R 1757)) 2578 2586 "object.__new__"::
 SU 1780::
 IS 1780::
 f7 1783 2617 1022 2 (fd 127) "mapcar" "" iD ["machine","arguments"] (
 f7 1790 2625 1024 2 (fd 128) "mapc" "" iD ["machine","arguments"] (
 TU [(R 789)]::[])))))))))))
def HS(P:Params):List Obj:=
 PR::
 DA P "ExpansionFrame" 2640 1026 iD [("__init__",2653,1810),("step",2662,1817),("__static_attributes__",2665,1818)]::
 TU []::
 FL (FC [1028,1809,1032,1816])::
 CC "ExpansionFrame" 2635 1026 1800::
 FR 1802 1799 iD::
 f7 1804 2645 1028 3 (md 129 0) "__init__" "ExpansionFrame." iD ["self","form","is_once"] (
 f7 1811 2654 1032 2 (md 129 1) "step" "ExpansionFrame." iD ["self","machine","form"] (
 TU (TS 2663 ["form","is_once"])::
 DB P 2640 1026 iD [("__init__",2653,1810),("step",2662,1817),("__static_attributes__",2665,1818)] 2666 2::
 CL "ExpansionFrame" [(R 789)] 1820 [(R 789),(Y "object")] (some (R 1797)) 2633 2641 "object.__new__"::
 SU 1820::
 IS 1820::
 f7 1823 2669 1039 2 (fd 130) "begin_expansion" "" iD ["machine","form","function"] (
 f7 1830 2678 1047 2 (fd 131) "macroexpand" "" iD ["machine","arguments"] (
 f7 1837 2686 1050 2 (fd 132) "macroexpand_once" "" iD ["machine","arguments"] (
 TU []::
 FL []::
 FP (fd 133) "calling_functions" ""::
 CF "calling_functions" "" 2694 1053 0 1844 N N (R 1846) 2697::
 FO (fd 133) "calling_functions" "" N iD 1847::
 TU []::
 PR::
 DA P "Obarray" 2709 1057 qn [("__init__",2720,1862),("intern",2729,1869),("soft",2737,1876),("fresh",2746,1883),("by_number",2754,1890),("is_interned",2762,1897),("unintern",2770,1904),("all_names",2777,1911),("size",2784,1918),("__static_attributes__",2787,1919)]::[])))))
def HR(P:Params):List Obj:=
 TU []::
 FL (FC [1059,1861,1063,1868,1070,1875,1073,1882,1078,1889,1081,1896,1084,1903,1087,1910,1090,1917])::
 CC "Obarray" 2704 1057 1852::
 FR 1854 1851 qn::
 f7 1856 2714 1059 1 (md 135 0) "__init__" "Obarray." qn ["self"] (
 f7 1863 2721 1063 2 (md 135 1) "intern" "Obarray." qn ["self","name","found"] (
 f7 1870 2730 1070 2 (md 135 2) "soft" "Obarray." qn ["self","name"] (
 f7 1877 2738 1073 2 (md 135 3) "fresh" "Obarray." qn ["self","name","found"] (
 f7 1884 2747 1078 2 (md 135 4) "by_number" "Obarray." qn ["self","number"] (
 f7 1891 2755 1081 2 (md 135 5) "is_interned" "Obarray." qn ["self","symbol"] (
 f7 1898 2763 1084 2 (md 135 6) "unintern" "Obarray." qn ["self","name"] (
 f7 1905 2771 1087 1 (md 135 7) "all_names" "Obarray." qn ["self"] (
 f7 1912 2778 1090 1 (md 135 8) "size" "Obarray." qn ["self"] (
 TU (TS 2785 ["names","rows"])::
 DB P 2709 1057 qn [("__init__",2720,1862),("intern",2729,1869),("soft",2737,1876),("fresh",2746,1883),("by_number",2754,1890),("is_interned",2762,1897),("unintern",2770,1904),("all_names",2777,1911),("size",2784,1918),("__static_attributes__",2787,1919),("__dict__",2789,1922),("__weakref__",2791,1923)] 2792 4::
 CL "Obarray" [(Y "object")] 1921 [(Y "object")] none 2702 2710 "object.__new__"::
 GA 2788 1921::
 GB 2790 1921::
 SU 1921::
 IS 1921::
 TU []::
 PR::
 DA P "World" 2804 1093 vQ [("__init__",2815,1939),("symbol",2823,1946),("own",2830,1953),("fresh_marker",2837,1960),("put_functions",2846,1967),("__static_attributes__",2854,1968)]::
 TU []::[])))))))))
def HQ(P:Params):List Obj:=
 FL (FC [1095,1938,1104,1945,1107,1952,1112,1959,1115,1966])::
 CC "World" 2799 1093 1929::
 FR 1931 1928 vQ::
 f7 1933 2809 1095 1 (md 137 0) "__init__" "World." vQ ["self"] (
 f7 1940 2816 1104 2 (md 137 1) "symbol" "World." vQ ["self","name"] (
 f7 1947 2824 1107 1 (md 137 2) "own" "World." vQ ["self"] (
 f7 1954 2831 1112 1 (md 137 3) "fresh_marker" "World." vQ ["self"] (
 f7 1961 2838 1115 2 (md 137 4) "put_functions" "World." vQ ["self","functions","function"] (
 TU (TS 2847 ["bare","cells","current","last_marker","machine","obarray","variables"])::
 DB P 2804 1093 vQ [("__init__",2815,1939),("symbol",2823,1946),("own",2830,1953),("fresh_marker",2837,1960),("put_functions",2846,1967),("__static_attributes__",2854,1968),("__dict__",2856,1971),("__weakref__",2858,1972)] 2859 4::
 CL "World" [(Y "object")] 1970 [(Y "object")] none 2797 2805 "object.__new__"::
 GA 2855 1970::
 GB 2857 1970::
 SU 1970::
 IS 1970::
 TU (TS 2864 ["error","quit","void-variable","wrong","far-wrong","end-of-buffer"])::
 TU []::
 FL []::
 FP (fd 140) "_law_deck" ""::
 CF "_law_deck" "" 2871 1120 1 1976 N N (R 1978) 2874::
 FO (fd 140) "_law_deck" "" N ud 1979::
 f7 1981 2877 1123 2 (fd 141) "_law_draw" "" ud ["deck","many","cells_own","seed","found"] (
 TU []::
 FL []::[]))))))
def HP(P:Params):List Obj:=
 FP (fd 142) "_law_form" ""::
 CF "_law_form" "" 2888 1133 2 1988 N N (R 1990) 2891::
 FO (fd 142) "_law_form" "" N ud 1991::
 TU []::
 FL []::
 FP (fd 143) "_law_datum" ""::
 CF "_law_datum" "" 2894 1154 2 1993 N N (R 1995) 2897::
 FO (fd 143) "_law_datum" "" N ud 1996::
 TU []::
 FL []::
 FP (fd 144) "_law_takes" ""::
 CF "_law_takes" "" 2900 1179 2 1998 N N (R 2000) 2903::
 FO (fd 144) "_law_takes" "" N ud 2001::
 f7 2003 2906 1182 3 (fd 145) "_law_told" "" ud ["form","tags","notes","word","told_own","one","later","some","body"] (
 TU []::
 FL []::
 TU (TS 2924 ["notes","deed"])::
 TU [(S "notes" 2926)]::
 FP (fd 146) "_law_noter" ""::
 CF "_law_noter" "" 2921 1215 1 2010 (R 2012) (R 2013) (R 2014) 2927::
 FO (fd 146) "_law_noter" "" N ud 2015::
 f7 2017 2930 1228 2 (fd 147) "_law_begun" "" ud ["world_own","notes"] (
 f7 2024 2938 1234 1 (fd 148) "law" "" ud ["script","deck","form","due_notes","notes","due","world_own","machine_own","value","told_own","error","data"] ([])))
def T4(P:Params):Obj:=⟨(Y "dict"),none,.dict (List.toArray (E P "__name__" 165 (S "law_np0118_01" 2862)::xC P (Gy P [("Prog1Frame",2012,1341),("prog1",2020,1350),("SetFrame",2057,1374),("set_default",2066,1383),("set_pairs",2076,1390),("setq",2084,1397),("setq_default",2092,1404),("read_bindings",2103,1411),("LetFrame",2142,1435),("let",2150,1444),("LetStarFrame",2197,1475),("let_star",2205,1484),("choosing_forms",2211,1489),("binding_forms",2217,1494)] (E P "CONDITIONS" 2221 (S "error-conditions" 2220)::E P "MESSAGE" 2223 (S "error-message" 2222)::Gy P [("conditions",2229,1499),("define_error",2235,1504),("takes_name",2244,1511),("is_handled",2250,1516),("datum_of",2257,1523),("error_object",2263,1528),("data_of",2271,1535),("CatchFrame",2327,1573),("catch",2335,1582),("UnwindFrame",2382,1613),("unwind_protect",2390,1622),("HandlerFrame",2442,1653),("go_on_with",2452,1662),("CaughtFrame",2489,1686),("condition_case",2501,1695),("ignore_errors",2509,1702),("exit_forms",2515,1707),("funcall",2525,1714),("need_list",2534,1721),("apply_to",2542,1728),("form_value",2550,1735),("throw",2558,1742),("signal",2568,1749),("sequence_items",2577,1756),("MapFrame",2616,1780),("mapcar",2624,1789),("mapc",2632,1796),("ExpansionFrame",2668,1820),("begin_expansion",2677,1829),("macroexpand",2685,1836),("macroexpand_once",2693,1843),("calling_functions",2699,1848),("Obarray",2794,1921),("World",2861,1970),("_law_conditions",2870,1975),("_law_deck",2876,1980),("_law_draw",2887,1987),("_law_form",2893,1992),("_law_datum",2899,1997),("_law_takes",2905,2002),("_law_told",2920,2009),("_law_noter",2929,2016),("_law_begun",2937,2023),("law",2955,2030)] ([]))))) 143,List.toArray []⟩
def Qx(P:Params):Obj:=FL (FD (W7++[704,0,1323,719,0,1349,723,0,1356,742,0,1382,746,0,1389,755,0,1396,757,0,1403,759,0,1410,768,0,1417,788,0,1443,790,0,1450,811,0,1483,813,0,1488,816,0,1493,822,0,1498,828,0,1503,836,0,1510,838,0,1515,843,0,1522,847,0,1527,849,0,1534,853,0,1541,876,0,1581,879,0,1588,908,0,1621,911,0,1628,938,0,1661,944,0,1668,954,0,1694,965,0,1701,968,0,1706,972,0,1713,974,0,1720,979,0,1727,985,0,1734,987,0,1741,989,0,1748,996,0,1755,1005,0,1762,1022,0,1788,1024,0,1795,1026,0,1802,1039,0,1828,1047,0,1835,1050,0,1842,1053,0,1847,1057,0,1854,1093,0,1931,1120,0,1979,1123,0,1986,1133,0,1991,1154,0,1996,1179,0,2001,1182,0,2008,1215,0,2015,1228,0,2022,1234,0,2029]))
def Mr(P:Params):Obj:=⟨(Y "type"),none,.cls ⟨S' "Frame",[(Y "object")],[(R 789),(Y "object")],788,S' "Frame",true,[],[(R 817),(R 843),(R 869),(R 895),(R 928),(R 947),(R 1181),(R 1228),(R 1261),(R 1308),(R 1341),(R 1374),(R 1435),(R 1475),(R 1573),(R 1613),(R 1653),(R 1686),(R 1780),(R 1820)],false,none,false⟩,List.toArray [none,none,some (S "Frame" 1243),some (S "Frame" 1251),some (B "object.__new__"),some Tr]⟩
def s3(P:Params):List Obj:=G5 [(3,T4 P),(12,Qx P),(789,Mr P)] (s2 P)++(H2 P++(HZ P++(HY P++(HX P++(HW P++(HV P++(HU P++(HT P++(HS P++(HR P++(HQ P++(HP P))))))))))))
def sM:Env:={scope:=pw.main.scope,locals:=mainNs,globals:=mainNs,cells:=[],code:=.ref 13,frame:=some 14}
def cE:Code:=.body (behindTheImports pw) sM
def q0:Pos:=⟨0,0,0,0⟩
def st(l:List Obj)(n k:Nat)(os:OsState):SharedT:=⟨bt 14 l,n,{},Array.mk [],boot_drawn,k,os⟩
def oa:Option Value:=some (.ref 6)
def b1:List Stmt:=pw.main.body.take 45
def b2:List Stmt:=(pw.main.body.drop 45).take 38
def b3:List Stmt:=(pw.main.body.drop 45).drop 38
def p1:Pos:=⟨288,0,306,17⟩
def p2:Pos:=⟨701,0,703,26⟩
def p3:Pos:=⟨1234,0,1253,115⟩
theorem QF:∀(w:World) (os:OsState),PySem.W.Fast.tw10110043849684766642 PySem.W.Fast.tw14364793385576792824 pw w 11 oa 1 5291 (st (s0 w.params) 15 187 os) (piecesOf b1 sM cE q0 [topFrame q0])=some (.next,st (s1 w.params) 641 1067 os,cE,p1):=fun w os=>by kernel_rfl
theorem QE:∀(w:World) (os:OsState),PySem.W.Fast.tw10110043849684766642 PySem.W.Fast.tw14364793385576792824 pw w 11 oa 1 5411 (st (s1 w.params) 641 1067 os) (piecesOf b2 sM cE p1 [topFrame q0])=some (.next,st (s2 w.params) 1318 1978 os,cE,p2):=fun w os=>by kernel_rfl
theorem QD:∀(w:World) (os:OsState),PySem.W.Fast.tw10110043849684766642 PySem.W.Fast.tw14364793385576792824 pw w 11 oa 1 5244 (st (s2 w.params) 1318 1978 os) (piecesOf b3 sM cE p2 [topFrame q0])=some (.next,st (s3 w.params) 2031 2956 os,cE,p3):=fun w os=>by kernel_rfl
theorem Ug(w:World)(os:OsState):segRunT treeTable pw w 11 oa 1 5291 (st (s0 w.params) 15 187 os) (piecesOf b1 sM cE q0 [topFrame q0])=some (.next,st (s1 w.params) 641 1067 os,cE,p1):=by
 rw[PySem.W.Fast.te10110043849684766642,PySem.W.Fast.te14364793385576792824];exact QF w os
theorem Ue(w:World)(os:OsState):segRunT treeTable pw w 11 oa 1 5411 (st (s1 w.params) 641 1067 os) (piecesOf b2 sM cE p1 [topFrame q0])=some (.next,st (s2 w.params) 1318 1978 os,cE,p2):=by
 rw[PySem.W.Fast.te10110043849684766642,PySem.W.Fast.te14364793385576792824];exact QE w os
theorem Ud(w:World)(os:OsState):segRunT treeTable pw w 11 oa 1 5244 (st (s2 w.params) 1318 1978 os) (piecesOf b3 sM cE p2 [topFrame q0])=some (.next,st (s3 w.params) 2031 2956 os,cE,p3):=by
 rw[PySem.W.Fast.te10110043849684766642,PySem.W.Fast.te14364793385576792824];exact QD w os
theorem Ui:∀(w:World) (os:OsState),PySem.W.Fast.tw15667345088766844465 PySem.W.Fast.tw14364793385576792824 pw w 11 oa 12 ⟨boot_heap w.params,Array.mk [],boot_drawn,boot_toks,os⟩ (topStub pw)=
  some ((st (s0 w.params) 15 187 os).abs,⟨PySem.W.Fast.tw11892475500146522536 PySem.W.Fast.tw14364793385576792824 cE,cE,q0,[topFrame q0]⟩):=fun w os=>by kernel_rfl
theorem pre(w:World)(os:OsState):topGo treeTable pw w 11 oa 12 ⟨boot_heap w.params,Array.mk [],boot_drawn,boot_toks,os⟩ (topStub pw)=some ((st (s0 w.params) 15 187 os).abs,⟨denote treeTable cE,cE,q0,[topFrame q0]⟩):=by
 rw[PySem.W.Fast.te15667345088766844465,PySem.W.Fast.te14364793385576792824,PySem.W.Fast.te11892475500146522536];exact Ui w os
theorem blk(w:World)(os:OsState):segRun treeTable pw w 11 oa 1 1 (st (s0 w.params) 15 187 os).abs (blockOf (behindTheImports pw) sM cE q0 [topFrame q0])=some (.next,(st (s0 w.params) 15 187 os).abs,cE,q0):=by kernel_rfl
theorem cut:behindTheImports pw=b1++(b2++(b3++[])):=by kernel_rfl
theorem fin(w:World)(os:OsState):topRun treeTable pw w 11 oa 2 (st (s3 w.params) 2031 2956 os).abs ⟨doneF .next,cE,p3,[topFrame q0]⟩=some (st (s3 w.params) 2031 2956 os).abs:=by kernel_rfl
def H1(P:Params):Heap:=absHeap (bt 14 (s3 P)) 2031 {}
def M0:Nat:=12+(1+(5291+(5411+(5244+2))))
theorem run(w:World)(os:OsState):topRun treeTable pw w 11 oa M0 ⟨boot_heap w.params,Array.mk [],boot_drawn,boot_toks,os⟩ (topStub pw)=some ⟨H1 w.params,Array.mk [],boot_drawn,2956,os⟩:=by
 refine go_top (pre w os) ?_;refine piece_block (q:=q0) (b:=behindTheImports pw) (env:=sM) (blk w os) ?_;have k:topRun treeTable pw w 11 oa (5291+(5411+(5244+2))) (st (s0 w.params) 15 187 os).abs (restOf (b1++(b2++(b3++[]))) sM cE q0 [topFrame q0])=some (st (s3 w.params) 2031 2956 os).abs:=
  piece_app (q:=q0) (segRun_of (Ug w os)) (piece_app (q:=q0) (segRun_of (Ue w os)) (piece_app (q:=q0) (segRun_of (Ud w os)) (fin w os)))
 rw[←cut] at k;exact k
theorem Yb(N:Nat)(hN:Nat.ble 600 N=true):∀w:World,(fencedOpening treeTable pw w N).map (fun s=>(s.heap,s.gens,s.drawn,s.toks))=some (boot_heap w.params,Array.mk [],boot_drawn,boot_toks):=
 boot_open (by kernel_rfl) hN (fun s=>by kernel_rfl)
theorem size:∀w:World,((boot_heap w.params).isNs mainGlobals&&(Array.mk []:Array GenState).size==0,(boot_heap w.params).objs.size,(boot_heap w.params).nsMap mainGlobals "__annotations__")=(true,11,oa):=fun w=>by kernel_rfl
def qv:Program:={pw with main:={pw.main with body:=pw.main.body.drop 148}}
def loose:List Str:=(["_wall","LispSignal","OutOfSteps","standard_conditions","conditions_of","Symbol","NIL","T","Cons","Text","Vector","Subr","Opaque","list_of","split_list","items_of","text_of","MOST_LINKS","MOST_PARTS","is_keyword","is_constant","Cells","MANY","count_fits","Function","Caller","Special","OPTIONAL","REST","LambdaList","bad_function","read_lambda_list","values_for","bind_parameters","VOID","LOCAL","DEFAULT","Variables","Locals","value_in","set_in","Bound","bind","bind_variables","unbind","BindingStack","THROW","SIGNAL","Thrown","Frame","StartFrame","CallFrame","ArgumentsFrame","SequenceFrame","BodyFrame","ExpandFrame","begins_with","is_same","Machine","need_symbol","progn","quote","IfFrame","if_form","when_form","unless_form","CondFrame","cond","JoinFrame","join","and_form","or_form","WhileFrame","while_form","Prog1Frame","prog1","SetFrame","set_default","set_pairs","setq","setq_default","read_bindings","LetFrame","let","LetStarFrame","let_star","choosing_forms","binding_forms","CONDITIONS","MESSAGE","conditions","define_error","takes_name","is_handled","datum_of","error_object","data_of","CatchFrame","catch","UnwindFrame","unwind_protect","HandlerFrame","go_on_with","CaughtFrame","condition_case","ignore_errors","exit_forms","funcall","need_list","apply_to","form_value","throw","signal","sequence_items","MapFrame","mapcar","mapc","ExpansionFrame","begin_expansion","macroexpand","macroexpand_once","calling_functions","Obarray","World","_law_conditions","_law_deck","_law_draw","_law_form","_law_datum","_law_takes","_law_told","_law_noter","_law_begun"]:List String).map Str.ofString
theorem YE:∀(w:World) (os:OsState),(staticsOk (importedModules pw.main.body) (boot_heap w.params) (H1 w.params)&&namesBound pw (H1 w.params)&&gensDone ⟨H1 w.params,Array.mk [],boot_drawn,2956,os⟩&&laidKept (boot_heap w.params) (H1 w.params))=true:=fun w os=>by kernel_rfl
theorem YD:∀(w:World) (os:OsState),PySem.W.Fast.tw4187177175401517315 qv loose (importedModules pw.main.body) (fun s=>xlAt qv [] s&&recOk [] s) true ⟨H1 w.params,Array.mk [],boot_drawn,2956,os⟩=openGood qv loose:=fun w os=>by kernel_rfl
set_option maxHeartbeats 8000000
theorem Uq:∀P:Params,(KD.k.heap_1 P).map (fun p=>((bt 14 (s3 P)).get p.1,Nat.blt p.1 2031,alive p.2))=(KD.k.heap_1 P).map (fun p=>(some p.2,true,some p.2)):=fun P=>by kernel_rfl
theorem Sl(P:Params):(KD.k.heap_1 P).map (fun p=>(H1 P).get? p.1)=(KD.k.heap_1 P).map (fun p=>some p.2):=by
 refine List.map_congr_left fun p hp=>?_
 obtain⟨e1,e2,e3⟩:_∧_∧_:=by simpa only[Prod.mk.injEq] using List.map_inj_left.mp (Uq P) p hp
 unfold H1;rw[abs_get (Nat.le_of_ble_eq_true e2) e1,e3]
set_option maxHeartbeats 8000000
open aV (KK oh eb wR)
theorem YC(w:World)(os:OsState):openSeen qv loose (importedModules pw.main.body) (fun s=>xlAt qv [] s&&recOk [] s) true ⟨H1 w.params,Array.mk [],boot_drawn,2956,os⟩=openGood qv loose:=by
 rw[PySem.W.Fast.te4187177175401517315];exact YD w os
theorem QH{α β γ:Type}{a a':α}{b b':β}(c:γ)(x:a=a')(y:b=b'):(a,b,c)=(a',b',c):=by rw[x,y]
theorem YA(w:World):(fun os=>((staticsOk (importedModules pw.main.body) (boot_heap w.params) (H1 w.params)&&namesBound pw (H1 w.params)&&gensDone ⟨H1 w.params,Array.mk [],boot_drawn,2956,os⟩&&laidKept (boot_heap w.params) (H1 w.params)),
    openSeen qv loose (importedModules pw.main.body) (fun s=>xlAt qv [] s&&recOk [] s) true ⟨H1 w.params,Array.mk [],boot_drawn,2956,os⟩,(H1 w.params,2956)))=fun _=>(true,openGood qv loose,(H1 w.params,2956)):=
 funext fun os=>QH _ (YE w os) (YC w os)
theorem left:LeftO pw qv loose (fun s=>xlAt qv [] s&&recOk [] s) (fun s:Shared=>(s.heap,s.toks)) (fun w=>(H1 w.params,2956)) 32000:=
 @LeftO.of_pieces pw qv loose (fun s=>xlAt qv [] s&&recOk [] s) (Heap×Nat) (fun s:Shared=>(s.heap,s.toks)) (fun w=>(H1 w.params,2956)) 32000 true boot_heap H1 (Array.mk []) (Array.mk []) boot_drawn boot_drawn boot_toks 2956 11 oa M0 (Yb 32000 (by kernel_rfl)) size run (by kernel_rfl) YA
theorem Up(w:World):(KK w.params).In (H1 w.params):=by
 refine Frag.in_of rfl ?_;rw[List.map_map];exact Sl w.params
theorem WX(P:Params):((bt 14 (s3 P)).get eb,alive (tabObj #[]))=(some (tabObj #[]),some (tabObj #[])):=by kernel_rfl
theorem h1s(P:Params):((bt 14 (s3 P)).get sysModules).bind alive=some ((((bt 14 (s3 P)).get sysModules).bind alive).getD default):=by kernel_rfl
theorem h1(P:Params):(H1 P).get? eb=some (tabObj #[])∧∃o,(H1 P).get? sysModules=some o:=by
 refine⟨?_,?_⟩
 .unfold H1
  rw[abs_get (by decide) (Prod.mk.inj (WX P)).1];exact(Prod.mk.inj (WX P)).2
 .obtain⟨o,ho,ha⟩:=Option.bind_eq_some_iff.mp (h1s P)
  refine⟨(((bt 14 (s3 P)).get sysModules).bind alive).getD default,?_⟩;unfold H1;rw[abs_get (by decide) ho];exact ha
def dk:DefRec×List (Str×Expr):=(defOf qv oh.name).getD ⟨⟨"",⟨[],[],none,[],[],none,[]⟩,[],{kind:=.module,names:=[],isGenerator:=false,isCoroutine:=false,more:=[]},q0⟩,[]⟩
theorem dk1:defOf qv oh.name=some (dk.1,dk.2):=by kernel_rfl
theorem dk2:pw.theDef oh.name=some (dk.1.params,dk.1.body,dk.1.scope):=by kernel_rfl
theorem dk3:kwWritten? dk.1.params.kwonlyargs dk.1.params.kw_defaults=some dk.2:=by kernel_rfl
theorem dk4:dk.1.name="law":=by kernel_rfl
theorem Ye:(chainsOk qv)=true:=by kernel_rfl
theorem Yg:(opensWell PySem.Challenge.rw_np0118_01.row.prog&&(frees oh&&oh.within.isEmpty))=true:=by kernel_rfl
theorem Yh:PySem.Challenge.rw_np0118_01.row.prog.bare:=by first|exact⟨rfl,rfl,rfl,rfl,rfl,by decide+kernel⟩
theorem Yf:oh.promised:=by w_witness2
theorem BF(TZ:PySem.Challenge.rw_np0118_01.row.wellSaid=true):PySem.Challenge.rw_np0118_01.row.Holds:=
 holds_openX (r:=PySem.Challenge.rw_np0118_01.row) (q:=qv) (loose:=loose) left (fun s e=>xl_of s (Bool.and_eq_true_iff.mp e).1) XL.keeps dk1 dk2 dk3 (fun s e=>recFacts_of (Bool.and_eq_true_iff.mp e).2) rfl TZ
  (by rw[Bool.and_assoc,Ye,Bool.true_and];exact Yg) Yh Yf (wR dk4 Up h1 (by decide))
end Hd
end
set_option maxHeartbeats 8000000 in
theorem PySem.Challenge.cw_np0118_01_holds : PySem.Challenge.rw_np0118_01.Holds := by
 o_law
 exact Hd.BF (by assumption)
