import PyProof.Rows.All
import Wide.All
import OpenK.AllK
import Wide.FinOn
import KE.KBytesWalk
import KE.KEqDict
import Open.Tops
import Open.Line
import Lean
import PySem.Challenge.RW_og0273_01
set_option Elab.async false
set_option linter.all false
set_option genSizeOf false
set_option genInjectivity false
set_option genCtorIdx false
set_option bootstrap.genMatcherCode false
set_option tactic.hygienic false
set_option maxRecDepth 100000
set_option maxHeartbeats 0
namespace Mine
noncomputable section
section
open PySem PySem.W PySem.Calls PyProof.Rows
noncomputable abbrev Zs:OpenLaw:=PySem.Challenge.rw_og0273_01
theorem O9:Zs.wellSaid=true:=by kernel_rfl
theorem CA:Zs.row.wellSaid=true:=by kernel_rfl
theorem Ek:opensWell Zs.row.prog=true:=by kernel_rfl
theorem El:(frees Zs.row.toRowW&&Zs.row.within.isEmpty)=true:=by kernel_rfl
theorem Oa:Zs.row.prog.bare:=⟨rfl,rfl,rfl,rfl,rfl,by decide +kernel⟩
theorem Wd:Zs.row.toRowW.promised:=⟨[.list [.int 0]],by decide +kernel,by decide +kernel⟩
abbrev VP:=Value->Shared->Prop
theorem Qf{α:Type}{a:α}{P:Prop}(h:none=some a):P:=by cases h
theorem so{α:Type}{a b:α}(h:some a=some b):a=b:=by cases h;rfl
theorem sp{α β:Type}{a c:α}{b d:β}(h:some (a,b)=some (c,d)):a=c/\b=d:=by cases h;exact⟨rfl,rfl⟩
theorem V2{α β γ:Type}{a a':α}{b b':β}{c c':γ}(h:some (a,b,c)=some (a',b',c')):a=a'/\b=b'/\c=c':=by cases h;exact⟨rfl,rfl,rfl⟩
theorem zI{α:Type}{a c:α}{C:α->Prop}(h:some a=some c)(k:C a):C c:=so h▸k
theorem Vw{α β:Type}{a c:α}{b d:β}{C:α->β->Prop}(h:some (a,b)=some (c,d))(k:C a b):C c d:=by cases h;exact k
theorem Aj{α β γ:Type}{a a':α}{b b':β}{c c':γ}{C:α->β->γ->Prop}(h:some (a,b,c)=some (a',b',c'))(k:C a b c):C a' b' c':=by cases h;exact k
theorem QL{c:Prop}[Decidable c]{α:Type}{o:Option α}{b:α}(h:(if c then o else none)=some b):c/\o=some b:=by
 by_cases q:c
 ·exact⟨q,(if_pos q).symm.trans h⟩
 ·exact Qf ((if_neg q).symm.trans h)
theorem cps{G:Prop}(h:∀C:Prop,(G->C)->C):G:=h G id
theorem Ql{γ:Type}{P:γ->Prop}{b:Bool}{x z:γ}(hz:P z)(h:b=true->P x):P (cond b x z):=match b,h with|true,h=>h rfl|false,_=>hz
theorem Qe{α γ:Type}{P:γ->Prop}{o:Option α}{f:α->γ}{z:γ}(hz:P z)(h:∀a,o=some a->P (f a)):P (o.elim z f):=match o,h with|some a,h=>h a rfl|none,_=>hz
theorem Yc{α γ:Type}{P:γ->Prop}{o:Option α}{f:α->γ}{z:γ}(hz:o=none->P z)(h:∀a,o=some a->P (f a)):P (o.elim z f):=match o,hz,h with|some a,_,h=>h a rfl|none,hz,_=>hz rfl
theorem QX{a b:Bool}(h:(a&&b)=true):a=true/\b=true:=Bool.and_eq_true_iff.mp h
theorem nil_of{α:Type}{l:List α}(h:l.isEmpty=true):l=[]:=List.isEmpty_iff.mp h
theorem Sr{b:Bool}(h:(!b)=true):b=false:=Bool.not_eq_true' b▸h
noncomputable def Jw:Code->Bool
 | .builtin id _=>(["bytearray.__contains__","bytearray.__mod__","bytearray.__rmod__","_struct.pack_into.held","bytearray.find.held"]++Builtin.Bytes.decodersThatHold).contains id
 | _=>false
noncomputable def Tn(Γ:Ctx):Prop:=∀x∈Γ.below,Jw x.1=false
noncomputable def Clean(Γ:Ctx):Prop:=Jw Γ.code=false/\Tn Γ
noncomputable def QD{α:Type}(M:Model)(A:Around)(t:Sem α)(Q:α->Shared->Prop)(E:VP)(s:Shared):Prop:=
 ∀Γ p,Γ.In A->Clean Γ->Sem.wp M Γ t (fun a Z s'=>Q a s') (fun e Z s'=>E e s') p s
noncomputable def ZU(M:Model)(A:Around)(c:Code)(R:Result->Shared->Prop)(s:Shared):Prop:=
 ∀Γ p,Γ.code=c->Γ.Below A->Tn Γ->wpCode M Γ R p s
theorem Clean.enter{Γ:Ctx}(h:Clean Γ)(c:Code)(hd:Option Value)(p:Pos):Tn (Γ.enter c hd p):=by
 intro x hx;rcases List.mem_cons.mp hx with rfl|hx
 ·exact h.1
 ·exact h.2 x hx
section
variable {α β:Type}{M:Model}{A:Around}{E:VP}{s:Shared}
theorem Q3{t:Sem α}{Q:α->Shared->Prop}(h:wpAny M A t Q E s):QD M A t Q E s:=fun Γ p hΓ Z=>h Γ p hΓ
theorem Kc{c:Code}{R:Result->Shared->Prop}(h:codeAny M A c R s):ZU M A c R s:=fun Γ p hc hΓ Z=>h Γ p hc hΓ
theorem Zu{t:Sem α}{Q Q':α->Shared->Prop}{E':VP}(h:QD M A t Q E s)
  (hQ:∀a s,Q a s->Q' a s) (hE:∀e s,E e s->E' e s):QD M A t Q' E' s:=
 fun Γ p hΓ hC=>Sem.wp_mono M Γ t (fun a Z s=>hQ a s) (fun e Z s=>hE e s) p s (h Γ p hΓ hC)
theorem Q7{a:α}{Q:α->Shared->Prop}(h:Q a s):QD M A (pure a) Q E s:=fun Z Z Z Z=>h
theorem Q0{m:Sem α}{f:α->Sem β}{Q:β->Shared->Prop}(h:QD M A m (fun a s'=>QD M A (f a) Q E s') E s):
  QD M A (m >>= f) Q E s:=fun Γ p hΓ hC=>by
 rw[Sem.wp_bind'];exact Sem.wp_mono M Γ m (fun a p' s' h'=>h' Γ p' hΓ hC) (fun Z Z Z h'=>h') p s (h Γ p hΓ hC)
theorem Q9{m:Sem α}{f:α->Sem β}{Q:β->Shared->Prop}(h:wpAny M A m (fun a s'=>QD M A (f a) Q E s') E s):
  QD M A (m >>= f) Q E s:=Q0 (Q3 h)
theorem QP{m:Sem α}{k:Value->Sem Unit}{Q:α->Shared->Prop}
  (h:QD M A m Q (fun e s'=>QD M A (k e) (fun Z s''=>E e s'') E s') s):QD M A (m.onRaise k) Q E s:=fun Γ p hΓ hC=>by
 rw[Sem.wp_onRaise];exact Sem.wp_mono M Γ m (fun Z Z Z h'=>h') (fun e p' s' h'=>h' Γ p' hΓ hC) p s (h Γ p hΓ hC)
theorem KV{m:Sem α}{Q:Except Value α->Shared->Prop}(h:QD M A m (fun a=>Q (.ok a)) (fun e=>Q (.error e)) s):
  QD M A m.attempt Q E s:=fun Γ p hΓ hC=>by rw[Sem.wp_attempt];exact h Γ p hΓ hC
theorem Q5{vs:List Value}{m:Sem α}{Q:α->Shared->Prop}(h:QD M A m Q E s):QD M A (holding vs m) Q E s:=
 fun Γ p hΓ hC=>by rw[Sem.wp_holding];exact h Γ p hΓ hC
theorem Ru{vs:List Value}{m:Sem α}{Q:α->Shared->Prop}(h:QD M A m Q E s):QD M A (m.keep vs) Q E s:=
 fun Γ p hΓ hC=>by rw[Sem.wp_keep];exact h Γ p hΓ hC
theorem Q4{pos:Pos}{Q:Unit->Shared->Prop}(h:Q () s):QD M A (standAt pos) Q E s:=fun Z Z Z Z=>h
theorem WV{Q:Unit->Shared->Prop}(h:Q () s):QD M A point Q E s:=fun Z Z Z Z=>h
theorem X9{tag:String}{Q:Unit->Shared->Prop}(h:Q () s):QD M A (rule tag) Q E s:=fun Z Z Z Z=>h
theorem Zr{vs:List Value}{m:Sem Value}{Q:VP}(h:QD M A m Q E s):QD M A (operate vs m) Q E s:=
 fun Γ p hΓ hC=>by rw[Sem.wp_operate];exact h Γ p hΓ hC
theorem J1{vs keep:List Value}{Q:Unit->Shared->Prop}(h:Q () s):QD M A (release vs keep) Q E s:=Q3 (wpAny_release h)
theorem Qk{t t':Sem α}(e:t=t'){Q:α->Shared->Prop}(h:QD M A t' Q E s):QD M A t Q E s:=((e ..)▸h)
theorem Wg{c:Code}{R R':Result->Shared->Prop}(h:ZU M A c R s)(hR:∀r s,R r s->R' r s):ZU M A c R' s:=
 fun Γ p hc hΓ hC=>wpCode_mono hR (h Γ p hc hΓ hC)
theorem Vp{c:Code}{h:Option Value}{Q:Flow->Shared->Prop}
  (hc:ZU M (A.mark h) c (fun r s'=>match r with|.ok f=>Q f s'|.error e=>E e s') s) (hnb:h≠some byPass):
  QD M A (run c h) Q E s:=
 fun Γ p hΓ hC=>by rw[Sem.wp_run];exact hc _ p rfl (hΓ.enter c h p hnb) (hC.enter c h p)
theorem Vo{c:Code}{Q:VP}
  (hc:ZU M A c (fun r s'=>match r with|.ok (.ret v)=>Q v s'|.ok _=>False|.error e=>E e s') s):
  QD M A (runValue c) Q E s:=fun Γ p hΓ hC=>by rw[Sem.wp_runValue];exact hc _ p rfl (hΓ.enter c none p (by intro x;exact Qf x)) (hC.enter c none p)
theorem ZD{f:Value}{pos:List Value}{kw:List (Str×Value)}{Q:VP}
  (hc:ZU M A (.call f ⟨pos,kw⟩) (fun r s'=>match r with|.ok (.ret v)=>Q v s'|.ok _=>False|.error e=>E e s') s):
  QD M A (call f pos kw) Q E s:=Vo hc
theorem Qx{c:Code}{R:Result->Shared->Prop}(hh:Jw c=false)
  (h:QD M (A.under c) (M.den c) (fun fin s'=>match fin with|.done f=>R (.ok f) s'|.again c'=>c'.quiet=true/\ZU M A c' R s')
   (fun e s'=>R (.error e) s') s):ZU M A c R s:=fun Γ p hc hΓ hC=>by
 rw[wpCode_iff_wp,hc];refine Sem.wp_mono M Γ _ (fun fin p' s' h'=>?_) (fun Z Z Z h'=>h') p s (h Γ p (hc▸hΓ.in) ⟨hc▸hh,hC⟩);rcases fin with f|c'
 ·exact h'
 ·exact⟨h'.1,h'.2 (Γ.goto c') p' rfl (hΓ.goto c') hC⟩
theorem YQ{v:Value}{Q:Bool->Shared->Prop}(h:Q false s):QD M A (Builtin.Bytes.exported v) Q E s:=fun Γ p hΓ hC=>by
 show Q (List.any ((Γ.code,p)::Γ.below) _) s;rw[List.any_eq_false.mpr ?_]
 ·exact h
 ·rintro⟨c,q⟩ hx;have hc:Jw c=false:=by
   rcases List.mem_cons.mp hx with e|hx
   ·cases e;exact hC.1
   ·exact hC.2 _ hx
  clear hx;refine Bool.eq_false_iff.mp ?_;cases c with
  | builtin id a=>
   have no:∀x,(["bytearray.__contains__","bytearray.__mod__","bytearray.__rmod__","_struct.pack_into.held","bytearray.find.held"]++Builtin.Bytes.decodersThatHold).contains x=true->¬id=x:=fun x h' e=>Bool.noConfusion ((e▸h').symm.trans hc);obtain⟨pos,kw⟩:=a;delta Builtin.Bytes.exported.match_1;refine(dif_neg (no _ (by decide +kernel))).trans ((dif_neg (no _ (by decide +kernel))).trans ((dif_neg (no _ (by decide +kernel))).trans ((dif_neg (no _ (by decide +kernel))).trans ((dif_neg (no _ (by decide +kernel))).trans ?_))));rcases pos with _|⟨v,r⟩
   ·rfl
   ·
    rcases hd:Builtin.Bytes.decodersThatHold.contains id with _|_
    ·show(_&&Builtin.Bytes.decodersThatHold.contains id)=false;rw[hd,Bool.and_false]
    ·exact absurd rfl (no id (by rw[List.contains_eq_mem,decide_eq_true_eq] at hd ⊢;exact List.mem_append_right _ hd))
  | _=>rfl
end
set_option genInjectivity true in
inductive AV where
 | none|bool (b:Bool)|int (i:Int)|str (s:List Nat)|bytes (l:List Nat)
 | list (vs:List AV)|tuple (vs:List AV)|modi (n:List Nat) (t:List (List Nat))
 | dict (ks vs:List AV)|rng (n:Nat)|barr (l:List Nat)|deck
noncomputable def AV.ctorIdx(x:AV):Nat:=@AV.casesOn (fun Z=>Nat) x 0 (fun x=>1) (fun x=>2) (fun x=>3) (fun x=>4) (fun x=>5) (fun x=>6) (fun x x=>7) (fun x x=>8) (fun x=>9) (fun x=>10) 11
inductive LV where
 | u|val (v:AV)|own (vs:List AV)|ownb (l:List Nat)|ownd (ks vs:List AV)
noncomputable def LV.ctorIdx(x:LV):Nat:=@LV.casesOn (fun Z=>Nat) x 0 (fun x=>1) (fun x=>2) (fun x=>3) (fun x x=>4)
structure Q8 where
 cells:List Int
 mixed:Int
 turn:Nat
 deriving DecidableEq
set_option genCtorIdx true in
inductive Fn where
 | k0|k1|k2|k3|k4|k5|k6|k7|k8|k9|k10
 | k11|k12|k13|k14|k15|k16|k17|k18|k19|k20|k21
 | k22|k23|k24|k25|k26|k27|k28|k29|k30|k31|k32
 | k33|k34|k35|k36|k37|k38|k39|k40|k41|k42|k43
 deriving DecidableEq
set_option genCtorIdx true in
inductive Bi where
 | len|bytes|bytearray|abs|max|min|range|ord|str|repr|int
 deriving DecidableEq
set_option genCtorIdx true in
inductive Op where
 | add|sub|mul|fdiv|mod
 deriving DecidableEq
set_option genCtorIdx true in
inductive Co where
 | eq|ne|lt|le|gt|ge|isNone|isNotNone|in_|notIn
 deriving DecidableEq
inductive IR where
 | stuck
 | lit (v:AV)
 | loc (i:Nat)
 | glob (x:List Nat) (v:AV)
 | bin (o:Op) (a b:IR)
 | neg (a:IR)|not (a:IR)
 | ite (t a b:IR)
 | and (a b:IR)|or (a b:IR)
 | cmp (o:Co) (a b:IR)
 | cmp2 (o1 o2:Co) (a b c:IR)
 | call (f:Fn) (as:List IR)
 | bi (b:Bi) (as:List IR)
 | modi (a b:IR)
 | get (d k e:IR)|rfind (a b:IR)|join (a b:IR)
 | name (a:IR)|told (a:IR)
 | idx (a i:IR)
 | slc (a:IR) (lo hi:Option IR)
 | rev (a:IR)
 | tup (es:List IR)|lst (es:List IR)
 | dict (es:List IR)
 | comp (fr:List Nat) (e it:IR) (c:Option IR)
inductive SR where
 | stuck
 | drop (e:IR)
 | set (i:Nat) (e:IR)
 | setN (is:List Nat) (es:List IR)
 | unpack (is:List Nat) (e:IR)
 | aug (i:Nat) (o:Op) (e:IR)
 | append (i:Nat) (e:IR)
 | update (i:Nat) (e:IR)
 | ifs (t:IR) (a b:List SR)
 | whiles (t:IR) (b:List SR)
 | fors (is:List Nat) (e:IR) (b:List SR)
 | ret (e:IR)
 | raise (e:IR)
 | setTold (i:Nat) (e:IR)
noncomputable def Qi(l:List Nat):Bool:=decide (l.length<=16777216)
noncomputable def AV.truth:AV->Option Bool
 | .none=>some false
 | .bool b=>some b
 | .int i=>some (i != 0)
 | .bytes l=>if Qi l then some (!l.isEmpty) else Option.none
 | _=>Option.none
noncomputable def AV.eqS:AV->AV->Option Bool
 | .bool a,.bool b=>some (a == b)
 | .int a,.int b=>some (a == b)
 | .str a,.str b=>some (a == b)
 | .bytes a,.bytes b=>some (a == b)
 | _,_=>Option.none
noncomputable def Je:List AV->Option (List (List Nat))
 | []=>some []
 | .bytes l::r=>(Je r).map (l::·)
 | _::_=>none
noncomputable def AV.eqA:AV->AV->Option Bool
 | .list a,.list b=>if a.isEmpty||b.isEmpty then some (a.isEmpty&&b.isEmpty) else Option.none
 | .dict a b,.dict c d=>(match Je a,Je b,Je c,Je d with
  | some w,some x,some y,some z=>if w=y/\x=z/\w.length=x.length/\w.length<=100/\w≠[] then some true else Option.none
  | _,_,_,_=>Option.none)
 | a,b=>a.eqS b
noncomputable def Yp(x:AV):List AV->Option Bool
 | []=>some false
 | y::r=>match y.eqS x,Yp x r with
  | some b,some c=>some (b||c)
  | _,_=>none
noncomputable def isInfix(x:List Nat):List Nat->Bool
 | []=>x.isEmpty
 | c::r=>x.isPrefixOf (c::r)||isInfix x r
noncomputable def lexLt:List Nat->List Nat->Bool
 | [],[]=>false
 | [],_::_=>true
 | _::_,[]=>false
 | x::xs,y::ys=>if x < y then true else if y < x then false else lexLt xs ys
noncomputable def findKey(k:AV):List AV->List AV->Option (Option AV)
 | [],_=>some none
 | x::r,vs=>match x.eqS k with
  | some true=>match vs with|v::_=>some (some v)|[]=>none
  | some false=>findKey k r vs.tail
  | none=>none
noncomputable def Jv(k:AV)(ks vs:List AV):Option (Option AV):=if ks.isEmpty then none else findKey k ks vs
noncomputable def NP(x:AV):AV->Option Bool
 | .tuple l=>Yp x l
 | .bytes l=>match x with
  | .int i=>if 0<=i/\i < 256 then some (l.contains i.toNat) else none
  | .bytes m=>if Qi l&&Qi m then some (isInfix m l) else none
  | _=>none
 | .dict ks vs=>(Jv x ks vs).map Option.isSome
 | _=>none
noncomputable def AV.isN:AV->Option Bool|.deck=>Option.none|.none=>some true|_=>some false
noncomputable def Jh(o:Co)(a b:AV):Option Bool:=match o with
 | .eq=>a.eqA b
 | .ne=>(a.eqA b).map (!·)
 | .lt=>match a,b with|.int x,.int y=>some (decide (x < y))|.bytes x,.bytes y=>some (lexLt x y)|_,_=>none
 | .le=>match a,b with|.int x,.int y=>some (decide (x<=y))|_,_=>none
 | .gt=>match a,b with|.int x,.int y=>some (decide (y < x))|_,_=>none
 | .ge=>match a,b with|.int x,.int y=>some (decide (y<=x))|.bytes x,.bytes y=>some (!lexLt x y)|_,_=>none
 | .isNone=>(match b with|.none=>a.isN|_=>Option.none)
 | .isNotNone=>(match b with|.none=>a.isN.map (!·)|_=>Option.none)
 | .in_=>NP a b
 | .notIn=>(NP a b).map (!·)
noncomputable def Uo(i:Int):Bool:=decide (i.natAbs < 9223372036854775808)
noncomputable def Uc(o:Op)(a b:AV):Option AV:=match o with
 | .add=>match a,b with
  | .int x,.int y=>some (.int (x+y))
  | .bytes x,.bytes y=>if Qi (x++y) then some (.bytes (x++y)) else none
  | .list x,.list y=>if x.length+y.length<=65536 then some (.list (x++y)) else none
  | .tuple x,.tuple y=>if x.length+y.length<=65536 then some (.tuple (x++y)) else none
  | _,_=>none
 | .sub=>match a,b with|.int x,.int y=>some (.int (x - y))|_,_=>none
 | .mul=>match a,b with
  | .int x,.int y=>if Uo x&&Uo y then some (.int (x * y)) else none
  | .bytes x,.int n=>if x.length=1/\n.natAbs<=65536 then some (.bytes (List.replicate n.toNat (x.headD 0))) else none
  | _,_=>none
 | .fdiv=>match a,b with|.int x,.int y=>if decide (y.natAbs < 1000000)&&y != 0 then some (.int (x.fdiv y)) else none|_,_=>none
 | .mod=>match a,b with|.int x,.int y=>if y != 0 then some (.int (x.fmod y)) else none|_,_=>none
noncomputable def intsOf:List AV->Option (List Nat)
 | []=>some []
 | .int i::r=>if 0<=i/\i < 256 then(intsOf r).map (i.toNat::·) else none
 | _::_=>none
noncomputable def KN:Nat->Nat->List Nat->List Nat
 | 0,_,acc=>acc
 | f+1,n,acc=>if n < 10 then(48+n)::acc else KN f (n / 10) ((48+n % 10)::acc)
noncomputable def Jr(i:Int):List Nat:=if i < 0 then 45::KN 20 i.natAbs [] else KN 20 i.natAbs []
noncomputable def one{α:Type}:List α->Option α|[a]=>some a|_=>none
noncomputable def two{α:Type}:List α->Option (α×α)|[a,b]=>some (a,b)|_=>none
theorem U8{α:Type}:∀{l:List α} {a:α},one l=some a->l=[a]
 | [_],_,h=>by rw[so h]
 | [],_,h=>Qf h
 | _::_::_,_,h=>Qf h
theorem Kq{α:Type}:∀{l:List α} {a:α×α},two l=some a->l=[a.1,a.2]
 | [_,_],_,h=>by rw[<- so h]
 | [],_,h=>Qf h
 | [_],_,h=>Qf h
 | _::_::_::_,_,h=>Qf h
noncomputable def C1:AV->Option AV
 | .bytes l=>if Qi l then some (.int l.length) else none
 | .list l=>if l.length<=16777216 then some (.int l.length) else none
 | _=>none
noncomputable def LU:AV->Option AV
 | .barr l=>if Qi l then some (.bytes l) else none
 | .list l=>if l.length<=16777216 then(intsOf l).map .bytes else none
 | _=>none
noncomputable def CS:AV->Option AV|.int i=>some (.int i.natAbs)|_=>none
noncomputable def PT(f:Int->Int->Int):AV×AV->Option AV|(.int a,.int b)=>some (.int (f a b))|_=>none
noncomputable def Py:AV->Option AV|.int n=>if 0<=n/\n<=65536 then some (.rng n.toNat) else none|_=>none
noncomputable def AS:AV->Option AV|.str l=>(one l).map fun c:Nat=>AV.int (c:Int)|_=>none
noncomputable def Ah:AV->Option AV|.int i=>if i.natAbs<=200 then some (.str (Jr i)) else none|_=>none
noncomputable def C9:AV->Option AV|.bool b=>some (.int (if b then 1 else 0))|.int i=>some (.int i)|_=>none
noncomputable def F8:AV->Option AV|.bool b=>some (.str (if b then[84,114,117,101] else[70,97,108,115,101]))|_=>none
noncomputable def B9(b:Bi)(as:List AV):Option AV:=match b with
 | .len=>(one as).bind C1
 | .bytes=>(one as).bind LU
 | .abs=>(one as).bind CS
 | .max=>(two as).bind (PT fun a b=>if a < b then b else a)
 | .min=>(two as).bind (PT fun a b=>if b < a then b else a)
 | .range=>(one as).bind Py
 | .ord=>(one as).bind AS
 | .str=>(one as).bind Ah
 | .int=>(one as).bind C9
 | .repr=>(one as).bind F8
 | .bytearray=>none
noncomputable def HN(x m:List Nat):Int:=
 match((List.range (x.length+1 - m.length)).reverse.find? fun i=>(x.drop i).take m.length == m) with
 | some i=>i
 | none=>-1
noncomputable def TL:List AV->Option (List Nat)
 | []=>some []
 | [.bytes x]=>some x
 | _=>none
noncomputable def Uu(a i:AV):Option AV:=match a,i with
 | .bytes l,.int i=>if 0<=i then(l[i.toNat]?).bind fun c=>if Qi l then some (.int c) else none else none
 | .list l,.int i=>if 0<=i/\i < 9223372036854775808 then l[i.toNat]? else none
 | .tuple l,.int i=>if 0<=i/\i < 9223372036854775808 then l[i.toNat]? else none
 | .dict ks vs,k=>(Jv k ks vs).bind id
 | _,_=>none
noncomputable def Yz{α:Type}(l:List α)(lo hi:Option Nat):List α:=(match hi with|some h=>l.take h|none=>l).drop (lo.getD 0)
noncomputable def Jb:AV->Option Nat
 | .int i=>if 0<=i/\i < 9223372036854775808 then some i.toNat else none
 | _=>none
noncomputable def Ku(a:AV)(lo hi:Option Nat):Option AV:=match a with
 | .bytes l=>if Qi l then some (.bytes (Yz l lo hi)) else none
 | .list l=>if l.length<=65536 then some (.list (Yz l lo hi)) else none
 | _=>none
mutual
noncomputable def AV.noModi:AV->Bool
 | .modi _ _=>false
 | .list vs=>AV.noModis vs
 | .tuple vs=>AV.noModis vs
 | .dict ks vs=>AV.noModis ks&&AV.noModis vs
 | _=>true
noncomputable def AV.noModis:List AV->Bool
 | []=>true
 | v::r=>v.noModi&&AV.noModis r
end
noncomputable def I5:AV->Bool|.str _=>true|_=>false
mutual
/-- no dict with words for keys inside -/
noncomputable def AV.noStrD:AV->Bool
 | .list vs=>AV.noStrDs vs
 | .tuple vs=>AV.noStrDs vs
 | .dict ks vs=>!ks.any I5&&AV.noStrDs vs
 | _=>true
noncomputable def AV.noStrDs:List AV->Bool
 | []=>true
 | v::r=>v.noStrD&&AV.noStrDs r
end
noncomputable def Ut:AV->Option (List AV)
 | .list l=>some l
 | .tuple l=>some l
 | .bytes l=>if Qi l then some (l.map fun c=>.int (c:Nat)) else none
 | .str s=>if s.all (· < 128) then some (s.map fun c=>.str [c]) else none
 | .rng n=>some ((List.range n).map fun i=>.int (i:Nat))
 | _=>none
noncomputable def VG(k v:AV):List AV->List AV->Option (List AV×List AV)
 | [],_=>some ([k],[v])
 | x::r,vs=>match x.eqS k with
  | some true=>match vs with|_::w=>some (x::r,v::w)|[]=>none
  | some false=>match vs with|u::w=>(VG k v r w).map fun p=>(x::p.1,u::p.2)|[]=>none
  | none=>none
noncomputable def JI:List AV->List AV->List AV×List AV->Option (List AV×List AV)
 | [],_,p=>some p
 | k::ks,v::vs,p=>(VG k v p.1 p.2).bind (JI ks vs)
 | _::_,[],_=>none
noncomputable def UP{α:Type}:List α->List α
 | a::_::r=>a::UP r
 | _=>[]
noncomputable def Xt{α:Type}:List α->List α
 | _::b::r=>b::Xt r
 | _=>[]
noncomputable def OW:AV->Bool|.bytes _=>true|_=>false
noncomputable def zk:AV->Bool|.int _=>true|_=>false
noncomputable def TK(ks:List AV):Bool:=ks.all OW||ks.all zk||ks.all I5
noncomputable def TY(xs:List AV):Option (List AV×List AV):=if TK (UP xs)&&!xs.isEmpty&&decide (xs.length<=30) then JI (UP xs) (Xt xs) ([],[]) else none
noncomputable def Ju(fr:List Nat)(ρ:List LV):List LV:=ρ.mapIdx fun i v=>match v with|.val d=>if fr.contains i then .val d else .u|_=>.u
noncomputable def LV.noStrD:LV->Bool
 | .val v=>v.noStrD
 | .own vs=>AV.noStrDs vs
 | .ownd _ vs=>AV.noStrDs vs
 | _=>true
noncomputable def LV.rel:LV->LV
 | .own vs=>.val (.list vs)
 | .ownb l=>.val (.barr l)
 | .ownd ks vs=>.val (.dict ks vs)
 | x=>x
noncomputable abbrev Qj:=Fn->List AV->Q8->Option (AV×Q8)
noncomputable def Ua(f:AV->Q8->Option (Option AV×Q8)):List AV->Q8->Option (List AV×Q8)
 | [],D=>some ([],D)
 | v::r,D=>match f v D with
  | some (y,D1)=>match Ua f r D1 with|some (ys,D2)=>some (y.toList++ys,D2)|none=>none
  | none=>none
mutual
noncomputable def run(Φ:Qj):IR->List LV->Q8->Option (AV×Q8)
 | .stuck,_,_=>none
 | .lit v,_,D=>some (v,D)
 | .loc i,ρ,D=>match ρ[i]? with|some (.val v)=>some (v,D)|_=>none
 | .glob _ v,_,D=>some (v,D)
 | .bin o a b,ρ,D=>match run Φ a ρ D with
  | some (x,D1)=>match run Φ b ρ D1 with
   | some (y,D2)=>match Uc o x y with|some z=>some (z,D2)|none=>none
   | none=>none
  | none=>none
 | .neg a,ρ,D=>match run Φ a ρ D with|some (.int i,D1)=>some (.int (-i),D1)|_=>none
 | .not a,ρ,D=>match run Φ a ρ D with
  | some (x,D1)=>match x.truth with|some b=>some (.bool (!b),D1)|none=>none
  | none=>none
 | .ite t a b,ρ,D=>match run Φ t ρ D with
  | some (x,D1)=>match x.truth with
   | some true=>run Φ a ρ D1
   | some false=>run Φ b ρ D1
   | none=>none
  | none=>none
 | .and a b,ρ,D=>match run Φ a ρ D with
  | some (x,D1)=>match x.truth with
   | some true=>run Φ b ρ D1
   | some false=>some (x,D1)
   | none=>none
  | none=>none
 | .or a b,ρ,D=>match run Φ a ρ D with
  | some (x,D1)=>match x.truth with
   | some true=>some (x,D1)
   | some false=>run Φ b ρ D1
   | none=>none
  | none=>none
 | .cmp o a b,ρ,D=>match run Φ a ρ D with
  | some (x,D1)=>match run Φ b ρ D1 with
   | some (y,D2)=>match Jh o x y with|some z=>some (.bool z,D2)|none=>none
   | none=>none
  | none=>none
 | .cmp2 o1 o2 a b c,ρ,D=>match run Φ a ρ D with
  | some (x,D1)=>match run Φ b ρ D1 with
   | some (y,D2)=>match Jh o1 x y with
    | some true=>match run Φ c ρ D2 with
     | some (z,D3)=>match Jh o2 y z with|some q=>some (.bool q,D3)|none=>none
     | none=>none
    | some false=>some (.bool false,D2)
    | none=>none
   | none=>none
  | none=>none
 | .call f as,ρ,D=>match runs Φ as ρ D with|some (vs,D1)=>Φ f vs D1|none=>none
 | .bi b as,ρ,D=>match runs Φ as ρ D with
  | some (vs,D1)=>match B9 b vs with|some z=>some (z,D1)|none=>none
  | none=>none
 | .modi a b,ρ,D=>match run Φ a ρ D with
  | some (.bytes n,D1)=>match run Φ b ρ D1 with
   | some (.list l,D2)=>match Je l with|some t=>some (.modi n t,D2)|none=>none
   | _=>none
  | _=>none
 | .get d k e,ρ,D=>match run Φ d ρ D with
  | some (.dict ks vs,D1)=>match run Φ k ρ D1 with
   | some (x,D2)=>match run Φ e ρ D2 with
    | some (y,D3)=>(match Jv x ks vs with|some r=>some (r.getD y,D3)|none=>none)
    | none=>none
   | none=>none
  | _=>none
 | .rfind a b,ρ,D=>match run Φ a ρ D with
  | some (.bytes x,D1)=>match run Φ b ρ D1 with|some (.bytes m,D2)=>if Qi x&&Qi m then some (.int (HN x m),D2) else none|_=>none
  | _=>none
 | .join a b,ρ,D=>match run Φ a ρ D with
  | some (.bytes _,D1)=>match run Φ b ρ D1 with
   | some (.list l,D2)=>match TL l with|some y=>if Qi y then some (.bytes y,D2) else none|none=>none
   | _=>none
  | _=>none
 | .name a,ρ,D=>match run Φ a ρ D with|some (.modi n _,D1)=>some (.bytes n,D1)|_=>none
 | .told a,ρ,D=>match run Φ a ρ D with|some (.modi _ t,D1)=>some (.list (t.map .bytes),D1)|_=>none
 | .idx a i,ρ,D=>match run Φ a ρ D with
  | some (x,D1)=>match run Φ i ρ D1 with
   | some (y,D2)=>match Uu x y with|some z=>some (z,D2)|none=>none
   | none=>none
  | none=>none
 | .slc a lo hi,ρ,D=>match run Φ a ρ D with
  | some (x,D1)=>match JS Φ lo ρ D1 with
   | some (l,D2)=>match JS Φ hi ρ D2 with
    | some (h,D3)=>match Ku x l h with|some z=>some (z,D3)|none=>none
    | none=>none
   | none=>none
  | none=>none
 | .rev a,ρ,D=>match run Φ a ρ D with|some (.list l,D1)=>if l.length<=65536 then some (.list l.reverse,D1) else none|_=>none
 | .tup es,ρ,D=>match runs Φ es ρ D with|some (vs,D1)=>if vs.length<=65536 then some (.tuple vs,D1) else none|none=>none
 | .lst es,ρ,D=>match runs Φ es ρ D with|some (vs,D1)=>if vs.length<=65536 then some (.list vs,D1) else none|none=>none
 | .dict es,ρ,D=>match runs Φ es ρ D with
  | some (xs,D1)=>match TY xs with|some (a,b)=>some (.dict a b,D1)|none=>none
  | none=>none
 | .comp fr e it c,ρ,D=>match run Φ it ρ D with
  | some (x,D1)=>match Ut x with
   | some l=>if l.length<=65536 then(match Ua (fun v D=>match U5 Φ c (Ju fr ρ++[.val v]) D with
      | some (true,D1)=>(match run Φ e (Ju fr ρ++[.val v]) D1 with|some (y,D2)=>some (some y,D2)|none=>none)
      | some (false,D1)=>some (none,D1)
      | none=>none) l D1 with
     | some (r,D2)=>some (.list r,D2)
     | none=>none) else none
   | none=>none
  | none=>none
noncomputable def U5(Φ:Qj):Option IR->List LV->Q8->Option (Bool×Q8)
 | none,_,D=>some (true,D)
 | some c,ρ,D=>match run Φ c ρ D with
  | some (t,D1)=>match t.truth with|some b=>some (b,D1)|none=>none
  | none=>none
noncomputable def runs(Φ:Qj):List IR->List LV->Q8->Option (List AV×Q8)
 | [],_,D=>some ([],D)
 | e::r,ρ,D=>match run Φ e ρ D with
  | some (x,D1)=>match runs Φ r ρ D1 with|some (xs,D2)=>some (x::xs,D2)|none=>none
  | none=>none
noncomputable def JS(Φ:Qj):Option IR->List LV->Q8->Option (Option Nat×Q8)
 | none,_,D=>some (none,D)
 | some e,ρ,D=>match run Φ e ρ D with
  | some (x,D1)=>match Jb x with|some n=>some (some n,D1)|none=>none
  | none=>none
end
theorem Bc{x y:Int}:Uc .add (.int x) (.int y)=some (.int (x+y)):=rfl
theorem FG{x y:List Nat}:Uc .add (.bytes x) (.bytes y)=if Qi (x++y) then some (.bytes (x++y)) else none:=rfl
theorem FF{x y:List AV}:Uc .add (.list x) (.list y)=if x.length+y.length<=65536 then some (.list (x++y)) else none:=rfl
theorem FE{x y:Int}:Uc .sub (.int x) (.int y)=some (.int (x - y)):=rfl
theorem FD{x y:Int}:Uc .mul (.int x) (.int y)=if Uo x&&Uo y then some (.int (x * y)) else none:=rfl
theorem Fz{x:List Nat}{n:Int}:Uc .mul (.bytes x) (.int n)=if x.length=1/\n.natAbs<=65536 then some (.bytes (List.replicate n.toNat (x.headD 0))) else none:=rfl
theorem Fy{x y:Int}:Uc .fdiv (.int x) (.int y)=if decide (y.natAbs < 1000000)&&y != 0 then some (.int (x.fdiv y)) else none:=rfl
theorem Fx{x y:Int}:Uc .mod (.int x) (.int y)=if y != 0 then some (.int (x.fmod y)) else none:=rfl
theorem DB{a b:Bool}:AV.eqS (.bool a) (.bool b)=some (a == b):=rfl
theorem OY{a b:Int}:AV.eqS (.int a) (.int b)=some (a == b):=rfl
theorem DA{a b:List Nat}:AV.eqS (.str a) (.str b)=some (a == b):=rfl
theorem Dy{a b:List Nat}:AV.eqS (.bytes a) (.bytes b)=some (a == b):=rfl
theorem DE{a b:Bool}:AV.eqA (.bool a) (.bool b)=some (a == b):=rfl
theorem CC{a b:Int}:AV.eqA (.int a) (.int b)=some (a == b):=rfl
theorem DD{a b:List Nat}:AV.eqA (.str a) (.str b)=some (a == b):=rfl
theorem CB{a b:List Nat}:AV.eqA (.bytes a) (.bytes b)=some (a == b):=rfl
theorem DC{a b:List AV}:AV.eqA (.list a) (.list b)=if a.isEmpty||b.isEmpty then some (a.isEmpty&&b.isEmpty) else Option.none:=rfl
theorem j3{ks vs:List AV}{k:AV}:Uu (.dict ks vs) k=(Jv k ks vs).bind id:=rfl
theorem Bv{a b:AV}:Jh .eq a b=a.eqA b:=rfl
theorem ED{a b:AV}:Jh .ne a b=(a.eqA b).map (!·):=rfl
theorem Bu{x y:Int}:Jh .lt (.int x) (.int y)=some (decide (x < y)):=rfl
theorem EC{x y:List Nat}:Jh .lt (.bytes x) (.bytes y)=some (lexLt x y):=rfl
theorem EB{x y:Int}:Jh .le (.int x) (.int y)=some (decide (x<=y)):=rfl
theorem Bt{x y:Int}:Jh .gt (.int x) (.int y)=some (decide (y < x)):=rfl
theorem EA{x y:Int}:Jh .ge (.int x) (.int y)=some (decide (y<=x)):=rfl
theorem Ez{x y:List Nat}:Jh .ge (.bytes x) (.bytes y)=some (!lexLt x y):=rfl
theorem Ey{a:AV}:Jh .isNone a .none=a.isN:=rfl
theorem Ex{a:AV}:Jh .isNotNone a .none=a.isN.map (!·):=rfl
theorem Ga{a b:AV}:Jh .in_ a b=NP a b:=rfl
theorem Ew{a b:AV}:Jh .notIn a b=(NP a b).map (!·):=rfl
theorem FY:AV.truth .none=some false:=rfl
theorem BJ{b:Bool}:AV.truth (.bool b)=some b:=rfl
theorem FX{i:Int}:AV.truth (.int i)=some (i != 0):=rfl
theorem FW{l:List Nat}:AV.truth (.bytes l)=if Qi l then some (!l.isEmpty) else Option.none:=rfl
theorem z8{x:AV}{l:List AV}:NP x (.tuple l)=Yp x l:=rfl
theorem z0{x:AV}{ks vs:List AV}:NP x (.dict ks vs)=(Jv x ks vs).map Option.isSome:=rfl
theorem zR:AV.isN .none=some true:=rfl
theorem zQ{i:Int}:AV.isN (.int i)=some false:=rfl
theorem zP{l:List Nat}:AV.isN (.bytes l)=some false:=rfl
theorem zO{l:List AV}:AV.isN (.list l)=some false:=rfl
theorem zN{l:List AV}:AV.isN (.tuple l)=some false:=rfl
theorem zK{n:List Nat}{l:List (List Nat)}:AV.isN (.modi n l)=some false:=rfl
section
inductive Out where
 | next|ret (v:AV)|exc (v:AV)
noncomputable def Out.ctorIdx(x:Out):Nat:=@Out.casesOn (fun Z=>Nat) x 0 (fun x=>1) (fun x=>2)
noncomputable def apart:List Nat->Bool
 | []=>true
 | i::r=>!r.contains i&&apart r
noncomputable def setN:List Nat->List AV->List LV->List LV
 | i::is,v::vs,ρ=>setN is vs (ρ.set i (.val v))
 | _,_,ρ=>ρ
noncomputable def iter(t:List LV->Q8->Option (Bool×Q8))(b:List LV->Q8->Option (Out×List LV×Q8)):Nat->List LV->Q8->Option (Out×List LV×Q8)
 | 0,_,_=>none
 | W+1,ρ,D=>match t ρ D with
  | some (true,D1)=>match b ρ D1 with
   | some (.next,ρ1,D2)=>iter t b W ρ1 D2
   | r=>r
  | some (false,D1)=>some (.next,ρ,D1)
  | none=>none
noncomputable def S8(is:List Nat)(v:AV)(ρ:List LV):Option (List LV):=match is with
 | [i]=>some (ρ.set i (.val v))
 | [_,_]=>(match v with|.tuple [x,y]=>if apart is then some (setN is [x,y] ρ) else none|_=>none)
 | _=>none
noncomputable def JV(is:List Nat)(b:List LV->Q8->Option (Out×List LV×Q8)):List AV->List LV->Q8->Option (Out×List LV×Q8)
 | [],ρ,D=>some (.next,ρ,D)
 | v::r,ρ,D=>match S8 is v ρ with
  | some ρ0=>match b ρ0 D with
   | some (.next,ρ1,D1)=>JV is b r ρ1 D1
   | r=>r
  | none=>none
noncomputable def YX(Φ:Qj)(o:Bool)(e:IR)(ρ:List LV)(D:Q8):Option (LV×Q8):=match o,e with
 | _,.bi .bytearray []=>some (.ownb [],D)
 | true,.lst es=>match runs Φ es ρ D with|some (vs,D1)=>if vs.length<=65536 then some (.own vs,D1) else none|none=>none
 | true,.dict es=>match runs Φ es ρ D with
  | some (xs,D1)=>if(UP xs).all OW then(match TY xs with|some (a,b)=>some (.ownd a b,D1)|none=>none) else none
  | none=>none
 | _,e=>match run Φ e ρ D with|some (v,D1)=>some (.val v,D1)|none=>none
noncomputable def UJ(Φ:Qj)(own:List Nat):List Nat->List IR->List LV->Q8->Option (List LV×Q8)
 | i::is,e::es,ρ,D=>match YX Φ (own.contains i) e ρ D with
  | some (v,D1)=>match UJ Φ own is es ρ D1 with|some (vs,D2)=>some (v::vs,D2)|none=>none
  | none=>none
 | [],[],_,D=>some ([],D)
 | _,_,_,_=>none
noncomputable def Tw:List Nat->List LV->List LV->List LV
 | i::is,v::vs,ρ=>Tw is vs (ρ.set i v)
 | _,_,ρ=>ρ
noncomputable def truthOf(Φ:Qj)(t:IR)(ρ:List LV)(D:Q8):Option (Bool×Q8):=match run Φ t ρ D with
 | some (x,D1)=>match x.truth with|some b=>some (b,D1)|none=>none
 | none=>none
mutual
noncomputable def exec(Φ:Qj)(fl:Bool)(own:List Nat)(W:Nat):SR->List LV->Q8->Option (Out×List LV×Q8)
 | .stuck,_,_=>none
 | .drop e,ρ,D=>match run Φ e ρ D with|some (_,D1)=>some (.next,ρ,D1)|none=>none
 | .set i e,ρ,D=>match YX Φ (own.contains i) e ρ D with|some (v,D1)=>some (.next,ρ.set i v,D1)|none=>none
 | .setN is es,ρ,D=>match UJ Φ own is es ρ D with|some (vs,D1)=>if apart is then some (.next,Tw is vs ρ,D1) else none|none=>none
 | .unpack is e,ρ,D=>match run Φ e ρ D with
  | some (.tuple vs,D1)=>if vs.length=is.length/\apart is=true then some (.next,setN is vs ρ,D1) else none
  | _=>none
 | .aug i o e,ρ,D=>match ρ[i]? with
  | some (.val (.int x))=>match run Φ e ρ D with
   | some (.int y,D1)=>match o with
    | .add=>some (.next,ρ.set i (.val (.int (x+y))),D1)
    | .sub=>some (.next,ρ.set i (.val (.int (x - y))),D1)
    | _=>none
   | _=>none
  | some (.ownb l)=>match o,run Φ e ρ D with
   | .add,some (.bytes m,D1)=>if Qi (l++m) then some (.next,ρ.set i (.ownb (l++m)),D1) else none
   | _,_=>none
  | _=>none
 | .append i e,ρ,D=>match ρ[i]? with
  | some (.own l)=>match run Φ e ρ D with
   | some (v,D1)=>if l.length<=65536 then some (.next,ρ.set i (.own (l++[v])),D1) else none
   | none=>none
  | some (.ownb l)=>match run Φ e ρ D with
   | some (.int c,D1)=>if 0<=c/\c < 256/\Qi (0::l) then some (.next,ρ.set i (.ownb (l++[c.toNat])),D1) else none
   | _=>none
  | _=>none
 | .update i e,ρ,D=>match ρ[i]? with
  | some (.ownd ks vs)=>match run Φ e ρ D with
   | some (.dict xs ys,D1)=>if xs.all OW&&decide (xs.length+ks.length<=65536) then(match JI xs ys (ks,vs) with|some (a,b)=>some (.next,ρ.set i (.ownd a b),D1)|none=>none) else none
   | _=>none
  | _=>none
 | .ifs t a b,ρ,D=>match truthOf Φ t ρ D with
  | some (true,D1)=>execs Φ fl own W a ρ D1
  | some (false,D1)=>execs Φ fl own W b ρ D1
  | none=>none
 | .whiles t b,ρ,D=>iter (fun ρ D=>truthOf Φ t ρ D) (fun ρ D=>execs Φ fl own W b ρ D) W ρ D
 | .fors is e b,ρ,D=>match run Φ e ρ D with
  | some (x,D1)=>match Ut x with
   | some l=>if l.length<=65536/\AV.noStrDs l=true then JV is (fun ρ D=>execs Φ fl own W b ρ D) l ρ D1 else none
   | none=>none
  | none=>none
 | .ret e,ρ,D=>match run Φ e (ρ.map LV.rel) D with|some (v,D1)=>some (.ret v,ρ,D1)|none=>none
 | .raise e,ρ,D=>match run Φ e ρ D with|some (v,D1)=>some (.exc v,ρ,D1)|none=>none
 | .setTold i e,ρ,D=>match fl,ρ[i]? with
  | true,some (.val (.modi n t))=>match run Φ e ρ D with
   | some (.list l,D1)=>match Je l with
    | some t'=>if t'=t/\ρ.all LV.noStrD=true then some (.next,ρ,D1) else none
    | none=>none
   | _=>none
  | _,_=>none
noncomputable def execs(Φ:Qj)(fl:Bool)(own:List Nat)(W:Nat):List SR->List LV->Q8->Option (Out×List LV×Q8)
 | [],ρ,D=>some (.next,ρ,D)
 | s::r,ρ,D=>match exec Φ fl own W s ρ D with
  | some (.next,ρ1,D1)=>execs Φ fl own W r ρ1 D1
  | r=>r
end
structure Cx where
 names:List (Str×NameKind)
 slots:List Str
noncomputable def Jd:List (List Nat×Fn):=
 [([100,101,99,105,109,97,108,95,111,99,116,101,116,115],Fn.k0),([110,117,109,98,101,114,95,111,102],Fn.k1),([102,111,114,109,97,116,95,108,101,116,116,101,114,115],Fn.k2),([105,115,95,116,114,117,101],Fn.k3),([102,111,114,109,97,116,95,116,114,117,116,104],Fn.k4),([102,111,114,109,97,116,95,101,110,100],Fn.k5),([102,111,114,109,97,116,95,115,112,108,105,116],Fn.k6),([102,111,114,109,97,116,95,109,111,100,105,102,105,101,114,95,97,116],Fn.k7)]++
 [([102,111,114,109,97,116,95,116,111,108,100,95,97,116],Fn.k8),([102,111,114,109,97,116,95,109,111,100,105,102,105,101,114,115],Fn.k9),([102,111,114,109,97,116,95,109,111,100,105,102,105,101,114],Fn.k10),([101,120,112,97,110,100,95,102,111,114,109,97,116],Fn.k11),([102,111,114,109,97,116,95,101,120,112,97,110,100,101,100],Fn.k12),([102,111,114,109,97,116,95,112,97,114,116],Fn.k13),([102,111,114,109,97,116,95,116,111,108,100],Fn.k14),([102,111,114,109,97,116,95,118,97,108,117,101],Fn.k15)]++
 [([102,111,114,109,97,116,95,105,115,95,115,111],Fn.k16),([102,111,114,109,97,116,95,99,104,111,115,101,110],Fn.k17),([102,111,114,109,97,116,95,112,97,105,114,101,100],Fn.k18),([102,111,114,109,97,116,95,99,111,109,112,97,114,101,100],Fn.k19),([102,111,114,109,97,116,95,117,110,109,97,114,107,101,100],Fn.k20),([102,111,114,109,97,116,95,102,111,108,100,101,114],Fn.k21),([102,111,114,109,97,116,95,102,111,108,100,101,100],Fn.k22),([102,111,114,109,97,116,95,102,105,116,115],Fn.k23)]++
 [([102,111,114,109,97,116,95,119,104,111,108,101],Fn.k24),([102,111,114,109,97,116,95,113,117,111,116,105,101,110,116],Fn.k25),([102,111,114,109,97,116,95,114,101,99,107,111,110,101,100],Fn.k26),([102,111,114,109,97,116,95,112,105,101,99,101,115],Fn.k27),([102,111,114,109,97,116,95,119,105,100,116,104],Fn.k28),([102,111,114,109,97,116,95,99,117,116],Fn.k29),([102,111,114,109,97,116,95,108,105,109,105,116,101,100],Fn.k30),([102,111,114,109,97,116,95,102,105,108,108,101,100],Fn.k31)]++
 [([102,111,114,109,97,116,95,102,105,110,105,115,104,101,100],Fn.k32),([95,108,97,119,95,100,114,97,119],Fn.k33),([95,108,97,119,95,112,105,99,107],Fn.k34),([95,108,97,119,95,102,97,99,116,115],Fn.k35),([95,108,97,119,95,100,101,99,105,109,97,108],Fn.k36),([95,108,97,119,95,102,105,116,115],Fn.k37),([95,108,97,119,95,105,115,95,116,114,117,101],Fn.k38),([95,108,97,119,95,116,114,117,116,104],Fn.k39)]++
 [([95,108,97,119,95,115,117,109],Fn.k40),([95,108,97,119,95,112,105,101,99,101],Fn.k41),([95,108,97,119,95,112,105,101,99,101,115],Fn.k42),([95,108,97,119,95,100,101,99,107],Fn.k43)]
noncomputable def Ma:AV:=.tuple [.bytes [108],.bytes [69],.bytes [84],.bytes [98],.bytes [100],.bytes [110],.bytes [119],.bytes [97],.bytes [83],.bytes [87],.bytes [80],.bytes [33],.bytes [33,33]]
noncomputable def AI:AV:=.tuple [.bytes [124,124],.bytes [38,38],.bytes [61,61],.bytes [33,61],.bytes [60,61],.bytes [62,61],.bytes [60],.bytes [62]]
noncomputable def Kp:List (List Nat×AV):=
 [([83,73,71,78],.int 35),([79,80,69,78],.int 123),([67,76,79,83,69],.int 125),([67,79,77,77,65],.int 44),([83,76,65,83,72],.int 47),([66,65,67,75,83,76,65,83,72],.int 92),([77,79,83,84,95,68,69,69,80],.int 10),([77,79,83,84,95,87,73,68,69],.int 10000)]++
 [([80,76,65,73,78,95,77,79,68,73,70,73,69,82,83],Ma),([80,65,73,82,95,77,79,68,73,70,73,69,82,83],AI),([84,79,76,68,95,77,79,68,73,70,73,69,82,83],.bytes [109,78,115,116,61,112,101,113,82])]
noncomputable def Wt:List (List Nat×Bi):=
 [([108,101,110],Bi.len),([98,121,116,101,115],Bi.bytes),([98,121,116,101,97,114,114,97,121],Bi.bytearray),([97,98,115],Bi.abs),([109,97,120],Bi.max),([109,105,110],Bi.min),([114,97,110,103,101],Bi.range),([111,114,100],Bi.ord)]++
 [([115,116,114],Bi.str),([114,101,112,114],Bi.repr),([105,110,116],Bi.int)]
noncomputable def PK:Operator->Option Op
 | .Add=>some .add|.Sub=>some .sub|.Mult=>some .mul|.FloorDiv=>some .fdiv|.Mod=>some .mod|_=>none
noncomputable def Er:CmpOp->Option Co
 | .Eq=>some .eq|.NotEq=>some .ne|.Lt=>some .lt|.LtE=>some .le|.Gt=>some .gt|.GtE=>some .ge|.In=>some .in_|.NotIn=>some .notIn|_=>none
noncomputable def UO(f:IR->IR->IR):List IR->IR
 | []=>.stuck
 | [a]=>a
 | a::r=>f a (UO f r)
noncomputable def Cx.isGlob(cx:Cx)(x:Str):Bool:=cx.names.lookup x == some .globalImplicit
noncomputable def okN(x:Str):Bool:=!(x == ("__debug__":Str))&&!(x == ("__classdict__":Str))
noncomputable def JN(e:Expr):Bool:=Nat.beq e.ctorIdx 23||Nat.beq e.ctorIdx 19
noncomputable def notStar(e:Expr):Bool:=!Nat.beq e.ctorIdx 22
noncomputable def Ur(as:List Expr):Bool:=as.all notStar
noncomputable def Y5(e:Expr):Bool:=!(Nat.beq e.ctorIdx 8||Nat.beq e.ctorIdx 9||Nat.beq e.ctorIdx 10)
noncomputable def ND(e:Expr):Bool:=!Nat.beq e.ctorIdx 25
noncomputable def Kz(e:Expr):Bool:=!Nat.beq e.ctorIdx 7
noncomputable def eN:Str:=Str.mk #[]
noncomputable def Zx(cx:Cx)(sc:Scope):List (Str×NameKind):=sc.names.map fun y=>if y.2 == .free&&cx.names.lookup y.1 == some .cell then(y.1,NameKind.cell) else y
noncomputable def YD(sc:Scope)(x y:Str):Bool:=sc.names.lookup y == some .free&&!(y == x)&&!(y == eN)
noncomputable def ZZ(cx:Cx)(sc:Scope)(x:Str):Cx:={ names:=Zx cx sc,slots:=(cx.slots.map fun y=>if YD sc x y then y else eN)++[x] }
noncomputable def JC(cx:Cx)(sc:Scope)(x:Str):List Nat:=(List.range cx.slots.length).filter fun i=>match cx.slots[i]? with|some y=>YD sc x y|none=>false
noncomputable def NZ(cx:Cx)(sc:Scope)(x:Str):Bool:=sc.kind == .function&&!(x == eN)&&sc.names.lookup x == some .local&&
 sc.names.all fun y=>!(y.2 == .cell)&&(!(y.2 == .local)||sc.names.lookup y.1 == some .local)&&(!(y.2 == .free)||(sc.names.lookup y.1 == some .free&&(cx.names.lookup y.1 == some .cell||cx.names.lookup y.1 == some .free)))
inductive EV where
 | const (c:Const)|name (x:Str) (p:Pos)|bop (op:BoolOp) (vs:List Expr)|bin (l:Expr) (op:Operator) (r:Expr)|un (op:UnaryOp) (x:Expr)
 | ite (t a b:Expr)|cmp (l:Expr) (ops:List CmpOp) (rs:List Expr)|call (f:Expr) (as:List Expr) (ks:List Keyword) (p:Pos)
 | attr (o:Expr) (a:Str) (p:Pos)|sub (o i:Expr)|slc (lo hi st:Option Expr)|tup (es:List Expr)|lst (es:List Expr)
 | dict (ks:List (Option Expr)) (vs:List Expr)|lc (e:Expr) (gs:List Comprehension) (sc:Scope)|other
noncomputable def ev(e:Expr):EV:=@Expr.casesOn (fun Z=>EV) e (fun op vs x=>.bop op vs) (fun x x x=>.other) (fun l op r x=>.bin l op r) (fun op x y=>.un op x) (fun x x x x=>.other) (fun t a b x=>.ite t a b) (fun ks vs x=>.dict ks vs) (fun x x x=>.other) (fun e gs sc x=>.lc e gs sc) (fun x x x x=>.other) (fun x x x x x=>.other) (fun x x x x=>.other) (fun x x=>.other) (fun x x=>.other) (fun x x=>.other) (fun l ops rs x=>.cmp l ops rs) (fun f as ks p=>.call f as ks p) (fun x x x x=>.other) (fun x x=>.other) (fun c x x=>.const c) (fun o a p=>.attr o a p) (fun o i x=>.sub o i) (fun x x=>.other) (fun x p=>.name x p) (fun es x=>.lst es) (fun es x x=>.tup es) (fun lo hi st x=>.slc lo hi st)
noncomputable def nameV(e:Expr):Option Str:=match ev e with|.name x _=>some x|_=>none
noncomputable def N4(e:Expr):Option (Expr×Str×Pos):=match ev e with|.attr o a p=>some (o,a,p)|_=>none
noncomputable def M3(e:Expr):Option (Option Expr×Option Expr×Option Expr):=match ev e with|.slc a b c=>some (a,b,c)|_=>none
noncomputable def XW(e:Expr):Option (Expr×List Expr×List Keyword×Pos):=match ev e with|.call f as ks p=>some (f,as,ks,p)|_=>none
noncomputable def Gh(e:Expr):Option (List Expr):=match ev e with|.tup es=>some es|_=>none
noncomputable def Mo(e:Expr):Option (List Expr):=match ev e with|.lst es=>some es|_=>none
noncomputable def LG(e:Expr):Option (List (Option Expr)×List Expr):=match ev e with|.dict ks vs=>some (ks,vs)|_=>none
noncomputable def Od:Const->IR
 | .none=>.lit .none|.bool b=>.lit (.bool b)|.int i=>.lit (.int i)|.str s=>.lit (.str s.cps.toList)|.bytes b=>.lit (.bytes (b.map (·.toNat)))|_=>.stuck
noncomputable def SQ:Const->Bool|.none=>true|_=>false
noncomputable def ME:Const->Bool|.int i=>i == 1|_=>false
noncomputable def VX(e:Expr):Option Const:=match ev e with|.const c=>some c|_=>none
noncomputable def TM(e:Expr):Bool:=(VX e).elim false SQ
noncomputable def C8:UnaryOp->Bool|.USub=>true|_=>false
noncomputable def MG(e:Expr):Bool:=match ev e with|.un op x=>C8 op&&(VX x).elim false ME|_=>false
noncomputable def zj:CmpOp->Option Co|.Is=>some .isNone|.IsNot=>some .isNotNone|_=>none
section
variable (r:Expr->IR)(cx:Cx)
noncomputable def Fg(x:Str):IR:=cond (okN x) (cond (cx.isGlob x) ((Kp.lookup x.cps.toList).elim .stuck fun v=>.glob x.cps.toList v) ((cx.slots.idxOf? x).elim .stuck .loc)) .stuck
noncomputable def zv(x:Expr):UnaryOp->IR|.USub=>.neg (r x)|.Not=>.not (r x)|_=>.stuck
noncomputable def CQ(vs:List Expr):BoolOp->IR|.And=>UO .and (vs.map r)|.Or=>UO .or (vs.map r)
noncomputable def CM(l:Expr)(ops:List CmpOp)(rs:List Expr):IR:=(one ops).elim
 ((two ops).elim .stuck fun o=>(two rs).elim .stuck fun q=>cond (!behindInMarks o.2 q.2) ((Er o.1).elim .stuck fun o1=>(Er o.2).elim .stuck fun o2=>.cmp2 o1 o2 (r l) (r q.1) (r q.2)) .stuck)
 fun o=>(one rs).elim .stuck fun q=>(zj o).elim (cond (!behindInMarks o q) ((Er o).elim .stuck fun o=>.cmp o (r l) (r q)) .stuck) fun o'=>cond (TM q) (.cmp o' (r l) (.lit .none)) .stuck
noncomputable def Fh(o:Expr)(m:Str)(ap:Pos)(as:List Expr)(p:Pos):IR:=cond (JN o&&ap.endLine == p.line&&Ur as) ((two as).elim
 ((one as).elim .stuck fun a=>cond (m.cps.toList == [114,102,105,110,100]) (.rfind (r o) (r a)) (cond (m.cps.toList == [106,111,105,110]) (.join (r o) (r a)) .stuck))
 fun q=>cond (m.cps.toList == [103,101,116]) (.get (r o) (r q.1) (r q.2)) .stuck) .stuck
noncomputable def zo(x:Str)(as:List Expr):IR:=cond (okN x&&Ur as&&cx.isGlob x) ((Jd.lookup x.cps.toList).elim
 ((Wt.lookup x.cps.toList).elim (cond (x.cps.toList == [77,111,100,105,102,105,101,114]) ((two as).elim .stuck fun q=>.modi (r q.1) (r q.2)) .stuck) fun b=>.bi b (as.map r))
 fun g=>.call g (as.map r)) .stuck
noncomputable def Fw(f:Expr)(as:List Expr)(p:Pos):IR:=(nameV f).elim ((N4 f).elim .stuck fun m=>Fh r m.1 m.2.1 m.2.2 as p) fun x=>zo r cx x as
noncomputable def FI(o:Expr)(a:Str):IR:=(nameV o).elim .stuck fun Z=>cond (a.cps.toList == [110,97,109,101]) (.name (r o)) (cond (a.cps.toList == [116,111,108,100]) (.told (r o)) .stuck)
noncomputable def Ag(o i:Expr):IR:=(M3 i).elim (.idx (r o) (r i)) fun s=>s.2.2.elim (.slc (r o) (s.1.map r) (s.2.1.map r)) fun st=>cond (s.1.isNone&&s.2.1.isNone&&MG st) (.rev (r o)) .stuck
noncomputable def zh(rr:Cx->Expr->IR)(e:Expr)(gs:List Comprehension)(sc:Scope):IR:=(one gs).elim .stuck fun g=>(nameV g.target).elim .stuck fun x=>cond (g.is_async == 0&&NZ cx sc x&&Kz g.iter)
 (cond g.ifs.isEmpty (.comp (JC cx sc x) (rr (ZZ cx sc x) e) (r g.iter) none) ((one g.ifs).elim .stuck fun c=>.comp (JC cx sc x) (rr (ZZ cx sc x) e) (r g.iter) (some (rr (ZZ cx sc x) c)))) .stuck
end
noncomputable def Fv(rr:Cx->Expr->IR)(cx:Cx):EV->IR
 | .const c=>Od c
 | .name x _=>Fg cx x
 | .bop op vs=>CQ (rr cx) vs op
 | .bin l op q=>(PK op).elim .stuck fun o=>.bin o (rr cx l) (rr cx q)
 | .un op x=>zv (rr cx) x op
 | .ite t a b=>.ite (rr cx t) (rr cx a) (rr cx b)
 | .cmp l ops rs=>CM (rr cx) l ops rs
 | .call f as ks p=>cond ks.isEmpty (Fw (rr cx) cx f as p) .stuck
 | .attr o a _=>FI (rr cx) o a
 | .sub o i=>Ag (rr cx) o i
 | .slc _ _ _=>.stuck
 | .tup es=>cond (Ur es) (.tup (es.map (rr cx))) .stuck
 | .lst es=>cond (Ur es) (.lst (es.map (rr cx))) .stuck
 | .dict ks vs=>(ks.mapM id).elim .stuck fun ks=>.dict ((ks.zip vs).flatMap fun p=>[rr cx p.1,rr cx p.2])
 | .lc e gs sc=>zh (rr cx) cx rr e gs sc
 | .other=>.stuck
noncomputable def comp:Nat->Cx->Expr->IR
 | 0,_,_=>.stuck
 | n+1,cx,e=>Fv (comp n) cx (ev e)
noncomputable def ZY(cx:Cx)(e:Expr):Option Nat:=(nameV e).bind fun x=>cond (okN x&&(cx.names.lookup x == some .local||cx.names.lookup x == some .cell)) (cx.slots.idxOf? x) none
noncomputable def slotsOf(cx:Cx)(ts:List Expr):Option (List Nat):=ts.mapM (ZY cx)
inductive SV where
 | ret (e:Option Expr)|asg (ts:List Expr) (e:Expr)|aug (t:Expr) (op:Operator) (e:Expr)|expr (e:Expr)|ifs (t:Expr) (a b:List Stmt)
 | whl (t:Expr) (b e:List Stmt)|fr (t it:Expr) (b e:List Stmt)|rse (e c:Option Expr)|other
noncomputable def sv(s:Stmt):SV:=@Stmt.casesOn (fun Z=>SV) s (fun x x x x x x x x x x=>.other) (fun x x x x x x x x x x=>.other) (fun x x x x x x x x x x x=>.other) (fun e x=>.ret e) (fun x x=>.other) (fun ts e x=>.asg ts e) (fun x x x x x x x=>.other) (fun t op e x=>.aug t op e) (fun x x x x x=>.other) (fun t it b e x=>.fr t it b e) (fun x x x x x=>.other) (fun t b e x=>.whl t b e) (fun t a b x=>.ifs t a b) (fun x x x=>.other) (fun x x x=>.other) (fun x x x=>.other) (fun e c x=>.rse e c) (fun x x x x x=>.other) (fun x x x x x=>.other) (fun x x x=>.other) (fun x x=>.other) (fun x x x x=>.other) (fun x x=>.other) (fun x x=>.other) (fun e x=>.expr e) (fun x=>.other) (fun x=>.other) (fun x=>.other)
noncomputable def YZ:IR->Bool
 | .bi b as=>!(b == .bytearray&&as.isEmpty)
 | .lst _=>false
 | .dict _=>false
 | _=>true
section
variable (r:Expr->IR)(cx:Cx)(rs:Stmt->SR)
noncomputable def M6(e:Expr):IR:=cond (YZ (r e)) (r e) ((XW e).elim
 ((Mo e).elim ((LG e).elim .stuck fun d=>(d.1.mapM id).elim .stuck fun ks=>.dict ((ks.zip d.2).flatMap fun p=>[r p.1,r p.2])) fun es=>cond (Ur es) (.lst (es.map r)) .stuck)
 fun c=>(nameV c.1).elim .stuck fun x=>cond (okN x&&cx.isGlob x&&c.2.1.isEmpty&&c.2.2.1.isEmpty) ((Wt.lookup x.cps.toList).elim .stuck fun b=>cond (b == .bytearray) (.bi .bytearray []) .stuck) .stuck)
noncomputable def OA(t e:Expr):SR:=(ZY cx t).elim
 ((Gh t).elim ((N4 t).elim .stuck fun o=>cond (o.2.1.cps.toList == [116,111,108,100]) ((ZY cx o.1).elim .stuck fun i=>.setTold i (r e)) .stuck)
  fun ts=>(slotsOf cx ts).elim .stuck fun is=>(Gh e).elim (cond (Y5 e) (.unpack is (r e)) .stuck)
   fun es=>cond (Ur es&&ts.length == es.length&&decide (es.length<=100)&&(!es.all (constantsAlone 8)||es.all (foldedForSure 8))) (.setN is (es.map (M6 r cx))) .stuck)
 fun i=>cond (Y5 e) (.set i (M6 r cx e)) .stuck
noncomputable def Lm(e:Expr):SR:=(XW e).elim .stuck fun c=>(N4 c.1).elim .stuck fun m=>(one c.2.1).elim .stuck fun a=>cond (c.2.2.1.isEmpty&&notStar a&&m.2.2.endLine == c.2.2.2.line)
 ((ZY cx m.1).elim .stuck fun i=>cond (m.2.1.cps.toList == [97,112,112,101,110,100]) (.append i (r a)) (cond (m.2.1.cps.toList == [117,112,100,97,116,101]) (.update i (r a)) .stuck)) .stuck
noncomputable def O0(t it:Expr)(b:List Stmt):SR:=(ZY cx t).elim ((Gh t).elim .stuck fun ts=>(two ts).elim .stuck fun q=>(ZY cx q.1).elim .stuck fun i=>(ZY cx q.2).elim .stuck fun j=>.fors [i,j] (r it) (b.map rs))
 fun i=>.fors [i] (r it) (b.map rs)
noncomputable def M8(e:Expr):SR:=(XW e).elim .stuck fun c=>(nameV c.1).elim .stuck fun x=>(one c.2.1).elim .stuck fun a=>cond (c.2.2.1.isEmpty&&x.cps.toList == [66,97,100,70,111,114,109,97,116]&&cx.isGlob x&&notStar a) (.raise (r a)) .stuck
noncomputable def NY:SV->SR
 | .ret e=>e.elim .stuck fun e=>.ret (r e)
 | .asg ts e=>(one ts).elim .stuck fun t=>OA r cx t e
 | .aug t op e=>(ZY cx t).elim .stuck fun i=>(PK op).elim .stuck fun o=>.aug i o (r e)
 | .expr e=>Lm r cx e
 | .ifs t a b=>.ifs (r t) (a.map rs) (b.map rs)
 | .whl t b e=>cond e.isEmpty (.whiles (r t) (b.map rs)) .stuck
 | .fr t it b e=>cond (e.isEmpty&&Kz it) (O0 r cx rs t it b) .stuck
 | .rse e c=>cond c.isNone (e.elim .stuck (M8 r cx)) .stuck
 | .other=>.stuck
end
noncomputable def Zz:Nat->Cx->Stmt->SR
 | 0,_,_=>.stuck
 | n+1,cx,s=>NY (comp (n+1) cx) cx (Zz n cx) (sv s)
structure FC where
 params:Nat
 slots:Nat
 own:List Nat
 body:List SR
mutual
noncomputable def AR:SR->List Nat
 | .append i _=>[i]
 | .update i _=>[i]
 | .ifs _ a b=>V6 a++V6 b
 | .whiles _ b=>V6 b
 | .fors _ _ b=>V6 b
 | _=>[]
noncomputable def V6:List SR->List Nat
 | []=>[]
 | s::r=>AR s++V6 r
end
noncomputable def dv(s:Stmt):Option (Str×List Stmt×Option (Arguments×Scope)):=@Stmt.casesOn (fun Z=>Option (Str×List Stmt×Option (Arguments×Scope))) s (fun n a b x x x sc x x x=>some (n,b,some (a,sc))) (fun x x x x x x x x x x=>none) (fun n x x b x x x x x x x=>some (n,b,none)) (fun x x=>none) (fun x x=>none) (fun x x x=>none) (fun x x x x x x x=>none) (fun x x x x=>none) (fun x x x x x=>none) (fun x x x x x=>none) (fun x x x x x=>none) (fun x x x x=>none) (fun x x x x=>none) (fun x x x=>none) (fun x x x=>none) (fun x x x=>none) (fun x x x=>none) (fun x x x x x=>none) (fun x x x x x=>none) (fun x x x=>none) (fun x x=>none) (fun x x x x=>none) (fun x x=>none) (fun x x=>none) (fun x x=>none) (fun x=>none) (fun x=>none) (fun x=>none)
noncomputable def Jx(x:List Nat)(l:List Stmt):Option (Arguments×List Stmt×Scope):=l.findSome? fun s=>(dv s).bind fun d=>d.2.2.bind fun q=>cond (d.1.cps.toList == x) (some (q.1,d.2.1,q.2)) none
noncomputable def G8(x:List Nat)(l:List Stmt):Option (List Stmt):=l.findSome? fun s=>(dv s).bind fun d=>cond (d.2.2.isNone&&d.1.cps.toList == x) (some d.2.1) none
noncomputable def XA:List Nat:=[95,95,105,110,105,116,95,95]
noncomputable def Y9:Option (Arguments×List Stmt×Scope):=(G8 [77,111,100,105,102,105,101,114] PySem.Challenge.pw_og0273_01.main.body).bind (Jx XA)
noncomputable def RJ:Option (Arguments×List Stmt×Scope):=(G8 [84,101,114,109,69,114,114,111,114] PySem.Challenge.pw_og0273_01.main.body).bind (Jx XA)
noncomputable def fc(x:List Nat):Option FC:=(Jx x PySem.Challenge.pw_og0273_01.main.body).map fun d=>
 let slots:=(d.2.2.names.filter fun y=>y.2 == .local||y.2 == .cell).map (·.1)
 let body:=d.2.1.map (Zz 20 { names:=d.2.2.names,slots:=slots })
 {params:=d.1.args.length,slots:=slots.length,own:=(V6 body).eraseDups,body:=body }
theorem JT{Φ:Qj}{o:Bool}{ir:IR}(h:YZ ir=true)(ρ:List LV)(D:Q8):YX Φ o ir ρ D=match run Φ ir ρ D with|some (v,D1)=>some (.val v,D1)|none=>none:=by
 cases ir with
 | bi b as=>
  cases b with
  | bytearray=>
   rcases as with _|⟨x,r⟩
   ·exact Bool.noConfusion h
   ·cases o<;>rfl
  | _=>cases o<;>rfl
 | lst es=>exact Bool.noConfusion h
 | dict es=>exact Bool.noConfusion h
 | _=>cases o<;>rfl
theorem Hq{γ:Type}{x:Option (AV×Q8)}{f:AV->Q8->Option γ}{r:γ}{C:Prop}(h:(match x with|some (a,b)=>f a b|none=>none)=some r)(k:∀a b,x=some (a,b)->f a b=some r->C):C:=by
 cases x with|none=>exact Qf h|some p=>exact k _ _ rfl h
theorem Bq{γ:Type}{x:Option (List AV×Q8)}{f:List AV->Q8->Option γ}{r:γ}{C:Prop}(h:(match x with|some (a,b)=>f a b|none=>none)=some r)(k:∀a b,x=some (a,b)->f a b=some r->C):C:=by
 cases x with|none=>exact Qf h|some p=>exact k _ _ rfl h
theorem za{γ:Type}{x:Option (LV×Q8)}{f:LV->Q8->Option γ}{r:γ}{C:Prop}(h:(match x with|some (a,b)=>f a b|none=>none)=some r)(k:∀a b,x=some (a,b)->f a b=some r->C):C:=by
 cases x with|none=>exact Qf h|some p=>exact k _ _ rfl h
theorem z9{γ:Type}{x:Option (List LV×Q8)}{f:List LV->Q8->Option γ}{r:γ}{C:Prop}(h:(match x with|some (a,b)=>f a b|none=>none)=some r)(k:∀a b,x=some (a,b)->f a b=some r->C):C:=by
 cases x with|none=>exact Qf h|some p=>exact k _ _ rfl h
theorem Ha{α:Type}{c:Prop}[Decidable c]{a:Option α}{r:α}{C:Prop}(h:(if c then a else none)=some r)(k:c->a=some r->C):C:=k (QL h).1 (QL h).2
section
variable {γ:Type}{r:γ}{C:Prop}{x:Option (AV×Q8)}
theorem kI{f:Int->Q8->Option γ}(h:(match x with|some (.int i,D)=>f i D|_=>none)=some r)(k:∀i D,x=some (.int i,D)->f i D=some r->C):C:=by
 rcases x with _|⟨a,D⟩
 ·exact Qf h
 ·rcases a with _|_<;>first|exact Qf h|exact k _ _ rfl h
theorem kB{f:List Nat->Q8->Option γ}(h:(match x with|some (.bytes i,D)=>f i D|_=>none)=some r)(k:∀i D,x=some (.bytes i,D)->f i D=some r->C):C:=by
 rcases x with _|⟨a,D⟩
 ·exact Qf h
 ·rcases a with _|_<;>first|exact Qf h|exact k _ _ rfl h
theorem kL{f:List AV->Q8->Option γ}(h:(match x with|some (.list i,D)=>f i D|_=>none)=some r)(k:∀i D,x=some (.list i,D)->f i D=some r->C):C:=by
 rcases x with _|⟨a,D⟩
 ·exact Qf h
 ·rcases a with _|_<;>first|exact Qf h|exact k _ _ rfl h
theorem kT{f:List AV->Q8->Option γ}(h:(match x with|some (.tuple i,D)=>f i D|_=>none)=some r)(k:∀i D,x=some (.tuple i,D)->f i D=some r->C):C:=by
 rcases x with _|⟨a,D⟩
 ·exact Qf h
 ·rcases a with _|_<;>first|exact Qf h|exact k _ _ rfl h
theorem kD{f:List AV->List AV->Q8->Option γ}(h:(match x with|some (.dict a b,D)=>f a b D|_=>none)=some r)(k:∀a b D,x=some (.dict a b,D)->f a b D=some r->C):C:=by
 rcases x with _|⟨a,D⟩
 ·exact Qf h
 ·rcases a with _|_<;>first|exact Qf h|exact k _ _ _ rfl h
theorem kM{f:List Nat->List (List Nat)->Q8->Option γ}(h:(match x with|some (.modi a b,D)=>f a b D|_=>none)=some r)(k:∀a b D,x=some (.modi a b,D)->f a b D=some r->C):C:=by
 rcases x with _|⟨a,D⟩
 ·exact Qf h
 ·rcases a with _|_<;>first|exact Qf h|exact k _ _ _ rfl h
theorem kV{x:Option LV}{f:AV->Option γ}(h:(match x with|some (.val v)=>f v|_=>none)=some r)(k:∀v,x=some (.val v)->f v=some r->C):C:=by
 rcases x with _|a
 ·exact Qf h
 ·rcases a with _|_<;>first|exact Qf h|exact k _ rfl h
theorem kW{x:Option LV}{f:List AV->List AV->Option γ}(h:(match x with|some (.ownd a b)=>f a b|_=>none)=some r)(k:∀a b,x=some (.ownd a b)->f a b=some r->C):C:=by
 rcases x with _|a
 ·exact Qf h
 ·rcases a with _|_<;>first|exact Qf h|exact k _ _ rfl h
theorem kU{x:Option LV}{f:List AV->Option γ}{g:List Nat->Option γ}(h:(match x with|some (.own a)=>f a|some (.ownb a)=>g a|_=>none)=some r)(k:∀a,x=some (.own a)->f a=some r->C)(k2:∀a,x=some (.ownb a)->g a=some r->C):C:=by
 rcases x with _|a
 ·exact Qf h
 ·rcases a with _|_<;>first|exact Qf h|exact k _ rfl h|exact k2 _ rfl h
theorem kA{x:Option LV}{f:Int->Option γ}{g:List Nat->Option γ}(h:(match x with|some (.val (.int a))=>f a|some (.ownb a)=>g a|_=>none)=some r)(k:∀a,x=some (.val (.int a))->f a=some r->C)(k2:∀a,x=some (.ownb a)->g a=some r->C):C:=by
 rcases x with _|a
 ·exact Qf h
 ·rcases a with _|a<;>first|exact Qf h|exact k2 _ rfl h|skip
  rcases a with _|_<;>first|exact Qf h|exact k _ rfl h
theorem kN{b:Bool}{x:Option LV}{f:List Nat->List (List Nat)->Option γ}(h:(match b,x with|true,some (.val (.modi a c))=>f a c|_,_=>none)=some r)(k:∀a c,b=true->x=some (.val (.modi a c))->f a c=some r->C):C:=by
 rcases b with _|_
 ·exact Qf h
 rcases x with _|a
 ·exact Qf h
 ·rcases a with _|a<;>first|exact Qf h|skip
  rcases a with _|_<;>first|exact Qf h|exact k _ _ rfl rfl h
theorem kO{o:Op}{f:List Nat->Q8->Option γ}(h:(match o,x with|.add,some (.bytes i,D)=>f i D|_,_=>none)=some r)(k:∀i D,o=.add->x=some (.bytes i,D)->f i D=some r->C):C:=by
 rcases x with _|⟨a,D⟩
 ·rcases o with _|_<;>exact Qf h
 ·rcases o with _|_<;>first|exact Qf h|skip
  rcases a with _|_<;>first|exact Qf h|exact k _ _ rfl rfl h
end
theorem HL{Φ:Qj}{a:IR}{x:AV}{ρ:List LV}{D D1:Q8}(h:run Φ a ρ D=some (x,D1)):runs Φ [a] ρ D=some ([x],D1):=by dsimp only[runs];rw[h]
theorem EZ{Φ:Qj}{a b:IR}{x y:AV}{ρ:List LV}{D D1 D2:Q8}(h:run Φ a ρ D=some (x,D1))(h2:run Φ b ρ D1=some (y,D2)):runs Φ [a,b] ρ D=some ([x,y],D2):=by dsimp only[runs];rw[h];dsimp only;rw[h2]
end
end
section
open PySem PySem.W PySem.Calls
noncomputable abbrev hp:Program:=PySem.Challenge.pw_og0273_01
noncomputable def QQ:Env:={ scope:=Module.scope (Program.main hp),locals:=mainNs,globals:=mainNs,cells:=[],code:=Value.ref 13,frame:=some 14 }
noncomputable def YT(k n:Nat):List Stmt:=((behindTheImports hp).drop k).take n
noncomputable abbrev q0:Pos:={ line:=0,col:=0,endLine:=0,endCol:=0 }
noncomputable abbrev Jo:Option Value:=some (.ref 6)
noncomputable def Goes(w:World)(c:Code)(gd:Bool->Bool)(lv:List Value->List Value){α:Type}(x:Sem α)(s:SharedT)(n:Nat)(a:α)(s':SharedT):Prop:=
 ∀(p:Program) (K:α->Sem Fin) (H:Value->Sem Fin) (pos:Pos),∃pos',∀N r,topRun treeTable p w 11 Jo N s'.abs ⟨K a,c,pos',[topFrame q0]⟩=some r->
  topRun treeTable p w 11 Jo (n+N) s.abs ⟨x.wrap K H gd lv,c,pos,[topFrame q0]⟩=some r
section
variable {w:World}{c:Code}{b:List Stmt}{e:Env}{gd:Bool->Bool}{lv:List Value->List Value}{α β:Type}{s s1 s2:SharedT}{n m:Nat}
theorem Goes.pure{a:α}:Goes w c gd lv (pure a:Sem α) s 0 a s:=fun p K H pos=>⟨pos,fun N r h=>by rw[Nat.zero_add];exact h⟩
theorem Goes.bind{x:Sem α}{f:α->Sem β}{a:α}{b:β}(h1:Goes w c gd lv x s n a s1)(h2:Goes w c gd lv (f a) s1 m b s2):Goes w c gd lv (x >>= f) s (n+m) b s2:=fun p K H pos=>by
 obtain⟨pos1,k1⟩:=h1 p (fun a=>(f a).wrap K H gd lv) (fun e=>(Sem.raise e:Sem β).wrap K H gd lv) pos;obtain⟨pos2,k2⟩:=h2 p K H pos1;refine⟨pos2,fun N r h=>?_⟩;have:=k1 _ _ (k2 _ _ h);rw[Sem.bind_eq_wrap',Sem.wrap_wrap,Nat.add_assoc];exact this
theorem Goes.le{x:Sem α}{a:α}(h:Goes w c gd lv x s n a s1)(hn:n<=m):Goes w c gd lv x s m a s1:=fun p K H pos=>by
 obtain⟨pos',k⟩:=h p K H pos;refine⟨pos',fun N r h=>?_⟩;have:=topRun_mono (m - n) _ _ _ _ (k N r h);rw[show n+N+(m - n)=m+N by omega] at this;exact this
theorem Goes.now{a:α}:Goes w c gd lv (Pure.pure a:Sem α) s n a s:=Goes.pure.le (Nat.zero_le _)
theorem Goes.step{x:Sem α}{f:α->Sem β}{a:α}{b:β}(m:Nat)(h1:Goes w c gd lv x s m a s1)(h2:Goes w c gd lv (f a) s1 (n - m) b s2)(hm:m<=n):Goes w c gd lv (x >>= f) s n b s2:=by
 have:=h1.bind h2;rwa [show m+(n - m)=n by omega] at this
theorem Goes.stp{x:Sem α}{f:α->Sem β}{a:α}{b:β}(m:Nat)(h1:Goes w c gd lv x s m a s1)(h2:Goes w c gd lv (f a) s1 (n - m) b s2)(hm:Nat.ble m n=true):Goes w c gd lv (x >>= f) s n b s2:=Goes.step m h1 h2 (Nat.le_of_ble_eq_true hm)
theorem Goes.eq{x y:Sem α}{a:α}(e:x=y)(h:Goes w c gd lv y s n a s1):Goes w c gd lv x s n a s1:=by rw[e];exact h
theorem Goes.keep{x:Sem α}{vs:List Value}{a:α}(h:Goes w c gd (fun l=>lv (vs++l)) x s n a s1):Goes w c gd lv (x.keep vs) s n a s1:=fun p K H pos=>by
 obtain⟨pos1,k1⟩:=h p K H pos;refine⟨pos1,fun N r h=>?_⟩;have:=k1 _ _ h;rw[Sem.keep_eq_wrap,Sem.wrap_wrap];exact this
theorem Goes.seg{x:Sem α}{a:α}(res:α->Flow)(inj:∀b,res b=res a->b=a)
  (h:∀(p:Program) (pos:Pos),∃pos',segRunT treeTable p w 11 Jo 1 n s ⟨x.wrap (fun a=>.pure (.done (res a))) deadEnd gd lv,c,pos,[topFrame q0]⟩=some (res a,s1,c,pos')):Goes w c gd lv x s n a s1:=fun p K H pos=>by
 obtain⟨pos',h⟩:=h p pos;obtain⟨b,hb,k⟩:=seg_top (K':=K) (H':=H) (B:=[topFrame q0]) (res:=res) rfl n s.abs ⟨x.wrap (fun a=>.pure (.done (res a))) deadEnd gd lv,c,pos,[topFrame q0]⟩ ⟨x.wrap K H gd lv,c,pos,[topFrame q0]⟩ _ _ _ _ ⟨rfl,rfl,.inl ⟨rfl,rfl,_,rfl,rfl⟩⟩ (segRun_of h);obtain rfl:=inj b hb;exact⟨pos',k⟩
theorem Goes.value{x:Sem Value}{a:Value}(h:∀(p:Program) (pos:Pos),∃pos',segRunT treeTable p w 11 Jo 1 n s ⟨x.wrap (fun a=>.pure (.done (.ret a))) deadEnd gd lv,c,pos,[topFrame q0]⟩=some (.ret a,s1,c,pos')):Goes w c gd lv x s n a s1:=
 Goes.seg Flow.ret (fun b e=>by cases e;rfl) h
theorem Goes.unit{x:Sem Unit}(h:∀(p:Program) (pos:Pos),∃pos',segRunT treeTable p w 11 Jo 1 n s ⟨x.wrap (fun Z=>.pure (.done .next)) deadEnd gd lv,c,pos,[topFrame q0]⟩=some (.next,s1,c,pos')):Goes w c gd lv x s n () s1:=
 Goes.seg (fun Z=>.next) (fun b e=>rfl) h
noncomputable def PJ:Option Value->Flow|some v=>.ret v|none=>.next
theorem Goes.opt{x:Sem (Option Value)}{a:Option Value}(h:∀(p:Program) (pos:Pos),∃pos',segRunT treeTable p w 11 Jo 1 n s ⟨x.wrap (fun a=>.pure (.done (PJ a))) deadEnd gd lv,c,pos,[topFrame q0]⟩=some (PJ a,s1,c,pos')):Goes w c gd lv x s n a s1:=
 Goes.seg PJ (fun b e=>by cases a<;>cases b<;>first|rfl|cases e<;>rfl) h
noncomputable def N2:Bool->Flow:=fun b=>.ret (.bool b)
theorem Goes.bool{x:Sem Bool}{a:Bool}(h:∀(p:Program) (pos:Pos),∃pos',segRunT treeTable p w 11 Jo 1 n s ⟨x.wrap (fun a=>.pure (.done (N2 a))) deadEnd gd lv,c,pos,[topFrame q0]⟩=some (N2 a,s1,c,pos')):Goes w c gd lv x s n a s1:=
 Goes.seg N2 (fun b e=>by cases a<;>cases b<;>first|rfl|cases e) h
noncomputable def Ss:Nat->Flow:=fun b=>.ret (.int b 0)
theorem Goes.nat{x:Sem Nat}{a:Nat}(h:∀(p:Program) (pos:Pos),∃pos',segRunT treeTable p w 11 Jo 1 n s ⟨x.wrap (fun a=>.pure (.done (Ss a))) deadEnd gd lv,c,pos,[topFrame q0]⟩=some (Ss a,s1,c,pos')):Goes w c gd lv x s n a s1:=
 Goes.seg Ss (fun b e=>by unfold Ss at e;simp at e;exact Int.ofNat.inj e) h
theorem Goes.load{a:Addr}{part:Option Value}{o:Obj}(h:s.abs.heap.get? a=some o):Goes w (.body b e) gd lv (loadPart a part) s 1 o s:=fun p K H pos=>⟨pos,fun N r hr=>by
 show topRun treeTable p w 11 Jo (1+N) s.abs ⟨.load a part (fun x=>K x),_,pos,[topFrame q0]⟩=some r;rw[Nat.add_comm];dsimp only[topRun];have h1:through ⟨.load a part (fun x=>K x),.body b e,pos,[topFrame q0]⟩=false:=rfl;have h2:stepOk 11 Jo ⟨.load a part (fun x=>K x),.body b e,pos,[topFrame q0]⟩=true:=rfl;have h3:PySem.step (denote treeTable) p w s.abs ⟨.load a part (fun x=>K x),.body b e,pos,[topFrame q0]⟩=.go s.abs ⟨K o,.body b e,pos,[topFrame q0]⟩:=by
  show(match s.abs.heap.get? a with|some o=>Step.go s.abs ⟨K o,.body b e,pos,[topFrame q0]⟩|none=>Step.halt _ _)=_;rw[h]
 rw[h1,h2,h3];exact hr⟩
theorem Goes.rule{tag:String}:Goes w (.body b e) gd lv (PySem.rule tag) s 1 () s:=fun p K H pos=>⟨pos,fun N r hr=>by
 show topRun treeTable p w 11 Jo (1+N) s.abs ⟨.rule tag (fun x=>K x),_,pos,[topFrame q0]⟩=some r;rw[Nat.add_comm];dsimp only[topRun];have h1:through ⟨.rule tag (fun x=>K x),.body b e,pos,[topFrame q0]⟩=false:=rfl;have h2:stepOk 11 Jo ⟨.rule tag (fun x=>K x),.body b e,pos,[topFrame q0]⟩=true:=rfl;have h3:PySem.step (denote treeTable) p w s.abs ⟨.rule tag (fun x=>K x),.body b e,pos,[topFrame q0]⟩=.go s.abs ⟨K (),.body b e,pos,[topFrame q0]⟩:=rfl;rw[h1,h2,h3];exact hr⟩
theorem Yn(i:Int):(-(2 ^ 63:Int)<=reduceHash i&&reduceHash i < 2 ^ 63)=true/\(reduceHash i == -1)=false:=by
 unfold reduceHash;simp only[Bool.and_eq_true,decide_eq_true_eq,beq_eq_false_iff_ne,beq_iff_eq]
 split
 ·split<;>lia
 ·split<;>(try split)<;>lia
end
noncomputable def bind1(P:Params)(name:Str)(tok:Tok)(v:Value)(o:Obj):Obj:=match o.data with
 | .dict es n=>{ o with data:=.dict (es.push ⟨PyData.keyHash P name,.str name tok,v⟩) (n+1) }
 | _=>o
noncomputable abbrev zS:String->Str:=Str.ofString
noncomputable abbrev zs(s:String)(t:Nat):Value:=.str (zS s) t
noncomputable abbrev zi(i:Int):Value:=.int i 0
noncomputable def zT(l:List Value):Obj:={ cls:=.type "tuple",data:=.seq l.toArray }
noncomputable def zL(l:List Value):Obj:={ cls:=.none,data:=.fields l.toArray }
noncomputable def zX(c:String)(l:List Value):Obj:={ cls:=.type c,data:=.fields l.toArray }
noncomputable def zE(P:Params)(s:String)(t:Nat)(v:Value):DictEntry:=⟨PyData.keyHash P (zS s),zs s t,v⟩
noncomputable def zD(l:List DictEntry)(n:Nat):Obj:={ cls:=.type "dict",data:=.dict l.toArray n }
noncomputable def rebind(i:Nat)(e:DictEntry)(o:Obj):Obj:=match o.data with|.dict es n=>{ o with data:=.dict (es.toList.set i e).toArray n }|_=>o
noncomputable def Bd(ln c:Nat)(o:Obj):Obj:=match o.data with|.fields zs=>{ o with data:=.fields (zs.toList++[zi ln,zi 0,.ref c]).toArray }|_=>o
noncomputable def XT(s:Stmt):Option (Arguments×List Stmt×Scope):=(dv s).bind fun d=>d.2.2.bind fun q=>some (q.1,d.2.1,q.2)
noncomputable def Et(s:Stmt):List Stmt:=(dv s).elim [] fun d=>d.2.1
noncomputable def DH(k:Nat):Option (Arguments×List Stmt×Scope):=((behindTheImports hp)[k]?).bind XT
noncomputable def I1(k j:Nat):Option (Arguments×List Stmt×Scope):=(((behindTheImports hp)[k]?).bind fun c=>(Et c)[j]?).bind XT
noncomputable def dd:Arguments×List Stmt×Scope:=(DH 18).getD (⟨[],[],none,[],[],none,[]⟩,[],⟨.function,[],false,false,[]⟩)
noncomputable def dA(k:Nat):Arguments:=((DH k).getD dd).1
noncomputable def dB(k:Nat):List Stmt:=((DH k).getD dd).2.1
noncomputable def dS(k:Nat):Scope:=((DH k).getD dd).2.2
noncomputable def mA(k j:Nat):Arguments:=((I1 k j).getD dd).1
noncomputable def mB(k j:Nat):List Stmt:=((I1 k j).getD dd).2.1
noncomputable def mS(k j:Nat):Scope:=((I1 k j).getD dd).2.2
noncomputable def zM(i:Nat):Value:=([zs "termcore.base" 187,zs "termcore.muxformats" 252].getD i (zs "law_og0273_01" 724))
noncomputable def fdO(k:Nat)(s:String):FuncData:={ name:=zS s,qualname:=zS s,params:=dA k,body:=.stmts (dB k),scope:=dS k,globals:=0,closure:=[],defaults:=.none,kwdefaults:=.none }
noncomputable def zp(s:String)(ln ac b t n:Nat)(x y z:Value):Obj:=zX "code" [zs s t,zs s (t+1),zs "/claim/cut.py" (t+2),zi ln,zi ac,zi 0,zi 0,zi 3,.ref b,.bool true,zi 181,.ref (b+1),.none,x,y,z,zi (t+n+3),zi ln,zs "/claim/cut.py" (t+n+4)]
noncomputable def zm(k:Nat)(s:String)(c:Nat)(m:Value):Obj:={ cls:=.type "function",data:=.func { fdO k s with globals:=3,pyModule:=m,code:=.ref c } }
noncomputable def Ue(P:Params)(T:BT)(k:Nat)(s:String)(ln ac b t:Nat)(l:List String)(m:Value):BT:=
 (((((((((T.ins b (zT [])).ins (b+1) (zL [])).ins (b+2) (zT (l.zipIdx.map fun x=>zs x.1 (t+3+x.2)))).ins (b+3) (zT [])).ins (b+4) { cls:=.none,data:=.func (fdO k s) }).ins (b+5) (zp s ln ac b t l.length (.ref (b+2)) (.ref (b+3)) (.ref (b+4)))).ins (b+6) (zm k s (b+5) m)).set 12 (Bd ln (b+5))).set 3 (bind1 P (zS s) (t+l.length+5) (.ref (b+6))))
noncomputable def WK(P:Params)(T:BT)(k:Nat)(s:String)(ln ac b t:Nat)(m:Value):BT:=
 (((((((T.ins b (zT [])).ins (b+1) (zL [])).ins (b+2) { cls:=.none,data:=.func (fdO k s) }).ins (b+3) (zp s ln ac b t 0 .none .none (.ref (b+2)))).ins (b+4) (zm k s (b+3) m)).set 12 (Bd ln (b+3))).set 3 (bind1 P (zS s) (t+5) (.ref (b+4))))
noncomputable def T_(P:Params):BT:=([PySem.W.boot_o_0 P,PySem.W.boot_o_1 P,PySem.W.boot_o_2 P,PySem.W.boot_o_3 P,PySem.W.boot_o_4 P,PySem.W.boot_o_5 P,PySem.W.boot_o_6 P,PySem.W.boot_o_7 P,PySem.W.boot_o_8 P,PySem.W.boot_o_9 P,PySem.W.boot_o_10 P,zT [],zL [],zX "code" [zs "<module>" 182,zs "<module>" 183,zs "/claim/cut.py" 184,zi 1,zi 0,zi 0,zi 0,zi 0,.ref 11,.bool false,zi 181,.ref 12,.none,.none,.none,.none,zi 185,zi 1,zs "/claim/cut.py" 186],{ cls:=.type "frame",slots:=#[some (.ref 13),some (.ref 3),some (.ref 3),none,some (zs "__main__" 164),none,some (.ref 0)] }].zipIdx).foldl (fun t o=>t.ins o.2 o.1) .nil
noncomputable def T0(P:Params):BT:=(T_ P).set 3 (rebind 0 (zE P "__name__" 165 (zs "termcore.base" 187)))
noncomputable def T1(P:Params):BT:=((((((((((((((((((((((((T0 P).ins 15 (zT [.type "Exception"])).ins 16 (zX "builtin_function_or_method" [.builtin "type.__prepare__",.type "type"])).ins 17 (zD [zE P "__module__" 196 (zs "termcore.base" 187),zE P "__qualname__" 198 (zs "TermError" 197),zE P "__firstlineno__" 200 (.int 2 199),zE P "__init__" 208 (.ref 29),zE P "__static_attributes__" 210 (.ref 30)] 5)).ins 18 (zT [])).ins 19 (zL [zi 4,zi 4,.ref 28])).ins 20 (zX "code" [zs "TermError" 191,zs "TermError" 192,zs "/claim/cut.py" 193,zi 2,zi 0,zi 0,zi 0,zi 0,.ref 18,.bool false,zi 181,.ref 19,.none,.none,.none,.none,zi 194,zi 2,zs "/claim/cut.py" 195])).ins 21 ({ cls:=.type "frame",slots:=#[some (.ref 20),some (.ref 3),some (.ref 17),none,some (zs "termcore.base" 187),none,some (.ref 0)] })).ins 22 (zT [.none])).ins 23 (zT [])).ins 24 (zL [])).ins 25 (zT [zs "self" 204,zs "told" 205])).ins 26 (zT [])).ins 27 ({ cls:=.none,data:=.func { name:=(zS "__init__"),qualname:=(zS "TermError.__init__"),params:=mA 1 0,body:=.stmts (mB 1 0),scope:=mS 1 0,globals:=0,closure:=[],defaults:=.none,kwdefaults:=.none } })).ins 28 (zX "code" [zs "__init__" 201,zs "TermError.__init__" 202,zs "/claim/cut.py" 203,zi 4,zi 2,zi 0,zi 0,zi 3,.ref 23,.bool true,zi 181,.ref 24,.none,.ref 25,.ref 26,.ref 27,zi 206,zi 4,zs "/claim/cut.py" 207])).ins 29 ({ cls:=.type "function",data:=.func { name:=(zS "__init__"),qualname:=(zS "TermError.__init__"),params:=mA 1 0,body:=.stmts (mB 1 0),scope:=mS 1 0,globals:=3,closure:=[],defaults:=.ref 22,kwdefaults:=.none,pyModule:=zs "termcore.base" 187,code:=.ref 28 } })).ins 30 (zT [zs "told" 209])).ins 31 (zD [zE P "__module__" 196 (zs "termcore.base" 187),zE P "__firstlineno__" 200 (.int 2 199),zE P "__init__" 208 (.ref 29),zE P "__static_attributes__" 210 (.ref 30),zE P "__weakref__" 212 (.ref 33),zE P "__doc__" 213 .none] 3)).ins 32 ({ cls:=.type "type",data:=.cls { name:=(zS "TermError"),bases:=[.type "Exception"],mro:=[.ref 32,.type "Exception",.type "BaseException",.type "object"],ns:=31,qualname:=(zS "TermError") },slots:=#[some (.ref 15),none,some (zs "TermError" 189),some (zs "TermError" 197),some (.builtin "Exception.__new__"),some (.bool true)] })).ins 33 (zX "getset_descriptor" [zs "__weakref__" 211,.ref 32,.builtin "ExceptionGroup.__weakref__",.none])).ins 34 (zX "super" [.ref 32,.ref 32,.ref 32])).ins 35 (zX "builtin_function_or_method" [.builtin "object.__init_subclass__",.ref 32])).set 2 (fun Z=>{ cls:=.none,data:=.dict #[zE P "type.__subclasses__.Exception.0" 214 (zi 32),zE P "type.__subclasses__.Exception.n" 215 (zi 1)] 2 })).set 3 (bind1 P (zS "TermError") 217 (.ref 32))).set 12 (Bd 2 20)
noncomputable def T2(P:Params):BT:=(((((((((((((((T1 P).ins 36 (zT [.ref 32])).ins 37 (zX "builtin_function_or_method" [.builtin "type.__prepare__",.type "type"])).ins 38 (zD [zE P "__module__" 225 (zs "termcore.base" 187),zE P "__qualname__" 227 (zs "BadFormat" 226),zE P "__firstlineno__" 229 (.int 6 228),zE P "__static_attributes__" 230 (.ref 43)] 4)).ins 39 (zT [])).ins 40 (zL [])).ins 41 (zX "code" [zs "BadFormat" 220,zs "BadFormat" 221,zs "/claim/cut.py" 222,zi 6,zi 0,zi 0,zi 0,zi 0,.ref 39,.bool false,zi 181,.ref 40,.none,.none,.none,.none,zi 223,zi 6,zs "/claim/cut.py" 224])).ins 42 ({ cls:=.type "frame",slots:=#[some (.ref 41),some (.ref 3),some (.ref 38),none,some (zs "termcore.base" 187),none,some (.ref 0)] })).ins 43 (zT [])).ins 44 (zD [zE P "__module__" 225 (zs "termcore.base" 187),zE P "__firstlineno__" 229 (.int 6 228),zE P "__static_attributes__" 230 (.ref 43),zE P "__doc__" 231 .none] 2)).ins 45 ({ cls:=.type "type",data:=.cls { name:=(zS "BadFormat"),bases:=[.ref 32],mro:=[.ref 45,.ref 32,.type "Exception",.type "BaseException",.type "object"],ns:=44,qualname:=(zS "BadFormat") },slots:=#[some (.ref 36),none,some (zs "BadFormat" 218),some (zs "BadFormat" 226),some (.builtin "Exception.__new__"),some (.bool true)] })).ins 46 (zX "super" [.ref 45,.ref 45,.ref 45])).ins 47 (zX "builtin_function_or_method" [.builtin "object.__init_subclass__",.ref 45])).set 3 (bind1 P (zS "BadFormat") 233 (.ref 45))).set 12 (Bd 6 41)).set 32 (fun Z=>{ cls:=.type "type",data:=.cls { name:=(zS "TermError"),bases:=[.type "Exception"],mro:=[.ref 32,.type "Exception",.type "BaseException",.type "object"],ns:=31,qualname:=(zS "TermError"),subclasses:=[.ref 45] },slots:=#[some (.ref 15),none,some (zs "TermError" 189),some (zs "TermError" 197),some (.builtin "Exception.__new__"),some (.bool true)] })
noncomputable def T3(P:Params):BT:=Ue P (T2 P) 3 "decimal_octets" 8 1 48 234 ["number","rest","found"] (zM 0)
noncomputable def T4(P:Params):BT:=Ue P (T3 P) 4 "number_of" 18 1 55 243 ["octets","number","octet"] (zM 0)
noncomputable def T5(P:Params):BT:=(T4 P).set 3 (rebind 0 (zE P "__name__" 165 (zs "termcore.muxformats" 252)))
noncomputable def T6(P:Params):BT:=(T5 P).set 3 (bind1 P (zS "SIGN") 255 (.int 35 254))
noncomputable def T7(P:Params):BT:=((((((T6 P).ins 62 (zT [.int 123 256,.int 125 257])).ins 63 (zX "tuple_iterator" [.none,zi 2])).ins 64 (zT [])).ins 65 (zX "StopIteration" [.ref 64,.none,.none,.none,.bool false,.none])).set 3 (bind1 P (zS "OPEN") 258 (.int 123 256))).set 3 (bind1 P (zS "CLOSE") 259 (.int 125 257))
noncomputable def T8(P:Params):BT:=((((((((((T7 P).ins 66 (zT [.int 44 260,.int 58 261,.int 59 262,.int 47 263,.int 45 264,.int 92 265])).ins 67 (zX "tuple_iterator" [.none,zi 6])).ins 68 (zT [])).ins 69 (zX "StopIteration" [.ref 68,.none,.none,.none,.bool false,.none])).set 3 (bind1 P (zS "COMMA") 266 (.int 44 260))).set 3 (bind1 P (zS "COLON") 267 (.int 58 261))).set 3 (bind1 P (zS "SEMICOLON") 268 (.int 59 262))).set 3 (bind1 P (zS "SLASH") 269 (.int 47 263))).set 3 (bind1 P (zS "MINUS") 270 (.int 45 264))).set 3 (bind1 P (zS "BACKSLASH") 271 (.int 92 265))
noncomputable def T9(P:Params):BT:=(T8 P).set 3 (bind1 P (zS "MOST_DEEP") 273 (.int 10 272))
noncomputable def u0(P:Params):BT:=(T9 P).set 3 (bind1 P (zS "MOST_WIDE") 275 (.int 10000 274))
noncomputable def jZ(P:Params):BT:=((u0 P).ins 70 (zT [.bytes #[108] 276,.bytes #[69] 277,.bytes #[84] 278,.bytes #[98] 279,.bytes #[100] 280,.bytes #[110] 281,.bytes #[119] 282,.bytes #[97] 283,.bytes #[83] 284,.bytes #[87] 285,.bytes #[80] 286,.bytes #[33] 287,.bytes #[33,33] 288])).set 3 (bind1 P (zS "PLAIN_MODIFIERS") 289 (.ref 70))
noncomputable def jY(P:Params):BT:=((jZ P).ins 71 (zT [.bytes #[124,124] 290,.bytes #[38,38] 291,.bytes #[61,61] 292,.bytes #[33,61] 293,.bytes #[60,61] 294,.bytes #[62,61] 295,.bytes #[60] 296,.bytes #[62] 297])).set 3 (bind1 P (zS "PAIR_MODIFIERS") 298 (.ref 71))
noncomputable def jX(P:Params):BT:=(jY P).set 3 (bind1 P (zS "TOLD_MODIFIERS") 300 (.bytes #[109,78,115,116,61,112,101,113,82] 299))
noncomputable def zu(P:Params):BT:=(jX P).set 3 (bind1 P (zS "SPECIAL") 302 (.bytes #[32,9,124,38,59,60,62,40,41,36,96,34,39,42,63,91,35,61,37,92,126,33,123,125] 301))
noncomputable abbrev QF(T:BT)(n toks:Nat)(os:OsState):SharedT:=⟨T,n,{},#[],{},toks,os⟩
noncomputable def WM(es:Array DictEntry):Obj:={ cls:=.type "dict",data:=.dict es es.size }
noncomputable abbrev cB(b:List Stmt):Code:=.body b QQ
noncomputable abbrev U9(a:Addr):List Value->List Value:=fun l=>id ([.ref a]++l)
noncomputable def A0(P:Params):BT:=zu P
noncomputable def A6(P:Params):DictEntry:=⟨PyData.keyHash P "S",.bytes #[83] 303,.str "sessions" 304⟩
noncomputable def DL(P:Params):DictEntry:=⟨PyData.keyHash P "W",.bytes #[87] 305,.str "windows" 306⟩
noncomputable def zr(P:Params):DictEntry:=⟨PyData.keyHash P "P",.bytes #[80] 307,.str "panes" 308⟩
noncomputable def A1(P:Params):BT:=(A0 P).ins 72 (WM #[])
noncomputable def A2(P:Params):BT:=(A0 P).ins 72 (WM #[A6 P])
noncomputable def A3(P:Params):BT:=(A0 P).ins 72 (WM #[A6 P,DL P])
noncomputable def A4(P:Params):BT:=(A0 P).ins 72 (WM #[A6 P,DL P,zr P])
noncomputable def A5(P:Params):BT:=((A0 P).set 3 (bind1 P "LISTS" 312 (.ref 72))).ins 72 (WM #[A6 P,DL P,zr P])
section
variable {w:World}{b:List Stmt}{gd:Bool->Bool}{os:OsState}
theorem Xo(P:Params)(x:Str):pyHashByItsType.reduced (PyData.keyHash P x)=pure (PyData.keyHash P x):=by
 unfold pyHashByItsType.reduced PyData.keyHash
 split
 ·rfl
 ·have h1:=(Yn (P.strHash x.cps)).1;have h2:=(Yn (P.strHash x.cps)).2;rw[if_pos h1,if_neg (by rw[h2];exact Bool.false_ne_true)]
theorem Goes.forIn{α β:Type}{c:Code}{lv:List Value->List Value}{s:SharedT}{f:α->β->Sem (ForInStep β)}{b0:β}{k:Nat}:∀{l:List α},(∀i∈l,Goes w c gd lv (f i b0) s k (.yield b0) s)->Goes w c gd lv (forIn l b0 f) s (l.length * k) b0 s
 | [],_=>by rw[List.forIn_nil];exact Goes.now
 | i::l,h=>by
  rw[List.forIn_cons];refine Goes.le (Goes.bind (h i List.mem_cons_self) (b:=b0) (m:=l.length * k) ?_) (by rw[List.length_cons,Nat.succ_mul,Nat.add_comm];exact Nat.le_refl _);exact Goes.forIn fun i hi=>h i (List.mem_cons_of_mem _ hi)
theorem JO{s:SharedT}{lv:List Value->List Value}{a:Addr}{es:Array DictEntry}{k:Array UInt8}{tk:Tok}{h:Int}{m:Nat}(hd:s.abs.heap.get? a=some (WM es))(hk:∀e∈es,∃b t,e.key=.bytes b t)
  (hw:∀e∈es,Goes w (cB b) gd lv (eqBool e.key (.bytes k tk)) s m false s):Goes w (cB b) gd lv (dictFind a (.bytes k tk) h) s (es.size * (m+10)+10) none s:=by
 refine Goes.bind (n:=5) (m:=es.size * (m+10)+5) (a:=es) (s1:=s) ?_ ?_ |>.le (by lia)
 ·skip;refine Goes.stp (a:=WM es) (s1:=s) 1 (Goes.load hd) Goes.now rfl
 ·skip;have hpl:∀i∈placesWithHash es.size (fun i=>Option.map (fun x=>x.hash) es[i]?) h,i < es.size/\∃e,es[i]?=some e/\e∈es:=fun i hi=>by
   dsimp only[placesWithHash] at hi;have hlt:=List.mem_range.mp (List.mem_filter.mp hi).1;exact⟨hlt,es[i],Array.getElem?_eq_getElem hlt,Array.getElem_mem hlt⟩
  have hle:(placesWithHash es.size (fun i=>Option.map (fun x=>x.hash) es[i]?) h).length<=es.size:=by
   have:=List.length_filter_le (fun i=>(Option.map (fun x=>x.hash) es[i]?) == some h) (List.range es.size);rwa [List.length_range] at this
  generalize placesWithHash es.size (fun i=>Option.map (fun x=>x.hash) es[i]?) h=pl at *;rw[if_pos]
  ·skip;refine Goes.le (Goes.bind (n:=pl.length * (m+10)) (m:=5) (a:=(none,())) (s1:=s) (Goes.forIn fun i hi=>?_) ?_) (Nat.add_le_add (Nat.mul_le_mul_right _ hle) (Nat.le_refl _))
   ·obtain⟨_,e,he,hm⟩:=hpl i hi;have ep:Goes w (cB b) gd lv (dictEpoch a (keyPart (.bytes k tk))) s 1 es.size s:=by
     exact Goes.stp (a:=WM es) (s1:=s) 1 (Goes.load hd) Goes.now rfl
    rw[he];dsimp only
    split
    ·refine Goes.step (a:=es.size) (s1:=s) 1 ep ?_ (Nat.le_add_left _ _);refine Goes.step (a:=false) (s1:=s) m (hw e hm) ?_ (Nat.le_add_right _ _);refine Goes.step (a:=es.size) (s1:=s) 1 ep ?_ (by simp);rw[if_neg (by simp)];rw[if_neg (Bool.false_ne_true)];exact Goes.step (a:=()) (s1:=s) 1 Goes.rule Goes.now (by simp)
    ·exact Goes.now
   ·exact Goes.now
  ·rw[List.all_eq_true];intro v hv;rcases List.mem_cons.mp hv with rfl|hv
   ·rfl
   ·obtain⟨i,hi,e1⟩:=List.mem_filterMap.mp hv;obtain⟨_,e,he,hm⟩:=hpl i hi;replace e1:=he▸e1;obtain⟨bb,tt,e2⟩:=hk e hm;cases e1;show carriedByValue e.key=true;rw[e2];rfl
end
theorem Goes.stand{w:World}{b:List Stmt}{e:Env}{gd:Bool->Bool}{lv:List Value->List Value}{s:SharedT}{p1:Pos}:Goes w (.body b e) gd lv (standAt p1) s 1 () s:=fun p K H pos=>⟨p1,fun N r hr=>by
 show topRun treeTable p w 11 Jo (1+N) s.abs ⟨.at p1 (fun x=>K x),_,pos,[topFrame q0]⟩=some r;rw[Nat.add_comm];unfold topRun;have h1:through ⟨.at p1 (fun x=>K x),.body b e,pos,[topFrame q0]⟩=false:=rfl;have h2:stepOk 11 Jo ⟨.at p1 (fun x=>K x),.body b e,pos,[topFrame q0]⟩=true:=rfl;have h3:PySem.step (denote treeTable) p w s.abs ⟨.at p1 (fun x=>K x),.body b e,pos,[topFrame q0]⟩=.go s.abs ⟨K (),.body b e,p1,[topFrame q0]⟩:=rfl;rw[h1,h2,h3];exact hr⟩
theorem Ya{T:BT}{n toks:Nat}{os:OsState}{a:Nat}{es:Array DictEntry}(h:a < n)(g:T.get a=some (WM es)):(QF T n toks os).abs.heap.get? a=some (WM es):=abs_get h g
noncomputable def HC(b:List Stmt)(os:OsState)(T:BT)(n tk t l:Nat)(c:UInt8)(k:String)(w:World):Prop:=∀(p:Program) (pos:Pos),∃pos',segRunT treeTable p w 11 Jo 1 50 (QF T n tk os) ⟨(callSpecialIfBoundUnlessNone? (Value.bytes #[c] t) "__hash__" (do rule "hash.unhashable";raiseError "TypeError" s!"unhashable type: '{← typeNameOf (Value.bytes #[c] t)}'")).wrap (fun a=>.pure (.done (PJ a))) deadEnd id (U9 l),cB b,pos,[topFrame q0]⟩=some (PJ (some (.int (PyData.keyHash w.params (Str.ofString k)) tk)),QF T n (tk+1) os,cB b,pos')
noncomputable def HE(b:List Stmt)(os:OsState)(T:BT)(n tk t u l:Nat)(c d:UInt8)(w:World):Prop:=∀(p:Program) (pos:Pos),∃pos',segRunT treeTable p w 11 Jo 1 90 (QF T n tk os) ⟨(eqBool (Value.bytes #[c] t) (Value.bytes #[d] u)).wrap (fun a=>.pure (.done (N2 a))) deadEnd id (U9 l),cB b,pos,[topFrame q0]⟩=some (N2 false,QF T n tk os,cB b,pos')
section
variable {w:World}{b:List Stmt}{os:OsState}{T:BT}{n tk t u l:Nat}{c d:UInt8}{k:String}
theorem OX(h:c=83/\d=87\/c=83/\d=80\/c=87/\d=80):Goes w (cB b) id (U9 l) (eqBool (Value.bytes #[c] t) (Value.bytes #[d] u)) (QF T n tk os) 90 false (QF T n tk os):=by
 refine Goes.bool (?_:HE b os T n tk t u l c d w);rcases h with⟨rfl,rfl⟩|⟨rfl,rfl⟩|⟨rfl,rfl⟩<;>exact byRow2 "special-get-raises" (P:=HE b os T n tk t u l _ _) (fun w p pos=>⟨pos,by kernel_rfl⟩) (fun w p pos=>⟨pos,by kernel_rfl⟩) w
theorem Cm(h:c=83/\k="S"\/c=87/\k="W"\/c=80/\k="P"):HC b os T n tk t l c k w:=by
 rcases h with⟨rfl,rfl⟩|⟨rfl,rfl⟩|⟨rfl,rfl⟩<;>exact byRow2 "special-get-raises" (P:=HC b os T n tk t l _ _) (fun w p pos=>⟨pos,by kernel_rfl⟩) (fun w p pos=>⟨pos,by kernel_rfl⟩) w
theorem Vc(h:c=83/\k="S"\/c=87/\k="W"\/c=80/\k="P"):Goes w (cB b) id (U9 l) (pyHash (Value.bytes #[c] t)) (QF T n tk os) 100 (PyData.keyHash w.params (Str.ofString k)) (QF T n (tk+1) os):=by
 show Goes w (cB b) id (U9 l) (pyHashByItsType (Value.bytes #[c] t)) _ _ _ _;unfold pyHashByItsType;refine Goes.stp (a:=()) 0 (Goes.eq (y:=pure ()) (by rfl) Goes.now) ?_ rfl;refine Goes.stp (a:=some (.builtin "bytes.__hash__")) (s1:=QF T n tk os) 10 (Goes.opt fun p pos=>⟨pos,by kernel_rfl⟩) ?_ rfl;dsimp only;rw[if_neg (by decide)];refine Goes.stp (a:=some (.builtin "bytes.__hash__")) (s1:=QF T n tk os) 10 (Goes.opt fun p pos=>⟨pos,by kernel_rfl⟩) ?_ rfl;rw[if_neg (by decide)];refine Goes.stp (a:=some (.int (PyData.keyHash w.params (Str.ofString k)) tk)) (s1:=QF T n (tk+1) os) 50 (Goes.opt (by have z:HC b os T n tk t l c k w:=Cm h;unfold HC at z;exact z)) ?_ rfl;exact Goes.eq (Xo _ _) Goes.now
end
section A
variable {w:World}{b:List Stmt}{os:OsState}
theorem Dm:Goes w (cB b) id (U9 72) (dictSet 72 (Value.bytes #[83] 303) (Value.str "sessions" 304)) (QF (A1 w.params) 73 309 os) 600 () (QF (A2 w.params) 73 310 os):=by
 show Goes w (cB b) id (U9 72) (pyHash (Value.bytes #[83] 303) >>= fun h=>dictSetHashed 72 (Value.bytes #[83] 303) h (Value.str "sessions" 304)) _ _ _ _;refine Goes.stp (a:=PyData.keyHash w.params "S") (s1:=QF (A1 w.params) 73 310 os) 100 (Vc (.inl ⟨rfl,rfl⟩)) ?_ rfl;unfold dictSetHashed;show Goes w (cB b) id (U9 72) (dictFind 72 (Value.bytes #[83] 303) _ >>= _) _ _ _ _;have hg:(QF (A1 w.params) 73 310 os).abs.heap.get? 72=some (WM #[]):=Ya (by decide) (by kernel_rfl);have hf:Goes w (cB b) id (U9 72) (dictFind 72 (Value.bytes #[83] 303) (PyData.keyHash w.params "S")) (QF (A1 w.params) 73 310 os) 400 none (QF (A1 w.params) 73 310 os):=by
  refine Goes.le (JO (m:=90) hg (?hk) (?hw)) (by show 0 * (90+10)+10<=400;decide)
  ·exact fun e he=>by simp at he
  ·exact fun e he=>by simp at he
 refine Goes.stp 400 hf ?_ rfl;dsimp only;refine Goes.stp (a:=()) 1 Goes.rule ?_ rfl;exact Goes.le (n:=20) (Goes.unit fun p pos=>⟨pos,by kernel_rfl⟩) (by decide)
theorem Dl:Goes w (cB b) id (U9 72) (dictSet 72 (Value.bytes #[87] 305) (Value.str "windows" 306)) (QF (A2 w.params) 73 310 os) 600 () (QF (A3 w.params) 73 311 os):=by
 show Goes w (cB b) id (U9 72) (pyHash (Value.bytes #[87] 305) >>= fun h=>dictSetHashed 72 (Value.bytes #[87] 305) h (Value.str "windows" 306)) _ _ _ _;refine Goes.stp (a:=PyData.keyHash w.params "W") (s1:=QF (A2 w.params) 73 311 os) 100 (Vc (.inr (.inl ⟨rfl,rfl⟩))) ?_ rfl;unfold dictSetHashed;show Goes w (cB b) id (U9 72) (dictFind 72 (Value.bytes #[87] 305) _ >>= _) _ _ _ _;have hg:(QF (A2 w.params) 73 311 os).abs.heap.get? 72=some (WM #[A6 w.params]):=Ya (by decide) (by kernel_rfl);have hf:Goes w (cB b) id (U9 72) (dictFind 72 (Value.bytes #[87] 305) (PyData.keyHash w.params "W")) (QF (A2 w.params) 73 311 os) 400 none (QF (A2 w.params) 73 311 os):=by
  refine Goes.le (JO (m:=90) hg (?hk) (?hw)) (by show 1 * (90+10)+10<=400;decide)
  ·exact fun e he=>by
     simp only[List.mem_toArray,List.mem_cons,List.not_mem_nil,or_false] at he;rcases he with rfl
     ·exact⟨_,_,rfl⟩
  ·exact fun e he=>by
     simp only[List.mem_toArray,List.mem_cons,List.not_mem_nil,or_false] at he;rcases he with rfl
     ·exact(OX (.inl ⟨rfl,rfl⟩))
 refine Goes.stp 400 hf ?_ rfl;dsimp only;refine Goes.stp (a:=()) 1 Goes.rule ?_ rfl;exact Goes.le (n:=20) (Goes.unit fun p pos=>⟨pos,by kernel_rfl⟩) (by decide)
theorem Dk:Goes w (cB b) id (U9 72) (dictSet 72 (Value.bytes #[80] 307) (Value.str "panes" 308)) (QF (A3 w.params) 73 311 os) 600 () (QF (A4 w.params) 73 312 os):=by
 show Goes w (cB b) id (U9 72) (pyHash (Value.bytes #[80] 307) >>= fun h=>dictSetHashed 72 (Value.bytes #[80] 307) h (Value.str "panes" 308)) _ _ _ _;refine Goes.stp (a:=PyData.keyHash w.params "P") (s1:=QF (A3 w.params) 73 312 os) 100 (Vc (.inr (.inr ⟨rfl,rfl⟩))) ?_ rfl;unfold dictSetHashed;show Goes w (cB b) id (U9 72) (dictFind 72 (Value.bytes #[80] 307) _ >>= _) _ _ _ _;have hg:(QF (A3 w.params) 73 312 os).abs.heap.get? 72=some (WM #[A6 w.params,DL w.params]):=Ya (by decide) (by kernel_rfl);have hf:Goes w (cB b) id (U9 72) (dictFind 72 (Value.bytes #[80] 307) (PyData.keyHash w.params "P")) (QF (A3 w.params) 73 312 os) 400 none (QF (A3 w.params) 73 312 os):=by
  refine Goes.le (JO (m:=90) hg (?hk) (?hw)) (by show 2 * (90+10)+10<=400;decide)
  ·exact fun e he=>by
     simp only[List.mem_toArray,List.mem_cons,List.not_mem_nil,or_false] at he;rcases he with rfl|rfl
     ·exact⟨_,_,rfl⟩
     ·exact⟨_,_,rfl⟩
  ·exact fun e he=>by
     simp only[List.mem_toArray,List.mem_cons,List.not_mem_nil,or_false] at he;rcases he with rfl|rfl
     ·exact(OX (.inr (.inl ⟨rfl,rfl⟩)))
     ·exact(OX (.inr (.inr ⟨rfl,rfl⟩)))
 refine Goes.stp 400 hf ?_ rfl;dsimp only;refine Goes.stp (a:=()) 1 Goes.rule ?_ rfl;exact Goes.le (n:=20) (Goes.unit fun p pos=>⟨pos,by kernel_rfl⟩) (by decide)
theorem OP{c0 c1 c2 d0 d1 d2:Nat}{p0 p1 p2 r0 r1 r2 dp:Pos}:Goes w (cB b) id (U9 72) (evalPairs [(eval (.Constant (.bytes [83]) c0 p0) QQ,do let x <-eval (.Constant (.str "sessions") d0 r0) QQ;standAt dp;pure x),(eval (.Constant (.bytes [87]) c1 p1) QQ,do let x <-eval (.Constant (.str "windows") d1 r1) QQ;standAt dp;pure x),(eval (.Constant (.bytes [80]) c2 p2) QQ,do let x <-eval (.Constant (.str "panes") d2 r2) QQ;standAt dp;pure x)]) (QF (A1 w.params) 73 303 os) 60 [(Value.bytes #[83] 303,Value.str "sessions" 304),(Value.bytes #[87] 305,Value.str "windows" 306),(Value.bytes #[80] 307,Value.str "panes" 308)] (QF (A1 w.params) 73 309 os):=by
 show Goes w (cB b) id (U9 72) (_ >>= _) _ _ _ _;refine Goes.stp (a:=Value.bytes #[83] 303) (s1:=QF (A1 w.params) 73 304 os) 3 (Goes.value fun p pos=>⟨pos,by kernel_rfl⟩) ?_ rfl;show Goes w (cB b) id (U9 72) ((_ >>= _) >>= _) _ _ _ _;refine Goes.stp (a:=Value.str "sessions" 304) (s1:=QF (A1 w.params) 73 305 os) 5 (Goes.stp (a:=Value.str "sessions" 304) (s1:=QF (A1 w.params) 73 305 os) 3 (Goes.value fun p pos=>⟨pos,by kernel_rfl⟩) (Goes.stp (a:=()) (s1:=QF (A1 w.params) 73 305 os) 1 Goes.stand Goes.now rfl) rfl) ?_ rfl;refine Goes.stp (a:=[(Value.bytes #[87] 305,Value.str "windows" 306),(Value.bytes #[80] 307,Value.str "panes" 308)]) (s1:=QF (A1 w.params) 73 309 os) 50 ?_ Goes.now rfl;show Goes w (cB b) id (U9 72) (_ >>= _) _ _ _ _;refine Goes.stp (a:=Value.bytes #[87] 305) (s1:=QF (A1 w.params) 73 306 os) 3 (Goes.value fun p pos=>⟨pos,by kernel_rfl⟩) ?_ rfl;show Goes w (cB b) id (U9 72) ((_ >>= _) >>= _) _ _ _ _;refine Goes.stp (a:=Value.str "windows" 306) (s1:=QF (A1 w.params) 73 307 os) 5 (Goes.stp (a:=Value.str "windows" 306) (s1:=QF (A1 w.params) 73 307 os) 3 (Goes.value fun p pos=>⟨pos,by kernel_rfl⟩) (Goes.stp (a:=()) (s1:=QF (A1 w.params) 73 307 os) 1 Goes.stand Goes.now rfl) rfl) ?_ rfl;refine Goes.stp (a:=[(Value.bytes #[80] 307,Value.str "panes" 308)]) (s1:=QF (A1 w.params) 73 309 os) 40 ?_ Goes.now rfl;show Goes w (cB b) id (U9 72) (_ >>= _) _ _ _ _;refine Goes.stp (a:=Value.bytes #[80] 307) (s1:=QF (A1 w.params) 73 308 os) 3 (Goes.value fun p pos=>⟨pos,by kernel_rfl⟩) ?_ rfl;show Goes w (cB b) id (U9 72) ((_ >>= _) >>= _) _ _ _ _;refine Goes.stp (a:=Value.str "panes" 308) (s1:=QF (A1 w.params) 73 309 os) 5 (Goes.stp (a:=Value.str "panes" 308) (s1:=QF (A1 w.params) 73 309 os) 3 (Goes.value fun p pos=>⟨pos,by kernel_rfl⟩) (Goes.stp (a:=()) (s1:=QF (A1 w.params) 73 309 os) 1 Goes.stand Goes.now rfl) rfl) ?_ rfl;refine Goes.stp (a:=[]) (s1:=QF (A1 w.params) 73 309 os) 30 ?_ Goes.now rfl;exact Goes.now
theorem Dq{c0 c1 c2 d0 d1 d2:Nat}{p0 p1 p2 r0 r1 r2 dp:Pos}:Goes w (cB b) id id (dictDisplay [(some (eval (.Constant (.bytes [83]) c0 p0) QQ),do let x <-eval (.Constant (.str "sessions") d0 r0) QQ;standAt dp;pure x),(some (eval (.Constant (.bytes [87]) c1 p1) QQ),do let x <-eval (.Constant (.str "windows") d1 r1) QQ;standAt dp;pure x),(some (eval (.Constant (.bytes [80]) c2 p2) QQ),do let x <-eval (.Constant (.str "panes") d2 r2) QQ;standAt dp;pure x)]) (QF (A0 w.params) 72 303 os) 2500 (.ref 72) (QF (A4 w.params) 73 312 os):=by
 show Goes w (cB b) id id ((subDict [(eval (.Constant (.bytes [83]) c0 p0) QQ,do let x <-eval (.Constant (.str "sessions") d0 r0) QQ;standAt dp;pure x),(eval (.Constant (.bytes [87]) c1 p1) QQ,do let x <-eval (.Constant (.str "windows") d1 r1) QQ;standAt dp;pure x),(eval (.Constant (.bytes [80]) c2 p2) QQ,do let x <-eval (.Constant (.str "panes") d2 r2) QQ;standAt dp;pure x)] >>= fun d=>pure (some d)) >>= fun m=>match m with|some d=>pure (Value.ref d)|none=>newDict) _ _ _ _;refine Goes.stp (a:=some 72) (s1:=QF (A4 w.params) 73 312 os) 2400 ?_ Goes.now rfl;refine Goes.stp (a:=72) (s1:=QF (A4 w.params) 73 312 os) 2300 ?_ Goes.now rfl;unfold subDict;refine Goes.stp (a:=(72:Nat)) (s1:=QF (A1 w.params) 73 303 os) 3 (Goes.nat fun p pos=>⟨pos,by kernel_rfl⟩) ?_ rfl;refine Goes.stp (a:=()) (s1:=QF (A4 w.params) 73 312 os) 2200 ?_ Goes.now rfl;show Goes w (cB b) id id (Sem.keep [.ref 72] _) _ _ _ _;refine Goes.keep ?_;rw[if_pos (by simp)];refine Goes.stp (s1:=QF (A1 w.params) 73 309 os) 60 OP ?_ rfl;refine Goes.eq (y:=(forIn (m:=Sem) [(Value.bytes #[83] 303,Value.str "sessions" 304),(Value.bytes #[87] 305,Value.str "windows" 306),(Value.bytes #[80] 307,Value.str "panes" 308)] PUnit.unit fun x Z=>(dictSet 72 x.1 x.2 >>= fun Z=>pure (ForInStep.yield PUnit.unit))) >>= fun Z=>pure PUnit.unit) (by rfl) ?_;refine Goes.stp (a:=()) (s1:=QF (A4 w.params) 73 312 os) 2100 ?_ Goes.now rfl;rw[List.forIn_cons];refine Goes.stp (a:=ForInStep.yield ()) (s1:=QF (A2 w.params) 73 310 os) 605 (Goes.stp (a:=()) (s1:=QF (A2 w.params) 73 310 os) 600 Dm Goes.now rfl) ?_ rfl;dsimp only;rw[List.forIn_cons];refine Goes.stp (a:=ForInStep.yield ()) (s1:=QF (A3 w.params) 73 311 os) 605 (Goes.stp (a:=()) (s1:=QF (A3 w.params) 73 311 os) 600 Dl Goes.now rfl) ?_ rfl;dsimp only;rw[List.forIn_cons];refine Goes.stp (a:=ForInStep.yield ()) (s1:=QF (A4 w.params) 73 312 os) 605 (Goes.stp (a:=()) (s1:=QF (A4 w.params) 73 312 os) 600 Dk Goes.now rfl) ?_ rfl;exact Goes.now
inductive u6:Prop
 | mk (c0 c1 c2 d0 d1 d2:Nat) (p0 p1 p2 r0 r1 r2 dp np sp:Pos) (h0:YT 15 1=[.Assign [.Name "LISTS" np] (.Dict [some (.Constant (.bytes [83]) c0 p0),some (.Constant (.bytes [87]) c1 p1),some (.Constant (.bytes [80]) c2 p2)] [.Constant (.str "sessions") d0 r0,.Constant (.str "windows") d1 r1,.Constant (.str "panes") d2 r2] dp) sp])
theorem Dp:u6:=⟨_,_,_,_,_,_,_,_,_,_,_,_,_,_,_,rfl⟩
theorem Dr{pos0:Pos}:Goes w (cB b) id id (bindName QQ "LISTS" (.ref 72)) (QF (A4 w.params) 73 312 os) 30 () (QF (A5 w.params) 73 313 os):=Goes.unit fun p pos=>⟨pos,by kernel_rfl⟩
theorem Dj:∃st,YT 15 1=[st]/\Goes w (cB b) id id (PySem.exec st QQ) (QF (A0 w.params) 72 303 os) 2600 .next (QF (A5 w.params) 73 313 os):=by
 obtain⟨c0,c1,c2,d0,d1,d2,p0,p1,p2,r0,r1,r2,dp,np,sp,e⟩:=Dp;refine⟨_,e,?_⟩;refine Goes.eq (exec_Assign_Name _ _ _ _ _ rfl) ?_;refine Goes.stp (a:=()) 1 Goes.stand ?_ rfl;refine Goes.stp (a:=.ref 72) (s1:=QF (A4 w.params) 73 312 os) 2550 ?_ ?_ rfl
 ·show Goes w (cB b) id id (standAt dp >>= fun Z=>dictDisplay [(some (eval (.Constant (.bytes [83]) c0 p0) QQ),do let x <-eval (.Constant (.str "sessions") d0 r0) QQ;standAt dp;pure x),(some (eval (.Constant (.bytes [87]) c1 p1) QQ),do let x <-eval (.Constant (.str "windows") d1 r1) QQ;standAt dp;pure x),(some (eval (.Constant (.bytes [80]) c2 p2) QQ),do let x <-eval (.Constant (.str "panes") d2 r2) QQ;standAt dp;pure x)]) _ _ _ _;exact Goes.stp (a:=()) 1 Goes.stand (Goes.le Dq (by decide)) rfl
 ·refine Goes.stp (a:=()) 1 Goes.stand ?_ rfl;exact Goes.stp (a:=()) (s1:=QF (A5 w.params) 73 313 os) 30 (Dr (pos0:=sp)) Goes.now rfl
end A
noncomputable def B0(P:Params):BT:=A5 P
noncomputable def OZ(P:Params):DictEntry:=⟨PyData.keyHash P "S",Value.bytes #[83] 313,Value.bytes #[115,101,115,115,105,111,110,95,97,99,116,105,118,101] 314⟩
noncomputable def DJ(P:Params):DictEntry:=⟨PyData.keyHash P "W",Value.bytes #[87] 315,Value.bytes #[119,105,110,100,111,119,95,97,99,116,105,118,101] 316⟩
noncomputable def zq(P:Params):DictEntry:=⟨PyData.keyHash P "P",Value.bytes #[80] 317,Value.bytes #[112,97,110,101,95,97,99,116,105,118,101] 318⟩
noncomputable def B1(P:Params):BT:=(B0 P).ins 73 (WM #[])
noncomputable def B2(P:Params):BT:=(B0 P).ins 73 (WM #[OZ P])
noncomputable def B3(P:Params):BT:=(B0 P).ins 73 (WM #[OZ P,DJ P])
noncomputable def B4(P:Params):BT:=(B0 P).ins 73 (WM #[OZ P,DJ P,zq P])
noncomputable def B5(P:Params):BT:=((B0 P).set 3 (bind1 P "IS_ACTIVE" 322 (.ref 73))).ins 73 (WM #[OZ P,DJ P,zq P])
section B
variable {w:World}{b:List Stmt}{os:OsState}
theorem Df:Goes w (cB b) id (U9 73) (dictSet 73 (Value.bytes #[83] 313) (Value.bytes #[115,101,115,115,105,111,110,95,97,99,116,105,118,101] 314)) (QF (B1 w.params) 74 319 os) 600 () (QF (B2 w.params) 74 320 os):=by
 show Goes w (cB b) id (U9 73) (pyHash (Value.bytes #[83] 313) >>= fun h=>dictSetHashed 73 (Value.bytes #[83] 313) h (Value.bytes #[115,101,115,115,105,111,110,95,97,99,116,105,118,101] 314)) _ _ _ _;refine Goes.stp (a:=PyData.keyHash w.params "S") (s1:=QF (B1 w.params) 74 320 os) 100 (Vc (.inl ⟨rfl,rfl⟩)) ?_ rfl;unfold dictSetHashed;show Goes w (cB b) id (U9 73) (dictFind 73 (Value.bytes #[83] 313) _ >>= _) _ _ _ _;have hg:(QF (B1 w.params) 74 320 os).abs.heap.get? 73=some (WM #[]):=Ya (by decide) (by kernel_rfl);have hf:Goes w (cB b) id (U9 73) (dictFind 73 (Value.bytes #[83] 313) (PyData.keyHash w.params "S")) (QF (B1 w.params) 74 320 os) 400 none (QF (B1 w.params) 74 320 os):=by
  refine Goes.le (JO (m:=90) hg (?hk) (?hw)) (by show 0 * (90+10)+10<=400;decide)
  ·exact fun e he=>by simp at he
  ·exact fun e he=>by simp at he
 refine Goes.stp 400 hf ?_ rfl;dsimp only;refine Goes.stp (a:=()) 1 Goes.rule ?_ rfl;exact Goes.le (n:=20) (Goes.unit fun p pos=>⟨pos,by kernel_rfl⟩) (by decide)
theorem De:Goes w (cB b) id (U9 73) (dictSet 73 (Value.bytes #[87] 315) (Value.bytes #[119,105,110,100,111,119,95,97,99,116,105,118,101] 316)) (QF (B2 w.params) 74 320 os) 600 () (QF (B3 w.params) 74 321 os):=by
 show Goes w (cB b) id (U9 73) (pyHash (Value.bytes #[87] 315) >>= fun h=>dictSetHashed 73 (Value.bytes #[87] 315) h (Value.bytes #[119,105,110,100,111,119,95,97,99,116,105,118,101] 316)) _ _ _ _;refine Goes.stp (a:=PyData.keyHash w.params "W") (s1:=QF (B2 w.params) 74 321 os) 100 (Vc (.inr (.inl ⟨rfl,rfl⟩))) ?_ rfl;unfold dictSetHashed;show Goes w (cB b) id (U9 73) (dictFind 73 (Value.bytes #[87] 315) _ >>= _) _ _ _ _;have hg:(QF (B2 w.params) 74 321 os).abs.heap.get? 73=some (WM #[OZ w.params]):=Ya (by decide) (by kernel_rfl);have hf:Goes w (cB b) id (U9 73) (dictFind 73 (Value.bytes #[87] 315) (PyData.keyHash w.params "W")) (QF (B2 w.params) 74 321 os) 400 none (QF (B2 w.params) 74 321 os):=by
  refine Goes.le (JO (m:=90) hg (?hk) (?hw)) (by show 1 * (90+10)+10<=400;decide)
  ·exact fun e he=>by
     simp only[List.mem_toArray,List.mem_cons,List.not_mem_nil,or_false] at he;rcases he with rfl
     ·exact⟨_,_,rfl⟩
  ·exact fun e he=>by
     simp only[List.mem_toArray,List.mem_cons,List.not_mem_nil,or_false] at he;rcases he with rfl
     ·exact(OX (.inl ⟨rfl,rfl⟩))
 refine Goes.stp 400 hf ?_ rfl;dsimp only;refine Goes.stp (a:=()) 1 Goes.rule ?_ rfl;exact Goes.le (n:=20) (Goes.unit fun p pos=>⟨pos,by kernel_rfl⟩) (by decide)
theorem Dc:Goes w (cB b) id (U9 73) (dictSet 73 (Value.bytes #[80] 317) (Value.bytes #[112,97,110,101,95,97,99,116,105,118,101] 318)) (QF (B3 w.params) 74 321 os) 600 () (QF (B4 w.params) 74 322 os):=by
 show Goes w (cB b) id (U9 73) (pyHash (Value.bytes #[80] 317) >>= fun h=>dictSetHashed 73 (Value.bytes #[80] 317) h (Value.bytes #[112,97,110,101,95,97,99,116,105,118,101] 318)) _ _ _ _;refine Goes.stp (a:=PyData.keyHash w.params "P") (s1:=QF (B3 w.params) 74 322 os) 100 (Vc (.inr (.inr ⟨rfl,rfl⟩))) ?_ rfl;unfold dictSetHashed;show Goes w (cB b) id (U9 73) (dictFind 73 (Value.bytes #[80] 317) _ >>= _) _ _ _ _;have hg:(QF (B3 w.params) 74 322 os).abs.heap.get? 73=some (WM #[OZ w.params,DJ w.params]):=Ya (by decide) (by kernel_rfl);have hf:Goes w (cB b) id (U9 73) (dictFind 73 (Value.bytes #[80] 317) (PyData.keyHash w.params "P")) (QF (B3 w.params) 74 322 os) 400 none (QF (B3 w.params) 74 322 os):=by
  refine Goes.le (JO (m:=90) hg (?hk) (?hw)) (by show 2 * (90+10)+10<=400;decide)
  ·exact fun e he=>by
     simp only[List.mem_toArray,List.mem_cons,List.not_mem_nil,or_false] at he;rcases he with rfl|rfl
     ·exact⟨_,_,rfl⟩
     ·exact⟨_,_,rfl⟩
  ·exact fun e he=>by
     simp only[List.mem_toArray,List.mem_cons,List.not_mem_nil,or_false] at he;rcases he with rfl|rfl
     ·exact(OX (.inr (.inl ⟨rfl,rfl⟩)))
     ·exact(OX (.inr (.inr ⟨rfl,rfl⟩)))
 refine Goes.stp 400 hf ?_ rfl;dsimp only;refine Goes.stp (a:=()) 1 Goes.rule ?_ rfl;exact Goes.le (n:=20) (Goes.unit fun p pos=>⟨pos,by kernel_rfl⟩) (by decide)
theorem OO{c0 c1 c2 d0 d1 d2:Nat}{p0 p1 p2 r0 r1 r2 dp:Pos}:Goes w (cB b) id (U9 73) (evalPairs [(eval (.Constant (.bytes [83]) c0 p0) QQ,do let x <-eval (.Constant (.bytes [115,101,115,115,105,111,110,95,97,99,116,105,118,101]) d0 r0) QQ;standAt dp;pure x),(eval (.Constant (.bytes [87]) c1 p1) QQ,do let x <-eval (.Constant (.bytes [119,105,110,100,111,119,95,97,99,116,105,118,101]) d1 r1) QQ;standAt dp;pure x),(eval (.Constant (.bytes [80]) c2 p2) QQ,do let x <-eval (.Constant (.bytes [112,97,110,101,95,97,99,116,105,118,101]) d2 r2) QQ;standAt dp;pure x)]) (QF (B1 w.params) 74 313 os) 60 [(Value.bytes #[83] 313,Value.bytes #[115,101,115,115,105,111,110,95,97,99,116,105,118,101] 314),(Value.bytes #[87] 315,Value.bytes #[119,105,110,100,111,119,95,97,99,116,105,118,101] 316),(Value.bytes #[80] 317,Value.bytes #[112,97,110,101,95,97,99,116,105,118,101] 318)] (QF (B1 w.params) 74 319 os):=by
 show Goes w (cB b) id (U9 73) (_ >>= _) _ _ _ _;refine Goes.stp (a:=Value.bytes #[83] 313) (s1:=QF (B1 w.params) 74 314 os) 3 (Goes.value fun p pos=>⟨pos,by kernel_rfl⟩) ?_ rfl;show Goes w (cB b) id (U9 73) ((_ >>= _) >>= _) _ _ _ _;refine Goes.stp (a:=Value.bytes #[115,101,115,115,105,111,110,95,97,99,116,105,118,101] 314) (s1:=QF (B1 w.params) 74 315 os) 5 (Goes.stp (a:=Value.bytes #[115,101,115,115,105,111,110,95,97,99,116,105,118,101] 314) (s1:=QF (B1 w.params) 74 315 os) 3 (Goes.value fun p pos=>⟨pos,by kernel_rfl⟩) (Goes.stp (a:=()) (s1:=QF (B1 w.params) 74 315 os) 1 Goes.stand Goes.now rfl) rfl) ?_ rfl;refine Goes.stp (a:=[(Value.bytes #[87] 315,Value.bytes #[119,105,110,100,111,119,95,97,99,116,105,118,101] 316),(Value.bytes #[80] 317,Value.bytes #[112,97,110,101,95,97,99,116,105,118,101] 318)]) (s1:=QF (B1 w.params) 74 319 os) 50 ?_ Goes.now rfl;show Goes w (cB b) id (U9 73) (_ >>= _) _ _ _ _;refine Goes.stp (a:=Value.bytes #[87] 315) (s1:=QF (B1 w.params) 74 316 os) 3 (Goes.value fun p pos=>⟨pos,by kernel_rfl⟩) ?_ rfl;show Goes w (cB b) id (U9 73) ((_ >>= _) >>= _) _ _ _ _;refine Goes.stp (a:=Value.bytes #[119,105,110,100,111,119,95,97,99,116,105,118,101] 316) (s1:=QF (B1 w.params) 74 317 os) 5 (Goes.stp (a:=Value.bytes #[119,105,110,100,111,119,95,97,99,116,105,118,101] 316) (s1:=QF (B1 w.params) 74 317 os) 3 (Goes.value fun p pos=>⟨pos,by kernel_rfl⟩) (Goes.stp (a:=()) (s1:=QF (B1 w.params) 74 317 os) 1 Goes.stand Goes.now rfl) rfl) ?_ rfl;refine Goes.stp (a:=[(Value.bytes #[80] 317,Value.bytes #[112,97,110,101,95,97,99,116,105,118,101] 318)]) (s1:=QF (B1 w.params) 74 319 os) 40 ?_ Goes.now rfl;show Goes w (cB b) id (U9 73) (_ >>= _) _ _ _ _;refine Goes.stp (a:=Value.bytes #[80] 317) (s1:=QF (B1 w.params) 74 318 os) 3 (Goes.value fun p pos=>⟨pos,by kernel_rfl⟩) ?_ rfl;show Goes w (cB b) id (U9 73) ((_ >>= _) >>= _) _ _ _ _;refine Goes.stp (a:=Value.bytes #[112,97,110,101,95,97,99,116,105,118,101] 318) (s1:=QF (B1 w.params) 74 319 os) 5 (Goes.stp (a:=Value.bytes #[112,97,110,101,95,97,99,116,105,118,101] 318) (s1:=QF (B1 w.params) 74 319 os) 3 (Goes.value fun p pos=>⟨pos,by kernel_rfl⟩) (Goes.stp (a:=()) (s1:=QF (B1 w.params) 74 319 os) 1 Goes.stand Goes.now rfl) rfl) ?_ rfl;refine Goes.stp (a:=[]) (s1:=QF (B1 w.params) 74 319 os) 30 ?_ Goes.now rfl;exact Goes.now
theorem Dh{c0 c1 c2 d0 d1 d2:Nat}{p0 p1 p2 r0 r1 r2 dp:Pos}:Goes w (cB b) id id (dictDisplay [(some (eval (.Constant (.bytes [83]) c0 p0) QQ),do let x <-eval (.Constant (.bytes [115,101,115,115,105,111,110,95,97,99,116,105,118,101]) d0 r0) QQ;standAt dp;pure x),(some (eval (.Constant (.bytes [87]) c1 p1) QQ),do let x <-eval (.Constant (.bytes [119,105,110,100,111,119,95,97,99,116,105,118,101]) d1 r1) QQ;standAt dp;pure x),(some (eval (.Constant (.bytes [80]) c2 p2) QQ),do let x <-eval (.Constant (.bytes [112,97,110,101,95,97,99,116,105,118,101]) d2 r2) QQ;standAt dp;pure x)]) (QF (B0 w.params) 73 313 os) 2500 (.ref 73) (QF (B4 w.params) 74 322 os):=by
 show Goes w (cB b) id id ((subDict [(eval (.Constant (.bytes [83]) c0 p0) QQ,do let x <-eval (.Constant (.bytes [115,101,115,115,105,111,110,95,97,99,116,105,118,101]) d0 r0) QQ;standAt dp;pure x),(eval (.Constant (.bytes [87]) c1 p1) QQ,do let x <-eval (.Constant (.bytes [119,105,110,100,111,119,95,97,99,116,105,118,101]) d1 r1) QQ;standAt dp;pure x),(eval (.Constant (.bytes [80]) c2 p2) QQ,do let x <-eval (.Constant (.bytes [112,97,110,101,95,97,99,116,105,118,101]) d2 r2) QQ;standAt dp;pure x)] >>= fun d=>pure (some d)) >>= fun m=>match m with|some d=>pure (Value.ref d)|none=>newDict) _ _ _ _;refine Goes.stp (a:=some 73) (s1:=QF (B4 w.params) 74 322 os) 2400 ?_ Goes.now rfl;refine Goes.stp (a:=73) (s1:=QF (B4 w.params) 74 322 os) 2300 ?_ Goes.now rfl;unfold subDict;refine Goes.stp (a:=(73:Nat)) (s1:=QF (B1 w.params) 74 313 os) 3 (Goes.nat fun p pos=>⟨pos,by kernel_rfl⟩) ?_ rfl;refine Goes.stp (a:=()) (s1:=QF (B4 w.params) 74 322 os) 2200 ?_ Goes.now rfl;show Goes w (cB b) id id (Sem.keep [.ref 73] _) _ _ _ _;refine Goes.keep ?_;rw[if_pos (by simp)];refine Goes.stp (s1:=QF (B1 w.params) 74 319 os) 60 OO ?_ rfl;refine Goes.eq (y:=(forIn (m:=Sem) [(Value.bytes #[83] 313,Value.bytes #[115,101,115,115,105,111,110,95,97,99,116,105,118,101] 314),(Value.bytes #[87] 315,Value.bytes #[119,105,110,100,111,119,95,97,99,116,105,118,101] 316),(Value.bytes #[80] 317,Value.bytes #[112,97,110,101,95,97,99,116,105,118,101] 318)] PUnit.unit fun x Z=>(dictSet 73 x.1 x.2 >>= fun Z=>pure (ForInStep.yield PUnit.unit))) >>= fun Z=>pure PUnit.unit) (by rfl) ?_;refine Goes.stp (a:=()) (s1:=QF (B4 w.params) 74 322 os) 2100 ?_ Goes.now rfl;rw[List.forIn_cons];refine Goes.stp (a:=ForInStep.yield ()) (s1:=QF (B2 w.params) 74 320 os) 605 (Goes.stp (a:=()) (s1:=QF (B2 w.params) 74 320 os) 600 Df Goes.now rfl) ?_ rfl;dsimp only;rw[List.forIn_cons];refine Goes.stp (a:=ForInStep.yield ()) (s1:=QF (B3 w.params) 74 321 os) 605 (Goes.stp (a:=()) (s1:=QF (B3 w.params) 74 321 os) 600 De Goes.now rfl) ?_ rfl;dsimp only;rw[List.forIn_cons];refine Goes.stp (a:=ForInStep.yield ()) (s1:=QF (B4 w.params) 74 322 os) 605 (Goes.stp (a:=()) (s1:=QF (B4 w.params) 74 322 os) 600 Dc Goes.now rfl) ?_ rfl;exact Goes.now
inductive u5:Prop
 | mk (c0 c1 c2 d0 d1 d2:Nat) (p0 p1 p2 r0 r1 r2 dp np sp:Pos) (h0:YT 16 1=[.Assign [.Name "IS_ACTIVE" np] (.Dict [some (.Constant (.bytes [83]) c0 p0),some (.Constant (.bytes [87]) c1 p1),some (.Constant (.bytes [80]) c2 p2)] [.Constant (.bytes [115,101,115,115,105,111,110,95,97,99,116,105,118,101]) d0 r0,.Constant (.bytes [119,105,110,100,111,119,95,97,99,116,105,118,101]) d1 r1,.Constant (.bytes [112,97,110,101,95,97,99,116,105,118,101]) d2 r2] dp) sp])
theorem Dg:u5:=⟨_,_,_,_,_,_,_,_,_,_,_,_,_,_,_,rfl⟩
theorem Di{pos0:Pos}:Goes w (cB b) id id (bindName QQ "IS_ACTIVE" (.ref 73)) (QF (B4 w.params) 74 322 os) 30 () (QF (B5 w.params) 74 323 os):=Goes.unit fun p pos=>⟨pos,by kernel_rfl⟩
theorem D9:∃st,YT 16 1=[st]/\Goes w (cB b) id id (PySem.exec st QQ) (QF (B0 w.params) 73 313 os) 2600 .next (QF (B5 w.params) 74 323 os):=by
 obtain⟨c0,c1,c2,d0,d1,d2,p0,p1,p2,r0,r1,r2,dp,np,sp,e⟩:=Dg;refine⟨_,e,?_⟩;refine Goes.eq (exec_Assign_Name _ _ _ _ _ rfl) ?_;refine Goes.stp (a:=()) 1 Goes.stand ?_ rfl;refine Goes.stp (a:=.ref 73) (s1:=QF (B4 w.params) 74 322 os) 2550 ?_ ?_ rfl
 ·show Goes w (cB b) id id (standAt dp >>= fun Z=>dictDisplay [(some (eval (.Constant (.bytes [83]) c0 p0) QQ),do let x <-eval (.Constant (.bytes [115,101,115,115,105,111,110,95,97,99,116,105,118,101]) d0 r0) QQ;standAt dp;pure x),(some (eval (.Constant (.bytes [87]) c1 p1) QQ),do let x <-eval (.Constant (.bytes [119,105,110,100,111,119,95,97,99,116,105,118,101]) d1 r1) QQ;standAt dp;pure x),(some (eval (.Constant (.bytes [80]) c2 p2) QQ),do let x <-eval (.Constant (.bytes [112,97,110,101,95,97,99,116,105,118,101]) d2 r2) QQ;standAt dp;pure x)]) _ _ _ _;exact Goes.stp (a:=()) 1 Goes.stand (Goes.le Dh (by decide)) rfl
 ·refine Goes.stp (a:=()) 1 Goes.stand ?_ rfl;exact Goes.stp (a:=()) (s1:=QF (B5 w.params) 74 323 os) 30 (Di (pos0:=sp)) Goes.now rfl
end B
noncomputable abbrev zt(P:Params):BT:=B5 P
noncomputable def jW(P:Params):BT:=(zt P).set 3 (bind1 P (zS "DAY") 324 (.int 86400 323))
noncomputable def jV(P:Params):BT:=Ue P (jW P) 18 "format_letters" 40 0 74 325 [] (zM 1)
noncomputable def jU(P:Params):BT:=Ue P (jV P) 19 "is_true" 42 1 81 331 ["octets"] (zM 1)
noncomputable def jT(P:Params):BT:=Ue P (jU P) 20 "format_truth" 44 1 88 338 ["truth"] (zM 1)
noncomputable def qE(P:Params):BT:=Ue P (jT P) 21 "format_end" 46 3 95 345 ["octets","at","ends","deep"] (zM 1)
noncomputable def qD(P:Params):BT:=Ue P (qE P) 22 "format_split" 59 1 102 355 ["octets","found","at","end"] (zM 1)
noncomputable def qC(P:Params):BT:=(((((((((((((((((((((((qD P).ins 109 (zT [])).ins 110 (zX "builtin_function_or_method" [.builtin "type.__prepare__",.type "type"])).ins 111 (zD [zE P "__module__" 372 (zs "termcore.muxformats" 252),zE P "__qualname__" 374 (zs "Modifier" 373),zE P "__firstlineno__" 376 (.int 67 375),zE P "__init__" 385 (.ref 122),zE P "__static_attributes__" 388 (.ref 123)] 5)).ins 112 (zT [])).ins 113 (zL [zi 69,zi 4,.ref 121])).ins 114 (zX "code" [zs "Modifier" 367,zs "Modifier" 368,zs "/claim/cut.py" 369,zi 67,zi 0,zi 0,zi 0,zi 0,.ref 112,.bool false,zi 181,.ref 113,.none,.none,.none,.none,zi 370,zi 67,zs "/claim/cut.py" 371])).ins 115 ({ cls:=.type "frame",slots:=#[some (.ref 114),some (.ref 3),some (.ref 111),none,some (zs "termcore.muxformats" 252),none,some (.ref 0)] })).ins 116 (zT [])).ins 117 (zL [])).ins 118 (zT [zs "self" 380,zs "name" 381,zs "told" 382])).ins 119 (zT [])).ins 120 ({ cls:=.none,data:=.func { name:=(zS "__init__"),qualname:=(zS "Modifier.__init__"),params:=mA 23 0,body:=.stmts (mB 23 0),scope:=mS 23 0,globals:=0,closure:=[],defaults:=.none,kwdefaults:=.none } })).ins 121 (zX "code" [zs "__init__" 377,zs "Modifier.__init__" 378,zs "/claim/cut.py" 379,zi 69,zi 3,zi 0,zi 0,zi 3,.ref 116,.bool true,zi 181,.ref 117,.none,.ref 118,.ref 119,.ref 120,zi 383,zi 69,zs "/claim/cut.py" 384])).ins 122 ({ cls:=.type "function",data:=.func { name:=(zS "__init__"),qualname:=(zS "Modifier.__init__"),params:=mA 23 0,body:=.stmts (mB 23 0),scope:=mS 23 0,globals:=3,closure:=[],defaults:=.none,kwdefaults:=.none,pyModule:=zs "termcore.muxformats" 252,code:=.ref 121 } })).ins 123 (zT [zs "name" 386,zs "told" 387])).ins 124 (zD [zE P "__module__" 372 (zs "termcore.muxformats" 252),zE P "__firstlineno__" 376 (.int 67 375),zE P "__init__" 385 (.ref 122),zE P "__static_attributes__" 388 (.ref 123),zE P "__dict__" 390 (.ref 126),zE P "__weakref__" 392 (.ref 127),zE P "__doc__" 393 .none] 4)).ins 125 ({ cls:=.type "type",data:=.cls { name:=(zS "Modifier"),bases:=[.type "object"],mro:=[.ref 125,.type "object"],ns:=124,qualname:=(zS "Modifier") },slots:=#[none,none,some (zs "Modifier" 365),some (zs "Modifier" 373),some (.builtin "object.__new__"),some (.bool true)] })).ins 126 (zX "getset_descriptor" [zs "__dict__" 389,.ref 125,.builtin "function.__dict__",.builtin "function.__dict__#set"])).ins 127 (zX "getset_descriptor" [zs "__weakref__" 391,.ref 125,.builtin "ExceptionGroup.__weakref__",.none])).ins 128 (zX "super" [.ref 125,.ref 125,.ref 125])).ins 129 (zX "builtin_function_or_method" [.builtin "object.__init_subclass__",.ref 125])).set 3 (bind1 P (zS "Modifier") 395 (.ref 125))).set 12 (Bd 67 114)
noncomputable def jS(P:Params):BT:=Ue P (qC P) 24 "format_modifier_at" 72 2 130 396 ["octets","at","name","end"] (zM 1)
noncomputable def jR(P:Params):BT:=Ue P (jS P) 25 "format_told_at" 87 3 137 406 ["name","octets","at","parting","told","end"] (zM 1)
noncomputable def jQ(P:Params):BT:=Ue P (jR P) 26 "format_modifiers" 101 1 144 418 ["octets","found","at","one"] (zM 1)
noncomputable def qB(P:Params):BT:=Ue P (jQ P) 27 "format_modifier" 111 2 151 428 ["found","names","one"] (zM 1)
noncomputable def jP(P:Params):BT:=Ue P (qB P) 28 "expand_format" 116 2 158 437 ["octets","facts"] (zM 1)
noncomputable def jO(P:Params):BT:=Ue P (jP P) 29 "format_expanded" 118 3 165 445 ["octets","facts","deep","found","at","letters","sign","end"] (zM 1)
noncomputable def jN(P:Params):BT:=WK P (jO P) 30 "format_part" 149 3 172 459 (zM 1)
noncomputable def qA(P:Params):BT:=Ue P (jN P) 31 "format_told" 168 4 177 465 ["found","rest","facts","deep","told","number","quoted"] (zM 1)
noncomputable def jM(P:Params):BT:=Ue P (qA P) 32 "format_value" 191 3 184 478 ["octets","facts","deep"] (zM 1)
noncomputable def jL(P:Params):BT:=Ue P (jM P) 33 "format_is_so" 197 3 191 487 ["octets","facts","deep","told"] (zM 1)
noncomputable def jK(P:Params):BT:=Ue P (jL P) 34 "format_chosen" 202 3 198 497 ["octets","facts","deep","parts","at"] (zM 1)
noncomputable def qz(P:Params):BT:=Ue P (jK P) 35 "format_paired" 210 4 205 508 ["one","rest","facts","deep","parts","near","far","is_folded","truths"] (zM 1)
noncomputable def jJ(P:Params):BT:=Ue P (qz P) 36 "format_compared" 225 3 212 523 ["word","near","far"] (zM 1)
noncomputable def jI(P:Params):BT:=WK P (jJ P) 37 "format_listed" 235 4 219 532 (zM 1)
noncomputable def jH(P:Params):BT:=WK P (jI P) 38 "format_is_named" 244 4 224 538 (zM 1)
noncomputable def qy(P:Params):BT:=Ue P (jH P) 39 "format_repeated" 249 3 229 544 ["rest","facts","deep","parts","number","told"] (zM 1)
noncomputable def jG(P:Params):BT:=Ue P (qy P) 40 "format_unmarked" 254 1 236 556 ["octets","found","at"] (zM 1)
noncomputable def jF(P:Params):BT:=Ue P (jG P) 41 "format_folder" 262 1 243 565 ["octets","place"] (zM 1)
noncomputable def jE(P:Params):BT:=Ue P (jF P) 42 "format_quoted" 267 2 250 573 ["octets","is_for_formats","found","octet"] (zM 1)
noncomputable def qx(P:Params):BT:=Ue P (jE P) 43 "format_two" 276 1 257 583 ["number"] (zM 1)
noncomputable def jD(P:Params):BT:=Ue P (qx P) 44 "format_time" 278 1 264 590 ["octets","seconds","days","rest","shifted","within","year","day","month","number","date","clock"] (zM 1)
noncomputable def jC(P:Params):BT:=WK P (jD P) 45 "format_folded" 293 2 271 608 (zM 1)
noncomputable def jB(P:Params):BT:=Ue P (jC P) 46 "format_fits" 297 2 276 614 ["pattern","octets","at","place","star","kept"] (zM 1)
noncomputable def qw(P:Params):BT:=Ue P (jB P) 47 "format_whole" 314 1 283 626 ["octets","number"] (zM 1)
noncomputable def jA(P:Params):BT:=Ue P (qw P) 48 "format_quotient" 317 2 290 634 ["one","other","found"] (zM 1)
noncomputable def jz(P:Params):BT:=Ue P (jA P) 49 "format_reckoned" 320 3 297 643 ["word","near","far","one","other"] (zM 1)
noncomputable def jy(P:Params):BT:=Ue P (jz P) 50 "format_replaced" 335 2 304 654 ["octets","told","is_folded","wanted","looked","found","at","place"] (zM 1)
noncomputable def qv(P:Params):BT:=Ue P (jy P) 51 "format_pieces" 347 1 311 668 ["octets","found","at","end"] (zM 1)
noncomputable def jx(P:Params):BT:=WK P (qv P) 52 "format_width" 363 1 318 678 (zM 1)
noncomputable def jw(P:Params):BT:=WK P (jx P) 53 "format_cut" 365 3 323 684 (zM 1)
noncomputable def jv(P:Params):BT:=Ue P (jw P) 54 "format_limited" 375 2 328 690 ["octets","told","most","many","sign","found"] (zM 1)
noncomputable def qu(P:Params):BT:=Ue P (jv P) 55 "format_filled" 385 2 335 702 ["octets","told","width","blanks"] (zM 1)
noncomputable def ju(P:Params):BT:=Ue P (qu P) 56 "format_finished" 391 2 342 712 ["octets","found","one","limit","fill","count"] (zM 1)
noncomputable def jt(P:Params):BT:=(ju P).set 3 (rebind 0 (zE P "__name__" 165 (zs "law_og0273_01" 724)))
noncomputable def js(P:Params):BT:=WK P (jt P) 58 "_law_deck" 406 1 349 726 (zM 2)
noncomputable def jr(P:Params):BT:=Ue P (js P) 59 "_law_draw" 411 2 354 732 ["deck","below","figure","cell"] (zM 2)
noncomputable def qt(P:Params):BT:=Ue P (jr P) 60 "_law_pick" 423 2 361 742 ["deck","some"] (zM 2)
noncomputable def jq(P:Params):BT:=Ue P (qt P) 61 "_law_facts" 425 0 368 750 ["found"] (zM 2)
noncomputable def jo(P:Params):BT:=WK P (jq P) 62 "_law_decimal" 429 1 375 757 (zM 2)
noncomputable def jn(P:Params):BT:=WK P (jo P) 63 "_law_fits" 431 2 380 763 (zM 2)
noncomputable def qs(P:Params):BT:=Ue P (jn P) 64 "_law_is_true" 437 1 385 769 ["octets"] (zM 2)
noncomputable def jm(P:Params):BT:=Ue P (qs P) 65 "_law_truth" 439 1 392 776 ["is_so"] (zM 2)
noncomputable def jl(P:Params):BT:=Ue P (jm P) 66 "_law_sum" 441 3 399 783 ["sign","near","far","whole"] (zM 2)
noncomputable def jk(P:Params):BT:=WK P (jl P) 67 "_law_piece" 450 2 406 793 (zM 2)
noncomputable def qr(P:Params):BT:=Ue P (jk P) 68 "_law_pieces" 500 3 411 799 ["deck","most","deep","octets","told","go","piece"] (zM 2)
noncomputable def qq(P:Params):BT:=Ue P (qr P) 69 "law" 506 1 418 812 ["script","deck","facts","octets","due","end","place","e"] (zM 2)
abbrev HR(w:World)(p:Program)(b:List Stmt)(os:OsState)(pos:Pos)(m:Nat)(T:Params->BT)(n k i j:Nat)(U:Params->BT)(n' k':Nat)(q:Pos):Prop:=segRunT treeTable p w 11 Jo 1 m (QF (T w.params) n k os) (piecesOf (YT i j) QQ (cB b) pos [topFrame q0])=some (.next,QF (U w.params) n' k' os,cB b,q)
section
variable (w:World)(p:Program)(b:List Stmt)(os:OsState)(pos:Pos)
theorem Cj:HR w p b os pos 10 T_ 15 187 0 1 T0 15 189 ⟨1,0,1,8⟩:=by kernel_rfl
theorem Ci:HR w p b os pos 230 T0 15 189 1 1 T1 36 218 ⟨2,0,5,24⟩:=by kernel_rfl
theorem Cg:HR w p b os pos 214 T1 36 218 2 1 T2 48 234 ⟨6,0,7,8⟩:=by kernel_rfl
theorem Cf:HR w p b os pos 81 T2 48 234 3 4 T6 62 256 ⟨28,0,28,4⟩:=by kernel_rfl
theorem Ce:HR w p b os pos 66 T6 62 256 7 1 T7 66 260 ⟨29,6,29,11⟩:=by refine byRow2 "special-get-raises" (P:=fun w=>HR w p b os pos 66 T6 62 256 7 1 T7 66 260 ⟨29,6,29,11⟩) (fun w=>?_) (fun w=>?_) w<;>kernel_rfl
theorem Cd:HR w p b os pos 138 T7 66 260 8 1 T8 70 272 ⟨30,39,30,48⟩:=by refine byRow2 "special-get-raises" (P:=fun w=>HR w p b os pos 138 T7 66 260 8 1 T8 70 272 ⟨30,39,30,48⟩) (fun w=>?_) (fun w=>?_) w<;>kernel_rfl
theorem Cc:HR w p b os pos 78 T8 70 272 9 6 zu 72 303 ⟨36,0,36,7⟩:=by kernel_rfl
theorem MX:HR w p b os pos 128 zt 74 323 17 5 qE 102 355 ⟨46,0,58,15⟩:=by kernel_rfl
theorem MW:HR w p b os pos 33 qE 102 355 22 1 qD 109 365 ⟨59,0,66,32⟩:=by kernel_rfl
theorem MV:HR w p b os pos 225 qD 109 365 23 1 qC 130 396 ⟨67,0,71,24⟩:=by kernel_rfl
theorem MU:HR w p b os pos 130 qC 130 396 24 4 qB 158 437 ⟨111,0,115,15⟩:=by kernel_rfl
theorem MT:HR w p b os pos 128 qB 158 437 28 4 qA 184 478 ⟨168,0,190,15⟩:=by kernel_rfl
theorem MS:HR w p b os pos 134 qA 184 478 32 4 qz 212 523 ⟨210,0,224,61⟩:=by kernel_rfl
theorem MR:HR w p b os pos 118 qz 212 523 36 4 qy 236 556 ⟨249,0,253,92⟩:=by kernel_rfl
theorem MQ:HR w p b os pos 123 qy 236 556 40 4 qx 264 590 ⟨276,0,277,69⟩:=by kernel_rfl
theorem MP:HR w p b os pos 131 qx 264 590 44 4 qw 290 634 ⟨314,0,316,75⟩:=by kernel_rfl
theorem MO:HR w p b os pos 133 qw 290 634 48 4 qv 318 678 ⟨347,0,362,16⟩:=by kernel_rfl
theorem MN:HR w p b os pos 119 qv 318 678 52 4 qu 342 712 ⟨385,0,390,61⟩:=by kernel_rfl
theorem ML:HR w p b os pos 132 qu 342 712 56 5 qt 368 750 ⟨423,0,424,43⟩:=by kernel_rfl
theorem MK:HR w p b os pos 111 qt 368 750 61 4 qs 392 776 ⟨437,0,438,36⟩:=by kernel_rfl
theorem MJ:HR w p b os pos 123 qs 392 776 65 4 qr 418 812 ⟨500,0,505,25⟩:=by kernel_rfl
theorem MI:HR w p b os pos 37 qr 418 812 69 1 qq 425 826 ⟨506,0,518,88⟩:=by kernel_rfl
end
noncomputable abbrev Zo:List Stmt:=behindTheImports hp
noncomputable abbrev cH:Code:=.body Zo QQ
@[irreducible] noncomputable def Cr (P:Params):BT:=qq P
noncomputable def XN(w:World)(os:OsState):SharedT:=QF (Cr w.params) 425 826 os
theorem W2{w:World}{c:Code}{env:Env}{st:Stmt}{n:Nat}{s s':SharedT}(h:Goes w c id id (PySem.exec st env) s n .next s'):∀(rest:List Stmt) (p:Program) (pos:Pos),∃pos',∀N r,topRun treeTable p w 11 Jo N s'.abs (restOf rest env c pos' [topFrame q0])=some r->
  topRun treeTable p w 11 Jo (n+N) s.abs (restOf (st::rest) env c pos [topFrame q0])=some r:=fun rest p pos=>by
 obtain⟨pos',k⟩:=h p (fun f=>match f with|.next=>(PySem.execs rest env).wrap doneF (leaveH env) id id|f=>doneF f) (leaveH env) pos;refine⟨pos',fun N r hr=>?_⟩;unfold restOf;rw[execs_cons_wrap];exact k N r hr
theorem M9(w:World)(os:OsState):topGo treeTable hp w 11 Jo 12 ⟨boot_heap w.params,Array.mk [],boot_drawn,boot_toks,os⟩ (topStub hp)=some ((QF (T_ w.params) 15 187 os).abs,⟨denote treeTable cH,cH,q0,[topFrame q0]⟩):=by kernel_rfl
theorem LX(w:World)(os:OsState):segRun treeTable hp w 11 Jo 1 1 (QF (T_ w.params) 15 187 os).abs (blockOf Zo QQ cH q0 [topFrame q0])=some (.next,(QF (T_ w.params) 15 187 os).abs,cH,q0):=by kernel_rfl
theorem O1(w:World)(os:OsState)(pos:Pos):topRun treeTable hp w 11 Jo 2 (QF (qq w.params) 425 826 os).abs ⟨doneF .next,cH,pos,[topFrame q0]⟩=some (XN w os).abs:=by kernel_rfl
noncomputable def TA:List Stmt:=YT 17 5++(YT 22 1++(YT 23 1++(YT 24 4++(YT 28 4++(YT 32 4++(YT 36 4++(YT 40 4++(YT 44 4++(YT 48 4++(YT 52 4++(YT 56 5++(YT 61 4++(YT 65 4++(YT 69 1++([])))))))))))))))
theorem EG:Zo=YT 0 1++(YT 1 1++(YT 2 1++(YT 3 4++(YT 7 1++(YT 8 1++(YT 9 6++(YT 15 1++(YT 16 1++TA)))))))):=by kernel_rfl
theorem Bz(w:World)(os:OsState):topRun treeTable hp w 11 Jo (12+(1+(10+(230+(214+(81+(66+(138+(78+(2600+(2600+(128+(33+(225+(130+(128+(134+(118+(123+(131+(133+(119+(132+(111+(123+(37+2)))))))))))))))))))))))))) ⟨boot_heap w.params,Array.mk [],boot_drawn,boot_toks,os⟩ (topStub hp)=some (XN w os).abs:=by
 refine go_top (M9 w os) ?_;refine piece_block (LX w os) ?_;refine(congrArg (fun l=>topRun treeTable hp w 11 Jo _ _ (restOf l QQ cH _ [topFrame q0])) EG).trans ?_;refine piece_app (segRun_of (Cj w hp Zo os _)) ?_;refine piece_app (segRun_of (Ci w hp Zo os _)) ?_;refine piece_app (segRun_of (Cg w hp Zo os _)) ?_;refine piece_app (segRun_of (Cf w hp Zo os _)) ?_;refine piece_app (segRun_of (Ce w hp Zo os _)) ?_;refine piece_app (segRun_of (Cd w hp Zo os _)) ?_;refine piece_app (segRun_of (Cc w hp Zo os _)) ?_;obtain⟨st15,e15,g15⟩:=Dj (w:=w) (b:=Zo) (os:=os);obtain⟨st16,e16,g16⟩:=D9 (w:=w) (b:=Zo) (os:=os);rw[e15,e16];obtain⟨pos1,k1⟩:=W2 g15 ([st16]++TA) hp _;refine k1 _ _ ?_;obtain⟨pos2,k2⟩:=W2 g16 TA hp pos1;refine k2 _ _ ?_;unfold TA;refine piece_app (segRun_of (MX w hp Zo os _)) ?_;refine piece_app (segRun_of (MW w hp Zo os _)) ?_;refine piece_app (segRun_of (MV w hp Zo os _)) ?_;refine piece_app (segRun_of (MU w hp Zo os _)) ?_;refine piece_app (segRun_of (MT w hp Zo os _)) ?_;refine piece_app (segRun_of (MS w hp Zo os _)) ?_;refine piece_app (segRun_of (MR w hp Zo os _)) ?_;refine piece_app (segRun_of (MQ w hp Zo os _)) ?_;refine piece_app (segRun_of (MP w hp Zo os _)) ?_;refine piece_app (segRun_of (MO w hp Zo os _)) ?_;refine piece_app (segRun_of (MN w hp Zo os _)) ?_;refine piece_app (segRun_of (ML w hp Zo os _)) ?_;refine piece_app (segRun_of (MK w hp Zo os _)) ?_;refine piece_app (segRun_of (MJ w hp Zo os _)) ?_;refine piece_app (segRun_of (MI w hp Zo os _)) ?_;exact O1 w os _
noncomputable abbrev QE(P:Params):Heap:=absHeap (Cr P) 425 {}
theorem Lk(P:Params):(QE P).isNs mainGlobals=true:=by kernel_rfl
theorem Fm(P:Params):(QE P).isNs builtinsNs=true:=by kernel_rfl
theorem Ec(P:Params):(QE P).bmainOk=true:=by kernel_rfl
theorem Ea(P:Params):namesBound hp (QE P)=true:=by kernel_rfl
theorem O7(P:Params):laidKept (boot_heap P) (QE P)=true:=by kernel_rfl
theorem GV(P:Params):staticsOk (importedModules hp.main.body) (boot_heap P) (QE P)=true:=by kernel_rfl
theorem Cy(P:Params):(QE P).accountedOkI (importedModules hp.main.body)=true:=by kernel_rfl
theorem Cv(P:Params):(QE P).bltView=bltViewBooted:=by kernel_rfl
theorem O4:opening hp=plainProg hp.main.scope.names:=by kernel_rfl
theorem Eb(s:Shared):fenceModules? hp s=some s:=by kernel_rfl
theorem NT(P:Params):((boot_heap P).isNs mainGlobals&&(Array.mk ([]:List GenState)).size == 0,(boot_heap P).objs.size,(boot_heap P).nsMap mainGlobals "__annotations__")=(true,11,Jo):=by kernel_rfl
end
section
open PySem PySem.W PySem.Calls PyProof.Rows
theorem GP(w:World):∃s,AfterRun (opening hp) w s/\∃os,fenceModules? hp s=some ⟨boot_heap w.params,Array.mk [],boot_drawn,boot_toks,os⟩:=by
 have o:=boot_open (p:=hp) (N:=600) O4 (rfl) Eb w;obtain⟨⟨h,g,d,k,os⟩,e,e'⟩:=Option.map_eq_some_iff.mp o;obtain⟨rfl,rfl,rfl,rfl⟩:h=boot_heap w.params/\g=Array.mk []/\d=boot_drawn/\k=boot_toks:=by simpa using e'
 rw[<- table_eq_tree] at e;obtain⟨s,h4,h5⟩:=Option.bind_eq_some_iff.mp e;exact⟨s,AfterImport.of_importEnds h4,os,h5⟩
structure HF(w:World)(H:Heap):Prop where
 ns1:H.isNs mainGlobals=true
 ns2:H.isNs builtinsNs=true
 bm:H.bmainOk=true
 nm:namesBound hp H=true
 laid:laidKept (boot_heap w.params) H=true
 stat:staticsOk (importedModules hp.main.body) (boot_heap w.params) H=true
 acc:H.accountedOkI (importedModules hp.main.body)=true
 blt:H.bltView=bltViewBooted
theorem Le(w:World)(fin:OsState->Shared)(hF:∀os,HF w (fin os).heap)(hg:∀os,(fin os).gens=#[]){N:Nat}(hr:∀os,topRun treeTable hp w 11 Jo N ⟨boot_heap w.params,Array.mk [],boot_drawn,boot_toks,os⟩ (topStub hp)=some (fin os)):
  (∃s,AfterRun (opening hp) w s)/\∀s,AfterRun (opening hp) w s->∃s₀,fenceModules? hp s=some s₀/\s₀.gens=#[]/\∃os,TopRan hp w s₀ (fin os)/\(fin os).asleep:=by
 obtain⟨s,A,os,h5⟩:=GP w;refine⟨⟨s,A⟩,fun s' hs'=>?_⟩;obtain rfl:s'=s:=AfterImport.unique hs' A;refine⟨_,h5,rfl,os,?_⟩;have z:Shared.asleep ⟨boot_heap w.params,Array.mk [],boot_drawn,boot_toks,os⟩:=Shared.asleep_of_life (fence_lifeW h5) (AfterImport.life A);have r:=hr os;have f:=hF os;have hg':=hg os;generalize fin os=F at r f hg' ⊢;rw[<- table_eq_tree] at r;obtain⟨a,l,os',fr⟩:=topRun_spec _ _ _ _ z r;have hsz:(boot_heap w.params).objs.size=11:=congrArg (fun x=>x.2.1) (NT w.params);have hann:(boot_heap w.params).nsMap mainGlobals "__annotations__"=Jo:=congrArg (fun x=>x.2.2) (NT w.params);have hg0:(boot_heap w.params).isNs mainGlobals=true:=by
  have:=congrArg (fun x=>x.1) (NT w.params);exact(Bool.and_eq_true_iff.mp this).1
 refine⟨⟨a,l,Shared.rest_eq os',fun b o hb hn=>fr b o ?_ (fun q=>hn (.inl q)) (fun q=>hn (.inr (.inl q))) (fun q=>hn (.inr (.inr ?_))) hb,?_,statics_of_ok (f.stat),Pin.keysAreStrs_of (f.ns1),fun x hx=>(Pin.builtinOf_eq (f.ns2) x).trans (Heap.of_bltView (f.ns2) (f.blt) x hx),?_,?_,names_of_bound (f.nm),laid_of_kept (f.laid)⟩,Shared.asleep_of_life l z⟩
 ·have:=Heap.lt_size hb;rwa [hsz] at this
 ·exact(Pin.globalOf_eq hg0 _).trans (hann.trans q)
 ·exact Heap.accountedI_of_ok (f.acc)
 ·obtain⟨bm,ob,b1,_,b3,b4,b5,_⟩:=Heap.bmainOk_spec (f.bm);exact⟨bm,ob,(Pin.globalOf_eq (f.ns1) _).trans b1,b3,b4,b5⟩
 ·intro g hg;rw[hg'] at hg;exact absurd hg (by simp)
theorem XJ(w:World)(os:OsState):(XN w os).abs.heap=QE w.params:=by kernel_rfl
theorem GS(w:World):HF w (QE w.params):=⟨Lk w.params,Fm w.params,Ec w.params,Ea w.params,O7 w.params,GV w.params,Cy w.params,Cv w.params⟩
theorem XM(w:World)(os:OsState):(XN w os).abs.gens=#[]:=by kernel_rfl
theorem XE(w:World):(∃s,AfterRun (opening hp) w s)/\∀s,AfterRun (opening hp) w s->∃s₀,fenceModules? hp s=some s₀/\s₀.gens=#[]/\∃os,TopRan hp w s₀ (XN w os).abs/\(XN w os).abs.asleep:=
 Le w (fun os=>(XN w os).abs) (fun os=>Eq.mpr (congrArg (HF w) (XJ w os)) (GS w)) (XM w) (Bz w)
noncomputable def VW(D:Q8)(c:Int):Int:=
 let f:=D.mixed+604444 * ((D.turn+1:Nat):Int) * ((D.turn+1:Nat):Int)+c
 let f:=(f.fmod 2147483629 * 40692).fmod 2147483647
 let f:=(f * f+4444).fmod 2147483587
 (f * 39373).fmod 2147483579
noncomputable def Ka:List AV->Q8->Option (AV×Q8)
 | [.deck,.int below],D=>if below<=0\/1000 < below\/1000000<=D.turn then none else
  match D.cells.getLast? with
  | some c=>
   if 1000000<=c then some (.int (c.fmod below),{ D with cells:=D.cells.dropLast++[c.fdiv below],turn:=D.turn+1 })
   else some (.int ((VW D (c.fmod 2147483563)).fdiv 64 |>.fmod below),{ D with cells:=D.cells.dropLast,turn:=D.turn+1 })
  | none=>some (.int ((VW D 0).fdiv 64 |>.fmod below),{ D with turn:=D.turn+1 })
 | _,_=>none
noncomputable def Ys(code:Fn->FC)(W:Nat):Nat->Fn->List AV->Q8->Option (Out×Q8)
 | 0,_,_,_=>none
 | n+1,f,as,D=>if f=.k33 then(Ka as D).map fun p=>(.ret p.1,p.2) else
  let c:=code f
  if as.length=c.params then
   match execs (fun f as D=>match Ys code W n f as D with|some (.ret v,D1)=>some (v,D1)|_=>none) (AV.noModis as) c.own W c.body (as.map .val++List.replicate (c.slots - c.params) .u) D with
   | some (.ret v,_,D1)=>some (.ret v,D1)
   | some (.next,_,D1)=>some (.ret .none,D1)
   | some (.exc v,_,D1)=>some (.exc v,D1)
   | none=>none
  else none
noncomputable def ZA(code:Fn->FC)(W n:Nat):Qj:=fun f as D=>match Ys code W n f as D with|some (.ret v,D1)=>some (v,D1)|_=>none
theorem U0{code:Fn->FC}{W n:Nat}{f:Fn}{as:List AV}{D:Q8}:Ys code W (n+1) f as D=if f=.k33 then(Ka as D).map fun p=>(.ret p.1,p.2) else
  if as.length=(code f).params then
   match execs (ZA code W n) (AV.noModis as) (code f).own W (code f).body (as.map .val++List.replicate ((code f).slots - (code f).params) .u) D with
   | some (.ret v,_,D1)=>some (.ret v,D1)
   | some (.next,_,D1)=>some (.ret .none,D1)
   | some (.exc v,_,D1)=>some (.exc v,D1)
   | none=>none
  else none:=rfl
noncomputable abbrev pw:Program:=PySem.Challenge.pw_og0273_01
noncomputable abbrev PM:=Addr->Option Obj
noncomputable def PM.le(g h:PM):Prop:=∀b o,g b=some o->h b=some o
theorem PM.le.refl(g:PM):PM.le g g:=fun Z Z e=>e
theorem PM.le.trans{a b c:PM}(x:PM.le a b)(y:PM.le b c):PM.le a c:=fun k o e=>y k o (x k o e)
structure Qu where
 w:World
 dk:List Addr
 da:Addr
 ca:Addr
 mg:Str->Option Value
 mb:Str->Option Value
 K:Frag
noncomputable abbrev Qu.M(X:Qu):Model:=model pw X.w
noncomputable def Z8(b:List UInt8):AV:=.bytes (b.map UInt8.toNat)
noncomputable def WZ(s:Str):AV:=.str s.cps.toList
noncomputable abbrev modC:Addr:=125
noncomputable abbrev excC:Addr:=45
inductive BL(g:PM)(v:Value)(td:List (List Nat)):Prop
 | mk (a:Addr) (o:Obj) (vs:Array Value) (n:Nat) (e:v=.ref a) (h:g a=some o) (c:o.cls=.type "list") (d:o.data=.seq vs n) (x:o.dict=none) (y:o.slots=#[]) (bt:List (Array UInt8×Tok)) (k1:vs.toList=bt.map (fun p=>.bytes p.1 p.2)) (k2:bt.map (fun p=>p.1.toList.map UInt8.toNat)=td)
theorem BL.up{g g':PM}{v:Value}{td:List (List Nat)}(h:BL g v td)(hs:PM.le g g'):BL g' v td:=
 let⟨a,o,vs,n,h1,h2,h3,h4,h5,h6,h7,h8,h9⟩:=h;⟨a,o,vs,n,h1,hs _ _ h2,h3,h4,h5,h6,h7,h8,h9⟩
theorem BL.one{g:PM}{v:Value}{td td':List (List Nat)}(h:BL g v td)(h':BL g v td'):td=td':=by
 refine cps fun U y0=>?_;obtain⟨a,o,vs,n,rfl,h2,h3,h4,_,_,bt,h7,h8⟩:=h;obtain⟨a',o',vs',n',e,k2,k3,k4,_,_,bt',k7,k8⟩:=h';cases e;replace k2:=Eq.trans h2.symm k2;obtain rfl:=so k2;replace k4:=Eq.trans h4.symm k4;cases k4;refine y0 ?_;rw[h7] at k7;have:bt=bt':=by
  have inj:∀a b:List (Array UInt8×Tok),a.map (fun p=>Value.bytes p.1 p.2)=b.map (fun p=>Value.bytes p.1 p.2)->a=b:=fun a=>by
   induction a with
   | nil=>intro b h;cases b with|nil=>rfl|cons _ _=>simp at h
   | cons x r ih=>
    intro b h;rcases b with _|⟨y,r2⟩
    ·simp at h
    ·
     rw[List.map_cons,List.map_cons,List.cons.injEq] at h;obtain⟨x1,x2⟩:=x;have y1:=y.1;have y2:=y.2;have:=h.1;simp only[Value.bytes.injEq] at this;rw[this.1,this.2,ih r2 h.2]
  exact inj _ _ k7
 rw[<- h8,<-k8,this]
noncomputable abbrev Zb(h1:Int)(t1:Tok)(vn:Value)(h2:Int)(t2:Tok)(vt:Value)(n:Nat):Obj:=dictOf [⟨h1,.str "name" t1,vn⟩,⟨h2,.str "told" t2,vt⟩] n
inductive qJ(P0 g g':PM)(b:Addr)(o:Obj):Prop
 | mk (z:P0 b=none) (h1:Int) (t1:Tok) (vn:Value) (h2:Int) (t2:Tok) (vt vt':Value) (n n':Nat) (e:o=Zb h1 t1 vn h2 t2 vt n) (e2:g' b=some (Zb h1 t1 vn h2 t2 vt' n')) (k:∀td,BL g vt td->BL g' vt' td)
noncomputable def PM.leM(P0 g g':PM):Prop:=∀b o,g b=some o->g' b=some o\/qJ P0 g g' b o
theorem PM.le.m{P0 g g':PM}(h:PM.le g g'):PM.leM P0 g g':=fun b o e=>.inl (h b o e)
noncomputable abbrev Pt(n:Nat)(t0 t1 t2:Tok):Obj:={ cls:=.type "range",data:=.fields #[.int 0 t0,.int (n:Nat) t1,.int 1 t2] }
noncomputable abbrev Z3(b:Array UInt8):Obj:={ cls:=.type "bytearray",data:=.bytearray b }
inductive qK(g:PM)(R:List Value->Prop)(v:Value):Prop
 | mk (a:Addr) (o:Obj) (vs:Array Value) (n:Nat) (e:v=.ref a) (h:g a=some o) (c:o.cls=.type "list") (d:o.data=.seq vs n) (x:o.dict=none) (y:o.slots=#[]) (r:R vs.toList)
inductive qp(g:PM)(R:List Value->Prop)(v:Value):Prop
 | mk (a:Addr) (o:Obj) (vs:Array Value) (n:Nat) (e:v=.ref a) (h:g a=some o) (c:o.cls=.type "tuple") (d:o.data=.seq vs n) (r:R vs.toList)
inductive qI(P0 g:PM)(nm:List Nat)(td:List (List Nat))(v:Value):Prop
 | mk (a dx:Addr) (h1:Int) (t1:Tok) (h2:Int) (t2:Tok) (n:Nat) (vn vt:Value) (e:v=.ref a) (k1:g a=some (instObj modC dx)) (k2:g dx=some (Zb h1 t1 vn h2 t2 vt n)) (k3:P0 dx=none) (k4:∃b t,vn=.bytes b t/\b.toList.map UInt8.toNat=nm) (k5:BL g vt td)
inductive qF(g:PM)(n:Nat)(v:Value):Prop
 | mk (a:Addr) (t0 t1 t2:Tok) (e:v=.ref a) (h:g a=some (Pt n t0 t1 t2))
inductive qQ(g:PM)(l:List Nat)(v:Value):Prop
 | mk (a:Addr) (b:Array UInt8) (e:v=.ref a) (h:g a=some (Z3 b)) (k:b.toList.map UInt8.toNat=l)
inductive qP(X:Qu)(g:PM)(ks:List AV)(R:List Value->Prop)(v:Value):Prop
 | mk (a:Addr) (o:Obj) (vals:List Value) (e:v=.ref a) (s:(a == sysModules)=false) (h:g a=some o) (r:R vals)
   (k:(∃k:List (List UInt8),ks=k.map Z8/\k.length=vals.length/\o.IsDictOf (bytesKind pw X.w) (k.zip vals))\/
    (∃k:List Int,ks=k.map .int/\k.length=vals.length/\o.IsDictOf (intKind pw X.w) (k.zip vals))\/
    (∃k:List Str,ks=k.map WZ/\k.length=vals.length/\o.IsDictOf (strKind pw X.w) (k.zip vals)))
inductive ES(i:Int)(v:Value):Prop
 | mk (t:Tok) (e:v=.int i t)
inductive CV(s:List Nat)(v:Value):Prop
 | mk (x:Str) (t:Tok) (e:v=.str x t) (k:x.cps.toList=s)
inductive ON(l:List Nat)(v:Value):Prop
 | mk (b:Array UInt8) (t:Tok) (e:v=.bytes b t) (k:b.toList.map UInt8.toNat=l)
inductive Bk(p:Value->Prop)(q:List Value->Prop)(vs:List Value):Prop
 | mk (v:Value) (r:List Value) (e:vs=v::r) (h:p v) (k:q r)
mutual
noncomputable def VR(X:Qu)(P0 g:PM):AV->Value->Prop
 | .none,v=>v=.none
 | .bool b,v=>v=.bool b
 | .int i,v=>ES i v
 | .str s,v=>CV s v
 | .bytes l,v=>ON l v
 | .list ds,v=>qK g (Qo X P0 g ds) v
 | .tuple ds,v=>qp g (Qo X P0 g ds) v
 | .modi nm td,v=>qI P0 g nm td v
 | .dict ks vs,v=>qP X g ks (Qo X P0 g vs) v
 | .rng n,v=>qF g n v
 | .barr l,v=>qQ g l v
 | .deck,v=>v=.ref X.da
noncomputable def Qo(X:Qu)(P0 g:PM):List AV->List Value->Prop
 | [],vs=>vs=[]
 | d::ds,vs=>Bk (VR X P0 g d) (Qo X P0 g ds) vs
end
theorem Qo.one_is{X:Qu}{P0 g:PM}{d:AV}{vs:List Value}(h:Qo X P0 g [d] vs):∃v,vs=[v]/\VR X P0 g d v:=by
 dsimp only[Qo] at h;obtain⟨v,r,rfl,h1,h2⟩:=h;exact⟨v,congrArg _ (h2 ..),h1⟩
theorem Qo.two_is{X:Qu}{P0 g:PM}{d e:AV}{vs:List Value}(h:Qo X P0 g [d,e] vs):∃v w,vs=[v,w]/\VR X P0 g d v/\VR X P0 g e w:=by
 refine cps fun U y0=>?_;obtain⟨v,r,rfl,h1,h2⟩:=h;obtain⟨w,e,h3⟩:=h2.one_is;refine y0 ?_;exact⟨v,w,congrArg _ (e ..),h1,h3⟩
theorem VR.bytes_is{X:Qu}{P0 g:PM}{l:List Nat}{v:Value}(h:VR X P0 g (.bytes l) v):ON l v:=by dsimp only[VR] at h;exact h
theorem VR.str_is{X:Qu}{P0 g:PM}{l:List Nat}{v:Value}(h:VR X P0 g (.str l) v):CV l v:=by dsimp only[VR] at h;exact h
theorem VR.bool_is{X:Qu}{P0 g:PM}{b:Bool}{v:Value}(h:VR X P0 g (.bool b) v):v=.bool b:=by dsimp only[VR] at h;exact h
theorem Qo.len{X:Qu}{P0 g:PM}:∀{ds:List AV} {vs:List Value},Qo X P0 g ds vs->vs.length=ds.length:=by
 intro zz
 induction zz with
 | nil=>
  intro vs h;dsimp only[Qo] at h;subst h;rfl
 | cons d ds ih=>
  intro vs h;dsimp only[Qo] at h;obtain⟨v,r,rfl,_,h2⟩:=h;rw[List.length_cons,List.length_cons,ih h2]
theorem PM.leM.le{P0 g g1 g2:PM}(x:PM.leM P0 g g1)(y:PM.le g1 g2):PM.leM P0 g g2:=fun b o e=>by
 rcases x b o e with q|⟨q,h1,t1,vn,h2,t2,vt,vt',n,n',e1,e2,e3⟩
 ·exact .inl (y _ _ q)
 ·exact .inr ⟨q,h1,t1,vn,h2,t2,vt,vt',n,n',e1,y _ _ e2,fun td h=>(e3 td h).up y⟩
theorem H8{h1:Int}{t1:Tok}{vn:Value}{h2:Int}{t2:Tok}{vt:Value}{n:Nat}:(Zb h1 t1 vn h2 t2 vt n).cls=.type "dict":=rfl
theorem PM.leM.keep{P0 g g':PM}(x:PM.leM P0 g g'){b:Addr}{o:Obj}(e:g b=some o)(hc:o.cls≠.type "dict"):g' b=some o:=by
 rcases x b o e with q|⟨q,h1,t1,vn,h2,t2,vt,vt',n,n',e1,_⟩
 ·exact q
 ·subst e1;exact absurd H8 hc
theorem BL.upM{P0 g g':PM}{v:Value}{td:List (List Nat)}(h:BL g v td)(x:PM.leM P0 g g'):BL g' v td:=
 let⟨a,o,vs,n,h1,h2,h3,h4,h5,h6,h7,h8,h9⟩:=h;⟨a,o,vs,n,h1,x.keep h2 (by rw[h3];decide),h3,h4,h5,h6,h7,h8,h9⟩
theorem PM.leM.trans{P0 g g1 g2:PM}(x:PM.leM P0 g g1)(y:PM.leM P0 g1 g2):PM.leM P0 g g2:=fun b o e=>by
 rcases x b o e with q|⟨q,h1,t1,vn,h2,t2,vt,vt',n,n',rfl,e2,e3⟩
 ·rcases y b o q with z|⟨z,h1,t1,vn,h2,t2,vt,vt',n,n',rfl,e2,e3⟩
  ·exact .inl z
  ·exact .inr ⟨z,h1,t1,vn,h2,t2,vt,vt',n,n',rfl,e2,fun td h=>e3 td (h.upM x)⟩
 ·rcases y b _ e2 with z|⟨z,h1',t1',vn',h2',t2',vt1,vt2,m,m',f1,f2,f3⟩
  ·exact .inr ⟨q,h1,t1,vn,h2,t2,vt,vt',n,n',rfl,z,fun td h=>(e3 td h).upM y⟩
  ·simp only[Zb,dictOf,Obj.mk.injEq,Data.dict.injEq,List.toArray_inj,List.cons.injEq,DictEntry.mk.injEq,Value.str.injEq,true_and,and_true] at f1;refine cps fun U y0=>?_;obtain⟨⟨⟨rfl,rfl,rfl⟩,rfl,rfl,rfl⟩,rfl⟩:=f1;refine y0 ?_;exact .inr ⟨q,h1,t1,vn,h2,t2,vt,vt2,n,m',rfl,f2,fun td h=>f3 td (e3 td h)⟩
mutual
theorem VR.mono{X:Qu}{P0 g P0' g':PM}(hg:PM.le g g')(hP:∀b,P0 b=none->P0' b=none):∀{d:AV} {v:Value},VR X P0 g d v->VR X P0' g' d v
 | .none,_,h=>by dsimp only[VR] at *;exact h
 | .bool _,_,h=>by dsimp only[VR] at *;exact h
 | .int _,_,h=>by dsimp only[VR] at *;exact h
 | .str _,_,h=>by dsimp only[VR] at *;exact h
 | .bytes _,_,h=>by dsimp only[VR] at *;exact h
 | .list ds,v,h=>by
  dsimp only[VR] at *;obtain⟨a,o,vs,n,h1,h2,h3,h4,h5,h6,h7⟩:=h;exact⟨a,o,vs,n,h1,hg _ _ h2,h3,h4,h5,h6,Qo.mono hg hP h7⟩
 | .tuple ds,v,h=>by
  dsimp only[VR] at *;obtain⟨a,o,vs,n,h1,h2,h3,h4,h7⟩:=h;exact⟨a,o,vs,n,h1,hg _ _ h2,h3,h4,Qo.mono hg hP h7⟩
 | .modi _ _,v,h=>by
  dsimp only[VR] at *;obtain⟨a,dx,h1,t1,h2,t2,n,vn,vt,e1,e2,e3,e4,e5,e6⟩:=h;exact⟨a,dx,h1,t1,h2,t2,n,vn,vt,e1,hg _ _ e2,hg _ _ e3,hP _ e4,e5,e6.up hg⟩
 | .dict ks vs,v,h=>by
  dsimp only[VR] at *;obtain⟨a,o,vals,h1,h2,h3,h4,h5⟩:=h;exact⟨a,o,vals,h1,h2,hg _ _ h3,Qo.mono hg hP h4,h5⟩
 | .rng _,v,h=>by
  dsimp only[VR] at *;obtain⟨a,t0,t1,t2,h1,h2⟩:=h;exact⟨a,t0,t1,t2,h1,hg _ _ h2⟩
 | .barr _,v,h=>by
  dsimp only[VR] at *;obtain⟨a,b,h1,h2,h3⟩:=h;exact⟨a,b,h1,hg _ _ h2,h3⟩
 | .deck,_,h=>by dsimp only[VR] at *;exact h
theorem Qo.mono{X:Qu}{P0 g P0' g':PM}(hg:PM.le g g')(hP:∀b,P0 b=none->P0' b=none):∀{ds:List AV} {vs:List Value},Qo X P0 g ds vs->Qo X P0' g' ds vs
 | [],_,h=>by dsimp only[Qo] at *;exact h
 | d::ds,vs,h=>by
  dsimp only[Qo] at *;obtain⟨v,r,h1,h2,h3⟩:=h;exact⟨v,r,h1,VR.mono hg hP h2,Qo.mono hg hP h3⟩
end
theorem VR.up{X:Qu}{P0 g g':PM}{d:AV}{v:Value}(h:VR X P0 g d v)(hg:PM.le g g'):VR X P0 g' d v:=h.mono hg fun Z e=>e
theorem Qo.up{X:Qu}{P0 g g':PM}{d:List AV}{v:List Value}(h:Qo X P0 g d v)(hg:PM.le g g'):Qo X P0 g' d v:=h.mono hg fun Z e=>e
theorem K2{X:Qu}{h1:Int}{t1:Tok}{vn:Value}{h2:Int}{t2:Tok}{vt:Value}{n:Nat}{K:Type}[DecidableEq K]{knd:KeyKind pw X.w K}{kvs:List (K×Value)}
  (h:Obj.IsDictOf knd (Zb h1 t1 vn h2 t2 vt n) kvs):∃k,knd.is k (.str "name" t1)=true:=by
 refine cps fun U y0=>?_;obtain⟨es,ep,_,e,hk,_⟩:=h;have:es=#[⟨h1,.str "name" t1,vn⟩,⟨h2,.str "told" t2,vt⟩]:=by
  have:Data.dict #[⟨h1,.str "name" t1,vn⟩,⟨h2,.str "told" t2,vt⟩] n=Data.dict es ep:=e;simp only[Data.dict.injEq] at this;exact this.1.symm
 subst this;obtain⟨k,h,_⟩:=hk ⟨h1,.str "name" t1,vn⟩ (by simp);refine y0 ?_;exact⟨k,h⟩
mutual
theorem VR.upM{X:Qu}{P0 g g':PM}(hg:PM.leM P0 g g'):∀{d:AV} {v:Value},d.noStrD=true->VR X P0 g d v->VR X P0 g' d v
 | .none,_,_,h=>by dsimp only[VR] at *;exact h
 | .bool _,_,_,h=>by dsimp only[VR] at *;exact h
 | .int _,_,_,h=>by dsimp only[VR] at *;exact h
 | .str _,_,_,h=>by dsimp only[VR] at *;exact h
 | .bytes _,_,_,h=>by dsimp only[VR] at *;exact h
 | .list ds,v,hn,h=>by
  dsimp only[VR] at *;dsimp only[AV.noStrD] at hn;obtain⟨a,o,vs,n,h1,h2,h3,h4,h5,h6,h7⟩:=h;exact⟨a,o,vs,n,h1,hg.keep h2 (by rw[h3];decide),h3,h4,h5,h6,Qo.upM hg hn h7⟩
 | .tuple ds,v,hn,h=>by
  dsimp only[VR] at *;dsimp only[AV.noStrD] at hn;obtain⟨a,o,vs,n,h1,h2,h3,h4,h7⟩:=h;exact⟨a,o,vs,n,h1,hg.keep h2 (by rw[h3];decide),h3,h4,Qo.upM hg hn h7⟩
 | .modi _ _,v,hn,h=>by
  dsimp only[VR] at *;obtain⟨a,dx,h1,t1,h2,t2,n,vn,vt,e1,e2,e3,e4,e5,e6⟩:=h;have e2':=hg.keep e2 (by show Value.ref modC≠_;decide);rcases hg _ _ e3 with z|⟨z,h1',t1',vn',h2',t2',vt1,vt2,m,m',f1,f2,f3⟩
  ·exact⟨a,dx,h1,t1,h2,t2,n,vn,vt,e1,e2',z,e4,e5,e6.upM hg⟩
  ·simp only[Zb,dictOf,Obj.mk.injEq,Data.dict.injEq,List.toArray_inj,List.cons.injEq,DictEntry.mk.injEq,Value.str.injEq,true_and,and_true] at f1;obtain⟨⟨⟨rfl,rfl,rfl⟩,rfl,rfl,rfl⟩,rfl⟩:=f1;exact⟨a,dx,h1,t1,h2,t2,m',vn,vt2,e1,e2',f2,e4,e5,f3 _ e6⟩
 | .dict ks vs,v,hn,h=>by
  dsimp only[VR] at *;dsimp only[AV.noStrD] at hn;rw[Bool.and_eq_true,Bool.not_eq_true'] at hn;obtain⟨a,o,vals,h1,h2,h3,h4,h5⟩:=h;have h3':g' a=some o:=by
   rcases hg _ _ h3 with z|⟨z,q1,s1,vn,q2,s2,vt1,vt2,m,m',f1,f2,f3⟩
   ·exact z
   ·exfalso;subst f1;rcases h5 with⟨k,e1,e2,e3⟩|⟨k,e1,e2,e3⟩|⟨k,e1,e2,e3⟩
    ·obtain⟨k,hk⟩:=K2 e3;simp[bytesKind,isBytes] at hk
    ·obtain⟨k,hk⟩:=K2 e3;simp[intKind,Value.isInt] at hk
    ·cases k with
     | nil=>
      obtain⟨es,ep,_,e,_,hp,_⟩:=e3;have hl:=hp.length;have:Data.dict #[⟨q1,.str "name" s1,vn⟩,⟨q2,.str "told" s2,vt1⟩] m=Data.dict es ep:=e;simp only[Data.dict.injEq] at this;rw[<- this.1] at hl;simp at hl
     | cons x r=>rw[e1] at hn;exact Bool.false_ne_true hn.1.symm
  exact⟨a,o,vals,h1,h2,h3',Qo.upM hg hn.2 h4,h5⟩
 | .rng _,v,_,h=>by
  dsimp only[VR] at *;obtain⟨a,t0,t1,t2,h1,h2⟩:=h;exact⟨a,t0,t1,t2,h1,hg.keep h2 (by show Value.type "range"≠_;decide)⟩
 | .barr _,v,_,h=>by
  dsimp only[VR] at *;obtain⟨a,b,h1,h2,h3⟩:=h;exact⟨a,b,h1,hg.keep h2 (by show Value.type "bytearray"≠_;decide),h3⟩
 | .deck,_,_,h=>by dsimp only[VR] at *;exact h
theorem Qo.upM{X:Qu}{P0 g g':PM}(hg:PM.leM P0 g g'):∀{ds:List AV} {vs:List Value},AV.noStrDs ds=true->Qo X P0 g ds vs->Qo X P0 g' ds vs
 | [],_,_,h=>by dsimp only[Qo] at *;exact h
 | d::ds,vs,hn,h=>by
  dsimp only[Qo] at *;dsimp only[AV.noStrDs] at hn;rw[Bool.and_eq_true] at hn;obtain⟨v,r,h1,h2,h3⟩:=h;exact⟨v,r,h1,VR.upM hg hn.1 h2,Qo.upM hg hn.2 h3⟩
end
mutual
theorem VR.anyP{X:Qu}{P0 P1 g:PM}:∀{d:AV} {v:Value},d.noModi=true->VR X P0 g d v->VR X P1 g d v
 | .none,_,_,h=>by dsimp only[VR] at *;exact h
 | .bool _,_,_,h=>by dsimp only[VR] at *;exact h
 | .int _,_,_,h=>by dsimp only[VR] at *;exact h
 | .str _,_,_,h=>by dsimp only[VR] at *;exact h
 | .bytes _,_,_,h=>by dsimp only[VR] at *;exact h
 | .list ds,v,hn,h=>by
  dsimp only[VR] at *;dsimp only[AV.noModi] at hn;obtain⟨a,o,vs,n,h1,h2,h3,h4,h5,h6,h7⟩:=h;exact⟨a,o,vs,n,h1,h2,h3,h4,h5,h6,Qo.anyP hn h7⟩
 | .tuple ds,v,hn,h=>by
  dsimp only[VR] at *;dsimp only[AV.noModi] at hn;obtain⟨a,o,vs,n,h1,h2,h3,h4,h7⟩:=h;exact⟨a,o,vs,n,h1,h2,h3,h4,Qo.anyP hn h7⟩
 | .modi _ _,v,hn,h=>by dsimp only[AV.noModi] at hn;cases hn
 | .dict ks vs,v,hn,h=>by
  dsimp only[VR] at *;dsimp only[AV.noModi] at hn;obtain⟨a,o,vals,h1,h2,h3,h4,h5⟩:=h;exact⟨a,o,vals,h1,h2,h3,Qo.anyP (Bool.and_eq_true_iff.mp hn).2 h4,h5⟩
 | .rng _,v,_,h=>by dsimp only[VR] at *;exact h
 | .barr _,v,_,h=>by dsimp only[VR] at *;exact h
 | .deck,_,_,h=>by dsimp only[VR] at *;exact h
theorem Qo.anyP{X:Qu}{P0 P1 g:PM}:∀{ds:List AV} {vs:List Value},AV.noModis ds=true->Qo X P0 g ds vs->Qo X P1 g ds vs
 | [],_,_,h=>by dsimp only[Qo] at *;exact h
 | d::ds,vs,hn,h=>by
  dsimp only[Qo] at *;dsimp only[AV.noModis] at hn;obtain⟨v,r,h1,h2,h3⟩:=h;exact⟨v,r,h1,VR.anyP (Bool.and_eq_true_iff.mp hn).1 h2,Qo.anyP (Bool.and_eq_true_iff.mp hn).2 h3⟩
end
structure Qs(dk:List Addr)(g:PM)(h:Heap)(g':PM)(h':Heap):Prop where
 keep:∀b o,h.get? b=some o->∃o',h'.get? b=some o'/\(b∉dk->o'=o)
 up:PM.le g g'
 new:∀b o,g' b=some o->g b=some o\/h.get? b=none
 sub:PM.le g' h'.get?
theorem Qs.refl{dk:List Addr}{g:PM}{h:Heap}(hs:PM.le g h.get?):Qs dk g h g h:=⟨fun Z o e=>⟨o,e,fun Z=>rfl⟩,PM.le.refl _,fun Z Z e=>.inl e,hs⟩
theorem Qs.trans{dk:List Addr}{g g1 g2:PM}{h h1 h2:Heap}(x:Qs dk g h g1 h1)(y:Qs dk g1 h1 g2 h2):Qs dk g h g2 h2:=by
 refine⟨fun b o e=>?_,x.up.trans y.up,fun b o e=>?_,y.sub⟩
 ·obtain⟨o1,e1,k1⟩:=x.keep b o e;obtain⟨o2,e2,k2⟩:=y.keep b o1 e1;exact⟨o2,e2,fun hb=>(k2 hb).trans (k1 hb)⟩
 ·rcases y.new b o e with e|e
  ·exact x.new b o e
  ·right;rcases q:h.get? b with _|o0
   ·rfl
   ·
    obtain⟨o1,e1,_⟩:=x.keep b o0 q;exact Qf (e.symm.trans e1)
theorem Qs.same{dk:List Addr}{g:PM}{h h':Heap}(hs:PM.le g h.get?)(hk:∀b o,h.get? b=some o->h'.get? b=some o):Qs dk g h g h':=
 ⟨fun Z o e=>⟨o,hk _ _ e,fun Z=>rfl⟩,PM.le.refl _,fun Z Z e=>.inl e,hs.trans hk⟩
noncomputable def PM.add(g:PM)(a:Addr)(o:Obj):PM:=fun b=>if b=a then some o else g b
set_option tactic.hygienic true in
theorem Qs.add{dk:List Addr}{g:PM}{h h':Heap}{a:Addr}{o:Obj}(hs:PM.le g h.get?)(hk:∀b o,h.get? b=some o->h'.get? b=some o)(ha:h.get? a=none)(ho:h'.get? a=some o):
  Qs dk g h (g.add a o) h':=by
 refine⟨fun Z o e=>⟨o,hk _ _ e,fun Z=>rfl⟩,fun b o' e=>?_,fun b o' e=>?_,fun b o' e=>?_⟩
 ·unfold PM.add
  split
  ·rename_i q;subst q;replace ha:=Eq.trans (hs _ _ e).symm ha;cases ha
  ·exact e
 ·unfold PM.add at e
  split at e
  ·rename_i q;subst q;exact .inr ha
  ·exact .inl e
 ·unfold PM.add at e
  split at e
  ·rename_i q;subst q;obtain rfl:=so e;exact ho
  ·exact hk _ _ (hs _ _ e)
theorem PM.add_self(g:PM)(a:Addr)(o:Obj):g.add a o a=some o:=if_pos rfl
noncomputable def QO(X:Qu)(D:Q8)(h:Heap):Prop:=X.dk=[]\/
 (X.dk=[X.da,X.ca]/\X.da≠X.ca/\(X.da == sysModules)=false/\
  (∃t1 t2,h.DictOf (strKind pw X.w) X.da [(("cells":Str),.ref X.ca),("mixed",.int D.mixed t1),("turn",.int (D.turn:Nat) t2)])/\
  ∃o vs n,h.get? X.ca=some o/\o.cls=.type "list"/\o.data=.seq vs n/\o.dict=none/\o.slots=#[]/\IntsAre vs.toList D.cells/\D.cells.length<=1000)
theorem QO.keeps{X:Qu}{D:Q8}{h h':Heap}(x:QO X D h)(hk:∀b o,h.get? b=some o->h'.get? b=some o):QO X D h':=by
 rcases x with x|⟨a,b,c,⟨t1,t2,d⟩,o,vs,n,e,r⟩
 ·exact .inl x
 ·exact .inr ⟨a,b,c,⟨t1,t2,d.keep hk⟩,o,vs,n,hk _ _ e,r⟩
noncomputable def Zc(x:List Nat):Str:=⟨x.toArray⟩
structure FnAt(X:Qu)(g:PM)(x:List Nat)(f:Addr)(d:Arguments×List Stmt×Scope):Prop where
 name:X.mg (Zc x)=some (.ref f)
 obj:∃o pm code doc,g f=some o/\o.data=.func (docDef (Zc x) d.1 d.2.1 d.2.2 pm code doc)/\∃c oc vs t,code=.ref c/\g c=some oc/\oc.data=.fields vs/\vs[1]?=some (.str (Zc x) t)
inductive u3(g:PM)(a:Addr)(d:Arguments×List Stmt×Scope):Prop
 | mk (o:Obj) (fd:FuncData) (h1:g a=some o) (h2:o.data=.func fd) (h3:fd.params=d.1) (h4:fd.body=.stmts d.2.1) (h5:fd.scope=d.2.2) (h6:fd.globals=mainGlobals) (h7:fd.closure=[]) (h8:fd.defaults=.none) (h9:fd.kwdefaults=.none) (h10:fd.builtins=builtinsNs)
  (c:Addr) (oc:Obj) (vs:Array Value) (t:Tok) (k1:fd.code=.ref c) (k2:g c=some oc) (k3:oc.data=.fields vs) (k4:vs[1]?=some (.str fd.qualname t))
structure Yt(g:PM)(a:Addr)(d:Arguments×List Stmt×Scope):Prop where
 is:u3 g a d
theorem Yt.up{g g':PM}{a:Addr}{d:Arguments×List Stmt×Scope}(h:Yt g a d)(hs:PM.le g g'):Yt g' a d:=
 let⟨o,fd,h1,h2,h3,h4,h5,h6,h7,h8,h9,h10,c,oc,vs,t,k1,k2,k3,k4⟩:=h.is;⟨o,fd,hs _ _ h1,h2,h3,h4,h5,h6,h7,h8,h9,h10,c,oc,vs,t,k1,hs _ _ k2,k3,k4⟩
noncomputable def B8:Bi->Value
 | .bytes=>.type "bytes"|.bytearray=>.type "bytearray"|.range=>.type "range"|.str=>.type "str"|.int=>.type "int"
 | .len=>.builtin "len"|.abs=>.builtin "abs"|.max=>.builtin "max"|.min=>.builtin "min"|.ord=>.builtin "ord"|.repr=>.builtin "repr"
noncomputable def Bf(g:PM)(a:Addr)(m:Str->Option Value):Prop:=∃o es ep,g a=some o/\o.data=.dict es ep/\StrKeys es/\∀name,nsFind es name=m name
theorem Bf.at{g:PM}{a:Addr}{m:Str->Option Value}{h:Heap}(x:Bf g a m)(hs:PM.le g h.get?):h.Ns a m:=
 let⟨o,es,ep,e,r⟩:=x;⟨o,es,ep,hs _ _ e,r⟩
theorem Bf.up{g g':PM}{a:Addr}{m:Str->Option Value}(x:Bf g a m)(hs:PM.le g g'):Bf g' a m:=
 let⟨o,es,ep,e,r⟩:=x;⟨o,es,ep,hs _ _ e,r⟩
structure qM(X:Qu):Prop where
 makes:makesIn X.K modC=true
 init:findIn X.K (.ref modC) "__init__"=some (some (.ref 122))
 fn:typeIn X.K (.ref 122)=some (.type "function")
 plain:plainGet X.K modC "name"=true
 has:hasDictIn X.K modC=true
 nameA:findIn X.K (.ref modC) "name"=some none
 toldA:findIn X.K (.ref modC) "told"=some none
 setA:findIn X.K (.ref modC) "__setattr__"=some (some (.builtin "object.__setattr__"))
 over:plainOver X.K modC=true
 nameT:takerIn X.K modC "name"=some none
 toldT:takerIn X.K modC "told"=some none
structure St(X:Qu)(g:PM):Prop where
 kok:qM X
 glob:Bf g mainGlobals X.mg
 blt:Bf g builtinsNs X.mb
 lim:∃mc,Bf g cStatics mc/\mc "sys.recursionlimit"=none
 fn:∀x f,(x,f)∈Jd->∃d a,Jx x pw.main.body=some d/\FnAt X g x a d
 val:∀x v,(x,v)∈Kp->∃u,X.mg (Zc x)=some u/\∀P,VR X P g v u
 bi:∀x b,(x,b)∈Wt->X.mg (Zc x)=none/\X.mb (Zc x)=some (B8 b)
 modi:X.mg "Modifier"=some (.ref modC)
 exc:X.mg "BadFormat"=some (.ref excC)
 K:∀a o,X.K.lookup a=some o->g a=some o
 ini:∃d,Y9=some d/\Yt g 122 d
theorem FnAt.up{X:Qu}{g g':PM}{x:List Nat}{f:Addr}{d}(y:FnAt X g x f d)(hs:PM.le g g'):FnAt X g' x f d:=
 ⟨y.name,y.obj.imp fun Z=>Exists.imp fun Z=>Exists.imp fun Z=>Exists.imp fun Z=>And.imp (hs _ _) (And.imp_right (Exists.imp fun Z=>Exists.imp fun Z=>Exists.imp fun Z=>Exists.imp fun Z=>And.imp_right (And.imp_left (hs _ _))))⟩
theorem St.up{X:Qu}{g g':PM}(y:St X g)(hs:PM.le g g'):St X g' where
 kok:=y.kok
 glob:=y.glob.up hs
 blt:=y.blt.up hs
 lim:=let⟨mc,a,b⟩:=y.lim;⟨mc,a.up hs,b⟩
 fn:=fun x f hx=>let⟨d,a,h1,h2⟩:=y.fn x f hx;⟨d,a,h1,h2.up hs⟩
 val:=fun x v hx=>let⟨u,h1,h2⟩:=y.val x v hx;⟨u,h1,fun P=>(h2 P).up hs⟩
 bi:=y.bi
 modi:=y.modi
 exc:=y.exc
 K:=fun a o e=>hs _ _ (y.K a o e)
 ini:=let⟨d,a,b⟩:=y.ini;⟨d,a,b.up hs⟩
theorem St.noLimit{X:Qu}{g:PM}{h:Heap}(y:St X g)(hs:PM.le g h.get?):h.NoLimit:=let⟨mc,a,b⟩:=y.lim;⟨mc,a.at hs,b⟩
theorem St.inK{X:Qu}{g:PM}{h:Heap}(y:St X g)(hs:PM.le g h.get?):X.K.In h:=fun a o e=>hs _ _ (y.K a o e)
noncomputable def Rd(env:Env)(h:Heap)(x:Str)(v:Value):Prop:=
 (env.kindOf x=some .local/\∃m,h.Ns env.locals m/\m x=some v)\/
 ((env.kindOf x=some .cell\/env.kindOf x=some .free)/\∃c,env.cells.lookup x=some c/\h.IsCell c (some v))
inductive qL(h:Heap)(a:Addr)(vs:List Value):Prop
 | mk (o:Obj) (xs:Array Value) (n:Nat) (e:h.get? a=some o) (c:o.cls=.type "list") (d:o.data=.seq xs n) (x:o.dict=none) (y:o.slots=#[]) (k:xs.toList=vs)
structure X5(h:Heap)(a:Addr)(vs:List Value):Prop where
 is:qL h a vs
theorem X5.on{h h':Heap}{a:Addr}{vs:List Value}(l:X5 h a vs)(k:∀ob,h.get? a=some ob->h'.get? a=some ob):X5 h' a vs:=
 let⟨o,xs,n,h1,h2,h3,h4,h5,h6⟩:=l.is;⟨o,xs,n,k o h1,h2,h3,h4,h5,h6⟩
theorem X5.live{h:Heap}{a:Addr}{vs:List Value}(l:X5 h a vs):(h.get? a).isSome:=
 let⟨_,_,_,h1,_,_,_,_,_⟩:=l.is;h1▸rfl
structure u4(h:Heap)(a:Addr)(l:List Nat):Prop where
 is:∃b,h.get? a=some (Z3 b)/\b.toList.map UInt8.toNat=l
inductive CZ(X:Qu)(h:Heap)(oa:Option Addr)(S:Value->Prop)(ks:List AV)(R:List Value->Prop):Prop
 | mk (a:Addr) (o:Obj) (vals:List Value) (e:oa=some a) (r:S (.ref a)) (q:(a == sysModules)=false) (h1:h.get? a=some o) (v:R vals) (k:List (List UInt8)) (k1:ks=k.map Z8) (k2:k.length=vals.length) (k3:o.IsDictOf (bytesKind pw X.w) (k.zip vals))
inductive CY(h:Heap)(oa:Option Addr)(S:Value->Prop)(R:List Value->Prop):Prop
 | mk (a:Addr) (vs:List Value) (e:oa=some a) (r:S (.ref a)) (l:X5 h a vs) (v:R vs)
inductive D5(h:Heap)(oa:Option Addr)(S:Value->Prop)(l:List Nat):Prop
 | mk (a:Addr) (e:oa=some a) (r:S (.ref a)) (b:u4 h a l)
inductive qH(S R:Value->Prop):Prop
 | mk (v:Value) (r:S v) (k:R v)
noncomputable def LR(X:Qu)(P0 g:PM)(env:Env)(h:Heap)(own:Option Addr)(x:Str):LV->Prop
 | .u=>True
 | .val d=>qH (Rd env h x) (VR X P0 g d)
 | .own ds=>CY h own (Rd env h x) (Qo X P0 g ds)
 | .ownb l=>D5 h own (Rd env h x) l
 | .ownd ks ds=>CZ X h own (Rd env h x) ks (Qo X P0 g ds)
structure PF where
 pr:PM
 g0:PM
structure Z6(X:Qu)(P0:PM)(P:PF)(fl:Bool)(env:Env)(names:List Str)(own:Nat->Option Addr)(g:PM)(ρ:List LV)(D:Q8)(h:Heap):Prop where
 sub:PM.le g h.get?
 st:St X g
 prot:PM.le P.pr h.get?
 deck:QO X D h
 flag:fl=true->∀b o,P.pr b=some o->P0 b=some o\/o.cls≠.type "dict"
 slot:∀i x lv,names[i]?=some x->ρ[i]?=some lv->LR X P0 g env h (own i) x lv
 len:ρ.length=names.length
 ns:∃m,h.Ns env.locals m
 lg:g env.locals=none
 lp:P.pr env.locals=none
 ld:env.locals∉X.dk
 og:∀i a,own i=some a->g a=none/\P.pr a=none/\a∉X.dk/\a≠env.locals/\(h.get? a).isSome
 oi:∀i j a,own i=some a->own j=some a->i=j
 cg:∀x c,env.cells.lookup x=some c->c∉X.dk/\c≠env.locals/\(∀i,own i≠some c)/\g c=none/\P.pr c=none/\∃v,h.IsCell c v
 ci:∀x y c,env.cells.lookup x=some c->env.cells.lookup y=some c->x=y
 dg:∀b∈X.dk,g b=none/\P.pr b=none/\(h.get? b).isSome
 p0:∀b o,P0 b=some o->(h.get? b).isSome
 base:fl=true->∃B,PM.le B g/\PM.le B P0/\St X B
 gn:∀b o,g b=some o->P.g0 b=some o\/P.pr b=none
 gu:PM.leM P0 P.g0 g
theorem Z6.ll{X:Qu}{P0:PM}{P:PF}{fl:Bool}{env:Env}{names:List Str}{own:Nat->Option Addr}{g:PM}{ρ:List LV}{D:Q8}{h:Heap}(F:Z6 X P0 P fl env names own g ρ D h):(h.get? env.locals).isSome:=by
 refine cps fun U y0=>?_;obtain⟨m,o,es,ep,e,_⟩:=F.ns;refine y0 ?_;rw[e];rfl
theorem LR.grow{X:Qu}{P0 g g':PM}{env:Env}{h h':Heap}{own:Option Addr}{x:Str}{lv:LV}(y:LR X P0 g env h own x lv)(hr:∀v,Rd env h x v->Rd env h' x v)(hu:PM.le g g')
  (ho:∀a,own=some a->∀o,h.get? a=some o->h'.get? a=some o):LR X P0 g' env h' own x lv:=by
 rcases lv with _|d|ds|l|⟨ks,ds⟩
 ·trivial
 ·obtain⟨v,a,b⟩:=y;exact⟨v,hr _ a,b.up hu⟩
 ·
  obtain⟨a,vs,e,r,l,v⟩:=y;exact⟨a,vs,e,hr _ r,l.on (ho a e),v.up hu⟩
 ·
  refine cps fun U y0=>?_;obtain⟨a,e,r,⟨b,h1,h2⟩⟩:=y;refine y0 ?_;exact⟨a,e,hr _ r,⟨b,ho a e _ h1,h2⟩⟩
 ·
  refine cps fun U y0=>?_;obtain⟨a,o,vals,e,r,q,h1,v,k,k1,k2,k3⟩:=y;refine y0 ?_;exact⟨a,o,vals,e,hr _ r,q,ho a e _ h1,v.up hu,k,k1,k2,k3⟩
theorem Z6.grow{X:Qu}{P0 g g':PM}{P:PF}{fl:Bool}{env:Env}{names:List Str}{own:Nat->Option Addr}{ρ:List LV}{D D':Q8}{h h':Heap}
  (F:Z6 X P0 P fl env names own g ρ D h) (G:Qs X.dk g h g' h') (hD:QO X D' h'):Z6 X P0 P fl env names own g' ρ D' h':=by
 have keep:∀b,b∉X.dk->∀o,h.get? b=some o->h'.get? b=some o:=fun b hb o e=>by
  obtain⟨o',e',k⟩:=G.keep b o e;rw[e',k hb]
 have fresh:∀b,(h.get? b).isSome->g b=none->g' b=none:=fun b hb hn=>by
  rcases q:g' b with _|o
  ·rfl
  ·
   rcases G.new b o q with e|e
   ·exact Qf (hn.symm.trans e)
   ·rw[e] at hb;exact Bool.noConfusion hb
 have rd:∀x v,Rd env h x v->Rd env h' x v:=fun x v y=>by
  rcases y with⟨a,m,⟨o,es,ep,e,r⟩,c⟩|⟨a,c,b,⟨o,e,d⟩⟩
  ·exact .inl ⟨a,m,⟨o,es,ep,keep _ F.ld _ e,r⟩,c⟩
  ·exact .inr ⟨a,c,b,o,keep _ (F.cg _ _ b).1 _ e,d⟩
 have live:∀b,(h.get? b).isSome->(h'.get? b).isSome:=fun b hb=>by
  obtain⟨o,ho⟩:=Option.isSome_iff_exists.mp hb;obtain⟨o',e',_⟩:=G.keep b o ho;rw[e'];rfl
 refine
  {sub:=G.sub
   st:=F.st.up G.up
   prot:=fun b o e=>keep b (fun hb=>by rw[(F.dg b hb).2.1] at e;exact Qf e) _ (F.prot b o e)
   deck:=hD
   flag:=F.flag
   slot:=fun i x lv h1 h2=>(F.slot i x lv h1 h2).grow (rd x) G.up fun a ha o e=>keep _ (F.og i a ha).2.2.1 _ e
   len:=F.len
   ns:=let⟨m,o,es,ep,e,r⟩:=F.ns;⟨m,o,es,ep,keep _ F.ld _ e,r⟩
   lg:=fresh _ F.ll F.lg
   lp:=F.lp
   ld:=F.ld
   og:=fun i a ha=>let⟨h1,h2,h3,h4,h5⟩:=F.og i a ha;⟨fresh a h5 h1,h2,h3,h4,live _ h5⟩
   oi:=F.oi
   cg:=fun x c e=>let⟨h1,h2,h3,h4,h5,v,o,h6,h7⟩:=F.cg x c e;⟨h1,h2,h3,fresh c (congrArg _ (h6 ..)) h4,h5,v,o,keep _ h1 _ h6,h7⟩
   ci:=F.ci
   dg:=fun b hb=>let⟨h1,h2,h3⟩:=F.dg b hb;⟨fresh b h3 h1,h2,live _ h3⟩
   p0:=fun b o e=>live _ (F.p0 b o e)
   base:=fun e=>let⟨B,b1,b2,b3⟩:=F.base e;⟨B,b1.trans G.up,b2,b3⟩
   gn:=fun b o e=>by
    rcases G.new b o e with e|e
    ·exact F.gn b o e
    ·right;rcases q:P.pr b with _|o'
     ·rfl
     ·rw[F.prot b o' q] at e;exact Qf e.symm
   gu:=F.gu.le G.up }
noncomputable abbrev Ww(X:Qu)(P0 g:PM)(s:Shared)(D':Q8)(d:AV)(Q:VP):Prop:=
 ∀v g' h' tk,Qs X.dk g s.heap g' h'->QO X D' h'->VR X P0 g' d v->Q v { s with heap:=h',toks:=tk }
noncomputable abbrev Vl(X:Qu)(g:PM)(s:Shared)(D':Q8)(b:Bool)(Q:Bool->Shared->Prop):Prop:=
 ∀g' h' tk,Qs X.dk g s.heap g' h'->QO X D' h'->Q b { s with heap:=h',toks:=tk }
structure Ze(A:Around)(n:Nat):Prop where
 hd:A.handled=none
 dp:A.depth+2 * n+20 < recursionLimit
 un:A.units+16 * n+100 < cLine
noncomputable def JD(X:Qu)(n:Nat)(Φ:Qj):Prop:=
 ∀f as D d D',Φ f as D=some (d,D')->∀x,(x,f)∈Jd->∀(A:Around) (P0 g:PM) (vs:List Value) (a:Addr) (s:Shared) (Q:VP) (E:VP),
  Ze A n->St X g->PM.le g s.heap.get?->QO X D s.heap->(∀b∈X.dk,g b=none/\(s.heap.get? b).isSome)->(∀b o,P0 b=some o->(s.heap.get? b).isSome)->Qo X P0 g as vs->X.mg (Zc x)=some (.ref a)->
  Ww X P0 g s D' d Q->QD X.M A (call (.ref a) vs) Q E s
noncomputable def Qg(X:Qu)(n:Nat)(Φ:Qj)(env:Env)(names:List Str)(e:Expr)(ir:IR):Prop:=
 ∀(A:Around) (P0:PM) (P:PF) (fl:Bool) (own:Nat->Option Addr) (g:PM) (ρ:List LV) (D D':Q8) (d:AV) (s:Shared) (Q:VP) (E:VP),
  Ze A n->run Φ ir ρ D=some (d,D')->Z6 X P0 P fl env names own g ρ D s.heap->Ww X P0 g s D' d Q->QD X.M A (eval e env) Q E s
noncomputable def ZN(X:Qu)(n:Nat)(Φ:Qj)(env:Env)(names:List Str)(e:Expr)(ir:IR):Prop:=
 ∀(A:Around) (P0:PM) (P:PF) (fl:Bool) (own:Nat->Option Addr) (g:PM) (ρ:List LV) (D D':Q8) (d:AV) (b:Bool) (s:Shared) (Q:Bool->Shared->Prop) (E:VP),
  Ze A n->run Φ ir ρ D=some (d,D')->d.truth=some b->Z6 X P0 P fl env names own g ρ D s.heap->Vl X g s D' b Q->QD X.M A (isTrue e env (eval e env)) Q E s
noncomputable abbrev QU(X:Qu)(P0 g:PM)(s:Shared)(d:AV)(Q:VP):Prop:=
 ∀v g' h' tk,Qs X.dk g s.heap g' h'->(∀b o,s.heap.get? b=some o->h'.get? b=some o)->VR X P0 g' d v->Q v { s with heap:=h',toks:=tk }
theorem Ww.pure{X:Qu}{P0 g:PM}{s:Shared}{D:Q8}{d:AV}{Q:VP}(h:Ww X P0 g s D d Q)(hD:QO X D s.heap):QU X P0 g s d Q:=
 fun v g' h' tk G k r=>h v g' h' tk G (hD.keeps k) r
theorem ZL{l:List Nat}(h:Qi l=true):l.length<=16777216:=of_decide_eq_true h
theorem map_len{b:List UInt8}{l:List Nat}(h:b.map UInt8.toNat=l):b.length=l.length:=by rw[<- h,List.length_map]
theorem Gn{i:Int}(h:Uo i=true):i.natAbs < 9223372036854775808:=of_decide_eq_true h
theorem Jp:∀{a b:List UInt8},a.map UInt8.toNat=b.map UInt8.toNat->a=b:=by
 intro zz
 induction zz with
 | nil=>
  intro zy;rcases zy with _|⟨_,_⟩
  ·
   intro _;exact rfl
  ·
   intro h;simp at h
 | cons x xs ih=>
  intro zy;rcases zy with _|⟨y,ys⟩
  ·
   intro h;simp at h
  ·
   intro h;rw[List.map_cons,List.map_cons,List.cons.injEq] at h;rw[UInt8.toNat_inj.mp h.1,ih h.2]
theorem Qo.append{X:Qu}{P0 g:PM}:∀{a b:List AV} {x y:List Value},Qo X P0 g a x->Qo X P0 g b y->Qo X P0 g (a++b) (x++y):=by
 intro zz
 induction zz with
 | nil=>
  intro b x y h k;dsimp only[Qo] at h;subst h;exact k
 | cons d ds ih=>
  intro b x y h k;dsimp only[Qo] at h;obtain⟨v,r,rfl,h1,h2⟩:=h;show Qo X P0 g (d::(ds++b)) (v::(r++y));dsimp only[Qo];exact⟨v,r++y,rfl,h1,ih h2 k⟩
section
variable {X:Qu}{A:Around}{P0 g:PM}{s:Shared}{Q:VP}{E:VP}
theorem YI{d:AV}{v:Value}{tk:Nat}(h:QU X P0 g s d Q)(hs:PM.le g s.heap.get?)(hv:VR X P0 g d v):Q v { s with toks:=tk }:=
 h v g s.heap tk (Qs.refl hs) (fun Z Z e=>e) hv
theorem Zj(h:Heap):h.get? h.objs.size=none:=by
 rcases q:h.get? h.objs.size with _|o'
 ·rfl
 ·exact absurd (Heap.lt_size q) (Nat.lt_irrefl _)
theorem made{d:AV}{o:Obj}{tk:Nat}(h:QU X P0 g s d Q)(hs:PM.le g s.heap.get?)(hf:o.isFreed=false)(hv:VR X P0 (g.add s.heap.objs.size o) d (.ref s.heap.objs.size)):
  Q (.ref s.heap.objs.size) { s with heap:=s.heap.push o,toks:=tk }:=
 h _ _ _ tk (Qs.add hs (fun b o' e=>Heap.get?_push_of_some _ e) (Zj _) (Heap.get?_push_size _ hf)) (fun b o' e=>Heap.get?_push_of_some _ e) hv
set_option tactic.hygienic true in
theorem PZ(hs:PM.le g s.heap.get?)(o:Obj):PM.le g (g.add s.heap.objs.size o):=fun b o' e=>by
 unfold PM.add
 split
 ·rename_i q;rw[q] at e;have:=hs _ _ e;rw[Zj] at this;cases this
 ·exact e
theorem Y6{ds:List AV}{items:Array Value}{n tk:Nat}(h:QU X P0 g s (.list ds) Q)(hs:PM.le g s.heap.get?)(hv:Qo X P0 g ds items.toList):
  Q (.ref s.heap.objs.size) { s with heap:=s.heap.push { cls:=.type "list",data:=.seq items n },toks:=tk }:=
 made h hs rfl (by dsimp only[VR];exact⟨_,_,items,n,rfl,PM.add_self _ _ _,rfl,rfl,rfl,rfl,hv.up (PZ hs _)⟩)
theorem HS{ds:List AV}{items:Array Value}{n tk:Nat}(h:QU X P0 g s (.tuple ds) Q)(hs:PM.le g s.heap.get?)(hv:Qo X P0 g ds items.toList):
  Q (.ref s.heap.objs.size) { s with heap:=s.heap.push { cls:=.type "tuple",data:=.seq items n },toks:=tk }:=
 made h hs rfl (by dsimp only[VR];exact⟨_,_,items,n,rfl,PM.add_self _ _ _,rfl,rfl,hv.up (PZ hs _)⟩)
noncomputable def Dv:Op->Operator
 | .add=>.Add|.sub=>.Sub|.mul=>.Mult|.fdiv=>.FloorDiv|.mod=>.Mod
theorem Us{o:Obj}{d:Data}{c:Value}(hc:o.cls=c)(hd:o.data=d):o={ cls:=c,dict:=o.dict,data:=d,slots:=o.slots }:=by
 cases o;simp only at hc hd;subst hc hd;rfl
inductive Km{α β:Type}(f:α->AV)(g:β->AV)(a b:AV)(P:α->β->Prop):Prop
 | mk (x:α) (y:β) (ea:a=f x) (eb:b=g y) (h:P x y)
theorem Xz{γ:Type}{G:Int->Int->Option γ}{a b:AV}{r:γ}(h:(match a,b with|.int x,.int y=>G x y|_,_=>none)=some r):Km .int .int a b fun x y=>G x y=some r:=by
 rcases a with _|_|_|_|_|_|_|_|_|_|_|_<;>try exact Qf h
 rcases b with _|_|_|_|_|_|_|_|_|_|_|_<;>try exact Qf h
 exact(⟨_,_,rfl,rfl,h⟩)
theorem Fj{γ:Type}{G:Int->Int->Option γ}{H:List Nat->List Nat->Option γ}{a b:AV}{r:γ}(h:(match a,b with|.int x,.int y=>G x y|.bytes x,.bytes y=>H x y|_,_=>none)=some r):
  Km .int .int a b (fun x y=>G x y=some r)\/Km .bytes .bytes a b fun x y=>H x y=some r:=by
 rcases a with _|_|_|_|_|_|_|_|_|_|_|_<;>try exact Qf h
 ·rcases b with _|_|_|_|_|_|_|_|_|_|_|_<;>try exact Qf h
  exact(.inl ⟨_,_,rfl,rfl,h⟩)
 ·rcases b with _|_|_|_|_|_|_|_|_|_|_|_<;>try exact Qf h
  exact(.inr ⟨_,_,rfl,rfl,h⟩)
theorem MC{a b c:AV}(h:Uc .mul a b=some c):Km .int .int a b (fun x y=>(if Uo x&&Uo y then some (.int (x * y)) else none)=some c)\/
  Km .bytes .int a b fun x n=>(if x.length=1/\n.natAbs<=65536 then some (.bytes (List.replicate n.toNat (x.headD 0))) else none)=some c:=by
 rcases a with _|_|_|_|_|_|_|_|_|_|_|_<;>try exact Qf h
 ·rcases b with _|_|_|_|_|_|_|_|_|_|_|_<;>try exact Qf h
  exact(.inl ⟨_,_,rfl,rfl,h⟩)
 ·rcases b with _|_|_|_|_|_|_|_|_|_|_|_<;>try exact Qf h
  exact(.inr ⟨_,_,rfl,rfl,h⟩)
theorem MD{a b c:AV}(h:Uc .add a b=some c):Km .int .int a b (fun x y=>some (.int (x+y))=some c)\/Km .bytes .bytes a b (fun x y=>(if Qi (x++y) then some (.bytes (x++y)) else none)=some c)\/
  Km .list .list a b (fun x y=>(if x.length+y.length<=65536 then some (.list (x++y)) else none)=some c)\/Km .tuple .tuple a b fun x y=>(if x.length+y.length<=65536 then some (.tuple (x++y)) else none)=some c:=by
 rcases a with _|_|_|_|_|_|_|_|_|_|_|_<;>try exact Qf h
 ·rcases b with _|_|_|_|_|_|_|_|_|_|_|_<;>try exact Qf h
  exact(.inl ⟨_,_,rfl,rfl,h⟩)
 ·rcases b with _|_|_|_|_|_|_|_|_|_|_|_<;>try exact Qf h
  exact(.inr (.inl ⟨_,_,rfl,rfl,h⟩))
 ·rcases b with _|_|_|_|_|_|_|_|_|_|_|_<;>try exact Qf h
  exact(.inr (.inr (.inl ⟨_,_,rfl,rfl,h⟩)))
 ·rcases b with _|_|_|_|_|_|_|_|_|_|_|_<;>try exact Qf h
  exact(.inr (.inr (.inr ⟨_,_,rfl,rfl,h⟩)))
set_option tactic.hygienic true in
theorem p_add{a b c:AV}{va vb:Value}(h:Uc .add a b=some c)(ha:VR X P0 g a va)(hb:VR X P0 g b vb)(hs:PM.le g s.heap.get?)(hQ:QU X P0 g s c Q):
  wpAny X.M A (binaryOp .Add va vb) Q E s:=by
 replace h:=MD h;rcases h with⟨x,y,rfl,rfl,h⟩|⟨x,y,rfl,rfl,h⟩|⟨x,y,rfl,rfl,h⟩|⟨x,y,rfl,rfl,h⟩
 ·obtain rfl:=so h;dsimp only[VR] at ha hb;obtain⟨t,rfl⟩:=ha;obtain⟨u,rfl⟩:=hb;exact PyProof.Rows.add_int (YI hQ hs (by dsimp only[VR];exact⟨_,rfl⟩))
 ·split at h<;>first|exact Qf h|(replace h:=sp h;obtain⟨rfl,rfl⟩:=h)|(replace h:=V2 h;obtain⟨rfl,rfl,rfl⟩:=h)|(replace h:=so h;subst h)|cases h
  rename_i hl;dsimp only[VR] at ha hb;obtain⟨b1,t,rfl,e1⟩:=ha;obtain⟨b2,u,rfl,e2⟩:=hb;refine KBy.add_bytes ?_ fun t' k=>YI hQ hs (by dsimp only[VR];exact⟨_,_,rfl,by rw[Array.toList_append,List.map_append,e1,e2]⟩);have:=ZL hl;rw[List.length_append,<-map_len e1,<-map_len e2,Array.length_toList,Array.length_toList] at this;exact this
 ·split at h<;>first|exact Qf h|(replace h:=sp h;obtain⟨rfl,rfl⟩:=h)|(replace h:=V2 h;obtain⟨rfl,rfl,rfl⟩:=h)|(replace h:=so h;subst h)|cases h
  rename_i hl;dsimp only[VR] at ha hb;obtain⟨a1,o1,v1,n1,rfl,h1,h2,h3,_,_,h4⟩:=ha;obtain⟨a2,o2,v2,n2,rfl,k1,k2,k3,_,_,k4⟩:=hb;have e1:=hs _ _ h1;have e2:=hs _ _ k1;rw[Us h2 h3] at e1;rw[Us k2 k3] at e2;have l1:=h4.len;have l2:=k4.len;rw[Array.length_toList] at l1 l2;refine concat_meets ⟨_,e1,rfl⟩ ⟨_,e2,rfl⟩ noFill_list_add seq_list_add PySem.F.slot_list_add PySem.F.entry_list_add (PySem.F.args_list_add_2 _ _) (list_addW _ _ v1 v2 n1 n2 _ _ _ _ (by rw[sizeLine_eq];omega)) ⟨e1,e2,?_⟩;exact Y6 (tk:=s.toks) hQ hs (by rw[Array.toList_append];exact h4.append k4)
 ·split at h<;>first|exact Qf h|(replace h:=sp h;obtain⟨rfl,rfl⟩:=h)|(replace h:=V2 h;obtain⟨rfl,rfl,rfl⟩:=h)|(replace h:=so h;subst h)|cases h
  rename_i hl;dsimp only[VR] at ha hb;obtain⟨a1,o1,v1,n1,rfl,h1,h2,h3,h4⟩:=ha;obtain⟨a2,o2,v2,n2,rfl,k1,k2,k3,k4⟩:=hb;have e1:=hs _ _ h1;have e2:=hs _ _ k1;rw[Us h2 h3] at e1;replace e2:=(Us k2 k3)▸e2;have l1:=h4.len;have l2:=k4.len;rw[Array.length_toList] at l1 l2;by_cases z1:v1.isEmpty=true
  ·refine concat_meets ⟨_,e1,rfl⟩ ⟨_,e2,rfl⟩ noFill_tuple_add seq_tuple_add PySem.F.slot_tuple_add PySem.F.entry_tuple_add (PySem.F.args_tuple_add_2 _ _) (tuple_addW0 _ _ v1 v2 n1 n2 _ _ _ _ z1) ⟨e1,e2,?_⟩;refine YI (tk:=s.toks) hQ hs ?_;dsimp only[VR];refine⟨_,_,_,_,rfl,k1,k2,k3,?_⟩;have:v1=#[]:=Array.isEmpty_iff.1 z1;subst this;have:=h4.append k4;exact this
  ·by_cases z2:v2.isEmpty=true
   ·refine concat_meets ⟨_,e1,rfl⟩ ⟨_,e2,rfl⟩ noFill_tuple_add seq_tuple_add PySem.F.slot_tuple_add PySem.F.entry_tuple_add (PySem.F.args_tuple_add_2 _ _) (tuple_addW1 _ _ v1 v2 n1 n2 _ _ _ _ z1 z2) ⟨e1,e2,?_⟩;refine YI (tk:=s.toks) hQ hs ?_;dsimp only[VR];refine⟨_,_,_,_,rfl,h1,h2,h3,?_⟩;have:v2=#[]:=Array.isEmpty_iff.1 z2;subst this;have:=h4.append k4;rw[List.append_nil] at this;exact this
   ·refine concat_meets ⟨_,e1,rfl⟩ ⟨_,e2,rfl⟩ noFill_tuple_add seq_tuple_add PySem.F.slot_tuple_add PySem.F.entry_tuple_add (PySem.F.args_tuple_add_2 _ _) (tuple_addW2 _ _ v1 v2 n1 n2 _ _ _ _ z1 z2 (by rw[sizeLine_eq];omega)) ⟨e1,e2,?_⟩;exact HS (tk:=s.toks) hQ hs (by rw[Array.toList_append];exact h4.append k4)
set_option tactic.hygienic true in
theorem AQ{o:Op}{a b c:AV}{va vb:Value}(h:Uc o a b=some c)(ha:VR X P0 g a va)(hb:VR X P0 g b vb)(hs:PM.le g s.heap.get?)(hQ:QU X P0 g s c Q):
  wpAny X.M A (binaryOp (Dv o) va vb) Q E s:=by
 rcases o with _|_|_|_|_
 ·exact p_add h ha hb hs hQ
 ·
  replace h:=Xz h;obtain⟨x,y,rfl,rfl,h⟩:=h;obtain rfl:=so h;dsimp only[VR] at ha hb;obtain⟨t,rfl⟩:=ha;obtain⟨u,rfl⟩:=hb;exact PyProof.Rows.sub_int (YI hQ hs (by dsimp only[VR];exact⟨_,rfl⟩))
 ·
  replace h:=MC h;rcases h with⟨x,y,rfl,rfl,h⟩|⟨x,y,rfl,rfl,h⟩
  ·split at h<;>first|exact Qf h|(replace h:=sp h;obtain⟨rfl,rfl⟩:=h)|(replace h:=V2 h;obtain⟨rfl,rfl,rfl⟩:=h)|(replace h:=so h;subst h)|cases h
   rename_i hl;rw[Bool.and_eq_true] at hl;dsimp only[VR] at ha hb;obtain⟨t,rfl⟩:=ha;obtain⟨u,rfl⟩:=hb;have:=Gn hl.1;exact PyProof.Rows.mul_int (YI hQ hs (by dsimp only[VR];exact⟨_,rfl⟩)) (.of_left (intBits_le_64 (by omega) (by omega)))
  ·split at h<;>first|exact Qf h|(replace h:=sp h;obtain⟨rfl,rfl⟩:=h)|(replace h:=V2 h;obtain⟨rfl,rfl,rfl⟩:=h)|(replace h:=so h;subst h)|cases h
   rename_i hl;dsimp only[VR] at ha hb;obtain⟨b1,t,rfl,e1⟩:=ha;obtain⟨u,rfl⟩:=hb;have hl1:=hl.1;have hl2:=hl.2;have hb1:b1.toList.length=1:=by rw[map_len e1,hl1]
   obtain⟨c0,hc0⟩:=List.length_eq_one_iff.mp hb1;have e2:b1=[c0].toArray:=by rw[<- hc0]
   subst e2;refine bytes_mul_any (b:=[c0]) (by exact List.cons_ne_nil _ _) (by omega) (by omega) (by exact Nat.succ_pos _) fun t' k=>YI hQ hs ?_;dsimp only[VR];refine⟨_,_,rfl,?_⟩;rw[<- e1];simp[List.map_flatten,List.map_replicate]
 ·
  replace h:=Xz h;obtain⟨x,y,rfl,rfl,h⟩:=h
  split at h<;>first|exact Qf h|(replace h:=sp h;obtain⟨rfl,rfl⟩:=h)|(replace h:=V2 h;obtain⟨rfl,rfl,rfl⟩:=h)|(replace h:=so h;subst h)|cases h
  rename_i hl;simp only[Bool.and_eq_true,bne_iff_ne,ne_eq,decide_eq_true_eq] at hl;dsimp only[VR] at ha hb;obtain⟨t,rfl⟩:=ha;obtain⟨u,rfl⟩:=hb;exact PyProof.Rows.floordiv_int hl.2 (YI hQ hs (by dsimp only[VR];exact⟨_,rfl⟩)) (.inl (PyProof.noPylong_small (by have:=hl.1;omega)))
 ·
  replace h:=Xz h;obtain⟨x,y,rfl,rfl,h⟩:=h
  split at h<;>first|exact Qf h|(replace h:=sp h;obtain⟨rfl,rfl⟩:=h)|(replace h:=V2 h;obtain⟨rfl,rfl,rfl⟩:=h)|(replace h:=so h;subst h)|cases h
  rename_i hl;simp only[bne_iff_ne,ne_eq] at hl;dsimp only[VR] at ha hb;obtain⟨t,rfl⟩:=ha;obtain⟨u,rfl⟩:=hb;exact PyProof.Rows.mod_int' hl (YI hQ hs (by dsimp only[VR];exact⟨_,rfl⟩))
end
end
section
open PySem PySem.W PySem.Calls PyProof.Rows SeqAt
section
variable {X:Qu}{A:Around}{P0 g:PM}{s:Shared}{Q:VP}{E:VP}
theorem PW:∀(a b:List UInt8),(Builtin.Bytes.order a b == .lt)=lexLt (a.map UInt8.toNat) (b.map UInt8.toNat):=by
 intro zz
 induction zz with
 | nil=>
  intro zy;rcases zy with _|⟨_,_⟩
  ·
   exact rfl
  ·
   exact rfl
 | cons x a ih=>
  intro zy;rcases zy with _|⟨y,b⟩
  ·
   exact rfl
  ·
   show((if x < y then Ordering.lt else if y < x then .gt else Builtin.Bytes.order a b) == .lt)=(if x.toNat < y.toNat then true else if y.toNat < x.toNat then false else lexLt (a.map UInt8.toNat) (b.map UInt8.toNat))
   by_cases h1:x < y
   ·rw[if_pos h1,if_pos (UInt8.lt_iff_toNat_lt.mp h1)];rfl
   ·have n1:¬x.toNat < y.toNat:=fun h=>h1 (UInt8.lt_iff_toNat_lt.mpr h);by_cases h2:y < x
    ·rw[if_neg h1,if_pos h2,if_neg n1,if_pos (UInt8.lt_iff_toNat_lt.mp h2)];rfl
    ·have n2:¬y.toNat < x.toNat:=fun h=>h2 (UInt8.lt_iff_toNat_lt.mpr h);rw[if_neg h1,if_neg h2,if_neg n1,if_neg n2];exact ih b
set_option maxRecDepth 100000 in
theorem WC:Slot "bytes" (cmpInfo .Lt).2.1 "bytes.__lt__":=
 .of (owner:="bytes") (n:="__lt__") (by rw[typeLookup_type,builtinLookup_eq_fast];kernel_rfl) (by decide +kernel) (by decide +kernel) (by decide +kernel)
  (by first|exact .inl (by decide +kernel)|exact .inr (by decide +kernel)) (by rw[isSubtype_type];kernel_rfl)
theorem W9:entryFor table "bytes.__lt__"=some Builtin.«bytes.__lt__»:=entryFor_of_tree (by kernel_rfl)
theorem Hj(a b:Value):argsOk "bytes.__lt__" ⟨[a,b],[]⟩:=by
 unfold argsOk;rw[signature?_of (id:="bytes.__lt__") (n:=['_','_','t','l','_','_']) (o:=['s','e','t','y','b']) (by kernel_rfl) FB.owner_bytes];kernel_rfl
set_option maxRecDepth 100000 in
theorem WD:Slot "bytes" (cmpInfo .GtE).2.1 "bytes.__ge__":=
 .of (owner:="bytes") (n:="__ge__") (by rw[typeLookup_type,builtinLookup_eq_fast];kernel_rfl) (by decide +kernel) (by decide +kernel) (by decide +kernel)
  (by first|exact .inl (by decide +kernel)|exact .inr (by decide +kernel)) (by rw[isSubtype_type];kernel_rfl)
theorem Wa:entryFor table "bytes.__ge__"=some Builtin.«bytes.__ge__»:=entryFor_of_tree (by kernel_rfl)
theorem Hk(a b:Value):argsOk "bytes.__ge__" ⟨[a,b],[]⟩:=by
 unfold argsOk;rw[signature?_of (id:="bytes.__ge__") (n:=['_','_','e','g','_','_']) (o:=['s','e','t','y','b']) (by kernel_rfl) FB.owner_bytes];kernel_rfl
open Builtin in
theorem W4(b c:Array UInt8)(t u:Tok):Gives («bytes.__lt__» ⟨[.bytes b t,.bytes c u],[]⟩) (.val (.bool (lexLt (b.toList.map UInt8.toNat) (c.toList.map UInt8.toNat)))):=by
 refine .of_wp fun M A E s Q hq=>?_;show wpAny M A (isInstance (.bytes c u) (.type "bytes") >>= fun r=>_) _ E s;refine wpAny_bind (wpAny_isInstance (W.typeIs_bytes s c u) F.sub_bytes_bytes ?_);exact wpAny_pure ⟨_,rfl,by rw[<- PW] at hq;exact hq⟩
open Builtin in
theorem W6(b c:Array UInt8)(t u:Tok):Gives («bytes.__ge__» ⟨[.bytes b t,.bytes c u],[]⟩) (.val (.bool (!lexLt (b.toList.map UInt8.toNat) (c.toList.map UInt8.toNat)))):=by
 refine .of_wp fun M A E s Q hq=>?_;show wpAny M A (isInstance (.bytes c u) (.type "bytes") >>= fun r=>_) _ E s;refine wpAny_bind (wpAny_isInstance (W.typeIs_bytes s c u) F.sub_bytes_bytes ?_);exact wpAny_pure ⟨_,rfl,by rw[<- PW] at hq;exact hq⟩
theorem PV{b c:Array UInt8}{t u:Tok}(h:Q (.bool (lexLt (b.toList.map UInt8.toNat) (c.toList.map UInt8.toNat))) s):wpAny X.M A (compareOp .Lt (.bytes b t) (.bytes c u)) Q E s:=
 compareOp_gives (op:=.Lt) (W.typeIs_bytes s b t) (W.typeIs_bytes s c u) WC W9 (Hj _ _) (W4 b c t u) (fun e=>nomatch e) h
theorem Lg{b c:Array UInt8}{t u:Tok}(h:Q (.bool (!lexLt (b.toList.map UInt8.toNat) (c.toList.map UInt8.toNat))) s):wpAny X.M A (compareOp .GtE (.bytes b t) (.bytes c u)) Q E s:=
 compareOp_gives (op:=.GtE) (W.typeIs_bytes s b t) (W.typeIs_bytes s c u) WD Wa (Hk _ _) (W6 b c t u) (fun e=>nomatch e) h
theorem Ks(b c:List UInt8):(b.map UInt8.toNat == c.map UInt8.toNat)=(b == c):=by
 rw[Bool.eq_iff_iff,beq_iff_eq,beq_iff_eq];exact⟨Jp,fun h=>congrArg _ (h ..)⟩
theorem RR{x y:Str}{a b:List Nat}(hx:x.cps.toList=a)(hy:y.cps.toList=b):(x == y)=(a == b):=by
 rw[<- SeqAt.str_beq,hx,hy]
theorem S6{A:Around}(a:Array UInt8)(t:Tok)(b:Array UInt8)(u:Tok):RcAt A s (.bytes a t) (.bytes b u) (a.toList == b.toList):=fun prog w E Q h=>
 richCompare_gives (T:="bytes") rfl rfl FB.slot_bytes_eq FB.entry_bytes_eq (FB.args_bytes_eq_2 _ _) (W.gives_bytes_eq a b t u) (fun x=>nomatch x) h
theorem Gy{A:Around}(a:Array UInt8)(t:Tok)(b:Array UInt8)(u:Tok):RcNeAt A s (.bytes a t) (.bytes b u) (!(a.toList == b.toList)):=fun prog w E Q h=>
 richCompare_gives (T:="bytes") rfl rfl FB.slot_bytes_ne FB.entry_bytes_ne (FB.args_bytes_ne_2 _ _) (W.gives_bytes_ne a b t u) (fun x=>nomatch x) h
noncomputable def WW:Value->Value->Bool
 | .bool a,.bool b=>a == b
 | .int a _,.int b _=>a == b
 | .str a _,.str b _=>a == b
 | .bytes a _,.bytes b _=>a.toList == b.toList
 | _,_=>false
theorem TR{a b:AV}{r:Bool}{va vb:Value}(h:a.eqS b=some r)(ha:VR X P0 g a va)(hb:VR X P0 g b vb):
  WW va vb=r/\(∀A,RcAt A s va vb r)/\(∀A,RcNeAt A s va vb (!r))/\(∀A,EqAt A s va vb r):=by
 delta AV.eqS at h;cases a<;>try exact Qf h
 all_goals rcases b with _|_<;>try exact Qf h
 all_goals dsimp only at h
 all_goals (obtain rfl:=so h)
 all_goals dsimp only[VR] at ha hb
 ·subst ha hb;exact⟨rfl,fun A=>.bool_bool _ _,fun A=>.bool_bool _ _,fun A=>.bool_bool _ _⟩
 ·obtain⟨t,rfl⟩:=ha;obtain⟨u,rfl⟩:=hb;exact⟨rfl,fun A=>.int_int _ _ _ _,fun A=>.int_int _ _ _ _,fun A=>.int_int _ _ _ _⟩
 ·obtain⟨x,t,rfl,e1⟩:=ha;obtain⟨y,u,rfl,e2⟩:=hb;refine(RR e1 e2)▸?_;exact⟨rfl,fun A=>.str_str _ _ _ _,fun A=>.str_str _ _ _ _,fun A=>.str_str _ _ _ _⟩
 ·obtain⟨x,t,rfl,e1⟩:=ha;obtain⟨y,u,rfl,e2⟩:=hb;rw[<- e1,<-e2,Ks];refine⟨rfl,fun A=>S6 _ _ _ _,fun A=>Gy _ _ _ _,fun A prog w E Q h=>?_⟩;refine W.eqBool_bytes ?_;rw[show decide (x.toList=y.toList)=(x.toList == y.toList) from by rw[Bool.eq_iff_iff,beq_iff_eq,decide_eq_true_eq]];exact h
theorem j0{a b:Option Bool}{F:Bool->Bool->Option Bool}{r:Bool}{C:Prop}(h:(match a,b with|some x,some y=>F x y|_,_=>none)=some r)(k:∀x y,a=some x->b=some y->F x y=some r->C):C:=by
 rcases a with _|_
 ·exact Qf h
 rcases b with _|_
 ·exact Qf h
 exact k _ _ rfl rfl h
theorem Qo.mem_any{x:AV}{vx:Value}(hx:VR X P0 g x vx):∀{l:List AV} {vs:List Value} {r:Bool},Qo X P0 g l vs->Yp x l=some r->
  (vs.any (WW · vx)=r/\∀A,∀y∈vs,EqAt A s y vx (WW y vx)):=by
 intro zz
 induction zz with
 | nil=>
  intro vs r h e;dsimp only[Qo] at h;subst h;dsimp only[Yp] at e;obtain rfl:=so e;exact⟨rfl,fun A y hy=>by cases hy⟩
 | cons d l ih=>
  intro vs r h e;dsimp only[Qo] at h;obtain⟨v,vs',rfl,h1,h2⟩:=h;dsimp only[Yp] at e;refine j0 e ?_;clear e;intro b c eb ec e
  ·obtain rfl:=so e;obtain⟨k1,k2⟩:=ih h2 ec;have k3:=TR (s:=s) eb h1 hx;refine⟨by rw[List.any_cons,k1,k3.1],fun A y hy=>?_⟩;rcases List.mem_cons.mp hy with rfl|hy
   ·rw[k3.1];exact k3.2.2.2 A
   ·exact k2 A y hy
theorem VR.tuple_at{ds:List AV}{v:Value}(h:VR X P0 g (.tuple ds) v)(hs:PM.le g s.heap.get?):∃a vs,v=.ref a/\s.heap.IsTuple a vs/\Qo X P0 g ds vs.toList:=by
 dsimp only[VR] at h;obtain⟨a,o,vs,n,rfl,h1,h2,h3,h4⟩:=h;exact⟨a,vs,rfl,⟨o,hs _ _ h1,h2,n,h3⟩,h4⟩
theorem VR.list_at{ds:List AV}{v:Value}(h:VR X P0 g (.list ds) v)(hs:PM.le g s.heap.get?):∃a vs,v=.ref a/\s.heap.IsList a vs/\Qo X P0 g ds vs.toList:=by
 dsimp only[VR] at h;obtain⟨a,o,vs,n,rfl,h1,h2,h3,_,_,h4⟩:=h;exact⟨a,vs,rfl,⟨o,hs _ _ h1,h2,n,h3⟩,h4⟩
theorem MH{x:AV}{l:List AV}{r:Bool}{vx vl:Value}(h:Yp x l=some r)(hx:VR X P0 g x vx)(hl:VR X P0 g (.tuple l) vl)(hs:PM.le g s.heap.get?):
  (Q (.bool r) s->wpAny X.M A (compareOp .In vx vl) Q E s)/\(Q (.bool !r) s->wpAny X.M A (compareOp .NotIn vx vl) Q E s):=by
 refine cps fun U y0=>?_;obtain⟨a,vs,rfl,h1,h2⟩:=hl.tuple_at hs;obtain⟨k1,k2⟩:=Qo.mem_any (s:=s) hx h2 h;refine y0 ?_;have k3:vs.any (WW · vx)=r:=((Array.any_toList ..).symm.trans (k1 ..))
 exact⟨fun hq=>in_tupleAt (WW · vx) h1 (fun y hy=>k2 _ y (Array.mem_toList_iff.mpr hy)) (((k3 ..)▸hq)),
  fun hq=>notIn_tupleAt (WW · vx) h1 (fun y hy=>k2 _ y (Array.mem_toList_iff.mpr hy)) (((k3 ..)▸hq))⟩
end
set_option maxRecDepth 100000 in
theorem WI:typeLookup (.type "bytes") "__index__"=pure none:=by rw[typeLookup_type,builtinLookup_eq_fast];kernel_rfl
set_option maxRecDepth 100000 in
theorem HB:typeName (.type "bytes")=pure "bytes":=by
 show _=_;kernel_rfl
theorem Ux{α:Type}(l m:List α)(i:Nat):(l.toArray.extract i (i+m.length)).toList=(l.drop i).take m.length:=by
 simp[List.drop_take]
theorem Va:∀(l m:List Nat),isInfix m l=true ↔ ∃i,i+m.length<=l.length/\(l.drop i).take m.length=m
 | [],m=>by
  dsimp only[isInfix];rw[List.isEmpty_iff];constructor
  ·rintro rfl;exact⟨0,by decide⟩
  ·rintro⟨i,h1,h2⟩;rcases m with _|⟨_,_⟩
   ·rfl
   ·simp at h1
 | c::r,m=>by
  dsimp only[isInfix];rw[Bool.or_eq_true,Va r m,List.isPrefixOf_iff_prefix];constructor
  ·rintro(h|⟨i,h1,h2⟩)
   ·refine⟨0,by simpa using h.length_le,?_⟩;refine Eq.trans List.drop_zero ?_;exact(List.prefix_iff_eq_take.mp h).symm
   ·exact⟨i+1,by rw[List.length_cons];omega,h2⟩
  ·rintro⟨i,h1,h2⟩;rcases i with _|i
   ·exact .inl (List.prefix_iff_eq_take.mpr (by rw[List.drop_zero] at h2;exact h2.symm))
   ·exact .inr ⟨i,by rw[List.length_cons] at h1;omega,h2⟩
section
variable {prog:Program}{w:World}{A:Around}{E:VP}{s:Shared}
open Builtin in
theorem NS(b m:Array UInt8):(Bytes.find? b m 0 b.size).isSome=isInfix (m.toList.map UInt8.toNat) (b.toList.map UInt8.toNat):=by
 rw[Bool.eq_iff_iff,Va];unfold Bytes.find?;rw[List.find?_isSome];obtain⟨l⟩:=b;obtain⟨m⟩:=m;simp only[List.mem_map,List.mem_range,List.length_map,Array.size,beq_iff_eq,Nat.zero_add,<-List.map_drop,<-List.map_take];constructor
 ·rintro⟨i,⟨j,hj,rfl⟩,he⟩;refine⟨j,by omega,?_⟩;have:=congrArg Array.toList he;rw[Nat.add_zero,Ux] at this;rw[this]
 ·rintro⟨i,h1,h2⟩;refine⟨i,⟨i,by omega,rfl⟩,?_⟩;apply Array.toList_inj.mp;rw[Ux];exact Jp h2
theorem Rf{n:Nat}{b:Array UInt8}{t:Tok}{Q:String->Shared->Prop}(h:Q "bytes" s):wpAny (model prog w) A (typeNameOfCut n (.bytes b t)) Q E s:=by
 unfold typeNameOfCut shownTypeOf;refine wpAny_bind (wpAny_bind (wpAny_typeOf (W.typeIs_bytes _ b t) ?_));dsimp only[show(Value.type "bytes" == Value.type "builtin_function_or_method")=false by decide,Bool.false_eq_true,if_false];refine wpAny_pure ?_;rw[show typeNameCut n (.type "bytes")=typeName (.type "bytes") from rfl,HB];exact wpAny_pure h
open Builtin in
theorem Ko{m:Array UInt8}{u:Tok}{Q:Except Value Int->Shared->Prop}(hh:A.handled=none)
  (h:∀h' tk e,(∀b o,s.heap.get? b=some o->h'.get? b=some o)->Q (.error e) { s with heap:=h',toks:=tk }):wpAny (model prog w) A ((asIndex (.bytes m u)).attempt) Q E s:=by
 refine wpAny_attempt ?_;refine wpAny_bind (wpAny_of_eq (a:=(none:Option Int)) rfl ?_);refine wpAny_bind (wpAny_callSpecial?_none (name:=Str.ofString "__index__") (W.typeIs_bytes s m u) WI ?_);refine wpAny_bind (Rf ?_)
 exact_raiseError plainExc_TypeError hh (fun h' tk e N=>h h' tk _ N.1)
set_option maxRecDepth 100000 in
open Builtin in
theorem YE(b:Array UInt8)(t:Tok)(i:Int)(u:Tok)(h0:0<=i)(h1:i < 256):
  Meets («bytes.__contains__» ⟨[.bytes b t,.int i u],[]⟩) (fun Z R s=>R (.ok (.ret (.bool ((b.toList.map UInt8.toNat).contains i.toNat)))) s):=
 .of_wp fun prog w A R s hS=>by
  show wpAny _ _ (Bytes.containsIn "bytes.__contains__" (.bytes b t) (.int i u) >>= fun r=>_) _ _ s;refine wpAny_bind ?_;refine wpAny_bind (wpAny_attempt (wpAny_of_eq (a:=i) rfl ?_));refine wpAny_bind (wpAny_of_eq KBy.buffer_eq ?_);refine wpAny_ite (KBy.ite_no (by simp;lia) ?_);refine wpAny_pure (wpAny_pure ⟨_,rfl,?_⟩);have e:b.contains i.toNat.toUInt8=(b.toList.map UInt8.toNat).contains i.toNat:=by
   rw[Bool.eq_iff_iff,Array.contains_iff_mem,List.contains_iff_mem,List.mem_map];constructor
   ·intro h;refine⟨_,Array.mem_toList_iff.mpr h,?_⟩;simp;omega
   ·rintro⟨c,hc,he⟩;rw[<- he];simpa using hc
  rw[e];exact hS
open Builtin in
theorem UM(b:Array UInt8)(t:Tok)(m:Array UInt8)(u:Tok):
  Meets («bytes.__contains__» ⟨[.bytes b t,.bytes m u],[]⟩) (fun A R s=>A.handled=none/\∀h' tk,(∀b o,s.heap.get? b=some o->h'.get? b=some o)->
   R (.ok (.ret (.bool (isInfix (m.toList.map UInt8.toNat) (b.toList.map UInt8.toNat))))) { s with heap:=h',toks:=tk }):=
 .of_wp fun prog w A R s hS=>by
  show wpAny _ _ (Bytes.containsIn "bytes.__contains__" (.bytes b t) (.bytes m u) >>= fun r=>_) _ _ s;refine wpAny_bind ?_;refine wpAny_bind (Ko hS.1 fun h' tk e hk=>?_);refine wpAny_bind (wpAny_of_eq KBy.buffer_eq ?_);refine wpAny_bind (wpAny_of_eq KBy.buffer_eq ?_);refine wpAny_bind (wpAny_rule (wpAny_pure (wpAny_pure ⟨_,rfl,?_⟩)));rw[NS];exact hS.2 h' tk hk
end
structure DK(X:Qu)(K:Type)[DecidableEq K] where
 knd:KeyKind pw X.w K
 enc:K->AV
 eq:∀a b,(enc a).eqS (enc b)=some (decide (a=b))
 of:AV->Bool
 ofv:∀P0 g x v,of x=true->VR X P0 g x v->∃k,x=enc k/\knd.is k v=true
 inv:∀P0 g a x b v,(enc a).eqS x=some b->VR X P0 g x v->∃k,x=enc k/\knd.is k v=true
theorem Tf(a b:List UInt8):(Z8 a).eqS (Z8 b)=some (decide (a=b)):=by
 show some (a.map UInt8.toNat == b.map UInt8.toNat)=_;rw[Ks];congr 1;rw[Bool.eq_iff_iff,beq_iff_eq,decide_eq_true_eq]
theorem RS(a b:Str):(WZ a).eqS (WZ b)=some (decide (a=b)):=by
 show some (a.cps.toList == b.cps.toList)=_;refine(congrArg _ (SeqAt.str_beq ..)).trans ?_;congr 1
noncomputable def Bs(X:Qu):DK X (List UInt8) where
 knd:=bytesKind pw X.w
 enc:=Z8
 eq:=Tf
 of:=OW
 ofv P0 g x v h hv:=by
  cases x<;>try (cases h;done)
  dsimp only[VR] at hv;obtain⟨c,t,rfl,e⟩:=hv;exact⟨c.toList,by dsimp only[Z8];rw[e],by simp[bytesKind,isBytes]⟩
 inv P0 g a x b v h hv:=by
  cases x<;>try exact Qf h
  dsimp only[VR] at hv;obtain⟨c,t,rfl,e⟩:=hv;exact⟨c.toList,by dsimp only[Z8];rw[e],by simp[bytesKind,isBytes]⟩
noncomputable def DG(X:Qu):DK X Int where
 knd:=intKind pw X.w
 enc:=.int
 eq a b:=by show some (a == b)=_;congr 1
 of:=zk
 ofv P0 g x v h hv:=by
  cases x<;>try (cases h;done)
  dsimp only[VR] at hv;obtain⟨t,rfl⟩:=hv;exact⟨_,rfl,by simp[intKind,Value.isInt]⟩
 inv P0 g a x b v h hv:=by
  cases x<;>try exact Qf h
  dsimp only[VR] at hv;obtain⟨t,rfl⟩:=hv;exact⟨_,rfl,by simp[intKind,Value.isInt]⟩
noncomputable def DF(X:Qu):DK X Str where
 knd:=strKind pw X.w
 enc:=WZ
 eq:=RS
 of:=I5
 ofv P0 g x v h hv:=by
  cases x<;>try (cases h;done)
  dsimp only[VR] at hv;obtain⟨c,t,rfl,e⟩:=hv;exact⟨c,by unfold WZ;rw[e],by simp[PySem.strKind,Value.isStrOf]⟩
 inv P0 g a x b v h hv:=by
  cases x<;>try exact Qf h
  dsimp only[VR] at hv;obtain⟨c,t,rfl,e⟩:=hv;refine⟨c,by unfold WZ;rw[e],?_⟩;simp[PySem.strKind,Value.isStrOf]
noncomputable def ZV{X:Qu}{K:Type}[DecidableEq K](k:DK X K)(P0 g:PM)(ks vs:List AV)(o:Obj):Prop:=
 ∃(l:List K) (vals:List Value),ks=l.map k.enc/\l.length=vals.length/\Qo X P0 g vs vals/\o.IsDictOf k.knd (l.zip vals)
section
variable {X:Qu}{A:Around}{P0 g:PM}{s:Shared}{Q:VP}{E:VP}
theorem VR.dict_at{ks vs:List AV}{v:Value}(h:VR X P0 g (.dict ks vs) v):∃a o,v=.ref a/\(a == sysModules)=false/\g a=some o/\(ZV (Bs X) P0 g ks vs o\/ZV (DG X) P0 g ks vs o\/ZV (DF X) P0 g ks vs o):=by
 dsimp only[VR] at h;obtain⟨a,o,vals,rfl,h1,h2,h3,h4⟩:=h;refine⟨a,o,rfl,h1,h2,?_⟩;rcases h4 with⟨k,e1,e2,e3⟩|⟨k,e1,e2,e3⟩|⟨k,e1,e2,e3⟩
 ·exact .inl ⟨k,vals,e1,e2,h3,e3⟩
 ·exact .inr (.inl ⟨k,vals,e1,e2,h3,e3⟩)
 ·exact .inr (.inr ⟨k,vals,e1,e2,h3,e3⟩)
theorem VR.of_dict{ks vs:List AV}{a:Addr}{o:Obj}(h1:(a == sysModules)=false)(h2:g a=some o)(h:ZV (Bs X) P0 g ks vs o\/ZV (DG X) P0 g ks vs o\/ZV (DF X) P0 g ks vs o):VR X P0 g (.dict ks vs) (.ref a):=by
 dsimp only[VR];rcases h with⟨k,vals,e1,e2,h3,e3⟩|⟨k,vals,e1,e2,h3,e3⟩|⟨k,vals,e1,e2,h3,e3⟩
 ·exact⟨a,o,vals,rfl,h1,h2,h3,.inl ⟨k,e1,e2,e3⟩⟩
 ·exact⟨a,o,vals,rfl,h1,h2,h3,.inr (.inl ⟨k,e1,e2,e3⟩)⟩
 ·exact⟨a,o,vals,rfl,h1,h2,h3,.inr (.inr ⟨k,e1,e2,e3⟩)⟩
noncomputable def Be(X:Qu)(P0 g:PM):Option AV->Option Value->Prop
 | none,o=>o=none
 | some d,o=>∃v,o=some v/\VR X P0 g d v
theorem Li{K:Type}[DecidableEq K]{k:DK X K}(key:K):∀(l:List K) (vals:List Value) (vs:List AV) (r:Option AV),l.length=vals.length->Qo X P0 g vs vals->
  findKey (k.enc key) (l.map k.enc) vs=some r->Be X P0 g r (valueAt (l.zip vals) key):=by
 intro zz
 induction zz with
 | nil=>
  intro vals vs r h hv e;obtain rfl:=so e;rfl
 | cons x l ih=>
  intro zy;rcases zy with _|⟨v,vals⟩
  ·
   intro vs r h hv e;exact absurd h (Nat.succ_ne_zero _)
  ·
   intro zy;rcases zy with _|⟨d,vs⟩
   ·
    intro r h hv e;exact absurd hv (List.cons_ne_nil _ _)
   ·
    intro r h hv e;dsimp only[Qo] at hv;refine cps fun U y0=>?_;obtain⟨v',r',e1,h1,h2⟩:=hv;cases e1;refine y0 ?_;rw[List.map_cons] at e;dsimp only[findKey] at e;rw[k.eq] at e;by_cases hx:x=key
    ·rw[decide_eq_true hx] at e;obtain rfl:some d=r:=so e;exact⟨v,by simp[valueAt,hx],h1⟩
    ·rw[decide_eq_false hx] at e;have:=ih vals vs r (by simpa using h) h2 e;have e3:valueAt ((x::l).zip (v::vals)) key=valueAt (l.zip vals) key:=by simp[valueAt,hx]
     refine Eq.mpr (congrArg _ e3) ?_;exact this
theorem PX{K:Type}[DecidableEq K]{k:DK X K}{x:AV}{ks vs:List AV}{r:Option AV}{vx:Value}{o:Obj}(h:Jv x ks vs=some r)(hx:VR X P0 g x vx)(hd:ZV k P0 g ks vs o):
  ∃key kvs,k.knd.is key vx=true/\o.IsDictOf k.knd kvs/\Be X P0 g r (valueAt kvs key):=by
 refine cps fun U y0=>?_;obtain⟨l,vals,rfl,h2,h3,h4⟩:=hd;refine y0 ?_;unfold Jv at h;by_cases hne:(l.map k.enc).isEmpty=true
 ·rw[if_pos hne] at h;exact Qf h
 ·rw[if_neg hne] at h;rcases l with _|⟨y,l⟩
  ·exact nomatch hne
  ·
   have:∃b,(k.enc y).eqS x=some b:=by
    rcases q:(k.enc y).eqS x with _|b
    ·rw[List.map_cons] at h;dsimp only[findKey] at h;replace h:=q▸h;exact Qf h
    ·exact⟨b,rfl⟩
   refine cps fun U y0=>?_;obtain⟨b,hb⟩:=this;obtain⟨key,rfl,hk⟩:=k.inv _ _ _ _ _ _ hb hx;refine y0 ?_;exact⟨key,_,hk,h4,Li key _ _ _ _ h2 h3 h⟩
theorem HU{x:AV}{ks vs:List AV}{r:Option AV}{vx vd:Value}(h:Jv x ks vs=some r)(hx:VR X P0 g x vx)(hd:VR X P0 g (.dict ks vs) vd)(hs:PM.le g s.heap.get?):
  ∃(K:Type) (_:DecidableEq K) (knd:KeyKind pw X.w K) (key:K) (kvs:List (K×Value)) (a:Addr),vd=.ref a/\(a == sysModules)=false/\knd.is key vx=true/\s.heap.DictOf knd a kvs/\
   Be X P0 g r (valueAt kvs key):=by
 refine cps fun U y0=>?_;obtain⟨a,o,rfl,h1,h2,h3⟩:=hd.dict_at;refine y0 ?_;rcases h3 with h3|h3|h3
 all_goals
  refine cps fun U y0=>?_;obtain⟨key,kvs,k1,k2,k3⟩:=PX h hx h3;refine y0 ?_;exact⟨_,_,_,key,kvs,a,rfl,h1,k1,Heap.dictOf_iff.mpr ⟨o,hs _ _ h2,k2⟩,k3⟩
theorem in_dict{x:AV}{ks vs:List AV}{r:Option AV}{vx vd:Value}(h:Jv x ks vs=some r)(hx:VR X P0 g x vx)(hd:VR X P0 g (.dict ks vs) vd)(hs:PM.le g s.heap.get?):
  (Q (.bool r.isSome) { s with toks:=s.toks+1 }->wpAny X.M A (compareOp .In vx vd) Q E s)/\(Q (.bool !r.isSome) { s with toks:=s.toks+1 }->wpAny X.M A (compareOp .NotIn vx vd) Q E s):=by
 refine cps fun U y0=>?_;obtain⟨K,_,knd,key,kvs,a,rfl,h1,h2,h3,h4⟩:=HU (s:=s) h hx hd hs;refine y0 ?_;have e:(valueAt kvs key).isSome=r.isSome:=by
  rcases r with _|d
  ·rw[show valueAt kvs key=none from h4];rfl
  ·obtain⟨v,h5,_⟩:=h4;rw[h5];rfl
 exact⟨fun hq=>wpAny_in_of h2 h1 h3.mapOf (((e ..)▸hq)),fun hq=>wpAny_notIn_of h2 h1 h3.mapOf (((e ..)▸hq))⟩
end
section
variable {X:Qu}{A:Around}{P0 g:PM}{s:Shared}{Q:VP}{E:VP}
noncomputable def En:Co->CmpOp
 | .eq=>.Eq|.ne=>.NotEq|.lt=>.Lt|.le=>.LtE|.gt=>.Gt|.ge=>.GtE|.isNone=>.Is|.isNotNone=>.IsNot|.in_=>.In|.notIn=>.NotIn
theorem QK{b:Bool}(h:QU X P0 g s (.bool b) Q)(hs:PM.le g s.heap.get?){tk:Nat}:Q (.bool b) { s with toks:=tk }:=YI h hs rfl
theorem VR.ne_none{d:AV}{v:Value}(h:VR X P0 g d v)(hd:d≠.none):v≠.none:=by
 intro e;subst e;rcases d with _|_<;>dsimp only[VR] at h
 ·exact hd rfl
 ·cases h
 ·obtain⟨_,h⟩:=h;cases h
 ·obtain⟨_,_,h,_⟩:=h;cases h
 ·obtain⟨_,_,h,_⟩:=h;cases h
 ·obtain⟨_,_,_,_,h,_⟩:=h;cases h
 ·obtain⟨_,_,_,_,h,_⟩:=h;cases h
 ·obtain⟨_,_,_,_,_,_,_,_,_,h,_⟩:=h;cases h
 ·obtain⟨_,_,_,h,_⟩:=h;cases h
 ·obtain⟨_,_,_,_,h,_⟩:=h;cases h
 ·obtain⟨_,_,h,_⟩:=h;cases h
 ·cases h
set_option tactic.hygienic true in
theorem K8:∀{l:List AV} {w:List (List Nat)},Je l=some w->l=w.map .bytes:=by
 intro zz
 induction zz with
 | nil=>
  intro w h;dsimp only[Je] at h;obtain rfl:=so h;rfl
 | cons d r ih=>
  intro w h;rcases d with _|_<;>first|(dsimp only[Je] at h;exact Qf h;done)|skip
  rename_i b;dsimp only[Je] at h;rcases e:Je r with _|w'
  ·rw[e] at h;exact Qf h
  ·
   rw[e] at h;obtain rfl:=so h;rw[List.map_cons,<-ih e]
theorem NW{b c:Array UInt8}{t u:Tok}(h:b.toList=c.toList):EqAt A s (.bytes b t) (.bytes c u) true:=fun prog w E Q hq=>by
 refine W.eqBool_bytes ?_;exact(decide_eq_true h)▸hq
theorem FL{K:Type}[DecidableEq K]:∀{l:List K} {vs:List Value},l.Nodup->∀p∈l.zip vs,valueAt (l.zip vs) p.1=some p.2:=by
 intro zz
 induction zz with
 | nil=>
  intro _ _ p hp;simp at hp
 | cons k l ih=>
  intro zy;rcases zy with _|⟨v,vs⟩
  ·
   intro _ p hp;simp at hp
  ·
   intro nd p hp;rw[List.zip_cons_cons] at hp ⊢;rw[List.nodup_cons] at nd;rcases List.mem_cons.mp hp with rfl|hp
   ·simp[valueAt]
   ·have ih:=ih nd.2 p hp;have:k≠p.1:=fun q=>nd.1 (q▸(List.of_mem_zip hp).1);unfold valueAt at ih ⊢;refine(congrArg _ (List.find?_cons)).trans ?_;simp only[this,decide_false];exact ih
theorem GO{K:Type}[DecidableEq K]{kb:List (K×Value)}:∀{l:List K} {va vb:List Value} {ds:List (List Nat)},l.length=va.length->l.length=vb.length->Qo X P0 g (ds.map .bytes) va->Qo X P0 g (ds.map .bytes) vb->(∀p∈l.zip vb,valueAt kb p.1=some p.2)->W.KeqHits A s kb (l.zip va) true:=by
 intro zz
 induction zz with
 | nil=>
  intro _ _ _ _ _ _ _ _;exact((List.zip_nil_left ..)▸.nil)
 | cons k l ih=>
  intro zy;rcases zy with _|⟨v,va⟩
  ·
   intro _ _ h _ _ _ _;simp at h
  ·
   intro zy;rcases zy with _|⟨u,vb⟩
   ·
    intro _ _ h _ _ _;simp at h
   ·
    intro zy;rcases zy with _|⟨d,ds⟩
    ·
     intro _ _ h _ _;exact absurd h (List.cons_ne_nil _ _)
    ·
     intro h1 h2 h3 h4 h5;rw[List.map_cons] at h3 h4;refine cps fun U y0=>?_;obtain⟨v',r,e1,a1,a2⟩:=h3;obtain⟨u',r',e2,b1,b2⟩:=h4;cases e1;cases e2;dsimp only[VR] at a1 b1;obtain⟨x,t,rfl,ex⟩:=a1;obtain⟨y,t',rfl,ey⟩:=b1;refine y0 ?_;rw[List.zip_cons_cons] at h5 ⊢;have hx:x.toList=y.toList:=Jp (ex.trans ey.symm);have:=W.KeqHits.hit (r:=l.zip va) (h5 (k,Value.bytes y t') (.head _)) (NW (A:=A) (s:=s) (t:=t) (u:=t') hx) (ih (by simpa using h1) (by simpa using h2) a2 b2 fun p hp=>h5 p (by simp[hp]));exact this
theorem ZV.emp{X:Qu}{K:Type}[DecidableEq K]{k:DK X K}{P0 g:PM}{ys:List AV}{o:Obj}(d:ZV k P0 g [] ys o):ZV (Bs X) P0 g [] ys o:=by
 obtain⟨l,v,q1,q2,q3,q4⟩:=d;rcases l with _|_
 ·rcases v with _|_
  ·refine⟨[],[],rfl,rfl,q3,?_⟩;obtain⟨es,ep,z1,z2,z3,z4,z5⟩:=q4;have hes:es=#[]:=by
    have:=z4.length;rw[Array.length_toList] at this;exact Array.eq_empty_of_size_eq_zero (by simpa using this)
   subst hes;exact⟨#[],ep,z1,z2,fun e he=>by simp at he,Pairs.nil,List.nodup_nil⟩
  ·exact absurd q2.symm (Nat.succ_ne_zero _)
 ·cases q1
theorem ZV.toB{X:Qu}{P0 g:PM}{xs ys:List AV}{o:Obj}(hb:xs.all OW=true)(d:ZV (Bs X) P0 g xs ys o\/ZV (DG X) P0 g xs ys o\/ZV (DF X) P0 g xs ys o):ZV (Bs X) P0 g xs ys o:=by
 rcases d with d|d|d
 ·exact d
 all_goals
  rcases xs with _|⟨x,xs⟩
  ·exact d.emp
  ·obtain⟨l,v,q1,_⟩:=d;rcases l with _|⟨y,l⟩
   ·cases q1
   ·rw[q1] at hb;exact(Bool.false_ne_true (Bool.and_eq_true_iff.mp hb).1).elim
theorem qb{x y:List AV}(hz:(x.isEmpty||y.isEmpty)=true)(hl:x.length=y.length):x=[]/\y=[]:=by
 rcases x with _|_
 ·exact⟨rfl,List.eq_nil_of_length_eq_zero hl.symm⟩
 ·rcases y with _|_
  ·exact absurd hl (Nat.succ_ne_zero _)
  ·exact absurd hz Bool.false_ne_true
theorem qc{x y:List AV}(hl:x.length≠y.length):(x.isEmpty&&y.isEmpty)=false:=by
 rcases x with _|_
 ·rcases y with _|_
  ·exact absurd rfl hl
  ·rfl
 ·rfl
theorem zZ{β:Type}{a b c d:Option (List (List Nat))}{F:List (List Nat)->List (List Nat)->List (List Nat)->List (List Nat)->Option β}{r:β}{C:Prop}(h:(match a,b,c,d with|some w,some x,some y,some z=>F w x y z|_,_,_,_=>none)=some r)
  (k:∀w x y z,a=some w->b=some x->c=some y->d=some z->F w x y z=some r->C):C:=by
 rcases a with _|_
 ·exact Qf h
 rcases b with _|_
 ·exact Qf h
 rcases c with _|_
 ·exact Qf h
 rcases d with _|_
 ·exact Qf h
 exact k _ _ _ _ rfl rfl rfl rfl h
theorem TS{a b:AV}{r:Bool}{va vb:Value}(h:a.eqA b=some r)(ha:VR X P0 g a va)(hb:VR X P0 g b vb)(hs:PM.le g s.heap.get?)(hu:A.units < cLine):
  (∀(E:VP) (Q:VP),Q (.bool r) s->wpAny X.M A (compareOp .Eq va vb) Q E s)/\(∀(E:VP) (Q:VP),Q (.bool !r) s->wpAny X.M A (compareOp .NotEq va vb) Q E s):=by
 have only:∀a b:AV,a.eqA b=some r->(∃x y,a=.list x/\b=.list y)\/(∃x y z w,a=.dict x y/\b=.dict z w)\/a.eqS b=some r:=fun a b h=>by
  rcases a with _|_<;>try exact .inr (.inr h)
  all_goals rcases b with _|_<;>first|exact .inl ⟨_,_,rfl,rfl⟩|exact .inr (.inl ⟨_,_,_,_,rfl,rfl⟩)|exact .inr (.inr h)
 rcases only a b h with⟨x,y,rfl,rfl⟩|⟨k1,k2,k3,k4,rfl,rfl⟩|h
 ·delta AV.eqA at h;dsimp only at h;refine cps fun U y0=>?_;obtain⟨a1,v1,rfl,h1,h2⟩:=ha.list_at hs;obtain⟨a2,v2,rfl,k1,k2⟩:=hb.list_at hs;have l1:=h2.len;have l2:=k2.len;rw[Array.length_toList] at l1 l2;obtain⟨hz,h⟩:=QL h;obtain rfl:=so h;refine y0 ?_;by_cases e:v1.size=v2.size
  ·have ex:x=[]/\y=[]:=qb hz (l1.symm.trans (e.trans l2));obtain⟨rfl,rfl⟩:=ex;have z:v1.size=0:=l1;have r1:=RcAt.lists (e:=fun Z=>true) h1 k1 e hu (fun j hj=>by omega);have r2:=RcNeAt.lists (e:=fun Z=>true) h1 k1 e hu (fun j hj=>by omega);rw[z] at r1 r2;exact⟨r1 _ _,r2 _ _⟩
  ·have hne:(v1.size != v2.size)=true:=by simpa using e
   have:(x.isEmpty&&y.isEmpty)=false:=qc fun q=>e (l1.trans (q.trans l2.symm));refine(this ..).symm▸?_;exact⟨RcAt.lists_lengths h1 k1 hne hu _ _,RcNeAt.lists_lengths h1 k1 hne hu _ _⟩
 ·delta AV.eqA at h;dsimp only at h;refine cps fun U y0=>?_;refine zZ h ?_;clear h;intro w x y z e1 e2 e3 e4 h;replace h:=QL h;obtain⟨⟨rfl,rfl,hl,_,hne⟩,h⟩:=h;obtain rfl:=so h;have e1:=K8 e1;have e2:=K8 e2;have e3:=K8 e3;have e4:=K8 e4;subst e1 e2 e3 e4;obtain⟨a1,o1,rfl,s1,g1,d1⟩:=ha.dict_at;obtain⟨a2,o2,rfl,s2,g2,d2⟩:=hb.dict_at;have hw:(w.map AV.bytes).all OW=true:=List.all_map.trans (List.all_eq_true.mpr fun _ _=>rfl);obtain⟨l1,v1,q1,m1,r1,i1⟩:=ZV.toB hw d1;obtain⟨l2,v2,q2,m2,r2,i2⟩:=ZV.toB hw d2;have el:l1=l2:=by
   have:=q1.symm.trans q2;have inj:∀{a b:List (List UInt8)},a.map Z8=b.map Z8->a=b:=fun{a}=>by
    induction a with
    | nil=>intro b h;cases b with|nil=>rfl|cons _ _=>simp at h
    | cons c a ih=>
     intro b h;rcases b with _|⟨d,b⟩
     ·simp at h
     ·
      rw[List.map_cons,List.map_cons,List.cons.injEq] at h;have h1:=h.1;simp only[Z8,AV.bytes.injEq] at h1;rw[Jp h1,ih h.2]
   exact inj this
  subst el;refine y0 ?_;have nd:l1.Nodup:=by
   refine cps fun U y0=>?_;obtain⟨es,ep,_,_,_,_,k⟩:=i2;refine y0 ?_;rwa [List.map_fst_zip (by lia)] at k
  have D1:=Heap.dictOf_iff.mpr ⟨o1,hs _ _ g1,i1⟩;have D2:=Heap.dictOf_iff.mpr ⟨o2,hs _ _ g2,i2⟩;have hh:W.KeqHits A.in1 s (l1.zip v2) (l1.zip v1) true:=GO (A:=A.in1) (s:=s) m1 m2 r1 r2 (FL nd);have hlen:((l1.zip v1).length == (l1.zip v2).length)=true:=by simp[m1.symm,m2.symm]
  refine⟨fun E Q hq=>W.keq_eq s1 s2 D1 D2 hu (fun Z=>hh) ?_,fun E Q hq=>W.keq_ne s1 s2 D1 D2 hu (fun Z=>hh) ?_⟩
  ·rw[hlen];exact hq
  ·rw[hlen];exact hq
 ·have:=TR (s:=s) h ha hb;exact⟨this.2.1 A _ _,this.2.2.1 A _ _⟩
theorem E0{x c:AV}{r:Bool}(h:NP x c=some r):(∃l,c=.tuple l/\Yp x l=some r)\/(∃l i,c=.bytes l/\x=.int i/\(0<=i/\i < 256)/\l.contains i.toNat=r)\/
  (∃l m,c=.bytes l/\x=.bytes m/\isInfix m l=r)\/∃ks vs,c=.dict ks vs/\(Jv x ks vs).map Option.isSome=some r:=by
 rcases c with _|_|_|_|_|_|_|_|_|_|_|_<;>try exact Qf h
 ·rcases x with _|_|_|_|_|_|_|_|_|_|_|_<;>first|exact Qf h|exact .inr (.inl ⟨_,_,rfl,rfl,(QL h).1,so (QL h).2⟩)|exact .inr (.inr (.inl ⟨_,_,rfl,rfl,so (QL h).2⟩))
 ·exact .inl ⟨_,rfl,h⟩
 ·exact .inr (.inr (.inr ⟨_,_,rfl,h⟩))
theorem AN{x c:AV}{r:Bool}{vx vc:Value}(h:NP x c=some r)(hx:VR X P0 g x vx)(hc:VR X P0 g c vc)(hs:PM.le g s.heap.get?)(hh:A.handled=none):
  (QU X P0 g s (.bool r) Q->wpAny X.M A (compareOp .In vx vc) Q E s)/\(QU X P0 g s (.bool !r) Q->wpAny X.M A (compareOp .NotIn vx vc) Q E s):=by
 replace h:=E0 h;rcases h with⟨l,rfl,h⟩|⟨l,i,rfl,rfl,hi,rfl⟩|⟨l,m,rfl,rfl,rfl⟩|⟨ks,vs,rfl,h⟩
 ·have:=MH (A:=A) (Q:=Q) (E:=E) h hx hc hs;exact⟨fun hq=>this.1 (QK (tk:=s.toks) hq hs),fun hq=>this.2 (QK (tk:=s.toks) hq hs)⟩
 ·dsimp only[VR] at hc;obtain⟨b,t,rfl,e⟩:=hc
  ·dsimp only[VR] at hx;obtain⟨u,rfl⟩:=hx;have M:=YE b t _ u hi.1 hi.2;replace M:=e▸M;exact⟨fun hq=>SeqRoads2.in_meets (W.typeIs_bytes s b t) FB.slot_bytes_contains FB.entry_bytes_contains (FB.args_bytes_contains_2 _ _) M ⟨_,rfl,QK (tk:=s.toks) hq hs⟩,
    fun hq=>SeqRoads2.notIn_meets (W.typeIs_bytes s b t) FB.slot_bytes_contains FB.entry_bytes_contains (FB.args_bytes_contains_2 _ _) M ⟨_,rfl,QK (tk:=s.toks) hq hs⟩⟩
 ·dsimp only[VR] at hc;obtain⟨b,t,rfl,e⟩:=hc
  ·dsimp only[VR] at hx;obtain⟨m,u,rfl,e2⟩:=hx;have M:=UM b t m u;rw[e,e2] at M;exact⟨fun hq=>SeqRoads2.in_meets (W.typeIs_bytes s b t) FB.slot_bytes_contains FB.entry_bytes_contains (FB.args_bytes_contains_2 _ _) M ⟨hh,fun h' tk k=>⟨_,rfl,hq _ g h' tk (Qs.same hs k) k rfl⟩⟩,
    fun hq=>SeqRoads2.notIn_meets (W.typeIs_bytes s b t) FB.slot_bytes_contains FB.entry_bytes_contains (FB.args_bytes_contains_2 _ _) M ⟨hh,fun h' tk k=>⟨_,rfl,hq _ g h' tk (Qs.same hs k) k rfl⟩⟩⟩
 ·rcases e:Jv x ks vs with _|r'
  ·rw[e] at h;exact Qf h
  ·
   replace h:=e▸h;obtain rfl:=so h;have:=in_dict (A:=A) (Q:=Q) (E:=E) e hx hc hs;exact⟨fun hq=>this.1 (QK hq hs),fun hq=>this.2 (QK hq hs)⟩
theorem TN{a:AV}{r:Bool}(h:a.isN=some r):(a=.none/\r=true)\/(a≠.none/\r=false):=by
 rcases a with _|_|_|_|_|_|_|_|_|_|_|_<;>first|exact Qf h|exact .inl ⟨rfl,(so h).symm⟩|exact .inr ⟨nofun,(so h).symm⟩
theorem LO{a b:AV}{r:Bool}(h:Jh .isNone a b=some r):b=.none/\a.isN=some r:=by
 rcases b with _|_|_|_|_|_|_|_|_|_|_|_<;>first|exact Qf h|exact⟨rfl,h⟩
theorem LP{a b:AV}{r:Bool}(h:Jh .isNotNone a b=some r):b=.none/\∃r',a.isN=some r'/\(!r')=r:=by
 rcases b with _|_|_|_|_|_|_|_|_|_|_|_<;>first|exact Qf h|exact⟨rfl,Option.map_eq_some_iff.mp h⟩
theorem H7{o:Co}{a b:AV}{r:Bool}{va vb:Value}(h:Jh o a b=some r)(ha:VR X P0 g a va)(hb:VR X P0 g b vb)(hs:PM.le g s.heap.get?)(hh:A.handled=none)(hu:A.units < cLine)
  (hQ:QU X P0 g s (.bool r) Q):wpAny X.M A (compareOp (En o) va vb) Q E s:=by
 have i0:∀{d:AV} {v:Value},VR X P0 g d v->∀{i:Int},d=.int i->ES i v:=fun h i e=>by subst e;dsimp only[VR] at h;exact h
 rcases o with _|_|_|_|_|_|_|_|_|_
 ·exact(TS h ha hb hs hu).1 _ _ (QK (tk:=s.toks) hQ hs)
 ·
  replace h:(a.eqA b).map (!·)=some r:=h;rcases e:a.eqA b with _|r'
  ·rw[e] at h;exact Qf h
  ·
   rw[e] at h;obtain rfl:=so h;exact(TS e ha hb hs hu).2 _ _ (QK (tk:=s.toks) hQ hs)
 ·
  replace h:=Fj h;rcases h with⟨x,y,rfl,rfl,h⟩|⟨x,y,rfl,rfl,h⟩
  all_goals (obtain rfl:=so h)
  all_goals dsimp only[VR] at ha hb
  ·obtain⟨t,rfl⟩:=ha;obtain⟨u,rfl⟩:=hb;exact PyProof.Rows.lt_int (QK (tk:=s.toks) hQ hs)
  ·obtain⟨x,t,rfl,e1⟩:=ha;obtain⟨y,u,rfl,e2⟩:=hb;refine PV ?_;rw[e1,e2];exact QK (tk:=s.toks) hQ hs
 ·
  replace h:=Xz h;obtain⟨x,y,rfl,rfl,h⟩:=h;refine cps fun U y0=>?_;obtain rfl:=so h;dsimp only[VR] at ha hb;obtain⟨t,rfl⟩:=ha;obtain⟨u,rfl⟩:=hb;refine y0 ?_;exact PyProof.Rows.le_int (QK (tk:=s.toks) hQ hs)
 ·
  replace h:=Xz h;obtain⟨x,y,rfl,rfl,h⟩:=h;refine cps fun U y0=>?_;obtain rfl:=so h;dsimp only[VR] at ha hb;obtain⟨t,rfl⟩:=ha;obtain⟨u,rfl⟩:=hb;refine y0 ?_;exact PyProof.Rows.gt_int (QK (tk:=s.toks) hQ hs)
 ·
  replace h:=Fj h;rcases h with⟨x,y,rfl,rfl,h⟩|⟨x,y,rfl,rfl,h⟩
  all_goals (obtain rfl:=so h)
  all_goals dsimp only[VR] at ha hb
  ·obtain⟨t,rfl⟩:=ha;obtain⟨u,rfl⟩:=hb;exact PyProof.Rows.ge_int (QK (tk:=s.toks) hQ hs)
  ·obtain⟨x,t,rfl,e1⟩:=ha;obtain⟨y,u,rfl,e2⟩:=hb;refine Lg ?_;rw[e1,e2];exact QK (tk:=s.toks) hQ hs
 ·replace h:=LO h;obtain⟨rfl,h⟩:=h;dsimp only[VR] at hb;subst hb;rcases TN h with⟨rfl,rfl⟩|⟨hn,rfl⟩
  ·dsimp only[VR] at ha;subst ha;exact is_none_none (QK (tk:=s.toks) hQ hs)
  ·exact is_none_ne (ha.ne_none hn) (QK (tk:=s.toks) hQ hs)
 ·replace h:=LP h;obtain⟨rfl,r',h,rfl⟩:=h;dsimp only[VR] at hb;subst hb;rcases TN h with⟨rfl,rfl⟩|⟨hn,rfl⟩
  ·dsimp only[VR] at ha;subst ha;exact isnot_none_none (QK (tk:=s.toks) hQ hs)
  ·exact isnot_none_ne (ha.ne_none hn) (QK (tk:=s.toks) hQ hs)
 ·exact(AN h ha hb hs hh).1 hQ
 ·
  replace h:(NP a b).map (!·)=some r:=h;rcases e:NP a b with _|r'
  ·rw[e] at h;exact Qf h
  ·
   rw[e] at h;obtain rfl:=so h;exact(AN e ha hb hs hh).2 hQ
theorem Gi{a:AV}{r:Bool}(h:a.truth=some r):(a=.none/\r=false)\/a=.bool r\/(∃i,a=.int i/\(i != 0)=r)\/∃l,a=.bytes l/\Qi l=true/\(!l.isEmpty)=r:=by
 rcases a with _|_|_|_|_|_|_|_|_|_|_|_<;>try exact Qf h
 ·exact .inl ⟨rfl,(so h).symm⟩
 ·exact .inr (.inl (so h▸rfl))
 ·exact .inr (.inr (.inl ⟨_,rfl,so h⟩))
 ·exact .inr (.inr (.inr ⟨_,rfl,(QL h).1,so (QL h).2⟩))
theorem Y4{a:AV}{r:Bool}{v:Value}{Q:Bool->Shared->Prop}(h:a.truth=some r)(ha:VR X P0 g a v)(hQ:∀tk,Q r { s with toks:=tk }):wpAny X.M A (truthy v) Q E s:=by
 rcases Gi h with⟨rfl,rfl⟩|rfl|⟨i,rfl,rfl⟩|⟨l,rfl,hl,rfl⟩
 ·dsimp only[VR] at ha;subst ha;exact wpAny_of_eq (a:=false) rfl (hQ s.toks)
 ·dsimp only[VR] at ha;subst ha;exact wpAny_truthy_bool (hQ s.toks)
 ·dsimp only[VR] at ha;obtain⟨t,rfl⟩:=ha;exact P.truthy_int (hQ s.toks)
 ·dsimp only[VR] at ha;obtain⟨b,t,rfl,e⟩:=ha;have l1:=map_len e;replace l1:=Eq.trans Array.length_toList.symm l1;have:=ZL hl;refine W.truthy_bytes (by lia) ?_;have:((b.size:Int) != 0)=!l.isEmpty:=by
   rw[Bool.eq_iff_iff,bne_iff_ne,Bool.not_eq_true',List.isEmpty_eq_false_iff];refine(l1 ..).symm▸?_;constructor
   ·intro h1 h2;apply h1;rw[h2];rfl
   ·intro h1 h2;apply h1;exact List.length_eq_zero_iff.mp (by lia)
  refine(this ..).symm▸?_;exact hQ _
theorem AM{i:Int}{v:Value}(ha:VR X P0 g (.int i) v)(hs:PM.le g s.heap.get?)(hQ:QU X P0 g s (.int (-i)) Q):wpAny X.M A (unaryOp .USub v) Q E s:=by
 dsimp only[VR] at ha;obtain⟨t,rfl⟩:=ha;exact PyProof.Rows.neg_int (YI hQ hs (by dsimp only[VR];exact⟨_,rfl⟩))
theorem AL{a:AV}{r:Bool}{v:Value}(h:a.truth=some r)(ha:VR X P0 g a v)(hs:PM.le g s.heap.get?)(hQ:QU X P0 g s (.bool !r) Q):wpAny X.M A (unaryOp .Not v) Q E s:=
 not_of (Y4 h ha fun tk=>QK hQ hs)
end
section
variable {X:Qu}{A:Around}{P0 g:PM}{s:Shared}{Q:VP}{E:VP}
theorem QU.later{d:AV}{h1:Heap}{t1:Nat}(hQ:QU X P0 g s d Q)(hs:PM.le g s.heap.get?)(hk:∀b o,s.heap.get? b=some o->h1.get? b=some o):QU X P0 g { s with heap:=h1,toks:=t1 } d Q:=
 fun v g' h' tk G k r=>hQ v g' h' tk ((Qs.same hs hk).trans G) (fun b o e=>k b o (hk b o e)) r
set_option tactic.hygienic true in
theorem BK(slice:Expr)(o i:Value):∃ops,subscripted slice false o i=operate ops (getItem o i):=by
 rcases slice with _|_<;>first|exact⟨_,rfl⟩|(rename_i st _;cases st<;>exact⟨_,rfl⟩)
theorem J9{value slice:Expr}{o i:Value}{T id:String}(hT:s.TypeIs o T)(hl:typeLookup (.type T) "__getitem__"=pure (some (.builtin id)))
  (h:wpAny X.M A (getItem o i) Q E s):wpAny X.M A (subscriptTail value slice o i) Q E s:=by
 obtain⟨ops,e⟩:=BK slice o i;exact tail_any hT hl h e
theorem Qo.get{l:List AV}{vs:List Value}:∀{n:Nat} {d:AV},Qo X P0 g l vs->l[n]?=some d->∃v,vs[n]?=some v/\VR X P0 g d v:=by
 induction l generalizing vs with
 | nil=>intro n d _ e;simp at e
 | cons a l ih=>
  intro n d h e;dsimp only[Qo] at h;obtain⟨v,r,rfl,h1,h2⟩:=h;rcases n with _|n
  ·simp at e;subst e;exact⟨v,rfl,h1⟩
  ·simp at e;simpa using ih h2 e
set_option tactic.hygienic true in
theorem AO{value slice:Expr}{a i d:AV}{va vi:Value}(h:Uu a i=some d)(ha:VR X P0 g a va)(hi:VR X P0 g i vi)(hs:PM.le g s.heap.get?)(hQ:QU X P0 g s d Q):
  wpAny X.M A (subscriptTail value slice va vi) Q E s:=by
 delta Uu at h;cases a<;>try exact Qf h
 ·rename_i l;rcases i with _|_<;>try exact Qf h
  rename_i i;dsimp only at h
  split at h
  ·rename_i h0;rw[Option.bind_eq_some_iff] at h;obtain⟨c,hc,h⟩:=h
   split at h<;>first|exact Qf h|(replace h:=sp h;obtain⟨rfl,rfl⟩:=h)|(replace h:=V2 h;obtain⟨rfl,rfl,rfl⟩:=h)|(replace h:=so h;subst h)|cases h
   rename_i hl;dsimp only[VR] at ha hi;obtain⟨b,t,rfl,e⟩:=ha;obtain⟨u,rfl⟩:=hi;have e1:b.toList.toArray=b:=Array.toArray_toList;have hlen:=map_len e;have hlt:i.toNat < l.length:=by
    have:=List.getElem?_eq_some_iff.mp hc;exact this.1
   refine J9 (W.typeIs_bytes s b t) FB.slot_bytes_getitem.lookup ?_;have:=ZL hl;have g1:wpAny X.M A (getItem (.bytes b.toList.toArray t) (.int i u)) Q E s:=by
    refine W.getItem_bytes (l:=b.toList) (by omega) h0 (by omega) ?_;have hcc:c=(b.toList.getD i.toNat 0).toNat:=by
     have q:l[i.toNat]?=some ((b.toList.getD i.toNat 0).toNat):=by
      rw[<- e,List.getElem?_map,List.getD_eq_getElem?_getD];have:i.toNat < b.toList.length:=by omega
      refine(List.getElem?_eq_getElem this).symm▸?_;rfl
     replace hc:=Eq.trans q.symm hc;obtain rfl:=so hc;rfl
    subst hcc;exact YI hQ hs (by dsimp only[VR];exact⟨_,rfl⟩)
   replace g1:=e1▸g1;exact g1
  ·exact Qf h
 ·rename_i l;cases i<;>try exact Qf h
  rename_i i;dsimp only at h
  split at h
  ·rename_i h0;obtain⟨a,vs,rfl,h1,h2⟩:=ha.list_at hs;dsimp only[VR] at hi;obtain⟨u,rfl⟩:=hi;obtain⟨v,hv,hr⟩:=h2.get h;exact J9 h1.typeIs slot_list_getitem.lookup (wpAny_getItem_list h1 h0.1 (by have:=h0.2;omega) (((Array.getElem?_toList).symm.trans hv)) (YI (tk:=s.toks) hQ hs hr))
  ·exact Qf h
 ·rename_i l;cases i<;>try exact Qf h
  rename_i i;dsimp only at h
  split at h
  ·rename_i h0;obtain⟨a,vs,rfl,h1,h2⟩:=ha.tuple_at hs;dsimp only[VR] at hi;obtain⟨u,rfl⟩:=hi;obtain⟨v,hv,hr⟩:=h2.get h;have hlt:i.toNat < vs.toList.length:=by
    have:=List.getElem?_eq_some_iff.mp hv;exact this.1
   have hsz:i.toNat < vs.size:=(Eq.mpr (congrArg _ (Array.length_toList ..).symm) hlt)
   exact J9 (IsTup.typeIs h1) slot_tuple_getitem.lookup (PyProof.Rows.getItem_tuple h1 (by omega) (by have:=h0.2;omega) (seqIndex_of h0.1 (by omega)) (((Array.getElem?_toList).symm.trans hv)) (YI (tk:=s.toks) hQ hs hr))
  ·exact Qf h
 ·rename_i ks vs;dsimp only at h;rw[Option.bind_eq_some_iff] at h;refine cps fun U y0=>?_;obtain⟨r,hr,h⟩:=h;subst h;obtain⟨K,_,knd,key,kvs,a,rfl,h1,h2,h3,h4⟩:=HU (s:=s) hr hi ha hs;obtain⟨v,h5,h6⟩:=h4;refine y0 ?_;exact J9 h3.typeIs slot_dict_getitem.lookup (wpAny_getItem_of h2 h3.mapOf h5 (YI hQ hs h6))
noncomputable def N5:Option Nat->Value->Prop
 | none,v=>v=.none
 | some n,v=>∃t,v=.int (n:Nat) t
theorem N5.is{lo:Option Nat}{v:Value}(h:N5 lo v):IsPart v (lo.map fun n=>((n:Nat):Int)):=by
 rcases lo with _|n
 ·subst h;exact .none
 ·obtain⟨t,rfl⟩:=h;exact .int _ t
theorem RV{α:Type}(l:List α)(lo hi:Option Nat):
  (l.drop ((lo.map fun n=>((n:Nat):Int)).elim 0 (clipAt l.length))).take ((hi.map fun n=>((n:Nat):Int)).elim l.length (clipAt l.length) - (lo.map fun n=>((n:Nat):Int)).elim 0 (clipAt l.length))=Yz l lo hi:=by
 unfold Yz;rcases lo with _|a
 ·
  rcases hi with _|h
  ·simp
  ·
   simp[clipAt_nat]
 ·
  have e:∀m:List α,m.length<=l.length->m.drop (min a l.length)=m.drop a:=fun m hm=>by
   by_cases h:a<=l.length
   ·rw[Nat.min_eq_left h]
   ·rw[Nat.min_eq_right (by lia),List.drop_of_length_le hm,List.drop_of_length_le (by lia)]
  rcases hi with _|h
  ·
   simp[clipAt_nat];exact((List.take_of_length_le (by simp)).trans (e l (Nat.le_refl _)))
  ·
   simp[clipAt_nat];refine((List.drop_take ..).symm.trans ((e _ (by simp;exact Nat.min_le_right _ _)).trans ?_));congr 1;rw[<- List.take_take,List.take_length]
theorem Qo.drop:∀{n:Nat} {l:List AV} {vs:List Value},Qo X P0 g l vs->Qo X P0 g (l.drop n) (vs.drop n):=by
 intro zz
 induction zz with
 | zero=>
  intro _ _ h;exact h
 | succ n ih=>
  intro zy;rcases zy with _|⟨a,l⟩
  ·
   intro vs h;dsimp only[Qo] at h;subst h;skip;rfl
  ·
   intro vs h;dsimp only[Qo] at h;obtain⟨v,r,rfl,h1,h2⟩:=h;rw[List.drop_succ_cons,List.drop_succ_cons];exact ih h2
theorem Qo.take:∀{n:Nat} {l:List AV} {vs:List Value},Qo X P0 g l vs->Qo X P0 g (l.take n) (vs.take n):=by
 intro zz
 induction zz with
 | zero=>
  intro _ _ h;rw[List.take_zero,List.take_zero];rfl
 | succ n ih=>
  intro zy;rcases zy with _|⟨a,l⟩
  ·
   intro vs h;dsimp only[Qo] at h;subst h;rfl
  ·
   intro vs h;dsimp only[Qo] at h;obtain⟨v,r,rfl,h1,h2⟩:=h;rw[List.take_succ_cons,List.take_succ_cons];exact⟨v,_,rfl,h1,ih h2⟩
theorem Qo.slc{l:List AV}{vs:List Value}(h:Qo X P0 g l vs)(lo hi:Option Nat):Qo X P0 g (Yz l lo hi) (Yz vs lo hi):=by
 rcases hi with _|n
 ·exact h.drop
 ·exact h.take.drop
theorem Qo.rev:∀{l:List AV} {vs:List Value},Qo X P0 g l vs->Qo X P0 g l.reverse vs.reverse:=by
 intro zz
 induction zz with
 | nil=>
  intro vs h;dsimp only[Qo] at h;subst h;rfl
 | cons a l ih=>
  intro vs h;dsimp only[Qo] at h;obtain⟨v,r,rfl,h1,h2⟩:=h;rw[List.reverse_cons,List.reverse_cons];refine(ih h2).append ?_;exact⟨v,[],rfl,h1,rfl⟩
theorem RX{a d:AV}{lo hi:Option Nat}(h:Ku a lo hi=some d):(∃l,a=.bytes l/\Qi l=true/\.bytes (Yz l lo hi)=d)\/∃l,a=.list l/\l.length<=65536/\.list (Yz l lo hi)=d:=by
 rcases a with _|_|_|_|_|_|_|_|_|_|_|_<;>try exact Qf h
 ·exact .inl ⟨_,rfl,(QL h).1,so (QL h).2⟩
 ·exact .inr ⟨_,rfl,(QL h).1,so (QL h).2⟩
theorem AJ{value slice:Expr}{a d:AV}{lo hi:Option Nat}{va vl vh:Value}{tk:Nat}(h:Ku a lo hi=some d)(ha:VR X P0 g a va)(hl:N5 lo vl)(hh:N5 hi vh)(hs:PM.le g s.heap.get?)
  (hQ:QU X P0 g s d Q):wpAny X.M A (subscriptTail value slice va (.ref s.heap.objs.size)) Q E { s with heap:=s.heap.push { cls:=.type "slice",data:=.fields #[vl,vh,.none] },toks:=tk }:=by
 have keep:∀b o,s.heap.get? b=some o->(s.heap.push { cls:=.type "slice",data:=.fields #[vl,vh,.none] }).get? b=some o:=fun b o e=>Heap.get?_push_of_some _ e;have hQ':=hQ.later (t1:=tk) hs keep;have hs':=hs.trans keep;rcases RX h with⟨l,rfl,hb,rfl⟩|⟨l,rfl,hb,rfl⟩
 ·dsimp only[VR] at ha;obtain⟨b,t,rfl,e⟩:=ha;have e1:=map_len e;rw[Array.length_toList] at e1;have:=ZL hb;refine J9 (W.typeIs_bytes _ b t) FB.slot_bytes_getitem.lookup ?_;refine getItem_meets (W.typeIs_bytes _ b t) (by rfl) FB.slot_bytes_getitem FB.entry_bytes_getitem (FB.args_bytes_getitem_2 _ _) (KBc.meets_slice2 b t _ hl.is hh.is)
   ⟨Heap.IsSliceOf.new _ _ _ _,Nat.le_trans (KBc.size_picked_le b _ _) (by rw[sizeLine_eq];lia),fun t' k=>YI hQ' hs' ?_⟩
  dsimp only[VR];refine⟨_,_,rfl,?_⟩;rw[KBc.picked_eq,<-e];have:=RV b.toList lo hi;replace this:=Array.length_toList▸this;rw[show(Array.toList (List.toArray _))=_ from rfl,this];dsimp only[Yz];rcases hi with _|_<;>simp[List.map_take,List.map_drop]
 ·obtain⟨a,vs,rfl,h1,h2⟩:=ha.list_at hs;have e1:=h2.len;rw[Array.length_toList] at e1;refine J9 (h1.push _).typeIs slot_list_getitem.lookup ?_;refine wpAny_getItem_list_slice (h1.push _) (Heap.IsSliceOf.new ..) hl.is hh.is .none (by decide) ?_ (by rw[sizeLine_eq];lia);refine Y6 (tk:=tk) hQ' hs' ?_;rw[slicePick_plain,show(Array.toList (List.toArray _))=_ from rfl];have:=RV vs.toList lo hi;rw[Array.length_toList] at this;refine Eq.mpr (congrArg _ this) ?_;exact h2.slc lo hi
theorem AK{value slice:Expr}{l:List AV}{va:Value}{u:Tok}{tk:Nat}(hlen:l.length<=65536)(ha:VR X P0 g (.list l) va)(hs:PM.le g s.heap.get?)
  (hQ:QU X P0 g s (.list l.reverse) Q):wpAny X.M A (subscriptTail value slice va (.ref s.heap.objs.size)) Q E { s with heap:=s.heap.push { cls:=.type "slice",data:=.fields #[.none,.none,.int (-1) u] },toks:=tk }:=by
 have keep:∀b o,s.heap.get? b=some o->(s.heap.push { cls:=.type "slice",data:=.fields #[.none,.none,.int (-1) u] }).get? b=some o:=fun b o e=>Heap.get?_push_of_some _ e;have hQ':=hQ.later (t1:=tk) hs keep;obtain⟨a,vs,rfl,h1,h2⟩:=ha.list_at hs;have e1:=h2.len;rw[Array.length_toList] at e1;refine J9 (h1.push _).typeIs slot_list_getitem.lookup ?_;refine wpAny_getItem_list_slice (st:=some (-1)) (h1.push _) (Heap.IsSliceOf.new ..) .none .none (.int _ _) (by decide) ?_ (by rw[sizeLine_eq];lia);refine Y6 (tk:=tk) hQ' (hs.trans keep) ?_;refine(krv_pick ..).symm▸?_;exact h2.rev
end
theorem Vh:∀n:Fin 201,(Str.ofString (toString ((n.1:Nat):Int))).cps.toList=Jr n.1/\(Str.ofString (toString (-((n.1:Nat):Int)))).cps.toList=Jr (-n.1):=by decide +kernel
theorem LJ{i:Int}(h:i.natAbs<=200):(Str.ofString (toString i)).cps.toList=Jr i:=by
 rcases Int.natAbs_eq i with e|e
 ·have:=(Vh ⟨i.natAbs,Nat.lt_succ_of_le (by assumption)⟩).1;rw[<- e] at this;exact this
 ·have:=(Vh ⟨i.natAbs,Nat.lt_succ_of_le (by assumption)⟩).2;rw[<- e] at this;exact this
section
variable {X:Qu}{A:Around}{P0 g:PM}{s:Shared}{Q:VP}{E:VP}
theorem JP{i:Int}{t:Tok}:VR X P0 g (.int i) (.int i t):=by dsimp only[VR];exact⟨t,rfl⟩
theorem VR.int_is{i:Int}{v:Value}(h:VR X P0 g (.int i) v):ES i v:=by dsimp only[VR] at h;exact h
theorem VD{d:AV}{v:Value}{h':Heap}{tk:Nat}(hQ:QU X P0 g s d Q)(hs:PM.le g s.heap.get?)(hk:∀b o,s.heap.get? b=some o->h'.get? b=some o)(hv:VR X P0 g d v):Q v { s with heap:=h',toks:=tk }:=
 hQ v g h' tk (Qs.same hs hk) hk hv
set_option tactic.hygienic true in
theorem L7:∀{ds:List AV} {vs:List Value} {ns:List Nat},Qo X P0 g ds vs->intsOf ds=some ns->IntsAre vs (ns.map fun n=>((n:Nat):Int))/\∀n∈ns,n < 256:=by
 intro zz
 induction zz with
 | nil=>
  intro vs ns h e;dsimp only[Qo] at h;subst h;dsimp only[intsOf] at e;obtain rfl:=so e;exact⟨.nil,fun n hn=>by cases hn⟩
 | cons d ds ih=>
  intro vs ns h e;dsimp only[Qo] at h;obtain⟨v,r,rfl,h1,h2⟩:=h;cases d with
  | int i=>
   dsimp only[intsOf] at e
   split at e
   ·rename_i h0;rcases e2:intsOf ds with _|m
    ·rw[e2] at e;exact Qf e
    ·
     replace e:=e2▸e;obtain rfl:=so e;have k1:=(ih h2 e2).1;have k2:=(ih h2 e2).2;obtain⟨t,rfl⟩:=h1.int_is;refine⟨?_,fun n hn=>?_⟩
     ·have:((i.toNat:Nat):Int)=i:=by lia
      rw[List.map_cons,this];exact .cons i t k1
     ·rcases List.mem_cons.mp hn with rfl|hn
      ·lia
      ·exact k2 n hn
   ·refine cps fun U y0=>?_;exact Qf e
  | _=>exact Qf e
theorem X4{ns:List Nat}(h:∀n∈ns,n < 256):(byteArr (ns.map fun n=>((n:Nat):Int))).toList.map UInt8.toNat=ns:=by
 unfold byteArr;refine((show(Array.toList (List.toArray _))=_ from rfl).trans ((List.map_map ..).trans ((List.map_map ..).trans ?_)))
 conv=>rhs;rw[<- List.map_id ns]
 refine List.map_congr_left fun n hn=>?_;have:=h n hn;simp;omega
set_option tactic.hygienic true in
theorem Ot{d z:AV}{v:Value}(h:C1 d=some z)(r:VR X P0 g d v)(hs:PM.le g s.heap.get?)(hQ:QU X P0 g s z Q):wpAny X.M A (call (.builtin "len") [v]) Q E s:=by
 rcases d with _|_<;>try exact Qf h
 case bytes l=>
  obtain⟨hl,h⟩:=QL h;obtain rfl:=so h;obtain⟨b,t,rfl,e⟩:=r.bytes_is;have e1:=(Array.length_toList).symm.trans (map_len e);have hz:b.size<=16777216:=by rw[e1];exact ZL hl
  refine W.len_bytes ?_ ?_
  ·exact Nat.le_trans hz (Nat.le_of_ble_eq_true rfl)
  ·exact e1▸YI hQ hs JP
 case list l=>
  obtain⟨hl,h⟩:=QL h;obtain rfl:=so h;obtain⟨a,xs,rfl,k1,k2⟩:=r.list_at hs;have e1:=(Array.length_toList).symm.trans k2.len;have hz:xs.size<=16777216:=by rw[e1];exact hl
  refine call_len_list k1 ?_ ?_
  ·exact Int.lt_of_le_of_lt (Int.ofNat_le.mpr hz) (by decide)
  ·exact e1▸YI hQ hs JP
set_option tactic.hygienic true in
theorem B7{d z:AV}{v:Value}(h:LU d=some z)(hbt:∀l,d≠.barr l)(r:VR X P0 g d v)(hs:PM.le g s.heap.get?)(hh:A.handled=none)(hQ:QU X P0 g s z Q):wpAny X.M A (call (.type "bytes") [v]) Q E s:=by
 rcases d with _|_<;>try exact Qf h
 case barr l=>exact absurd rfl (hbt l)
 case list l=>
  refine cps fun U y0=>?_;obtain⟨hl,h⟩:=QL h;obtain⟨ns,e,rfl⟩:=Option.map_eq_some_iff.mp h;obtain⟨a,xs,rfl,k1,k2⟩:=r.list_at hs;obtain⟨i1,i2⟩:=L7 k2 e;refine y0 ?_;refine call_bytes_ints (l:=a) (vs:=xs.toList) k1 i1 (fun n hn=>?_) (((k2.len ..)▸(sizeLine_eq ..)▸hl)) hh fun h' t k hk=>VD hQ hs hk (by dsimp only[VR];exact⟨_,_,rfl,X4 i2⟩);obtain⟨m,hm,rfl⟩:=List.mem_map.mp hn;exact⟨Int.natCast_nonneg _,Int.ofNat_lt.mpr (i2 m hm)⟩
set_option tactic.hygienic true in
theorem Ow{d z:AV}{v:Value}(h:CS d=some z)(r:VR X P0 g d v)(hs:PM.le g s.heap.get?)(hQ:QU X P0 g s z Q):wpAny X.M A (call (.builtin "abs") [v]) Q E s:=by
 rcases d with _|_<;>try exact Qf h
 rename_i i;obtain rfl:=so h;obtain⟨t,rfl⟩:=r.int_is;refine PyProof.Rows.call_abs_int fun u tk=>?_;have:(if i < 0 then -i else i)=((i.natAbs:Nat):Int):=by split<;>omega
 refine(this ..).symm▸?_;exact YI hQ hs JP
theorem TG{f:Int->Int->Int}{p:AV×AV}{z:AV}(h:PT f p=some z):∃a b,p=(.int a,.int b)/\z=.int (f a b):=by
 obtain⟨x,y⟩:=p;rcases x with _|_<;>try exact Qf h
 rcases y with _|_<;>try exact Qf h
 exact⟨_,_,rfl,(so h).symm⟩
theorem Oq{p:AV×AV}{z:AV}{v w:Value}(h:PT (fun a b=>if a < b then b else a) p=some z)(r:VR X P0 g p.1 v)(r2:VR X P0 g p.2 w)(hs:PM.le g s.heap.get?)(hh:A.handled=none)(hQ:QU X P0 g s z Q):wpAny X.M A (call (.builtin "max") [v,w]) Q E s:=by
 obtain⟨a,b,rfl,rfl⟩:=TG h;obtain⟨t,rfl⟩:=r.int_is;obtain⟨u,rfl⟩:=r2.int_is;exact max_two_ints hh fun h' tk hk=>VD hQ hs hk (by split<;>exact JP)
theorem Oo{p:AV×AV}{z:AV}{v w:Value}(h:PT (fun a b=>if b < a then b else a) p=some z)(r:VR X P0 g p.1 v)(r2:VR X P0 g p.2 w)(hs:PM.le g s.heap.get?)(hh:A.handled=none)(hQ:QU X P0 g s z Q):wpAny X.M A (call (.builtin "min") [v,w]) Q E s:=by
 obtain⟨a,b,rfl,rfl⟩:=TG h;obtain⟨t,rfl⟩:=r.int_is;obtain⟨u,rfl⟩:=r2.int_is;exact min_two_ints hh fun h' tk hk=>VD hQ hs hk (by split<;>exact JP)
set_option tactic.hygienic true in
theorem B6{d z:AV}{v:Value}(h:Py d=some z)(r:VR X P0 g d v)(hs:PM.le g s.heap.get?)(hQ:QU X P0 g s z Q):wpAny X.M A (call (.type "range") [v]) Q E s:=by
 rcases d with _|_<;>try exact Qf h
 rename_i n;obtain⟨hn,h⟩:=QL h;obtain rfl:=so h;obtain⟨t,rfl⟩:=r.int_is;refine call_range_1 (made hQ hs rfl ?_);dsimp only[VR];exact⟨_,s.toks,t,s.toks+1,rfl,(PM.add_self _ _ _).trans (by unfold Pt;rw[Int.toNat_of_nonneg hn.1])⟩
theorem Om{d z:AV}{v:Value}(h:AS d=some z)(r:VR X P0 g d v)(hs:PM.le g s.heap.get?)(hQ:QU X P0 g s z Q):wpAny X.M A (call (.builtin "ord") [v]) Q E s:=by
 rcases d with _|_<;>try exact Qf h
 refine cps fun U y0=>?_;obtain⟨c,h1,rfl⟩:=Option.map_eq_some_iff.mp h;obtain rfl:=U8 h1;obtain⟨⟨x⟩,t,rfl,e⟩:=r.str_is;obtain rfl:x=#[c]:=Array.toList_inj.mp e;refine y0 ?_;exact P.ord_of_char (YI hQ hs JP)
set_option tactic.hygienic true in
theorem Ol{d z:AV}{v:Value}(h:Ah d=some z)(r:VR X P0 g d v)(hs:PM.le g s.heap.get?)(hQ:QU X P0 g s z Q):wpAny X.M A (call (.type "str") [v]) Q E s:=by
 rcases d with _|_<;>try exact Qf h
 rename_i i;obtain⟨hi,h⟩:=QL h;obtain rfl:=so h;obtain⟨t,rfl⟩:=r.int_is;refine P.str_of_int ?_ (YI hQ hs (by dsimp only[VR];exact⟨_,_,rfl,LJ hi⟩));by_cases z:i.natAbs=0
 ·rw[z];decide
 ·exact Nat.lt_of_lt_of_le ((Nat.log2_lt z).mpr (show i.natAbs < 2 ^ 8 from Nat.lt_of_le_of_lt hi (Nat.le_of_ble_eq_true rfl))) (Nat.le_of_ble_eq_true rfl)
theorem Ou{d z:AV}{v:Value}(h:C9 d=some z)(r:VR X P0 g d v)(hs:PM.le g s.heap.get?)(hQ:QU X P0 g s z Q):wpAny X.M A (call (.type "int") [v]) Q E s:=by
 rcases d with _|_<;>try exact Qf h
 ·obtain rfl:=so h;obtain rfl:=r.bool_is;exact call_int_bool (YI hQ hs JP)
 ·obtain rfl:=so h;obtain⟨t,rfl⟩:=r.int_is;exact call_int_int (YI hQ hs JP)
set_option tactic.hygienic true in
theorem EI{d z:AV}{v:Value}(h:F8 d=some z)(r:VR X P0 g d v)(hs:PM.le g s.heap.get?)(hQ:QU X P0 g s z Q):wpAny X.M A (call (.builtin "repr") [v]) Q E s:=by
 rcases d with _|_<;>try exact Qf h
 rename_i b;obtain rfl:=so h;obtain rfl:=r.bool_is;refine P.repr_of_bool (YI hQ hs ?_);dsimp only[VR];exact⟨_,_,rfl,by cases b<;>decide +kernel⟩
theorem DZ{b:Bi}{as:List AV}{d:AV}{vs:List Value}(h:B9 b as=some d)(hbt:∀l,as≠[.barr l])(ha:Qo X P0 g as vs)(hs:PM.le g s.heap.get?)(hh:A.handled=none)(hQ:QU X P0 g s d Q):
  wpAny X.M A (call (B8 b) vs) Q E s:=by
 have k1:∀{f:AV->Option AV} {fn:Value},(one as).bind f=some d->(∀x v,as=[x]->f x=some d->VR X P0 g x v->wpAny X.M A (call fn [v]) Q E s)->wpAny X.M A (call fn vs) Q E s:=fun{f fn} h k=>by
  refine cps fun U y0=>?_;obtain⟨x,h1,h2⟩:=Option.bind_eq_some_iff.mp h;have e:=U8 h1;rw[e] at ha;obtain⟨v,e2,r⟩:=ha.one_is;refine y0 ?_;refine(e2 ..).symm▸?_;exact k x v e h2 r
 have k2:∀{f:AV×AV->Option AV} {fn:Value},(two as).bind f=some d->(∀(x:AV×AV) v w,f x=some d->VR X P0 g x.1 v->VR X P0 g x.2 w->wpAny X.M A (call fn [v,w]) Q E s)->wpAny X.M A (call fn vs) Q E s:=fun{f fn} h k=>by
  refine cps fun U y0=>?_;obtain⟨x,h1,h2⟩:=Option.bind_eq_some_iff.mp h;rw[Kq h1] at ha;obtain⟨v,w,e2,r,r2⟩:=ha.two_is;refine y0 ?_;refine(e2 ..).symm▸?_;exact k x v w h2 r r2
 rcases b with _|_|_|_|_|_|_|_|_|_|_
 ·exact k1 h fun x v Z h r=>Ot h r hs hQ
 ·exact k1 h fun x v e h r=>B7 h (fun l q=>hbt l (by rw[e,q])) r hs hh hQ
 ·exact Qf h
 ·exact k1 h fun x v Z h r=>Ow h r hs hQ
 ·exact k2 h fun x v w h r r2=>Oq h r r2 hs hh hQ
 ·exact k2 h fun x v w h r r2=>Oo h r r2 hs hh hQ
 ·exact k1 h fun x v Z h r=>B6 h r hs hQ
 ·exact k1 h fun x v Z h r=>Om h r hs hQ
 ·exact k1 h fun x v Z h r=>Ol h r hs hQ
 ·exact k1 h fun x v Z h r=>EI h r hs hQ
 ·exact k1 h fun x v Z h r=>Ou h r hs hQ
end
namespace BA
theorem mro:mroOf (.type "bytearray")=pure [.type "bytearray",.type "object"]:=by rw[mroOf_type];kernel_rfl
theorem NG:typeLookup (.type "bytearray") "__new__"=pure (some (.builtin "bytearray.__new__")):=by rw[typeLookup_type,builtinLookup_eq_fast];kernel_rfl
theorem slot_init:Slot "bytearray" "__init__" "bytearray.__init__":=
 .of (owner:="bytearray") (n:="__init__") (by rw[typeLookup_type,builtinLookup_eq_fast];kernel_rfl) (by decide +kernel) (by decide +kernel) (by decide +kernel)
  (by first|exact .inl (by decide +kernel)|exact .inr (by decide +kernel)) (by rw[isSubtype_type];kernel_rfl)
theorem called:TypeCalled "bytearray" "bytearray.__new__" "bytearray.__init__":=
 ⟨by decide +kernel,by decide +kernel,⟨_,_,mro⟩,madeBy_type mro NG (by decide +kernel),by decide +kernel,by rw[isSubtype_type];kernel_rfl,slot_init⟩
theorem typeCall0:checkTypeCall "bytearray" ⟨[],[]⟩=pure ():=by kernel_rfl
theorem newCall0:checkBuiltinCall "bytearray.__new__" ⟨[.type "bytearray"],[]⟩=pure ():=by kernel_rfl
theorem entry_new:entryFor table "bytearray.__new__"=some Builtin.«list.__new__»:=by kernel_rfl
theorem plain_new:plainId "bytearray.__new__"=true:=by decide +kernel
theorem entry_init:entryFor table "bytearray.__init__"=some Builtin.«bytearray.__init__»:=by first|exact entryFor_of_fast (by kernel_rfl)|exact entryFor_of_tree (by kernel_rfl)
theorem owner_new:("bytearray.__new__".splitOn ".__new__").headD ""="bytearray":=by simp +decide [String.splitOn,String.splitOnAux]
theorem sub_self:isSubtype (.type "bytearray") (.type "bytearray")=pure true:=by rw[isSubtype_type];kernel_rfl
theorem look_buffer:typeLookup (.type "bytearray") "__buffer__"=pure (some (.builtin "bytearray.__buffer__")):=by rw[typeLookup_type,builtinLookup_eq_fast];kernel_rfl
theorem look_release:typeLookup (.type "bytearray") "__release_buffer__"=pure (some (.builtin "bytearray.__release_buffer__")):=by rw[typeLookup_type,builtinLookup_eq_fast];kernel_rfl
theorem lack_bytes:typeLookup (.type "bytearray") "__bytes__"=pure none:=by rw[typeLookup_type,builtinLookup_eq_fast];kernel_rfl
theorem lack_index:typeLookup (.type "bytearray") "__index__"=pure none:=by rw[typeLookup_type,builtinLookup_eq_fast];kernel_rfl
end BA
section
variable {prog:Program}{w:World}{A:Around}{E:VP}{s:Shared}{a:Addr}{b:Array UInt8}
open Builtin in
theorem UC{Q:Unit->Shared->Prop}(ha:s.heap.get? a=some (Z3 b))(h:Q () s):QD (model prog w) A (Bytes.checkResize (.ref a)) Q E s:=by
 refine Q0 ?_;refine Q0 (YQ ?_);refine Q9 ?_;refine wpAny_bind (wpAny_load ha (wpAny_pure ?_));exact Q7 (Q7 h)
open Builtin in
theorem Hx{Q:Array UInt8->Shared->Prop}(ha:s.heap.get? a=some (Z3 b))(h:Q b s):wpAny (model prog w) A (Bytes.payload (.ref a)) Q E s:=by
 unfold Bytes.payload Bytes.payload?;exact wpAny_bind (wpAny_bind (wpAny_load ha (wpAny_pure (wpAny_pure h))))
open Builtin in
theorem Hw{f:Array UInt8->Array UInt8}{Q:Unit->Shared->Prop}(ha:s.heap.get? a=some (Z3 b))(hz:(f b).size<=sizeLine)
  (h:∀h',h'.get? a=some (Z3 (f b))->Heap.SameBut a s.heap h'->Q () { s with heap:=h' }):wpAny (model prog w) A (Bytes.write (.ref a) f) Q E s:=by
 refine wpAny_bind (wpAny_load ha ?_);refine wpAny_bind (wpAny_update ha ?_);have hS:(s.heap.update a (Obj.mapBytearray f)).get? a=some (Z3 (f b)):=Heap.get?_update_self (Obj.mapBytearray f) ha rfl;refine wpAny_lookBehind hS ?_ ?_
 ·show(if(f b).size > sizeLine then some "bytearray:memory" else none)=none;exact(if_neg (by lia))
 ·exact h _ hS (Heap.SameBut.update ..)
theorem Lc{id:String}{args:Args}(h:(["bytearray.__contains__","bytearray.__mod__","bytearray.__rmod__","_struct.pack_into.held","bytearray.find.held"]++Builtin.Bytes.decodersThatHold).contains id=false):
  Jw (.builtin id args)=false:=h
noncomputable abbrev Bg(M:Model)(A:Around)(R:Result->Shared->Prop):Fin->Shared->Prop:=fun fin s'=>match fin with|.done f=>R (.ok f) s'|.again c'=>c'.quiet=true/\ZU M A c' R s'
theorem Wi{id:String}{args:Args}{B:Builtin}{R:Result->Shared->Prop}(hb:entryFor table id=some B)(hh:Jw (.builtin id args)=false)(hp:A.under (.builtin id args)=A.in1)
  (h:QD (model prog w) A.in1 (B args) (Bg (model prog w) A R) (fun e s'=>R (.error e) s') s):ZU (model prog w) A (.builtin id args) R s:=by
 refine Qx hh ?_;rw[hp];show QD _ _ (match entryFor table id with|some b=>b args|none=>unsupported ((withoutEnding? id "#data").getD id)) _ _ s;rw[hb];exact h
theorem WN{id:String}{args:Args}{B:Builtin}{R:Result->Shared->Prop}(hb:entryFor table id=some B)(hh:Jw (.builtin id args)=false)(hp:plainId id=true)
  (h:QD (model prog w) A.in1 (B args) (Bg (model prog w) A R) (fun e s'=>R (.error e) s') s):ZU (model prog w) A (.builtin id args) R s:=by
 refine Qx hh ?_;rw[Around.under_plainId hp args];show QD _ _ (match entryFor table id with|some b=>b args|none=>unsupported ((withoutEnding? id "#data").getD id)) _ _ s;rw[hb];exact h
theorem J0{id:String}{args:Args}{B:Builtin}{R:Result->Shared->Prop}(hp:plainId id=true)(hb:entryFor table id=some B)(hh:Jw (.builtin id args)=false)
  (h:wpAny (model prog w) A.in1 (checkBuiltinCall id args) (fun Z s₁=>QD (model prog w) A.in1 (B args) (Bg (model prog w) A R) (fun e s'=>R (.error e) s') s₁) (fun e s'=>R (.error e) s') s):
  ZU (model prog w) A (.call (.builtin id) args) R s:=by
 refine Qx rfl ?_;refine Q9 (wpAny_mono h (fun Z s₁ h₁=>Q7 ⟨plainId_quiet hp args,WN hb hh hp h₁⟩) fun Z Z h'=>h')
open Builtin in
theorem YM{Q₁:VP}(h:Q₁ (.ref s.heap.objs.size) { s with heap:=s.heap.push (Z3 #[]) }):
  codeAny (model prog w) A (.call (.builtin "bytearray.__new__") ⟨[.type "bytearray"],[]⟩) (wants Q₁ E) s:=by
 refine codeAny_of_tree ?_;refine wpAny_bind (wpAny_of_eq BA.newCall0 (wpAny_pure ⟨plainId_quiet BA.plain_new _,codeAny_builtin_stack BA.entry_new rfl fun p st=>?_⟩));refine(Around.under_plainId BA.plain_new _).symm▸?_;have hsub:=BA.sub_self;have hown:=BA.owner_new;obtain⟨hp,g,d,tk,os⟩:=s;dsimp only;rw[hown]
 wp_walk
 exact h
set_option maxRecDepth 100000 in
theorem Ro:Builtin.Bytes.bindOptional "bytearray.__init__" "bytearray" ["source","encoding","errors"] [] []=pure [none,none,none]:=by kernel_rfl
theorem ZS{s:Shared}(ha:s.heap.get? a=some (Z3 b)):s.TypeIs (.ref a) "bytearray":=⟨_,ha,rfl⟩
open Builtin in
theorem YP{name id:String}{Q:Bool->Shared->Prop}(ha:s.heap.get? a=some (Z3 b))(hl:typeLookup (.type "bytearray") (name:Str)=pure (some (.builtin id)))
  (h1:(!id.endsWith ("."++name))=false) (h2:id.dropRight (name.length+1)="bytearray") (h:Q true s):wpAny (model prog w) A (Bytes.slotIsOwn (.ref a) name) Q E s:=by
 refine wpAny_bind (wpAny_specialOf (ZS ha) hl ?_);refine bm_if_false h1 ?_;refine(h2 ..).symm▸?_;exact wpAny_isInstance (ZS ha) BA.sub_self h
open Builtin in
theorem Yj{Q:Bool->Shared->Prop}(ha:s.heap.get? a=some (Z3 b))(h:Q false s):wpAny (model prog w) A (Bytes.ownRelease (.ref a)) Q E s:=by
 exact wpAny_bind (YP ha BA.look_release (by decide +kernel) (by decide +kernel) (wpAny_pure h))
open Builtin in
theorem Vr{R:Result->Shared->Prop}(ha:s.heap.get? a=some (Z3 #[]))(h:∀h',h'.get? a=some (Z3 #[])->Heap.SameBut a s.heap h'->R (.ok (.ret .none)) { s with heap:=h' }):
  QD (model prog w) A.in1 («bytearray.__init__» ⟨[.ref a],[]⟩) (Bg (model prog w) A R) (fun e s'=>R (.error e) s') s:=by
 unfold «bytearray.__init__»;refine Q9 (Yj ha ?_);refine Qk (if_neg (Bool.false_ne_true)) ?_;refine Q9 (wpAny_of_eq Ro ?_);dsimp only;refine Q9 (wpAny_of_eq (a:=()) rfl ?_);refine Q9 (wpAny_of_eq (a:=()) rfl ?_);refine Q0 ?_;refine Q0 (YQ ?_);refine Q9 ?_;refine wpAny_bind (wpAny_load ha (wpAny_pure ?_));refine Q7 ?_;refine Qk (if_neg (Bool.false_ne_true)) ?_;refine Q9 (Hw ha (Nat.zero_le _) fun h' e1 e2=>?_);exact Q7 (h h' e1 e2)
end
section
variable {prog:Program}{w:World}{A:Around}{E:VP}{s:Shared}{a:Addr}{b:Array UInt8}
set_option maxRecDepth 100000 in
theorem Jz:Manifest.owners.lookup (String.ofList ['y','a','r','r','a','e','t','y','b'].reverse)=some Manifest.sig_bytearray:=by kernel_rfl
theorem Th{v:Value}:argsOk "bytearray.__init__" ⟨[v],[]⟩:=by
 unfold argsOk;rw[signature?_of (id:="bytearray.__init__") (n:=['_','_','t','i','n','i','_','_']) (o:=['y','a','r','r','a','e','t','y','b']) (by kernel_rfl) Jz];kernel_rfl
theorem UH{self:Value}{T:String}{name:Str}{id:String}{args:List Value}{Q:Option Value->Shared->Prop}(hT:s.TypeIs self T)(h:Slot T name id)
  (hc:QD (model prog w) A (call (.builtin id) (self::args)) (fun v=>Q (some v)) E s):QD (model prog w) A (callSpecial? self name args) Q E s:=by
 simp only[callSpecial?];refine Q9 (wpAny_specialOf hT h.lookup ?_);simp only[h.bind];refine Q5 (Q9 (wpAny_pure (Q0 (Zu hc (fun v s' h'=>Q7 h') fun Z Z h'=>h'))))
set_option maxRecDepth 100000 in
open Builtin in
theorem Yu{Q:VP}
  (h:∀h',(∀b o,s.heap.get? b=some o->h'.get? b=some o)->s.heap.get? s.heap.objs.size=none->h'.get? s.heap.objs.size=some (Z3 #[])->Q (.ref s.heap.objs.size) { s with heap:=h' }):
  QD (model prog w) A (call (.type "bytearray") []) Q E s:=by
 refine ZD (Qx rfl ?_);refine Q7 ⟨Code.quiet_builtin _ (by decide +kernel),Wi F.entry_type_call rfl (Around.under_plain (weight_type_call_type "bytearray" [] []) rfl) ?_⟩;unfold «type.__call__»;dsimp only;rw[if_neg (by rw[BA.called.notType];exact Bool.false_ne_true)];rw[if_neg (by have:=BA.called.canCreate;rw[this];exact Bool.false_ne_true)];refine Q9 (wpAny_of_eq BA.typeCall0 ?_);refine Q9 (wpAny_of_eq BA.mro ?_);refine Qk (if_neg (Bool.false_ne_true)) ?_;have hmade:=BA.called.made;refine Q9 (wpAny_of_eq hmade ?_);refine Q9 (wpAny_pure (Q0 (Q5 (ZD (Kc (codeAny_mono (YM (E:=E) (Q₁:=fun v s'=>v=.ref s.heap.objs.size/\s'={ s with heap:=s.heap.push (Z3 #[]) }) ⟨rfl,rfl⟩) fun r s' hr=>?_))))));rcases r with e|fl
 ·exact hr
 ·
  cases fl with
  | ret v=>
   obtain⟨rfl,rfl⟩:=hr;have hnew:(s.heap.push (Z3 #[])).get? s.heap.objs.size=some (Z3 #[]):=Heap.get?_push_size _ rfl;refine Q9 (wpAny_isInstance (ZS hnew) BA.sub_self ?_);refine Qk (if_neg (Bool.false_ne_true)) ?_;refine Q0 (Q5 (UH (ZS hnew) BA.slot_init (ZD (J0 BA.slot_init.plain BA.entry_init (Lc (by decide +kernel)) (BA.slot_init.check _ _ _ _ _ _ _ _ (ZS hnew) Th (Vr hnew fun h' e1 e2=>?_))))));refine Qk (if_neg (Bool.false_ne_true)) ?_;exact Q7 (h h' (fun b o e=>by rw[e2.2 b (Nat.ne_of_lt (Heap.lt_size e))];exact Heap.get?_push_of_some _ e) (Zj _) e1)
  | _=>exact hr.elim
end
namespace BA
theorem slot_append:Slot "bytearray" "append" "bytearray.append":=
 .of (owner:="bytearray") (n:="append") (by rw[typeLookup_type,builtinLookup_eq_fast];kernel_rfl) (by decide +kernel) (by decide +kernel) (by decide +kernel)
  (by first|exact .inl (by decide +kernel)|exact .inr (by decide +kernel)) (by rw[isSubtype_type];kernel_rfl)
theorem entry_append:entryFor table "bytearray.append"=some Builtin.«bytearray.append»:=by first|exact entryFor_of_fast (by kernel_rfl)|exact entryFor_of_tree (by kernel_rfl)
theorem args_append(a b:Value):argsOk "bytearray.append" ⟨[a,b],[]⟩:=by
 unfold argsOk;rw[signature?_of (id:="bytearray.append") (n:=['d','n','e','p','p','a']) (o:=['y','a','r','r','a','e','t','y','b']) (by kernel_rfl) Jz];kernel_rfl
theorem slot_iadd:Slot "bytearray" (dunderI "add") "bytearray.__iadd__":=
 .of (owner:="bytearray") (n:="__iadd__") (by rw[typeLookup_type,builtinLookup_eq_fast];kernel_rfl) (by decide +kernel) (by decide +kernel) (by decide +kernel)
  (by first|exact .inl (by decide +kernel)|exact .inr (by decide +kernel)) (by rw[isSubtype_type];kernel_rfl)
theorem entry_iadd:entryFor table "bytearray.__iadd__"=some Builtin.«bytearray.__iadd__»:=by first|exact entryFor_of_fast (by kernel_rfl)|exact entryFor_of_tree (by kernel_rfl)
theorem args_iadd(a b:Value):argsOk "bytearray.__iadd__" ⟨[a,b],[]⟩:=by
 unfold argsOk;rw[signature?_of (id:="bytearray.__iadd__") (n:=['_','_','d','d','a','i','_','_']) (o:=['y','a','r','r','a','e','t','y','b']) (by kernel_rfl) Jz];kernel_rfl
theorem seq_iadd:seqSlot? (.type "bytearray") (dunderI "add")=pure (some (.builtin "bytearray.__iadd__")):=PySem.seqSlot_of slot_iadd.lookup (by decide +kernel)
theorem PY:typeLookup (.type "bytearray") (dunder "add")=pure (some (.builtin "bytearray.__add__")):=by rw[typeLookup_type,builtinLookup_eq_fast];kernel_rfl
theorem GH:typeLookup (.type "bytearray") (dunderR "add")=pure none:=by rw[typeLookup_type,builtinLookup_eq_fast];kernel_rfl
theorem noFill_add:fillsNumberSlot (.type "bytearray") "add"=pure false:=PySem.fillsNumberSlot_seq (id:="bytearray.__add__") (r:=none) PY (by decide +kernel) GH rfl
theorem noFill_iadd:fillsInplaceSlot (.type "bytearray") "add" (Operator.Add == .Add)=pure false:=by
 dsimp only[fillsInplaceSlot];show(typeLookup (.type "bytearray") (dunderI "add") >>= fun fi=>pure (fi.isSome&&!isSeqSlot fi))=pure false;refine(slot_iadd.lookup ..).symm▸?_;show(pure (true&&!isSeqSlot (some (.builtin "bytearray.__iadd__"))):Sem Bool)=pure false;have:isSeqSlot (some (.builtin "bytearray.__iadd__"))=true:=by decide +kernel
 rw[this];rfl
end BA
section
variable {prog:Program}{w:World}{A:Around}{E:VP}{s:Shared}{a:Addr}{b:Array UInt8}
open Builtin in
theorem Gk{id:String}{m:Array UInt8}{t:Tok}:Bytes.takeBufferQuiet? id (.bytes m t) 0=pure (some (m,none)):=by
 unfold Bytes.takeBufferQuiet? Bytes.takeBuffer?;rw[KBy.special_eq KBy.look_buffer,KBy.own_buffer];have:∀f,Bytes.buffer? id (.bytes m t) f=pure (some m):=fun f=>by
  unfold Bytes.buffer?;rw[KBy.special_eq KBy.look_buffer,KBy.own_buffer,KBy.own_release];kernel_rfl
 rw[this];rfl
open Builtin in
theorem HA{c:Int}{u:Tok}{Q:VP}(ha:s.heap.get? a=some (Z3 b))(h0:0<=c)(h1:c < 256)(hz:b.size < sizeLine)
  (h:∀h',h'.get? a=some (Z3 (b.push c.toNat.toUInt8))->Heap.SameBut a s.heap h'->Q .none { s with heap:=h' }):QD (model prog w) A (call (.builtin "bytearray.append") [.ref a,.int c u]) Q E s:=by
 refine ZD (J0 BA.slot_append.plain BA.entry_append (Lc (by decide +kernel)) (BA.slot_append.check _ _ _ _ _ _ _ _ (ZS ha) (BA.args_append _ _) ?_));unfold «bytearray.append»;refine Q9 (wpAny_of_eq (a:=(Value.ref a,Value.int c u)) rfl ?_);refine Q9 ?_;refine wpAny_bind (wpAny_of_eq (a:=c) rfl ?_);refine wpAny_ite (KBy.ite_no (by simp;lia) ?_);refine wpAny_pure ?_;refine Q0 (UC ha ?_);refine Q9 (Hw ha (by rw[Array.size_push];lia) fun h' e1 e2=>?_);exact Q7 (h h' e1 e2)
open Builtin in
theorem Vs{m:Array UInt8}{u:Tok}{Q:VP}(ha:s.heap.get? a=some (Z3 b))(hz:b.size+m.size<=sizeLine)
  (h:∀h',h'.get? a=some (Z3 (b++m))->Heap.SameBut a s.heap h'->Q (.ref a) { s with heap:=h' }):QD (model prog w) A (inplaceOp .Add (.ref a) (.bytes m u)) Q E s:=by
 dsimp only[inplaceOp];refine Q5 ?_;refine Q9 (wpAny_typeOf (ZS ha) (Q9 (wpAny_of_eq BA.noFill_iadd ?_)));refine Qk (if_neg (Bool.false_ne_true)) ?_;refine Q9 ?_;refine wpAny_bind (wpAny_typeOf (ZS ha) (wpAny_bind (wpAny_typeOf (W.typeIs_bytes s m u) (wpAny_bind (wpAny_of_eq BA.noFill_add ?_)))));refine wpAny_bind (wpAny_of_eq (a:=false) KBy.noFill_bytes_add ?_);refine wpAny_of_eq (a:=none) rfl ?_;refine Q9 (wpAny_of_eq BA.seq_iadd ?_);refine Q0 (X9 ?_);refine ZD (J0 BA.slot_iadd.plain BA.entry_iadd (Lc (by decide +kernel)) (BA.slot_iadd.check _ _ _ _ _ _ _ _ (ZS ha) (BA.args_iadd _ _) ?_));unfold «bytearray.__iadd__»;refine Q9 (wpAny_of_eq (a:=(Value.ref a,[Value.bytes m u])) rfl ?_);refine Q9 (wpAny_of_eq Gk ?_);dsimp only[Bytes.thenGiveBack];have fin:QD (model prog w) A.in1 (do
   let __do_lift <-Bytes.payload (.ref a)
   if Bytes.tooLong (__do_lift.size+m.size)=true then do unsupported "bytearray.__iadd__:memory";Bytes.write (.ref a) (·++m);ret (.ref a)
   else do Bytes.write (.ref a) (·++m);ret (.ref a)) (Bg (model prog w) A (wants Q E)) (fun e s'=>wants Q E (.error e) s') s:=by
  refine Q9 (Hx ha ?_);have hl:Bytes.tooLong (b.size+m.size)=false:=decide_eq_false (by lia);refine Qk (if_neg (by rw[hl];exact Bool.false_ne_true)) ?_;refine Q9 (Hw ha (by rw[Array.size_append];omega) fun h' e1 e2=>?_);exact Q7 (h h' e1 e2)
 by_cases z:(!m.isEmpty)=true
 ·refine Qk (if_pos z) ?_;refine Qk (if_neg (by show ¬(false=true);exact Bool.false_ne_true)) ?_;exact Q0 (UC ha fin)
 ·refine Qk (if_neg z) ?_;exact fin
open Builtin in
theorem Wy{id:String}{full:Bool}{Q:Option (Array UInt8)->Shared->Prop}(ha:s.heap.get? a=some (Z3 b))(h:Q (some b) s):wpAny (model prog w) A (Bytes.buffer? id (.ref a) full) Q E s:=by
 unfold Bytes.buffer?;refine wpAny_bind (wpAny_specialOf (ZS ha) BA.look_buffer ?_);refine wpAny_bind (YP ha BA.look_buffer (by decide +kernel) (by decide +kernel) ?_);refine bm_if_false rfl ?_;refine wpAny_bind (wpAny_specialOf (ZS ha) BA.look_buffer ?_);refine wpAny_bind (Yj ha ?_);refine bm_if_false rfl ?_;exact wpAny_bind (Hx ha (wpAny_pure h))
open Builtin in
theorem X3{Q:VP}(ha:s.heap.get? a=some (Z3 b))(hz:b.size<=sizeLine)(hQ:∀t k,Q (.bytes b t) { s with toks:=k }):
  wpAny (model prog w) A (call (.type "bytes") [.ref a]) Q E s:=by
 refine callType_codes (Q₁:=fun obj s₁=>s₁.TypeIs obj "bytes"/\Q obj s₁) F.bm_called (F.bm_typeCall _) F.entry_object_init ?_ fun obj s₁ h₁=>
  ⟨h₁.1,F.args_object_init_2 obj _,object_init_meets F.bm_called.init.lookup F.bm_called.made (rfl) prog w A.in1 _ s₁ ⟨h₁.1,rfl,h₁.2⟩⟩
 refine codeAny_of_tree ?_;refine wpAny_bind (wpAny_of_eq (F.bm_newCall _) (wpAny_pure ⟨plainId_quiet F.bm_plain _,codeAny_builtin F.bm_entry ?_⟩));refine(Around.under_plainId F.bm_plain _).symm▸?_;have hT:s.TypeIs (.ref a) "bytearray":=ZS ha;unfold «bytes.__new__»;refine wpAny_bind (wpAny_of_eq (a:=true) rfl ?_);refine bm_if_false rfl ?_;refine wpAny_bind (wpAny_of_eq F.bm_sub ?_);refine bm_if_false rfl ?_;refine wpAny_bind (wpAny_of_eq (F.bm_bind _) ?_);refine wpAny_bind (wpAny_of_eq (a:=()) rfl ?_);refine wpAny_bind (wpAny_of_eq (a:=()) rfl ?_);refine bm_if_false rfl ?_;refine wpAny_bind (wpAny_specialOf hT BA.lack_bytes ?_);refine wpAny_bind (wpAny_bind ?_);refine wpAny_bind (wpAny_load ha ?_);refine wpAny_pure (wpAny_pure ?_);refine bm_if_false rfl ?_;refine wpAny_bind (wpAny_specialOf hT BA.lack_index ?_);refine bm_if_true rfl ?_
 first
  | show wpAny _ _ (Builtin.Bytes.buffer? "bytes.__new__" (.ref a) true >>= _) _ _ _
  | (refine wpAny_bind ?_;show wpAny _ _ (Builtin.Bytes.buffer? "bytes.__new__" (.ref a) true >>= _) _ _ _)
 refine wpAny_bind (Wy ha ?_);refine wpAny_bind (wpAny_rule ?_);refine wpAny_bind (wpAny_mkBytes ?_ hz);refine bm_if_true (rfl) ?_
 first
  | exact wpAny_pure ⟨PySem.W.typeIs_bytes _ _ _,hQ _ _⟩
  | exact wpAny_bind (wpAny_pure (wpAny_pure ⟨PySem.W.typeIs_bytes _ _ _,hQ _ _⟩))
end
namespace BF
theorem slot_rfind:Slot "bytes" "rfind" "bytes.rfind":=
 .of (owner:="bytes") (n:="rfind") (by rw[typeLookup_type,builtinLookup_eq_fast];kernel_rfl) (by decide +kernel) (by decide +kernel) (by decide +kernel)
  (by first|exact .inl (by decide +kernel)|exact .inr (by decide +kernel)) (by rw[isSubtype_type];kernel_rfl)
theorem type_rfind:typeOf (.builtin "bytes.rfind")=pure (.type "method_descriptor"):=by show builtinType _=_;rw[builtinType_eq_fast];kernel_rfl
theorem entry_rfind:entryFor table "bytes.rfind"=some Builtin.«bytes.rfind»:=by first|exact entryFor_of_tree (by kernel_rfl)|exact entryFor_of_fast (by kernel_rfl)
theorem args_rfind(a b:Value):argsOk "bytes.rfind" ⟨[a,b],[]⟩:=by
 unfold argsOk;rw[signature?_of (id:="bytes.rfind") (n:=['d','n','i','f','r']) (o:=['s','e','t','y','b']) (by kernel_rfl) FB.owner_bytes];kernel_rfl
theorem slot_join:Slot "bytes" "join" "bytes.join":=
 .of (owner:="bytes") (n:="join") (by rw[typeLookup_type,builtinLookup_eq_fast];kernel_rfl) (by decide +kernel) (by decide +kernel) (by decide +kernel)
  (by first|exact .inl (by decide +kernel)|exact .inr (by decide +kernel)) (by rw[isSubtype_type];kernel_rfl)
theorem type_join:typeOf (.builtin "bytes.join")=pure (.type "method_descriptor"):=by show builtinType _=_;rw[builtinType_eq_fast];kernel_rfl
theorem entry_join:entryFor table "bytes.join"=some Builtin.«bytes.join»:=by first|exact entryFor_of_tree (by kernel_rfl)|exact entryFor_of_fast (by kernel_rfl)
theorem args_join(a b:Value):argsOk "bytes.join" ⟨[a,b],[]⟩:=by
 unfold argsOk;rw[signature?_of (id:="bytes.join") (n:=['n','i','o','j']) (o:=['s','e','t','y','b']) (by kernel_rfl) FB.owner_bytes];kernel_rfl
theorem plainAttrs_bar:PlainAttrs "bytearray":=
 ⟨⟨"bytearray.__getattribute__",by rw[typeLookup_type,builtinLookup_eq_fast];kernel_rfl,by decide +kernel⟩,by rw[typeLookup_type,builtinLookup_eq_fast];kernel_rfl⟩
theorem type_append:typeOf (.builtin "bytearray.append")=pure (.type "method_descriptor"):=by show builtinType _=_;rw[builtinType_eq_fast];kernel_rfl
end BF
section
variable {prog:Program}{w:World}{A:Around}{E:VP}{s:Shared}
open Builtin in
theorem Na(n:Nat):Bytes.window n none none=(0,(n:Int)):=by
 dsimp only[Bytes.window];simp;refine(congrArg _ (if_neg (by simp))).trans ?_;exact Int.min_self _
open Builtin in
theorem Pw(x m:Array UInt8):((if(Bytes.window x.size none none).2 - (Bytes.window x.size none none).1 < m.size then none
    else some ((Bytes.window x.size none none).1.toNat,(Bytes.window x.size none none).2.toNat)).bind fun p=>if true=true then Bytes.rfind? x m p.1 p.2 else Bytes.find? x m p.1 p.2)=
  ((List.range ((x.toList.map UInt8.toNat).length+1 - (m.toList.map UInt8.toNat).length)).reverse.find? fun i=>((x.toList.map UInt8.toNat).drop i).take (m.toList.map UInt8.toNat).length == m.toList.map UInt8.toNat):=by
 obtain⟨l⟩:=x;obtain⟨k⟩:=m;refine(Na ..).symm▸?_;simp only[List.length_map,List.size_toArray];have ef:(fun i=>l.toArray.extract i (i+k.length) == k.toArray)=fun i=>((l.map UInt8.toNat).drop i).take k.length == k.map UInt8.toNat:=by
  funext i
  rw[<- List.map_drop,<-List.map_take,Ks,Bool.eq_iff_iff,beq_iff_eq,beq_iff_eq,<-Ux];exact⟨fun h=>congrArg _ (h ..),fun h=>Array.toList_inj.mp h⟩
 by_cases h:(l.length:Int) - 0 < k.length
 ·rw[if_pos h];have:l.length+1 - k.length=0:=by omega
  refine(this ..).symm▸?_;rfl
 ·rw[if_neg h];show Bytes.rfind? _ _ 0 ((l.length:Int).toNat)=_;unfold Bytes.rfind?;simp only[Int.toNat_natCast,Nat.zero_add,List.size_toArray,Nat.add_zero,List.map_id'];rw[ef]
open Builtin in
theorem Xm{x m:Array UInt8}{t u:Tok}{Q:VP}
  (hQ:∀t k,Q (.int (HN (x.toList.map UInt8.toNat) (m.toList.map UInt8.toNat)) t) { s with toks:=k }):wpAny (model prog w) A (call (.builtin "bytes.rfind") [.bytes x t,.bytes m u]) Q E s:=by
 refine call_meets BF.slot_rfind (W.typeIs_bytes s x t) BF.entry_rfind (BF.args_rfind _ _) (S:=fun Z R s=>∀t k,R (.ok (.ret (.int (HN (x.toList.map UInt8.toNat) (m.toList.map UInt8.toNat)) t))) { s with toks:=k }) (.of_wp fun prog w A R s hS=>?_) hQ;refine wpAny_bind ?_;refine wpAny_bind (wpAny_of_eq (a:=(Value.bytes x t,[Value.bytes m u])) rfl ?_);refine wpAny_bind (wpAny_of_eq (a:=none) rfl ?_);refine wpAny_bind (wpAny_of_eq (a:=none) rfl ?_);refine wpAny_bind (wpAny_of_eq KBy.buffer_eq ?_);refine wpAny_bind (wpAny_pure ?_);refine wpAny_bind (wpAny_of_eq (a:=x) rfl ?_);refine wpAny_pure ?_;have key:∀o:Option Nat,((match o with|some i=>((i:Nat):Int)|none=>-1)=HN (x.toList.map UInt8.toNat) (m.toList.map UInt8.toNat))->
   wpAny (model prog w) A.in1 (match o with
    | some i=>retInt ((i:Nat):Int)
    | none=>do
     rule (toString Bytes.Kind.bytes.name++toString "."++toString "rfind"++toString ".not-found")
     if false=true then raiseErrorWords "ValueError" "subsection not found" else retInt (-1))
    (fun fin s'=>∃v,fin=Fin.done (Flow.ret v)/\R (Except.ok (Flow.ret v)) s') (fun e s'=>R (Except.error e) s') s:=fun o ho=>by
  cases o with
  | some i=>
   refine wpAny_bind (wpAny_mkInt (wpAny_pure ⟨_,rfl,?_⟩));have:=hS s.toks (s.toks+1);rw[<- ho] at this;exact this
  | none=>
   refine wpAny_bind (wpAny_rule ?_);refine bm_if_false rfl ?_;refine wpAny_bind (wpAny_mkInt (wpAny_pure ⟨_,rfl,?_⟩));have:=hS s.toks (s.toks+1);rw[<- ho] at this;exact this
 refine key _ ?_;show(match(Option.bind (if(Bytes.window x.size none none).2 - (Bytes.window x.size none none).1 < m.size then none
    else some ((Bytes.window x.size none none).1.toNat,(Bytes.window x.size none none).2.toNat)) fun p=>if true=true then Bytes.rfind? x m p.1 p.2 else Bytes.find? x m p.1 p.2) with|some i=>((i:Nat):Int)|none=>-1)=_
 rw[Pw];rfl
open Builtin in
theorem join_one{sep:Array UInt8}{t u:Tok}{l:Addr}{b:Array UInt8}{Q:VP}(hl:s.heap.IsList l #[.bytes b u])(hQ:Q (.bytes b u) s):
  wpAny (model prog w) A (call (.builtin "bytes.join") [.bytes sep t,.ref l]) Q E s:=by
 refine call_meets BF.slot_join (W.typeIs_bytes s sep t) BF.entry_join (BF.args_join _ _) (S:=fun Z R s=>s.heap.IsList l #[.bytes b u]/\R (.ok (.ret (.bytes b u))) s) (.of_wp fun prog w A R s hS=>?_) ⟨hl,hQ⟩;refine cps fun U y0=>?_;obtain⟨⟨o,ho,hc,n,hd⟩,hR⟩:=hS;refine y0 ?_;have hT:s.TypeIs (.ref l) "list":=⟨o,ho,hc⟩
 show wpAny _ _ (Bytes.joinM .bytes _) _ _ s;refine wpAny_bind (wpAny_of_eq (a:=(Value.bytes sep t,Value.ref l)) rfl ?_);refine wpAny_bind (m:=Bytes.joinItems (.ref l)) ?_;refine wpAny_bind (wpAny_typeOf hT ?_);refine bm_if_true (rfl) ?_;refine wpAny_pure ?_;refine wpAny_bind (wpAny_seqItems ho hd ?_);refine bm_if_true rfl ?_;refine wpAny_bind (wpAny_typeOf (W.typeIs_bytes s b u) ?_);refine bm_if_true (rfl) ?_;exact wpAny_bind (wpAny_rule (wpAny_pure ⟨_,rfl,hR⟩))
theorem forIn_nil{β:Type}(init:β)(f:Nat->β->Sem (ForInStep β)):(forIn [:(#[]:Array Value).size] init f:Sem β)=pure init:=by simp
open Builtin in
theorem join_none{sep:Array UInt8}{t:Tok}{l:Addr}{Q:VP}(hl:s.heap.IsList l #[])(hQ:∀t k,Q (.bytes #[] t) { s with toks:=k }):
  wpAny (model prog w) A (call (.builtin "bytes.join") [.bytes sep t,.ref l]) Q E s:=by
 refine call_meets BF.slot_join (W.typeIs_bytes s sep t) BF.entry_join (BF.args_join _ _) (S:=fun Z R s=>s.heap.IsList l #[]/\∀t k,R (.ok (.ret (.bytes #[] t))) { s with toks:=k }) (.of_wp fun prog w A R s hS=>?_) ⟨hl,hQ⟩;refine cps fun U y0=>?_;obtain⟨⟨o,ho,hc,n,hd⟩,hR⟩:=hS;refine y0 ?_;have hT:s.TypeIs (.ref l) "list":=⟨o,ho,hc⟩
 show wpAny _ _ (Bytes.joinM .bytes _) _ _ s;refine wpAny_bind (wpAny_of_eq (a:=(Value.bytes sep t,Value.ref l)) rfl ?_);refine wpAny_bind (m:=Bytes.joinItems (.ref l)) ?_;refine wpAny_bind (wpAny_typeOf hT ?_);refine bm_if_true (by decide +kernel) ?_;refine wpAny_pure ?_;refine wpAny_bind (wpAny_seqItems ho hd ?_);refine bm_if_true rfl ?_;refine wpAny_bind (wpAny_of_eq (a:=((#[]:Array (Array UInt8)),([]:List (Value×Option Value)))) (forIn_nil _ _) ?_);refine wpAny_bind (wpAny_of_eq (a:=sep) rfl ?_);refine bm_if_false (by show Bytes.tooLong (sep.size * (0 - 1))=false;simp[Bytes.tooLong]) ?_;refine wpAny_bind (wpAny_mkBytes ?_ (Nat.zero_le _));refine wpAny_bind (wpAny_holding (wpAny_point ?_));refine wpAny_bind (wpAny_of_eq (a:=()) rfl ?_);exact wpAny_pure ⟨_,rfl,hR _ _⟩
end
section
variable {X:Qu}{A:Around}{P0 g:PM}{s:Shared}{Q:VP}{E:VP}
theorem Sp{x m:List Nat}{vx vm:Value}(hx:VR X P0 g (.bytes x) vx)(hm:VR X P0 g (.bytes m) vm)(hs:PM.le g s.heap.get?)(hQ:QU X P0 g s (.int (HN x m)) Q):
  wpAny X.M A (call (.builtin "bytes.rfind") [vx,vm]) Q E s:=by
 dsimp only[VR] at hx hm;refine cps fun U y0=>?_;obtain⟨b,t,rfl,rfl⟩:=hx;obtain⟨c,u,rfl,rfl⟩:=hm;refine y0 ?_;exact Xm fun t k=>YI hQ hs JP
theorem GJ{l:List AV}{y:List Nat}(h:TL l=some y):(l=[]/\y=[])\/l=[.bytes y]:=by
 rcases l with _|⟨a,_|_⟩
 ·exact .inl ⟨rfl,(so h).symm⟩
 ·rcases a with _|_<;>first|exact Qf h|exact .inr (so h▸rfl)
 ·rcases a with _|_<;>exact Qf h
theorem Mk{x:List Nat}{l:List AV}{y:List Nat}{vx vl:Value}(h:TL l=some y)(hx:VR X P0 g (.bytes x) vx)(hl:VR X P0 g (.list l) vl)(hs:PM.le g s.heap.get?)(hQ:QU X P0 g s (.bytes y) Q):
  wpAny X.M A (call (.builtin "bytes.join") [vx,vl]) Q E s:=by
 obtain⟨a,vs,rfl,h1,h2⟩:=hl.list_at hs;dsimp only[VR] at hx;obtain⟨b,t,rfl,rfl⟩:=hx;obtain⟨rfl,rfl⟩|rfl:=GJ h
 ·dsimp only[Qo] at h2;have:vs=#[]:=Array.toList_inj.mp h2;subst this;exact join_none h1 fun t k=>YI hQ hs (by dsimp only[VR];exact⟨_,_,rfl,rfl⟩)
 ·dsimp only[Qo] at h2;refine cps fun U y0=>?_;obtain⟨v,r,e,h3,h4⟩:=h2;refine y0 ?_;refine cps fun U y0=>?_;subst h4;have h3':=h3;dsimp only[VR] at h3;obtain⟨c,u,rfl,e2⟩:=h3;have:vs=#[.bytes c u]:=Array.toList_inj.mp e;subst this;refine y0 ?_;exact join_one h1 (YI (tk:=s.toks) hQ hs h3')
theorem AP{x:AV}{ks vs:List AV}{r:Option AV}{y:AV}{vx vd vy:Value}(h:Jv x ks vs=some r)(hx:VR X P0 g x vx)(hd:VR X P0 g (.dict ks vs) vd)(hy:VR X P0 g y vy)(hs:PM.le g s.heap.get?)
  (hQ:QU X P0 g s (r.getD y) Q):wpAny X.M A (call (.builtin "dict.get") [vd,vx,vy]) Q E s:=by
 refine cps fun U y0=>?_;obtain⟨K,_,knd,key,kvs,a,rfl,h1,h2,h3,h4⟩:=HU (s:=s) h hx hd hs;refine y0 ?_;refine call_meetsIn F.slot_dict_get h3.typeIs F.entry_dict_get (F.args_dict_get_3 _ _ _) (meets_dict_get_default knd a h2 h1 vy) ⟨_,h3.mapOf,?_⟩;refine YI hQ hs ?_;rcases r with _|d
 ·
  have:valueAt kvs key=none:=h4;refine(this ..).symm▸?_;exact hy
 ·
  obtain⟨v,h5,h6⟩:=h4;refine(h5 ..).symm▸?_;exact h6
end
structure QS(env:Env)(names:List (Str×NameKind)):Prop where
 nm:env.scope.names=names
 kd:env.scope.kind=.function
 gl:env.globals=mainGlobals
 bl:env.builtins=builtinsNs
theorem Ze.un1{A:Around}{n:Nat}(h:Ze A n):A.units < cLine:=by have:=h.un;lia
section
variable {X:Qu}{n:Nat}{Φ:Qj}{env:Env}{names:List Str}
variable {A:Around}{P0 g g1:PM}{P:PF}{fl:Bool}{own:Nat->Option Addr}{ρ:List LV}{D D1 D':Q8}{d:AV}{s:Shared}{h1:Heap}{t1:Nat}{Q:VP}{E:VP}
theorem Ww.after(hQ:Ww X P0 g s D' d Q)(G:Qs X.dk g s.heap g1 h1):Ww X P0 g1 { s with heap:=h1,toks:=t1 } D' d Q:=
 fun v g' h' tk G' hD r=>hQ v g' h' tk (G.trans G') hD r
theorem Vl.after{b:Bool}{Q:Bool->Shared->Prop}(hQ:Vl X g s D' b Q)(G:Qs X.dk g s.heap g1 h1):Vl X g1 { s with heap:=h1,toks:=t1 } D' b Q:=
 fun g' h' tk G' hD=>hQ g' h' tk (G.trans G') hD
noncomputable abbrev CX(X:Qu)(P0 g:PM)(s:Shared)(D':Q8)(ds:List AV)(Q:List Value->Shared->Prop):Prop:=
 ∀vs g' h' tk,Qs X.dk g s.heap g' h'->QO X D' h'->Qo X P0 g' ds vs->Q vs { s with heap:=h',toks:=tk }
theorem Ww.now{v:Value}{tk:Nat}(hQ:Ww X P0 g s D' d Q)(hs:PM.le g s.heap.get?)(hD:QO X D' s.heap)(hv:VR X P0 g d v):Q v { s with toks:=tk }:=hQ v g s.heap tk (Qs.refl hs) hD hv
noncomputable def J7(X:Qu)(n:Nat)(Φ:Qj)(env:Env)(names:List Str)(es:List Expr)(irs:List IR):Prop:=
 ∀(A:Around) (P0:PM) (P:PF) (fl:Bool) (own:Nat->Option Addr) (g:PM) (ρ:List LV) (D D':Q8) (ds:List AV) (pos:Pos) (s:Shared) (Q:List Value->Shared->Prop) (E:Value->Shared->Prop),
  Ze A n->runs Φ irs ρ D=some (ds,D')->Z6 X P0 P fl env names own g ρ D s.heap->CX X P0 g s D' ds Q->QD X.M A (spliced (backTo pos (starEach es env))) Q E s
theorem HD{k pos}:Qg X n Φ env names (.Constant .none k pos) (.lit .none):=fun A P0 P fl own g ρ D D' d s Q E R h F hQ=>by
 dsimp only[run] at h;cases h;exact Q3 (Constant_none (hQ.now (tk:=s.toks) F.sub F.deck (by dsimp only[VR]<;>rfl)))
theorem Pb{b k pos}:Qg X n Φ env names (.Constant (.bool b) k pos) (.lit (.bool b)):=fun A P0 P fl own g ρ D D' d s Q E R h F hQ=>by
 dsimp only[run] at h;cases h;exact Q3 (Constant_bool (hQ.now (tk:=s.toks) F.sub F.deck (by dsimp only[VR]<;>rfl)))
theorem Vy{i k pos}:Qg X n Φ env names (.Constant (.int i) k pos) (.lit (.int i)):=fun A P0 P fl own g ρ D D' d s Q E R h F hQ=>by
 dsimp only[run] at h;cases h;exact Q3 (wpAny_Constant_int (hQ.now F.sub F.deck JP))
theorem Hl{x:Str}{k pos}:Qg X n Φ env names (.Constant (.str x) k pos) (.lit (.str x.cps.toList)):=fun A P0 P fl own g ρ D D' d s Q E R h F hQ=>by
 dsimp only[run] at h;cases h;exact Q3 (wpAny_Constant_str (hQ.now F.sub F.deck (by dsimp only[VR];exact⟨_,_,rfl,rfl⟩)))
theorem Gr{x:List UInt8}{k pos}:Qg X n Φ env names (.Constant (.bytes x) k pos) (.lit (.bytes (x.map (·.toNat)))):=fun A P0 P fl own g ρ D D' d s Q E R h F hQ=>by
 dsimp only[run] at h;cases h;exact Q3 (W.Constant_bytes (hQ.now F.sub F.deck (by dsimp only[VR];exact⟨_,_,rfl,rfl⟩)))
theorem Hz{x:Str}{v:Value}{names:List (Str×NameKind)}(ok:QS env names)(hr:Rd env s.heap x v)(hx:(x == ("__classdict__":Str))=false)(h:Q v s):wpAny X.M A (loadName env x) Q E s:=by
 rcases hr with⟨a,m,b,c⟩|⟨a|a,c,b,d⟩
 ·exact wpAny_loadName_local ok.kd a b c h
 ·exact wpAny_loadName_cell ok.kd a b d h
 ·exact wpAny_loadName_free ok.kd a b d h hx
theorem JF{x:Str}{i:Nat}{pos}{nk:List (Str×NameKind)}(ok:QS env nk)(hi:names[i]?=some x)(hx:(x == ("__classdict__":Str))=false)(hy:(x == ("__debug__":Str))=false):
  Qg X n Φ env names (.Name x pos) (.loc i):=fun A P0 P fl own g ρ D D' d s Q E R h F hQ=>by
 dsimp only[run] at h;refine cps fun U y0=>?_;refine kV h ?_;clear h;intro v hv h;revert hQ;apply Vw h;intro hQ;obtain⟨u,h1,h2⟩:=F.slot i x _ hi hv;refine y0 ?_;exact Q3 (wpAny_Name (Hz ok h1 hx (hQ.now (tk:=s.toks) F.sub F.deck h2)) hy)
theorem mem_of_lookup{α β:Type}[BEq α][LawfulBEq α]{k:α}{v:β}:∀{l:List (α×β)},l.lookup k=some v->(k,v)∈l
 | [],h=>by exact Qf h
 | (a,b)::l,h=>by
  rw[List.lookup_cons] at h;by_cases e:k == a
  ·rw[e] at h;obtain rfl:=so h;refine(eq_of_beq e)▸?_;exact List.mem_cons_self
  ·rw[Bool.eq_false_iff.mpr e] at h;exact List.mem_cons_of_mem _ (mem_of_lookup h)
theorem Zh(x:Str):Zc x.cps.toList=x:=by cases x;rfl
theorem P7{x:Str}{v:AV}{pos}{nk:List (Str×NameKind)}(ok:QS env nk)(hk:nk.lookup x=some .globalImplicit)(hv:Kp.lookup x.cps.toList=some v)(hy:(x == ("__debug__":Str))=false):
  Qg X n Φ env names (.Name x pos) (.glob x.cps.toList v):=fun A P0 P fl own g ρ D D' d s Q E R h F hQ=>by
 dsimp only[run] at h;cases h;obtain⟨u,h1,h2⟩:=F.st.val _ _ (mem_of_lookup hv);rw[Zh] at h1;have hk':env.kindOf x=some .globalImplicit:=by unfold Env.kindOf;rw[ok.nm];exact hk
 exact Q3 (Calls.Name_function_global ok.kd hk' (Calls.loadGlobal_global (by rw[ok.gl];exact F.st.glob.at F.sub) h1 (hQ.now (tk:=s.toks) F.sub F.deck (h2 P0))) hy)
set_option tactic.hygienic true in
theorem Tu{o:Op}{l r:Expr}{a b:IR}{op:Operator}{pos}(ho:PK op=some o)(ha:Qg X n Φ env names l a)(hb:Qg X n Φ env names r b):Qg X n Φ env names (.BinOp l op r pos) (.bin o a b):=
 fun A P0 P fl own g ρ D D' d s Q E R h F hQ=>by
 dsimp only[run] at h;refine cps fun U y0=>?_
 split at h<;>try first|exact Qf h|(cases h;done)
 rename_i x D1 h1
 split at h<;>try first|exact Qf h|(cases h;done)
 rename_i y D2 h2
 split at h<;>first|exact Qf h|(revert hQ;apply Vw h;intro hQ)
 refine y0 ?_;rename_i h3;have eo:op=Dv o:=by cases op<;>first|exact Qf ho|(obtain rfl:=so ho;rfl)
 rw[arm_eval_BinOp];refine Q0 (ha A P0 P fl own g ρ D D1 x s _ E R h1 F fun v g1 H1 t1 G1 dk1 r1=>?_);refine Q0 (Q5 (hb A P0 P fl own g1 ρ D1 _ y _ _ E R h2 (F.grow G1 dk1) fun w g2 H2 t2 G2 dk2 r2=>?_));refine Q0 (Q4 (Zr (Q3 ?_)));refine(eo ..).symm▸?_;exact AQ h3 (r1.up G2.up) r2 G2.sub (((hQ.after G1).after (t1:=t2) G2).pure dk2)
theorem BU{x:Expr}{a:IR}{pos}(ha:Qg X n Φ env names x a):Qg X n Φ env names (.UnaryOp .USub x pos) (.neg a):=fun A P0 P fl own g ρ D D' d s Q E R h F hQ=>by
 dsimp only[run] at h;refine cps fun U y0=>?_;refine kI h ?_;clear h;intro i _ h1 h;revert hQ;apply Vw h;intro hQ;refine y0 ?_;refine(arm_eval_UnaryOp ..).symm▸?_;refine Q0 (ha A P0 P fl own g ρ D _ _ s _ E R h1 F fun v g1 H1 t1 G1 dk1 r1=>?_);exact Q0 (Q4 (Q5 (Q3 (AM r1 G1.sub ((hQ.after (t1:=t1) G1).pure dk1)))))
set_option tactic.hygienic true in
theorem BS{x:Expr}{a:IR}{pos}(ha:Qg X n Φ env names x a):Qg X n Φ env names (.UnaryOp .Not x pos) (.not a):=fun A P0 P fl own g ρ D D' d s Q E R h F hQ=>by
 dsimp only[run] at h;refine cps fun U y0=>?_;refine Hq h ?_;clear h;intro y D1 h1 h
 split at h<;>first|exact Qf h|(revert hQ;apply Vw h;intro hQ)
 refine y0 ?_;rename_i b h2;refine(arm_eval_UnaryOp ..).symm▸?_;refine Q0 (ha A P0 P fl own g ρ D _ _ s _ E R h1 F fun v g1 H1 t1 G1 dk1 r1=>?_);exact Q0 (Q4 (Q5 (Q3 (AL h2 r1 G1.sub ((hQ.after (t1:=t1) G1).pure dk1)))))
set_option tactic.hygienic true in
theorem BV{t a b:Expr}{it ia ib:IR}{pos}(ht:ZN X n Φ env names t it)(ha:Qg X n Φ env names a ia)(hb:Qg X n Φ env names b ib):Qg X n Φ env names (.IfExp t a b pos) (.ite it ia ib):=
 fun A P0 P fl own g ρ D D' d s Q E R h F hQ=>by
 dsimp only[run] at h;refine cps fun U y0=>?_;refine Hq h ?_;clear h;intro x D1 h1 h;refine y0 ?_;rw[arm_eval_IfExp]
 split at h<;>try first|exact Qf h|(cases h;done)
 ·rename_i h2;refine Q0 (ht A P0 P fl own g ρ D D1 x true s _ E R h1 h2 F fun g1 H1 t1 G1 dk1=>?_);exact Qk (if_pos rfl) (ha A P0 P fl own g1 ρ D1 D' d _ Q E R h (F.grow G1 dk1) (hQ.after G1))
 ·rename_i h2;refine Q0 (ht A P0 P fl own g ρ D D1 x false s _ E R h1 h2 F fun g1 H1 t1 G1 dk1=>?_);exact Qk (if_neg Bool.false_ne_true) (hb A P0 P fl own g1 ρ D1 D' d _ Q E R h (F.grow G1 dk1) (hQ.after G1))
end
section
variable {X:Qu}{n:Nat}{Φ:Qj}{env:Env}{names:List Str}
variable {A:Around}{P0 g g1:PM}{P:PF}{fl:Bool}{own:Nat->Option Addr}{ρ:List LV}{D D1 D':Q8}{d:AV}{s:Shared}{h1:Heap}{t1:Nat}{Q:VP}{E:VP}
noncomputable def OL(X:Qu)(n:Nat)(Φ:Qj)(env:Env)(names:List Str)(op:BoolOp)(ms:List (Sem Value))(ir:IR):Prop:=
 ∀(pos:Pos) (A:Around) (P0:PM) (P:PF) (fl:Bool) (own:Nat->Option Addr) (g:PM) (ρ:List LV) (D D':Q8) (d:AV) (s:Shared) (Q:VP) (E:VP),
  Ze A n->run Φ ir ρ D=some (d,D')->Z6 X P0 P fl env names own g ρ D s.heap->Ww X P0 g s D' d Q->QD X.M A (boolOp pos op ms) Q E s
noncomputable def bop:BoolOp->IR->IR->IR|.And=>.and|.Or=>.or
set_option tactic.hygienic true in
theorem Ap{op:BoolOp}:∀{es:List Expr} {irs:List IR},es.length=irs.length->es≠[]->(∀p∈es.zip irs,Qg X n Φ env names p.1 p.2)->OL X n Φ env names op (evalEach es env) (UO (bop op) irs):=by
 intro es
 induction es with
 | nil=>exact fun h h2=>absurd rfl h2
 | cons e es ih0=>
  intro irs hl hne hi;rcases irs with _|⟨a,irs⟩
  ·simp at hl
  rcases es with _|⟨e2,es⟩
  ·rcases irs with _|⟨_,_⟩
   ·exact fun pos A P0 P fl own g ρ D D' d s Q E R h F hQ=>hi (e,a) (.head _) A P0 P fl own g ρ D D' d s Q E R h F hQ
   ·simp at hl
  ·rcases irs with _|⟨a2,irs⟩
   ·simp at hl
   ·exact fun pos A P0 P fl own g ρ D D' d s Q E R h F hQ=>by
     have ih:=ih0 (irs:=a2::irs) (by simpa using hl) (by exact List.cons_ne_nil _ _) fun p hp=>hi p (by rw[List.zip_cons_cons];exact List.mem_cons_of_mem _ hp);have h0:=hi (e,a) (by rw[List.zip_cons_cons];exact List.mem_cons_self);rcases op with _|_
     ·
      have h':run Φ (.and a (UO .and (a2::irs))) ρ D=some (d,D'):=h;dsimp only[run] at h'
      split at h'<;>try first|exact Qf h'|(cases h';done)
      rename_i x D1 h1;refine Q0 (h0 A P0 P fl own g ρ D D1 x s _ E R h1 F fun v g1 H1 t1 G1 dk1 r1=>?_);refine Q0 (Q4 (Q0 (Q5 ?_)))
      split at h'<;>try first|exact Qf h'|(cases h';done)
      ·rename_i h2;exact Q3 (Y4 h2 r1 fun tk=>ih pos A P0 P fl own g1 ρ D1 D' d _ Q E R h' (F.grow G1 dk1) (hQ.after G1))
      ·rename_i h2;revert hQ;apply Vw h';intro hQ;exact Q3 (Y4 h2 r1 fun tk=>Q7 (hQ v g1 H1 tk G1 dk1 r1))
     ·
      have h':run Φ (.or a (UO .or (a2::irs))) ρ D=some (d,D'):=h;dsimp only[run] at h'
      split at h'<;>try first|exact Qf h'|(cases h';done)
      rename_i x D1 h1;refine Q0 (h0 A P0 P fl own g ρ D D1 x s _ E R h1 F fun v g1 H1 t1 G1 dk1 r1=>?_);refine Q0 (Q4 (Q0 (Q5 ?_)))
      split at h'<;>try first|exact Qf h'|(cases h';done)
      ·rename_i h2;revert hQ;apply Vw h';intro hQ;exact Q3 (Y4 h2 r1 fun tk=>Q7 (hQ v g1 H1 tk G1 dk1 r1))
      ·rename_i h2;exact Q3 (Y4 h2 r1 fun tk=>ih pos A P0 P fl own g1 ρ D1 D' d _ Q E R h' (F.grow G1 dk1) (hQ.after G1))
theorem Tt{op:BoolOp}{es:List Expr}{irs:List IR}{pos}(hl:es.length=irs.length)(hi:∀p∈es.zip irs,Qg X n Φ env names p.1 p.2):Qg X n Φ env names (.BoolOp op es pos) (UO (bop op) irs):=
 fun A P0 P fl own g ρ D D' d s Q E R h F hQ=>by
  rw[arm_eval_BoolOp];by_cases he:es=[]
  ·subst he;have:irs=[]:=by cases irs with|nil=>rfl|cons _ _=>simp at hl
   subst this;exact Qf h
  ·exact Ap hl he hi pos A P0 P fl own g ρ D D' d s Q E R h F hQ
noncomputable def OK(X:Qu)(n:Nat)(Φ:Qj)(env:Env)(names:List Str)(op:BoolOp)(es:List Expr)(ir:IR):Prop:=
 ∀(A:Around) (P0:PM) (P:PF) (fl:Bool) (own:Nat->Option Addr) (g:PM) (ρ:List LV) (D D':Q8) (d:AV) (b:Bool) (s:Shared) (Q:Bool->Shared->Prop) (E:VP),
  Ze A n->run Φ ir ρ D=some (d,D')->d.truth=some b->Z6 X P0 P fl env names own g ρ D s.heap->Vl X g s D' b Q->QD X.M A (allTrue op es env) Q E s
set_option tactic.hygienic true in
theorem An{op:BoolOp}:∀{es:List Expr} {irs:List IR},es.length=irs.length->es≠[]->(∀p∈es.zip irs,ZN X n Φ env names p.1 p.2)->OK X n Φ env names op es (UO (bop op) irs):=by
 intro es
 induction es with
 | nil=>exact fun h h2=>absurd rfl h2
 | cons e es ih0=>
  intro irs hl hne hi;rcases irs with _|⟨a,irs⟩
  ·simp at hl
  rcases es with _|⟨e2,es⟩
  ·rcases irs with _|⟨_,_⟩
   ·exact fun A P0 P fl own g ρ D D' d b s Q E R h hb F hQ=>by
     rw[arm_allTrue_cons];refine Q0 (hi (e,a) (.head _) A P0 P fl own g ρ D D' d b s _ E R h hb F fun g1 H1 t1 G1 dk1=>?_);have:=hQ g1 H1 t1 G1 dk1;rcases op with _|_<;>cases b<;>exact Q7 this
   ·simp at hl
  ·rcases irs with _|⟨a2,irs⟩
   ·simp at hl
   ·exact fun A P0 P fl own g ρ D D' d b s Q E R h hb F hQ=>by
     have ih:=ih0 (irs:=a2::irs) (by simpa using hl) (by exact List.cons_ne_nil _ _) fun p hp=>hi p (by rw[List.zip_cons_cons];exact List.mem_cons_of_mem _ hp);have h0:=hi (e,a) (by rw[List.zip_cons_cons];exact List.mem_cons_self);rw[arm_allTrue_cons];rcases op with _|_
     ·
      have h':run Φ (.and a (UO .and (a2::irs))) ρ D=some (d,D'):=h;dsimp only[run] at h'
      split at h'<;>try first|exact Qf h'|(cases h';done)
      rename_i x D1 h1
      split at h'<;>try first|exact Qf h'|(cases h';done)
      ·rename_i h2;refine Q0 (h0 A P0 P fl own g ρ D D1 x true s _ E R h1 h2 F fun g1 H1 t1 G1 dk1=>?_);exact ih A P0 P fl own g1 ρ D1 D' d b _ Q E R h' hb (F.grow G1 dk1) (hQ.after G1)
      ·rename_i h2;cases h';have:b=false:=by rw[h2] at hb;obtain rfl:=so hb;rfl
       subst this;refine Q0 (h0 A P0 P fl own g ρ D _ _ false s _ E R h1 h2 F fun g1 H1 t1 G1 dk1=>?_);exact Q7 (hQ g1 H1 t1 G1 dk1)
     ·
      have h':run Φ (.or a (UO .or (a2::irs))) ρ D=some (d,D'):=h;dsimp only[run] at h'
      split at h'<;>try first|exact Qf h'|(cases h';done)
      rename_i x D1 h1
      split at h'<;>try first|exact Qf h'|(cases h';done)
      ·rename_i h2;cases h';have:b=true:=by rw[h2] at hb;obtain rfl:=so hb;rfl
       subst this;refine Q0 (h0 A P0 P fl own g ρ D _ _ true s _ E R h1 h2 F fun g1 H1 t1 G1 dk1=>?_);exact Q7 (hQ g1 H1 t1 G1 dk1)
      ·rename_i h2;refine Q0 (h0 A P0 P fl own g ρ D D1 x false s _ E R h1 h2 F fun g1 H1 t1 G1 dk1=>?_);exact ih A P0 P fl own g1 ρ D1 D' d b _ Q E R h' hb (F.grow G1 dk1) (hQ.after G1)
theorem Tq{op:BoolOp}{es:List Expr}{irs:List IR}{pos}(hl:es.length=irs.length)(hi:∀p∈es.zip irs,ZN X n Φ env names p.1 p.2):ZN X n Φ env names (.BoolOp op es pos) (UO (bop op) irs):=
 fun A P0 P fl own g ρ D D' d b s Q E R h hb F hQ=>by
  refine(arm_isTrue_BoolOp ..).symm▸?_;by_cases he:es=[]
  ·subst he;have:irs=[]:=by cases irs with|nil=>rfl|cons _ _=>simp at hl
   subst this;exact Qf h
  ·exact An hl he hi A P0 P fl own g ρ D D' d b s Q E R h hb F hQ
set_option tactic.hygienic true in
theorem BC{x:Expr}{a:IR}{pos}(ha:ZN X n Φ env names x a):ZN X n Φ env names (.UnaryOp .Not x pos) (.not a):=fun A P0 P fl own g ρ D D' d b s Q E R h hb F hQ=>by
 dsimp only[run] at h;refine cps fun U y0=>?_;refine Hq h ?_;clear h;intro y D1 h1 h
 split at h<;>first|exact Qf h|(replace h:=sp h;obtain⟨rfl,rfl⟩:=h)|(replace h:=V2 h;obtain⟨rfl,rfl,rfl⟩:=h)|(replace h:=so h;subst h)|cases h
 rename_i c h2;have:b=!c:=by unfold AV.truth at hb;obtain rfl:=so hb;rfl
 subst this;refine y0 ?_;refine(arm_isTrue_UnaryOp ..).symm▸?_;refine Q0 (ha A P0 P fl own g ρ D _ _ c s _ E R h1 h2 F fun g1 H1 t1 G1 dk1=>?_);exact Q7 (hQ g1 H1 t1 G1 dk1)
set_option tactic.hygienic true in
theorem BD{t a c:Expr}{it ia ic:IR}{pos}(ht:ZN X n Φ env names t it)(ha:ZN X n Φ env names a ia)(hc:ZN X n Φ env names c ic):ZN X n Φ env names (.IfExp t a c pos) (.ite it ia ic):=
 fun A P0 P fl own g ρ D D' d b s Q E R h hb F hQ=>by
 dsimp only[run] at h;refine cps fun U y0=>?_;refine Hq h ?_;clear h;intro x D1 h1 h;refine y0 ?_;rw[arm_isTrue_IfExp]
 split at h<;>try first|exact Qf h|(cases h;done)
 ·rename_i h2;refine Q0 (ht A P0 P fl own g ρ D D1 x true s _ E R h1 h2 F fun g1 H1 t1 G1 dk1=>?_);exact Qk (if_pos rfl) (ha A P0 P fl own g1 ρ D1 D' d b _ Q E R h hb (F.grow G1 dk1) (hQ.after G1))
 ·rename_i h2;refine Q0 (ht A P0 P fl own g ρ D D1 x false s _ E R h1 h2 F fun g1 H1 t1 G1 dk1=>?_);exact Qk (if_neg Bool.false_ne_true) (hc A P0 P fl own g1 ρ D1 D' d b _ Q E R h hb (F.grow G1 dk1) (hQ.after G1))
theorem BB{e:Expr}{ir:IR}(he:isTrue e env (eval e env)=(do let v <-eval e env;standAt e.pos;holding [v] (truthy v)))(h0:Qg X n Φ env names e ir):ZN X n Φ env names e ir:=
 fun A P0 P fl own g ρ D D' d b s Q E R h hb F hQ=>by
 refine Qk he ?_;refine Q0 (h0 A P0 P fl own g ρ D D' d s _ E R h F fun v g1 H1 t1 G1 dk1 r1=>?_);refine Q0 (Q4 (Q5 (Q3 (Y4 hb r1 fun tk=>hQ g1 H1 tk G1 dk1))))
set_option tactic.hygienic true in
theorem Ts{o:Co}{op:CmpOp}{l r:Expr}{a b:IR}{pos}(ho:op=En o)(hm:behindInMarks op r=false)(ha:Qg X n Φ env names l a)(hb:Qg X n Φ env names r b):Qg X n Φ env names (.Compare l [op] [r] pos) (.cmp o a b):=
 fun A P0 P fl own g ρ D D' d s Q E R h F hQ=>by
 dsimp only[run] at h;refine cps fun U y0=>?_;refine Hq h ?_;clear h;intro x D1 h1 h;refine Hq h ?_;clear h;intro y D2 h2 h
 split at h<;>first|exact Qf h|(revert hQ;apply Vw h;intro hQ)
 refine y0 ?_;rename_i z h3;rw[arm_eval_Compare];show QD _ _ (eval l env >>= fun v=>compareChain pos v [op] [markedBehindIn op r (eval r env)]) _ _ _;refine(markedBehindIn_of_false hm).symm▸?_;refine Q0 (ha A P0 P fl own g ρ D D1 x s _ E R h1 F fun v g1 H1 t1 G1 dk1 r1=>?_);refine Q0 (Q5 (hb A P0 P fl own g1 ρ D1 _ y _ _ E R h2 (F.grow G1 dk1) fun w g2 H2 t2 G2 dk2 r2=>?_));refine Q0 (Q4 (Zr (Q3 ?_)));refine(ho ..).symm▸?_;exact H7 h3 (r1.up G2.up) r2 G2.sub R.hd R.un1 (((hQ.after G1).after (t1:=t2) G2).pure dk2)
set_option tactic.hygienic true in
theorem Vu{o:Co}{op:CmpOp}{l r:Expr}{a b:IR}{pos}(ho:op=En o)(hm:behindInMarks op r=false)(ha:Qg X n Φ env names l a)(hb:Qg X n Φ env names r b):ZN X n Φ env names (.Compare l [op] [r] pos) (.cmp o a b):=
 fun A P0 P fl own g ρ D D' d b s Q E R h hb' F hQ=>by
 dsimp only[run] at h;refine cps fun U y0=>?_
 split at h<;>try first|exact Qf h|(cases h;done)
 rename_i x D1 h1
 split at h<;>try first|exact Qf h|(cases h;done)
 rename_i y D2 h2
 split at h<;>first|exact Qf h|(replace h:=sp h;obtain⟨rfl,rfl⟩:=h)|(replace h:=V2 h;obtain⟨rfl,rfl,rfl⟩:=h)|(replace h:=so h;subst h)|cases h
 rename_i z h3;have:b=z:=by unfold AV.truth at hb';obtain rfl:=so hb';rfl
 subst this;refine y0 ?_;rw[arm_isTrue_Compare];show QD _ _ (eval l env >>= fun v=>testChain pos v [op] [markedBehindIn op r (eval r env)]) _ _ _;refine(markedBehindIn_of_false hm).symm▸?_;refine Q0 (ha A P0 P fl own g ρ D D1 x s _ E R h1 F fun v g1 H1 t1 G1 dk1 r1=>?_);refine Q0 (Q5 (hb A P0 P fl own g1 ρ D1 _ y _ _ E R h2 (F.grow G1 dk1) fun w g2 H2 t2 G2 dk2 r2=>?_));refine Q0 (Q4 (Q0 (Zr (Q3 ?_))));refine(ho ..).symm▸?_;refine H7 (P0:=P0) h3 (r1.up G2.up) r2 G2.sub R.hd R.un1 fun u g3 H3 t3 G3 k3 r3=>?_;dsimp only[VR] at r3;subst r3;exact Q5 (Q3 (wpAny_truthy_bool (hQ g3 H3 t3 ((G1.trans G2).trans G3) (dk2.keeps k3))))
end
theorem Z7{M:Model}{A:Around}{b:Bool}{Q:Bool->Shared->Prop}{E:VP}{s:Shared}(h:Q b s):QD M A (truthy (.bool b)) Q E s:=Q3 (wpAny_truthy_bool h)
section
variable {X:Qu}{n:Nat}{Φ:Qj}{env:Env}{names:List Str}
variable {A:Around}{P0 g g1:PM}{P:PF}{fl:Bool}{own:Nat->Option Addr}{ρ:List LV}{D D1 D':Q8}{d:AV}{s:Shared}{h1:Heap}{t1:Nat}{Q:VP}{E:VP}
set_option tactic.hygienic true in
theorem P9{o1 o2:Co}{p1 p2:CmpOp}{l r1 r2:Expr}{a b c:IR}{pos}(ho1:p1=En o1)(ho2:p2=En o2)(hm:behindInMarks p2 r2=false)
  (ha:Qg X n Φ env names l a) (hb:Qg X n Φ env names r1 b) (hc:Qg X n Φ env names r2 c):Qg X n Φ env names (.Compare l [p1,p2] [r1,r2] pos) (.cmp2 o1 o2 a b c):=
 fun A P0 P fl own g ρ D D' d s Q E R h F hQ=>by
 dsimp only[run] at h;refine cps fun U y0=>?_
 split at h<;>try first|exact Qf h|(cases h;done)
 rename_i x D1 h1
 split at h<;>try first|exact Qf h|(cases h;done)
 refine y0 ?_;rename_i y D2 h2;rw[arm_eval_Compare];show QD _ _ (eval l env >>= fun v=>compareChain pos v [p1,p2] [eval r1 env,markedBehindIn p2 r2 (eval r2 env)]) _ _ _;refine(markedBehindIn_of_false hm).symm▸?_;refine Q0 (ha A P0 P fl own g ρ D D1 x s _ E R h1 F fun v g1 H1 t1 G1 dk1 r1=>?_);refine Q0 (Q5 (hb A P0 P fl own g1 ρ D1 _ y _ _ E R h2 (F.grow G1 dk1) fun w g2 H2 t2 G2 dk2 rr=>?_));refine Q0 (Q4 (Q0 (Q5 (Q3 ?_))));rw[ho1];have F2:=(F.grow G1 dk1).grow G2 dk2
 split at h<;>try first|exact Qf h|(cases h;done)
 ·rename_i h3;refine H7 (P0:=P0) h3 (r1.up G2.up) rr G2.sub R.hd R.un1 fun u g3 H3 t3 G3 k3 r3=>?_;have dk3:=dk2.keeps k3;refine cps fun U y0=>?_;refine Hq h ?_;clear h;intro z D3 h4 h
  split at h<;>first|exact Qf h|(revert hQ;apply Vw h;intro hQ)
  rename_i q h5;dsimp only[VR] at r3;subst r3;refine y0 ?_;refine Q0 (J1 (Q0 (Q5 (Z7 ?_))));refine Qk (if_pos rfl) ?_;refine Q0 (Q5 (hc A P0 P fl own g3 ρ D2 _ z _ _ E R h4 (F2.grow G3 dk3) fun u g4 H4 t4 G4 dk4 r4=>?_));refine Q0 (Q4 (Zr (Q3 ?_)));refine(ho2 ..).symm▸?_;exact H7 h5 ((rr.up G3.up).up G4.up) r4 G4.sub R.hd R.un1 (((((hQ.after G1).after (t1:=t2) G2).after (t1:=t3) G3).after (t1:=t4) G4).pure dk4)
 ·rename_i h3;refine cps fun U y0=>?_;replace h:=sp h;obtain⟨rfl,rfl⟩:=h;refine y0 ?_;refine H7 (P0:=P0) h3 (r1.up G2.up) rr G2.sub R.hd R.un1 fun u g3 H3 t3 G3 k3 r3=>?_;have dk3:=dk2.keeps k3;have r3':=r3;dsimp only[VR] at r3;subst r3;refine Q0 (J1 (Q0 (Q5 (Z7 ?_))));refine Qk (if_neg Bool.false_ne_true) ?_;exact Q7 (hQ _ g3 H3 t3 ((G1.trans G2).trans G3) dk3 r3')
set_option tactic.hygienic true in
theorem RL{o1 o2:Co}{p1 p2:CmpOp}{l r1 r2:Expr}{a b c:IR}{pos}(ho1:p1=En o1)(ho2:p2=En o2)(hm:behindInMarks p2 r2=false)
  (ha:Qg X n Φ env names l a) (hb:Qg X n Φ env names r1 b) (hc:Qg X n Φ env names r2 c):ZN X n Φ env names (.Compare l [p1,p2] [r1,r2] pos) (.cmp2 o1 o2 a b c):=
 fun A P0 P fl own g ρ D D' d bb s Q E R h hbb F hQ=>by
 dsimp only[run] at h;refine cps fun U y0=>?_
 split at h<;>try first|exact Qf h|(cases h;done)
 rename_i x D1 h1
 split at h<;>try first|exact Qf h|(cases h;done)
 refine y0 ?_;rename_i y D2 h2;rw[arm_isTrue_Compare];show QD _ _ (eval l env >>= fun v=>testChain pos v [p1,p2] [eval r1 env,markedBehindIn p2 r2 (eval r2 env)]) _ _ _;refine(markedBehindIn_of_false hm).symm▸?_;refine Q0 (ha A P0 P fl own g ρ D D1 x s _ E R h1 F fun v g1 H1 t1 G1 dk1 r1=>?_);refine Q0 (Q5 (hb A P0 P fl own g1 ρ D1 _ y _ _ E R h2 (F.grow G1 dk1) fun w g2 H2 t2 G2 dk2 rr=>?_));refine Q0 (Q4 (Q0 (Q5 (Q3 ?_))));rw[ho1];have F2:=(F.grow G1 dk1).grow G2 dk2
 split at h<;>try first|exact Qf h|(cases h;done)
 ·rename_i h3;refine H7 (P0:=P0) h3 (r1.up G2.up) rr G2.sub R.hd R.un1 fun u g3 H3 t3 G3 k3 r3=>?_;have dk3:=dk2.keeps k3;refine cps fun U y0=>?_
  split at h<;>try first|exact Qf h|(cases h;done)
  rename_i z D3 h4
  split at h<;>first|exact Qf h|(replace h:=sp h;obtain⟨rfl,rfl⟩:=h)|(replace h:=V2 h;obtain⟨rfl,rfl,rfl⟩:=h)|(replace h:=so h;subst h)|cases h
  rename_i q h5;have:bb=q:=by unfold AV.truth at hbb;obtain rfl:=so hbb;rfl
  subst this;dsimp only[VR] at r3;subst r3;refine y0 ?_;refine Q0 (J1 (Q0 (Q5 (Z7 ?_))));refine Qk (if_pos rfl) ?_;refine Q0 (Q5 (hc A P0 P fl own g3 ρ D2 _ z _ _ E R h4 (F2.grow G3 dk3) fun u g4 H4 t4 G4 dk4 r4=>?_));refine Q0 (Q4 (Q0 (Zr (Q3 ?_))));refine(ho2 ..).symm▸?_;refine H7 (P0:=P0) h5 ((rr.up G3.up).up G4.up) r4 G4.sub R.hd R.un1 fun u g5 H5 t5 G5 k5 r5=>?_;dsimp only[VR] at r5;subst r5;exact Q5 (Z7 (hQ g5 H5 t5 ((((G1.trans G2).trans G3).trans G4).trans G5) (dk4.keeps k5)))
 ·rename_i h3;refine cps fun U y0=>?_;replace h:=sp h;obtain⟨rfl,rfl⟩:=h;have:bb=false:=by unfold AV.truth at hbb;obtain rfl:=so hbb;rfl
  subst this;refine y0 ?_;refine H7 (P0:=P0) h3 (r1.up G2.up) rr G2.sub R.hd R.un1 fun u g3 H3 t3 G3 k3 r3=>?_;have dk3:=dk2.keeps k3;dsimp only[VR] at r3;subst r3;refine Q0 (J1 (Q0 (Q5 (Z7 ?_))));refine Qk (if_neg Bool.false_ne_true) ?_;exact Q7 (hQ g3 H3 t3 ((G1.trans G2).trans G3) dk3)
theorem Zf{e:Expr}{es:List Expr}(h:notStar e=true):starEach (e::es) env=(false,eval e env)::starEach es env:=by
 rcases e with _|_<;>first|rfl|exact Bool.noConfusion h
theorem Xj:∀{es:List Expr} {irs:List IR},es.length=irs.length->(∀e∈es,notStar e=true)->(∀p∈es.zip irs,Qg X n Φ env names p.1 p.2)->J7 X n Φ env names es irs:=by
 intro es
 induction es with
 | nil=>
  intro irs hl hst hi;rcases irs with _|⟨_,_⟩
  ·exact fun A P0 P fl own g ρ D D' ds pos s Q E R h F hQ=>by
    dsimp only[runs] at h;refine cps fun U y0=>?_;replace h:=sp h;obtain⟨rfl,rfl⟩:=h;refine y0 ?_;exact Q7 (hQ [] g s.heap s.toks (Qs.refl F.sub) F.deck (by dsimp only[Qo]<;>rfl))
  ·simp at hl
 | cons e es ih0=>
  intro irs hl hst hi;rcases irs with _|⟨a,irs⟩
  ·simp at hl
  ·exact fun A P0 P fl own g ρ D D' ds pos s Q E R h F hQ=>by
    have ih:=ih0 (irs:=irs) (by simpa using hl) (fun e he=>hst e (List.mem_cons_of_mem _ he)) fun p hp=>hi p (by rw[List.zip_cons_cons];exact List.mem_cons_of_mem _ hp);have h0:=hi (e,a) (by rw[List.zip_cons_cons];exact List.mem_cons_self);dsimp only[runs] at h;refine cps fun U y0=>?_;refine Hq h ?_;clear h;intro x D1 h1 h;refine Bq h ?_;clear h;intro xs Dz h2 h;revert hQ;apply Vw h;intro hQ;refine y0 ?_;rw[Zf (hst e List.mem_cons_self)];show QD _ _ (spliced ((false,eval e env)::backTo pos (starEach es env))) _ _ _;rw[spliced];refine Q0 (h0 A P0 P fl own g ρ D D1 x s _ E R h1 F fun v g1 H1 t1 G1 dk1 r1=>?_);dsimp only[Bool.false_eq_true,if_false];refine Q0 (Q7 (Q0 (Q5 (ih A P0 P fl own g1 ρ D1 _ xs pos _ _ E R h2 (F.grow G1 dk1) fun vs g2 H2 t2 G2 dk2 r2=>?_))));exact Q7 (hQ (v::vs) g2 H2 t2 (G1.trans G2) dk2 (by dsimp only[Qo];exact⟨v,vs,rfl,r1.up G2.up,r2⟩))
theorem BO{es:List Expr}{irs:List IR}{c pos}(h0:J7 X n Φ env names es irs):Qg X n Φ env names (.Tuple es c pos) (.tup irs):=fun A P0 P fl own g ρ D D' d s Q E R h F hQ=>by
 dsimp only[run] at h;refine cps fun U y0=>?_;refine Bq h ?_;clear h;intro ds D1 h1 h;refine Ha h ?_;clear h;intro hz h;revert hQ;apply Vw h;intro hQ;refine y0 ?_;refine(arm_eval_Tuple ..).symm▸?_;refine Q0 (Q4 (Q0 (h0 A P0 P fl own g ρ D _ ds pos s _ E R h1 F fun vs g1 H1 t1 G1 dk1 r1=>?_)));have hl:=r1.len;refine Q3 (wpAny_newTuple ?_ (by rw[sizeLine_eq];lia));exact HS (tk:=t1) ((hQ.after (t1:=t1) G1).pure dk1) G1.sub r1
theorem Vx{es:List Expr}{irs:List IR}{pos}(h0:J7 X n Φ env names es irs):Qg X n Φ env names (.List es pos) (.lst irs):=fun A P0 P fl own g ρ D D' d s Q E R h F hQ=>by
 dsimp only[run] at h;refine cps fun U y0=>?_;refine Bq h ?_;clear h;intro ds D1 h1 h;refine Ha h ?_;clear h;intro hz h;revert hQ;apply Vw h;intro hQ;refine y0 ?_;refine(arm_eval_List ..).symm▸?_;refine Q0 (Q4 (Q0 (h0 A P0 P fl own g ρ D _ ds pos s _ E R h1 F fun vs g1 H1 t1 G1 dk1 r1=>?_)));have hl:=r1.len;refine Q3 (wpAny_newList ?_ (by rw[sizeLine_eq];lia));exact Y6 (tk:=t1) ((hQ.after (t1:=t1) G1).pure dk1) G1.sub r1
theorem UQ{v sl:Expr}{pos:Pos}:eval (.Subscript v sl pos) env=(do
  let o <-eval v env
  let i <-holding [o] (eval sl env)
  standAt pos
  subscriptTail v sl o i):=rfl
set_option tactic.hygienic true in
theorem BW{v i:Expr}{a b:IR}{pos}(ha:Qg X n Φ env names v a)(hb:Qg X n Φ env names i b):Qg X n Φ env names (.Subscript v i pos) (.idx a b):=fun A P0 P fl own g ρ D D' d s Q E R h F hQ=>by
 dsimp only[run] at h;refine cps fun U y0=>?_;refine Hq h ?_;clear h;intro x D1 h1 h;refine Hq h ?_;clear h;intro y D2 h2 h
 split at h<;>first|exact Qf h|(revert hQ;apply Vw h;intro hQ)
 refine y0 ?_;rename_i h3;refine Qk UQ ?_;refine Q0 (ha A P0 P fl own g ρ D D1 x s _ E R h1 F fun v g1 H1 t1 G1 dk1 r1=>?_);refine Q0 (Q5 (hb A P0 P fl own g1 ρ D1 _ y _ _ E R h2 (F.grow G1 dk1) fun w g2 H2 t2 G2 dk2 r2=>?_));exact Q0 (Q4 (Q3 (AO h3 (r1.up G2.up) r2 G2.sub (((hQ.after G1).after (t1:=t2) G2).pure dk2))))
noncomputable def Gf(X:Qu)(n:Nat)(Φ:Qj)(env:Env)(names:List Str)(e:Option Expr)(ir:Option IR):Prop:=
 match e,ir with
 | none,none=>True
 | some e,some ir=>Qg X n Φ env names e ir
 | _,_=>False
theorem NB{x:AV}{k:Nat}(h:Jb x=some k):∃i,x=.int i/\(0<=i/\i < 9223372036854775808)/\i.toNat=k:=by
 rcases x with _|_<;>first|exact Qf h|exact⟨_,rfl,(QL h).1,so (QL h).2⟩
set_option tactic.hygienic true in
theorem Ao{e:Option Expr}{ir:Option IR}(hi:Gf X n Φ env names e ir){A:Around}{P0:PM}{P:PF}{fl:Bool}{own:Nat->Option Addr}{g:PM}{ρ:List LV}{D D':Q8}{r:Option Nat}{s:Shared}{Q:VP}{E:VP}
  (R:Ze A n) (h:JS Φ ir ρ D=some (r,D')) (F:Z6 X P0 P fl env names own g ρ D s.heap)
  (hQ:∀v g' h' tk,Qs X.dk g s.heap g' h'->QO X D' h'->N5 r v->Q v { s with heap:=h',toks:=tk }):QD X.M A (valueOrNone (evalOpt e env)) Q E s:=by
 rcases e with _|e
 ·
  rcases ir with _|_
  ·
   dsimp only[JS] at h;refine cps fun U y0=>?_;replace h:=sp h;obtain⟨rfl,rfl⟩:=h;refine y0 ?_;exact Q7 (hQ .none g s.heap s.toks (Qs.refl F.sub) F.deck rfl)
  ·exact hi.elim
 ·
  rcases ir with _|ir
  ·exact hi.elim
  ·
   dsimp only[JS] at h;refine cps fun U y0=>?_
   split at h<;>try first|exact Qf h|(cases h;done)
   rename_i x D1 h1
   split at h<;>first|exact Qf h|(revert hQ;apply Vw h;intro hQ)
   refine y0 ?_;rename_i k h2;refine hi A P0 P fl own g ρ D _ x s _ E R h1 F fun v g1 H1 t1 G1 dk1 r1=>hQ v g1 H1 t1 G1 dk1 ?_;obtain⟨i,rfl,h0,rfl⟩:=NB h2;obtain⟨t,rfl⟩:=r1.int_is;refine⟨t,?_⟩;have:((i.toNat:Nat):Int)=i:=by lia
   rw[this]
set_option tactic.hygienic true in
theorem BP{v:Expr}{lo hi:Option Expr}{a:IR}{il ih:Option IR}{p pos}(ha:Qg X n Φ env names v a)(hl:Gf X n Φ env names lo il)(hh:Gf X n Φ env names hi ih):
  Qg X n Φ env names (.Subscript v (.Slice lo hi none p) pos) (.slc a il ih):=fun A P0 P fl own g ρ D D' d s Q E R h F hQ=>by
 dsimp only[run] at h;refine cps fun U y0=>?_;refine Hq h ?_;clear h;intro x D1 h1 h
 split at h<;>try first|exact Qf h|(cases h;done)
 rename_i l D2 h2
 split at h<;>try first|exact Qf h|(cases h;done)
 rename_i k D3 h3
 split at h<;>first|exact Qf h|(revert hQ;apply Vw h;intro hQ)
 refine y0 ?_;rename_i z h4;refine Qk UQ ?_;refine Q0 (ha A P0 P fl own g ρ D D1 x s _ E R h1 F fun v g1 H1 t1 G1 dk1 r1=>?_);refine(arm_eval_Slice ..).symm▸?_;have F1:=F.grow G1 dk1;refine Q0 (Q5 (Q0 (Ao (s:={ s with heap:=H1,toks:=t1 }) hl R h2 F1 fun vl g2 H2 t2 G2 dk2 r2=>Q0 (Q5 (Ao (s:={ s with heap:=H2,toks:=t2 }) hh R h3 (F1.grow G2 dk2) fun vh g3 H3 t3 G3 dk3 r3=>?_)))));refine Q0 (Q5 (Q3 (wpAny_of_eq (a:=Value.none) rfl ?_)));refine Q3 (wpAny_newObj_type ?_);refine Q0 (Q4 (Q3 ?_));exact AJ (s:={ s with heap:=H3,toks:=t3 }) (tk:=t3) h4 ((r1.up G2.up).up G3.up) r2 r3 G3.sub ((((hQ.after G1).after (t1:=t2) G2).after (t1:=t3) G3).pure dk3)
theorem BQ{v:Expr}{a:IR}{k p2 p3 p pos}(ha:Qg X n Φ env names v a):
  Qg X n Φ env names (.Subscript v (.Slice none none (some (.UnaryOp .USub (.Constant (.int 1) k p2) p3)) p) pos) (.rev a):=fun A P0 P fl own g ρ D D' d s Q E R h F hQ=>by
 dsimp only[run] at h;refine cps fun U y0=>?_;refine kL h ?_;clear h;intro l D1 h1 h;refine Ha h ?_;clear h;intro hz h;cases h;refine y0 ?_;refine Qk UQ ?_;refine Q0 (ha A P0 P fl own g ρ D D' (.list l) s _ E R h1 F fun v g1 H1 t1 G1 dk1 r1=>?_);rw[arm_eval_Slice];refine Q0 (Q5 (Q0 (Q3 (wpAny_of_eq (a:=Value.none) rfl (Q0 (Q5 (Q3 (wpAny_of_eq (a:=Value.none) rfl ?_))))))));refine Q0 (Q5 ?_);show QD _ _ (eval (.UnaryOp .USub (.Constant (.int 1) k p2) p3) env) _ _ _;refine(arm_eval_UnaryOp ..).symm▸?_;refine Q0 (Q3 (wpAny_Constant_int (Q0 (Q4 (Q5 (Q3 (PyProof.Rows.neg_int ?_)))))));refine Q3 (wpAny_newObj_type ?_);refine Q0 (Q4 (Q3 ?_));exact AK (s:={ s with heap:=H1,toks:=t1+1+1 }) (tk:=t1+1+1) hz r1 G1.sub ((hQ.after (t1:=t1+1+1) G1).pure dk1)
end
section
variable {M:Model}{A:Around}{E:VP}{s:Shared}{env:Env}
theorem HP{pos:Pos}:∀{es:List Expr},(∀e∈es,notStar e=true)->(backTo pos (starEach es env)).any (·.1)=false:=by
 intro zz
 induction zz with
 | nil=>
  intro _;exact rfl
 | cons e es ih=>
  intro h;rw[Zf (h e List.mem_cons_self)];show(false||(backTo pos (starEach es env)).any (·.1))=false;rw[ih fun e he=>h e (List.mem_cons_of_mem _ he)];rfl
theorem Vq{f:Value}{args:List (Bool×Sem Value)}{Q:Args->Shared->Prop}(hp:args.any (·.1)=false)(h:QD M A (spliced args) (fun vs s'=>Q ⟨vs,[]⟩ s') E s):QD M A (evalArgs f true args []) Q E s:=by
 rcases args with _|⟨⟨b,x⟩,rest⟩
 ·skip;refine Q0 (Zu h (fun vs s' h'=>?_) fun Z Z x=>x);refine Q0 (Q7 ?_);exact Q5 (Q0 (Q7 (Q0 (Q7 (Q7 h')))))
 ·cases b with
  | true=>simp at hp
  | false=>
   refine Q0 (Zu h (fun vs s' h'=>?_) fun Z Z x=>x);refine Q5 ?_;exact Q0 (Q7 (Q0 (Q7 (Q7 h'))))
noncomputable def Yi(M:Model)(h:Heap)(f:Value):Prop:=∃k,(k=Keeper.frame\/k=Keeper.machine\/k=Keeper.boundFrame)/\Looks M h (keeperOf f) k
theorem QW{h:Heap}{id:String}:Yi M h (.builtin id):=⟨.machine,.inr (.inl rfl),Looks.of_pure rfl⟩
theorem HX{h:Heap}{id:String}:Yi M h (.type id):=⟨.machine,.inr (.inl rfl),Looks.of_pure rfl⟩
theorem Xy{h:Heap}{a:Addr}{o:Obj}{fd:FuncData}(ho:h.get? a=some o)(hd:o.data=.func fd):Yi M h (.ref a):=
 ⟨.frame,.inl rfl,(Looks.ld (part:=none) ho).andThen (((hd ..)▸.now))⟩
theorem Qy{f:Value}{first:List Value}{es:List Expr}{pos:Pos}{Q:VP}(hst:∀e∈es,notStar e=true)
  (h:QD M A (spliced (backTo pos (starEach es env))) (fun vs s₁=>Yi M s₁.heap f/\QD M A (call f (first++vs)) Q E s₁) E s):QD M A (callWith pos f first (backTo pos (starEach es env)) []) Q E s:=by
 refine Q0 (Q5 (Vq (HP hst) (Zu h (fun vs s₁ h₁=>Q0 (Q4 ?_)) fun Z Z x=>x)));refine cps fun U y0=>?_;obtain⟨k,hk',L⟩:=h₁.1;refine y0 ?_;rw[HP hst,List.any_nil,Bool.or_false];refine Q9 (L.here ?_);have tail:∀{t:Sem Value},QD M A t Q E s₁->QD M A (t >>= fun r=>holding [r] point >>= fun Z=>pure r) Q E s₁:=
  fun ht=>Q0 (Zu ht (fun r s₂ hr=>Q0 (Q5 (WV (Q7 hr)))) fun Z Z x=>x)
 have marked (mk:Value):QD M A (callMarked mk f (first++vs) []) Q E s₁:=by unfold callMarked;exact Ru h₁.2
 rcases hk' with rfl|rfl|rfl<;>dsimp only<;>first|exact tail h₁.2|(split<;>first|exact tail h₁.2|exact tail (marked _))
end
section
variable {X:Qu}{n:Nat}{Φ:Qj}{env:Env}{names:List Str}
theorem Pa{x:Str}{f:Fn}{es:List Expr}{irs:List IR}{p pos}{nk:List (Str×NameKind)}(ok:QS env nk)(hk:nk.lookup x=some .globalImplicit)(hf:Jd.lookup x.cps.toList=some f)
  (hy:(x == ("__debug__":Str))=false) (hst:∀e∈es,notStar e=true) (hc:JD X n Φ) (h0:J7 X n Φ env names es irs):Qg X n Φ env names (.Call (.Name x p) es [] pos) (.call f irs):=fun A P0 P fl own g ρ D D' d s Q E R h F hQ=>by
 dsimp only[run] at h;refine cps fun U y0=>?_;refine Bq h ?_;clear h;intro ds D1 h1 h;obtain⟨df,a,hdf,hat⟩:=F.st.fn _ _ (mem_of_lookup hf);refine y0 ?_;have hk':env.kindOf x=some .globalImplicit:=by unfold Env.kindOf;rw[ok.nm];exact hk
 have hg:=hat.name;rw[Zh] at hg;refine(arm_eval_Call_Name' ..).symm▸?_;refine Q9 (Calls.Name_function_global ok.kd hk' (Calls.loadGlobal_global (by rw[ok.gl];exact F.st.glob.at F.sub) hg ?_) hy);refine Qy hst (h0 A P0 P fl own g ρ D D1 ds pos s _ E R h1 F fun vs g1 H1 t1 G1 dk1 r1=>⟨?_,?_⟩)
 ·refine cps fun U y0=>?_;obtain⟨o,pm,code,doc,e1,e2,_⟩:=hat.obj;refine y0 ?_;exact Xy (G1.sub _ _ (G1.up _ _ e1)) e2
 ·have F1:=F.grow G1 dk1;exact hc f ds D1 d D' h _ (mem_of_lookup hf) A P0 g1 vs a { s with heap:=H1,toks:=t1 } Q E R F1.st G1.sub dk1 (fun b hb=>⟨(F1.dg b hb).1,(F1.dg b hb).2.2⟩) F1.p0 r1 hat.name (hQ.after G1)
set_option tactic.hygienic true in
theorem M5{x:Str}{b:Bi}{es:List Expr}{irs:List IR}{p pos}{nk:List (Str×NameKind)}(ok:QS env nk)(hk:nk.lookup x=some .globalImplicit)(hf:Wt.lookup x.cps.toList=some b)
  (hy:(x == ("__debug__":Str))=false) (hst:∀e∈es,notStar e=true) (h0:J7 X n Φ env names es irs):Qg X n Φ env names (.Call (.Name x p) es [] pos) (.bi b irs):=fun A P0 P fl own g ρ D D' d s Q E R h F hQ=>by
 dsimp only[run] at h;refine cps fun U y0=>?_
 split at h<;>try first|exact Qf h|(cases h;done)
 rename_i ds D1 h1
 split at h<;>first|exact Qf h|cases h
 refine y0 ?_;rename_i h2;have hb:=F.st.bi _ _ (mem_of_lookup hf);rw[Zh] at hb;have hk':env.kindOf x=some .globalImplicit:=by unfold Env.kindOf;rw[ok.nm];exact hk
 refine(arm_eval_Call_Name' ..).symm▸?_;refine Q9 (Calls.Name_function_global ok.kd hk' (Calls.loadGlobal_builtin (by rw[ok.gl];exact F.st.glob.at F.sub) hb.1 (by rw[ok.bl];exact F.st.blt.at F.sub) hb.2 ?_) hy);refine Qy hst (h0 A P0 P fl own g ρ D _ ds pos s _ E R h1 F fun vs g1 H1 t1 G1 dk1 r1=>⟨?_,?_⟩)
 ·rcases b with _|_<;>first|exact QW|exact HX
 ·refine(List.nil_append ..).symm▸?_;by_cases hbt:∃l,ds=[.barr l]
  ·obtain⟨l,rfl⟩:=hbt;rcases b with _|_<;>try exact Qf h2
   obtain⟨hz,h2⟩:=QL (show(if Qi l then some (AV.bytes l) else none)=some d from h2);obtain rfl:=so h2;dsimp only[Qo] at r1;obtain⟨v,r,rfl,r2,r3⟩:=r1;subst r3;dsimp only[VR] at r2;obtain⟨a,b,rfl,e1,e2⟩:=r2;have hl:=map_len e2;rw[Array.length_toList] at hl;have:=ZL hz;refine Q3 (X3 (s:={ s with heap:=H1,toks:=t1 }) (G1.sub _ _ e1) (by rw[sizeLine_eq];lia) fun t k=>?_);exact YI (s:={ s with heap:=H1,toks:=t1 }) ((hQ.after (t1:=t1) G1).pure dk1) G1.sub (by dsimp only[VR];exact⟨_,_,rfl,e2⟩)
  ·exact Q3 (DZ h2 (fun l e=>hbt ⟨l,e⟩) r1 G1.sub R.hd ((hQ.after (t1:=t1) G1).pure dk1))
end
section
variable {M:Model}{A:Around}{E:VP}{s:Shared}{env:Env}
theorem Hv{o:Expr}{m:Str}{w:Sem Value}(h:JN o=true):attributeBase o m env w=w:=by
 rcases o with _|_<;>first|rfl|exact Bool.noConfusion h
theorem Ji{o:Expr}{m:Str}{apos pos:Pos}{es:List Expr}{Q:VP}(hb:JN o=true)(hline:(apos.endLine == pos.line)=true)(hst:∀e∈es,notStar e=true)(hlen:es.length < 30)
  (h:QD M A (eval o env) (fun ov s₁=>∀pl,wpAny M A (getMethod ov m pl) (fun fx s₂=>QD M A (callWith pos fx.1 fx.2 (backTo pos (starEach es env)) []) Q E s₂) E s₁) E s):
  QD M A (eval (.Call (.Attribute o m apos) es [] pos) env) Q E s:=by
 rw[arm_eval_Call,Hv hb];refine Q0 (Zu h (fun ov s₁ h₁=>?_) fun Z Z x=>x);refine Q0 (Q4 ?_);show QD M A (methodCall o m apos pos env ov (es.length+0) (backTo pos (starEach es env)) []) Q E s₁;dsimp only[methodCall];have hall:∀{l:List Expr},(∀e∈l,notStar e=true)->(backTo pos (starEach l env)).all (!·.1)=true:=fun{l} hl=>by
  induction l with
  | nil=>rfl
  | cons e l ih=>
   rw[Zf (hl e List.mem_cons_self)];refine Eq.trans (ih fun e he=>hl e (List.mem_cons_of_mem _ he)) ?_;rfl
 have few:methodCallForm (es.length+0) (backTo pos (starEach es env)) []=true:=by
  unfold methodCallForm;refine(hall hst).symm▸?_;simp;omega
 refine(few ..).symm▸?_;refine Q0 (Q5 (Q3 (wpAny_mono (h₁ _) (fun fx s₂ h₂=>?_) fun Z Z x=>x)));have f:=fx.1;have first:=fx.2
 refine Q9 (wpAny_of_eq (a:=pos) ?_ h₂);unfold methodCallPos;refine(hline ..).symm▸?_;rfl
end
section
variable {X:Qu}{n:Nat}{Φ:Qj}{env:Env}{names:List Str}
variable {A:Around}{P0 g g1:PM}{P:PF}{s:Shared}{E:VP}
theorem Lf{x:List Nat}{v:Value}{pl:Sem Bool}{Q:Value×List Value->Shared->Prop}(h:VR X P0 g (.bytes x) v)(hq:Q (.builtin "bytes.rfind",[v]) s):wpAny X.M A (getMethod v "rfind" pl) Q E s:=by
 dsimp only[VR] at h;obtain⟨b,t,rfl,_⟩:=h;exact getMethod_builtin (W.typeIs_bytes s b t) FB.plainAttrs_bytes BF.slot_rfind BF.type_rfind (fun a e=>by cases e) hq
theorem E2{x:List Nat}{v:Value}{pl:Sem Bool}{Q:Value×List Value->Shared->Prop}(h:VR X P0 g (.bytes x) v)(hq:Q (.builtin "bytes.join",[v]) s):wpAny X.M A (getMethod v "join" pl) Q E s:=by
 dsimp only[VR] at h;obtain⟨b,t,rfl,_⟩:=h;exact getMethod_builtin (W.typeIs_bytes s b t) FB.plainAttrs_bytes BF.slot_join BF.type_join (fun a e=>by cases e) hq
theorem VR.dict_of{ks vs:List AV}{v:Value}(h:VR X P0 g (.dict ks vs) v)(hs:PM.le g s.heap.get?):∃(K:Type) (_:DecidableEq K) (knd:KeyKind pw X.w K) (kvs:List (K×Value)) (a:Addr),v=.ref a/\s.heap.DictOf knd a kvs:=by
 refine cps fun U y0=>?_;obtain⟨a,o,rfl,h1,h2,h3⟩:=h.dict_at;refine y0 ?_;rcases h3 with h3|h3|h3
 all_goals
  refine cps fun U y0=>?_;obtain⟨l,vals,_,_,_,k⟩:=h3;refine y0 ?_;exact⟨_,_,_,_,a,rfl,Heap.dictOf_iff.mpr ⟨o,hs _ _ h2,k⟩⟩
theorem MY{ks vs:List AV}{v:Value}{pl:Sem Bool}{Q:Value×List Value->Shared->Prop}(h:VR X P0 g (.dict ks vs) v)(hs:PM.le g s.heap.get?)(hq:Q (.builtin "dict.get",[v]) s):wpAny X.M A (getMethod v "get" pl) Q E s:=by
 refine cps fun gC gK=>?_;obtain⟨K,_,knd,kvs,a,rfl,k⟩:=h.dict_of hs;refine gK ?_;exact getMethod_builtin k.typeIs F.plainAttrs_dict F.slot_dict_get F.type_dict_get (fun b e=>k.mapOf.noDict b e) hq
set_option tactic.hygienic true in
theorem BX{o a b:Expr}{io ia ib:IR}{apos pos:Pos}(hb:JN o=true)(hline:(apos.endLine == pos.line)=true)(hsa:notStar a=true)(hsb:notStar b=true)
  (ho:Qg X n Φ env names o io) (hl:J7 X n Φ env names [a,b] [ia,ib]):Qg X n Φ env names (.Call (.Attribute o "get" apos) [a,b] [] pos) (.get io ia ib):=fun A P0 P fl own g ρ D D' d s Q E R h F hQ=>by
 dsimp only[run] at h;refine cps fun U y0=>?_;refine kD h ?_;clear h;intro ks vs D1 h1 h;refine Hq h ?_;clear h;intro x D2 h2 h
 split at h<;>try first|exact Qf h|(cases h;done)
 rename_i y D3 h3
 split at h<;>first|exact Qf h|cases h
 refine y0 ?_;rename_i r h4;have hst:∀e∈[a,b],notStar e=true:=by simp[hsa,hsb]
 refine Ji hb hline hst (by simp) (ho A P0 P fl own g ρ D D1 (.dict ks vs) s _ E R h1 F fun v g1 H1 t1 G1 dk1 r1=>fun pl=>?_);refine MY (s:={ s with heap:=H1,toks:=t1 }) r1 G1.sub ?_;have h5:runs Φ [ia,ib] ρ D1=some ([x,y],D'):=EZ h2 h3;refine Qy hst (hl A P0 P fl own g1 ρ D1 _ [x,y] pos _ _ E R h5 (F.grow G1 dk1) fun us g2 H2 t2 G2 dk2 r2=>⟨QW,?_⟩);dsimp only[Qo] at r2;obtain⟨u1,us1,rfl,r3,r4⟩:=r2;obtain⟨u2,us2,rfl,r5,r6⟩:=r4;subst r6;exact Q3 (AP h4 r3 (r1.up G2.up) r5 G2.sub (((hQ.after G1).after (t1:=t2) G2).pure dk2))
theorem Gp{o a:Expr}{io ia:IR}{apos pos:Pos}(hb:JN o=true)(hline:(apos.endLine == pos.line)=true)(hsa:notStar a=true)
  (ho:Qg X n Φ env names o io) (hl:J7 X n Φ env names [a] [ia]):Qg X n Φ env names (.Call (.Attribute o "rfind" apos) [a] [] pos) (.rfind io ia):=fun A P0 P fl own g ρ D D' d s Q E R h F hQ=>by
 dsimp only[run] at h;refine cps fun U y0=>?_;refine kB h ?_;clear h;intro x D1 h1 h;refine kB h ?_;clear h;intro m D2 h2 h;refine Ha h ?_;clear h;intro _ h;cases h;refine y0 ?_;have hst:∀e∈[a],notStar e=true:=by simp[hsa]
 refine Ji hb hline hst (by simp) (ho A P0 P fl own g ρ D D1 (.bytes x) s _ E R h1 F fun v g1 H1 t1 G1 dk1 r1=>fun pl=>?_);refine Lf r1 ?_;have h5:runs Φ [ia] ρ D1=some ([.bytes m],D'):=HL h2;refine Qy hst (hl A P0 P fl own g1 ρ D1 _ [.bytes m] pos _ _ E R h5 (F.grow G1 dk1) fun us g2 H2 t2 G2 dk2 r2=>⟨QW,?_⟩);dsimp only[Qo] at r2;obtain⟨u1,us1,rfl,r3,r4⟩:=r2;subst r4;exact Q3 (Sp (r1.up G2.up) r3 G2.sub (((hQ.after G1).after (t1:=t2) G2).pure dk2))
set_option tactic.hygienic true in
theorem P6{o a:Expr}{io ia:IR}{apos pos:Pos}(hb:JN o=true)(hline:(apos.endLine == pos.line)=true)(hsa:notStar a=true)
  (ho:Qg X n Φ env names o io) (hl:J7 X n Φ env names [a] [ia]):Qg X n Φ env names (.Call (.Attribute o "join" apos) [a] [] pos) (.join io ia):=fun A P0 P fl own g ρ D D' d s Q E R h F hQ=>by
 dsimp only[run] at h;refine cps fun U y0=>?_;refine kB h ?_;clear h;intro x D1 h1 h;refine kL h ?_;clear h;intro l D2 h2 h
 split at h<;>try first|exact Qf h|(cases h;done)
 rename_i y h3;refine Ha h ?_;clear h;intro _ h;cases h;refine y0 ?_;have hst:∀e∈[a],notStar e=true:=by simp[hsa]
 refine Ji hb hline hst (by simp) (ho A P0 P fl own g ρ D D1 (.bytes x) s _ E R h1 F fun v g1 H1 t1 G1 dk1 r1=>fun pl=>?_);refine E2 r1 ?_;have h5:runs Φ [ia] ρ D1=some ([.list l],D'):=HL h2;refine Qy hst (hl A P0 P fl own g1 ρ D1 _ [.list l] pos _ _ E R h5 (F.grow G1 dk1) fun us g2 H2 t2 G2 dk2 r2=>⟨QW,?_⟩);dsimp only[Qo] at r2;obtain⟨u1,us1,rfl,r3,r4⟩:=r2;subst r4;exact Q3 (Mk h3 (r1.up G2.up) r3 G2.sub (((hQ.after G1).after (t1:=t2) G2).pure dk2))
end
section
variable {X:Qu}{n:Nat}{Φ:Qj}{env:Env}{names:List Str}
variable {A:Around}{P0 g g1:PM}{P:PF}{s:Shared}{E:VP}
noncomputable def isName(e:Expr):Bool:=Nat.beq e.ctorIdx 23
theorem K6{dx a:Addr}{es:List DictEntry}{n:Nat}{h:Heap}(e1:h.get? a=some (instObj modC dx))(e2:h.get? dx=some (dictOf es n)):InstAt h a (instObj modC dx) modC (some (dictOf es n)):=⟨e1,rfl,rfl,e2⟩
theorem GR{h1:Int}{t1:Tok}{h2:Int}{t2:Tok}{vn vt:Value}:getL ("name":Str) [⟨h1,.str "name" t1,vn⟩,⟨h2,.str "told" t2,vt⟩]=some (some vn):=by
 have:(Value.str "name" t1).isStr "name"=true:=by rfl
 unfold getL;rw[List.find?_cons];rfl
theorem Vb{h1:Int}{t1:Tok}{h2:Int}{t2:Tok}{vn vt:Value}:getL ("told":Str) [⟨h1,.str "name" t1,vn⟩,⟨h2,.str "told" t2,vt⟩]=some (some vt):=by
 have h1':(Value.str "name" t1).isStr "told"=false:=by
  show(("name":Str) == ("told":Str))=false;decide +kernel
 have h2':(Value.str "told" t2).isStr "told"=true:=by simp[Value.isStr]
 unfold getL;rw[List.find?_cons];simp only[h1'];rw[List.find?_cons];simp only[h2']
theorem Mj{nm:List Nat}{td:List (List Nat)}{v:Value}{Q:VP}(st:St X g)(h:VR X P0 g (.modi nm td) v)(hs:PM.le g s.heap.get?)(hQ:QU X P0 g s (.bytes nm) Q):wpAny X.M A (getAttr v "name" true) Q E s:=by
 dsimp only[VR] at h;refine cps fun U y0=>?_;obtain⟨a,dx,h1,t1,h2,t2,n,vn,vt,rfl,e2,e3,e4,⟨b,t,rfl,e5⟩,_⟩:=h;refine y0 ?_;refine get_value (st.inK hs) (K6 (hs _ _ e2) (hs _ _ e3)) (plainGet_of st.kok.plain).1 (findObj_own st.kok.has st.kok.nameA rfl (((lookIn_dict ..).trans GR))) rfl (YI hQ hs ?_);dsimp only[VR];exact⟨b,t,rfl,e5⟩
theorem Gg:∀{bt:List (Array UInt8×Tok)},Qo X P0 g (bt.map fun p=>.bytes (p.1.toList.map UInt8.toNat)) (bt.map fun p=>.bytes p.1 p.2):=by
 intro zz
 induction zz with
 | nil=>
  skip;rfl
 | cons p bt ih=>
  rw[List.map_cons,List.map_cons];dsimp only[Qo];exact⟨_,_,rfl,by dsimp only[VR];exact⟨_,_,rfl,rfl⟩,ih⟩
theorem Mi{nm:List Nat}{td:List (List Nat)}{v:Value}{Q:VP}(st:St X g)(h:VR X P0 g (.modi nm td) v)(hs:PM.le g s.heap.get?)(hQ:QU X P0 g s (.list (td.map .bytes)) Q):wpAny X.M A (getAttr v "told" true) Q E s:=by
 dsimp only[VR] at h;obtain⟨a,dx,h1,t1,h2,t2,n,vn,vt,rfl,e2,e3,e4,_,a',o',vs',n',rfl,k2,k3,k4,k5,k6,bt,k7,rfl⟩:=h;refine get_value (st.inK hs) (K6 (hs _ _ e2) (hs _ _ e3)) (plainGet_of st.kok.plain).1 (findObj_own st.kok.has st.kok.toldA rfl (((lookIn_dict ..).trans Vb))) rfl (YI hQ hs ?_);dsimp only[VR];refine⟨a',o',vs',n',rfl,k2,k3,k4,k5,k6,?_⟩;rw[k7,List.map_map];exact Gg
theorem P2{o:Expr}{io:IR}{pos}(hb:isName o=true)(ho:Qg X n Φ env names o io):Qg X n Φ env names (.Attribute o "name" pos) (.name io):=fun A P0 P fl own g ρ D D' d s Q E R h F hQ=>by
 dsimp only[run] at h;refine kM h ?_;clear h;intro nm td _ h1 h;cases h;rcases o with _|_<;>try (exact Bool.noConfusion hb;done)
 rw[arm_eval_Attribute,Hv rfl];refine Q0 (ho A P0 P fl own g ρ D D' (.modi nm td) s _ E R h1 F fun v g1 H1 t1 G1 dk1 r1=>?_);refine Q0 (Q4 (Q0 (Q5 (Q3 ?_))));refine Mj (F.grow G1 dk1).st r1 G1.sub fun u g2 H2 t2 G2 k2 r2=>?_;exact Q0 (Q7 (Q7 (hQ u g2 H2 t2 (G1.trans G2) (dk1.keeps k2) r2)))
theorem RZ{o:Expr}{io:IR}{pos}(hb:isName o=true)(ho:Qg X n Φ env names o io):Qg X n Φ env names (.Attribute o "told" pos) (.told io):=fun A P0 P fl own g ρ D D' d s Q E R h F hQ=>by
 dsimp only[run] at h;refine kM h ?_;clear h;intro nm td _ h1 h;cases h;rcases o with _|_<;>try (exact Bool.noConfusion hb;done)
 rw[arm_eval_Attribute,Hv rfl];refine Q0 (ho A P0 P fl own g ρ D D' (.modi nm td) s _ E R h1 F fun v g1 H1 t1 G1 dk1 r1=>?_);refine Q0 (Q4 (Q0 (Q5 (Q3 ?_))));refine Mi (F.grow G1 dk1).st r1 G1.sub fun u g2 H2 t2 G2 k2 r2=>?_;exact Q0 (Q7 (Q7 (hQ u g2 H2 t2 (G1.trans G2) (dk1.keeps k2) r2)))
end
section
variable {X:Qu}{P0 g:PM}{P:PF}{fl:Bool}{env:Env}{names:List Str}{own own':Nat->Option Addr}{ρ ρ':List LV}{D:Q8}{h h':Heap}
theorem Z6.change(F:Z6 X P0 P fl env names own g ρ D h){z:Addr}(hz:g z=none)(hp:P.pr z=none)(hd:z∉X.dk)(same:∀b,b≠z->h'.get? b=h.get? b)(live:(h'.get? z).isSome)
  (hs:∀i x lv,names[i]?=some x->ρ'[i]?=some lv->LR X P0 g env h' (own' i) x lv) (hl:ρ'.length=names.length) (hn:∃m,h'.Ns env.locals m)
  (hc:∀x c,env.cells.lookup x=some c->∃v,h'.IsCell c v)
  (ho:∀i a,own' i=some a->own i=some a\/(g a=none/\P.pr a=none/\a∉X.dk/\a≠env.locals/\(h.get? a).isSome/\(∀x c,env.cells.lookup x=some c->c≠a)))
  (hi:∀i j a,own' i=some a->own' j=some a->i=j):Z6 X P0 P fl env names own' g ρ' D h':=by
 have keep:∀b,b≠z->∀o,h.get? b=some o->h'.get? b=some o:=fun b hb o e=>((same b hb).trans (e ..))
 have alive:∀b,(h.get? b).isSome->(h'.get? b).isSome:=fun b hb=>by
  by_cases q:b=z
  ·exact q▸live
  ·exact(same b q)▸hb
 have nz:∀b o,g b=some o->b≠z:=fun b o e q=>by rw[q,hz] at e;exact Qf e
 refine
  {sub:=fun b o e=>keep b (nz b o e) _ (F.sub b o e)
   st:=F.st
   prot:=fun b o e=>keep b (fun q=>by rw[q,hp] at e;exact Qf e) _ (F.prot b o e)
   deck:=?_
   flag:=F.flag
   slot:=hs
   len:=hl
   ns:=hn
   lg:=F.lg
   lp:=F.lp
   ld:=F.ld
   og:=fun i a ha=>?_
   oi:=hi
   cg:=fun x c e=>?_
   ci:=F.ci
   dg:=fun b hb=>let⟨h1,h2,h3⟩:=F.dg b hb;⟨h1,h2,alive _ h3⟩
   p0:=fun b o e=>alive _ (F.p0 b o e)
   base:=F.base
   gn:=F.gn
   gu:=F.gu }
 ·rcases F.deck with e|⟨e1,e2,e3,⟨t1,t2,e4⟩,o,vs,n,e5,e6⟩
  ·exact .inl e
  ·have da:X.da≠z:=fun q=>hd (((e1 ..)▸(q ..).symm▸List.mem_cons_self));have ca:X.ca≠z:=fun q=>hd (by rw[e1,<-q];exact List.mem_cons_of_mem _ List.mem_cons_self);refine .inr ⟨e1,e2,e3,⟨t1,t2,?_⟩,o,vs,n,keep _ ca _ e5,e6⟩;obtain⟨o',es,ep,q1,q2⟩:=e4;exact⟨o',es,ep,keep _ da _ q1,q2⟩
 ·rcases ho i a ha with q|⟨q1,q2,q3,q4,q5,_⟩
  ·refine cps fun U y0=>?_;obtain⟨h1,h2,h3,h4,h5⟩:=F.og i a q;refine y0 ?_;exact⟨h1,h2,h3,h4,alive _ h5⟩
  ·exact⟨q1,q2,q3,q4,alive _ q5⟩
 ·refine cps fun U y0=>?_;obtain⟨h1,h2,h3,h4,h5,_⟩:=F.cg x c e;refine y0 ?_;refine⟨h1,h2,fun i q=>?_,h4,h5,hc x c e⟩;rcases ho i c q with q|q
  ·exact h3 i q
  ·exact q.2.2.2.2.2 x c e rfl
noncomputable def LVal(X:Qu)(P0 g:PM)(h:Heap)(oa:Option Addr)(v:Value):LV->Prop
 | .u=>False
 | .val d=>VR X P0 g d v
 | .own ds=>CY h oa (fun u=>v=u) (Qo X P0 g ds)
 | .ownb l=>D5 h oa (fun u=>v=u) l
 | .ownd ks ds=>CZ X h oa (fun u=>v=u) ks (Qo X P0 g ds)
theorem LVal.lr{oa:Option Addr}{v:Value}{lv:LV}{x:Str}(y:LVal X P0 g h oa v lv)(hr:Rd env h' x v)(hk:∀a,oa=some a->∀o,h.get? a=some o->h'.get? a=some o):LR X P0 g env h' oa x lv:=by
 rcases lv with _|d|ds|l|⟨ks,ds⟩
 ·exact y.elim
 ·exact⟨v,hr,y⟩
 ·
  obtain⟨a,vs,e,rfl,l,r⟩:=y;exact⟨a,vs,e,hr,l.on (hk a e),r⟩
 ·
  refine cps fun U y0=>?_;obtain⟨a,e,rfl,⟨b,h1,h2⟩⟩:=y;refine y0 ?_;exact⟨a,e,hr,⟨b,hk a e _ h1,h2⟩⟩
 ·
  refine cps fun U y0=>?_;obtain⟨a,o,vals,e,rfl,q,h1,r,k,k1,k2,k3⟩:=y;refine y0 ?_;exact⟨a,o,vals,e,hr,q,hk a e _ h1,r,k,k1,k2,k3⟩
theorem Rd.other{x:Str}{v:Value}{z:Addr}(y:Rd env h x v)(same:∀b,b≠z->h'.get? b=h.get? b)(hl:env.locals=z->∀m,h.Ns env.locals m->∃m',h'.Ns env.locals m'/\m' x=m x)
  (hc:∀c,env.cells.lookup x=some c->c≠z):Rd env h' x v:=by
 rcases y with⟨a,m,b,c⟩|⟨a,c,b,o,d,e⟩
 ·by_cases q:env.locals=z
  ·obtain⟨m',b',e⟩:=hl q m b;exact .inl ⟨a,m',b',e.trans c⟩
  ·obtain⟨o,es,ep,e,r⟩:=b;exact .inl ⟨a,m,⟨o,es,ep,(same _ q).trans e,r⟩,c⟩
 ·exact .inr ⟨a,c,b,o,(same _ (hc c b)).trans d,e⟩
noncomputable def Wr(env:Env)(x:Str):Prop:=env.kindOf x=some .local\/(env.kindOf x=some .cell/\∃c,env.cells.lookup x=some c)
noncomputable def U7(own:Nat->Option Addr)(i:Nat)(oa:Option Addr):Nat->Option Addr:=fun j=>if j=i then oa else own j
structure Zw(X:Qu)(P:PF)(env:Env)(own:Nat->Option Addr)(g:PM)(h:Heap)(a:Addr):Prop where
 g:g a=none
 p:P.pr a=none
 d:a∉X.dk
 l:a≠env.locals
 s:(h.get? a).isSome
 c:∀x c,env.cells.lookup x=some c->c≠a
 o:∀i,own i≠some a
end
section
variable {X:Qu}{P0 g:PM}{P:PF}{fl:Bool}{env:Env}{names:List Str}{own own':Nat->Option Addr}{ρ ρ':List LV}{D:Q8}{s:Shared}{A:Around}{E:VP}{Q:Unit->Shared->Prop}{nk:List (Str×NameKind)}
set_option tactic.hygienic true in
theorem JQ(ok:QS env nk)(F:Z6 X P0 P fl env names own g ρ D s.heap){i:Nat}{x:Str}{v:Value}{lv:LV}{oa:Option Addr}(hi:names[i]?=some x)(hu:∀j,names[j]?=some x->j=i)(hw:Wr env x)
  (hv:LVal X P0 g s.heap oa v lv) (hoa:oa=own i\/∃a,oa=some a/\Zw X P env own g s.heap a)
  (hQ:∀h' tk,(∀b,b≠env.locals->(∀y c,env.cells.lookup y=some c->c≠b)->h'.get? b=s.heap.get? b)->Z6 X P0 P fl env names (U7 own i oa) g (ρ.set i lv) D h'->Q () { s with heap:=h',toks:=tk }):wpAny X.M A (bindName env x v) Q E s:=by
 refine wpAny_bind (wpAny_holding (wpAny_point ?_));have hoc:∀a,oa=some a->a≠env.locals/\∀y c,env.cells.lookup y=some c->c≠a:=fun a e=>by
  rcases hoa with q|⟨b,q,f⟩
  ·replace e:=Eq.trans q.symm e;exact⟨(F.og i a e).2.2.2.1,fun y c hc q=>(F.cg y c hc).2.2.1 i (by rw[e,q])⟩
  ·replace e:=Eq.trans q.symm e;obtain rfl:=so e;exact⟨f.l,f.c⟩
 have own_live:∀j a,U7 own i oa j=some a->own j=some a\/(g a=none/\P.pr a=none/\a∉X.dk/\a≠env.locals/\(s.heap.get? a).isSome/\(∀x c,env.cells.lookup x=some c->c≠a)):=fun j a e=>by
  unfold U7 at e
  split at e
  ·rename_i q;subst q;rcases hoa with q|⟨b,q,f⟩
   ·left;rw[<- q];exact e
   ·replace e:=Eq.trans q.symm e;obtain rfl:=so e;exact .inr ⟨f.g,f.p,f.d,f.l,f.s,f.c⟩
  ·exact .inl e
 have own_inj:∀j k a,U7 own i oa j=some a->U7 own i oa k=some a->j=k:=fun j k a e1 e2=>by
  unfold U7 at e1 e2;rcases hoa with q|⟨b,q,f⟩
  ·have e1':own j=some a:=by
    split at e1
    ·rename_i r;rw[r,<-q];exact e1
    ·exact e1
   have e2':own k=some a:=by
    split at e2
    ·rename_i r;rw[r,<-q];exact e2
    ·exact e2
   exact F.oi j k a e1' e2'
  ·rw[q] at e1 e2
   split at e1
   ·rename_i r1;obtain rfl:=so e1
    split at e2
    ·rename_i r2;rw[r1,r2]
    ·exact absurd e2 (f.o k)
   ·split at e2
    ·obtain rfl:=so e2;exact absurd e1 (f.o j)
    ·exact F.oi j k a e1 e2
 -- the slots behind
 have slots:∀(h':Heap) (z:Addr),(∀b,b≠z->h'.get? b=s.heap.get? b)->Rd env h' x v->(∀a,oa=some a->a≠z)->(∀j a,own j=some a->a≠z)->
   (∀j y u,j≠i->names[j]?=some y->Rd env s.heap y u->Rd env h' y u)->
   ∀j y lv',names[j]?=some y->(ρ.set i lv)[j]?=some lv'->LR X P0 g env h' (U7 own i oa j) y lv':=fun h' z same hr hz hoz hrd j y lv' hj hl=>by
  by_cases q:j=i
  ·subst q;replace hj:=Eq.trans hi.symm hj;obtain rfl:=so hj;have hlt:j < ρ.length:=by
    have:=(List.getElem?_eq_some_iff.mp hl).1;rwa [List.length_set] at this
   replace hl:=Eq.trans (List.getElem?_set_self hlt).symm hl;obtain rfl:=so hl;have:U7 own j oa j=oa:=if_pos rfl;refine(this ..).symm▸?_;exact hv.lr hr fun a e o ho=>((same a (hz a e)).trans ho)
  ·replace hl:=Eq.trans (List.getElem?_set_ne (Ne.symm q)).symm hl;have:U7 own i oa j=own j:=if_neg q;refine(this ..).symm▸?_;exact(F.slot j y lv' hj hl).grow (fun u=>hrd j y u q hj) (PM.le.refl g) fun a e o ho=>((same a (hoz j a e)).trans ho)
 rcases hw with hk|⟨hk,c,hc⟩
 ·obtain⟨m,hm⟩:=F.ns;refine wpAny_bind (wpAny_storeName_local hk hm (fun h' hn' hs'=>?_) (by rw[ok.kd];rfl));have same:∀b,b≠env.locals->h'.get? b=s.heap.get? b:=fun b hb=>hs'.2 b hb;refine wpAny_point (hQ h' (s.toks+1) (fun b hb Z=>same b hb) (F.change F.lg F.lp F.ld same ?_ (slots h' env.locals same ?_ (fun a e=>(hoc a e).1) (fun j a e=>(F.og j a e).2.2.2.1) ?_) (((List.length_set ..).trans F.len)) ⟨_,hn'⟩ ?_ own_live own_inj))
  ·obtain⟨o,es,ep,e,_⟩:=hn';rw[e];rfl
  ·exact .inl ⟨hk,_,hn',if_pos rfl⟩
  ·intro j y u hj hy hr;refine hr.other same (fun Z m2 hm2=>⟨_,hn',?_⟩) fun c hc=>(F.cg y c hc).2.1;have hxy:y≠x:=fun q=>hj (hu j (((hy ..).trans (congrArg _ (q ..)))));show(if y=x then some v else m y)=m2 y;refine Eq.trans (if_neg hxy) ?_;refine cps fun U y0=>?_;obtain⟨o1,es1,ep1,q1,q2,q3,q4⟩:=hm;obtain⟨o2,es2,ep2,r1,r2,r3,r4⟩:=hm2;replace r1:=Eq.trans q1.symm r1;obtain rfl:=so r1;replace r2:=Eq.trans q2.symm r2;cases r2;refine y0 ?_;rw[<- q4,<-r4]
  ·intro y c hc;refine cps fun U y0=>?_;obtain⟨_,h2,_,_,_,u,o,h6,h7⟩:=F.cg y c hc;refine y0 ?_;exact⟨u,o,((same c h2).trans h6),h7⟩
 ·refine cps fun U y0=>?_;obtain⟨c1,c2,c3,c4,c5,v0,c6⟩:=F.cg x c hc;refine y0 ?_;refine wpAny_bind (wpAny_storeName_cell ok.kd hk hc c6 fun h' hn' hs'=>?_);have same:∀b,b≠c->h'.get? b=s.heap.get? b:=fun b hb=>hs'.2 b hb;refine wpAny_point (hQ h' s.toks (fun b Z hb=>same b (hb x c hc).symm) (F.change c4 c5 c1 same ?_ (slots h' c same ?_ (fun a e q=>(hoc a e).2 x c hc q.symm) (fun j a e q=>c3 j (((e ..).trans (congrArg _ (q ..))))) ?_) (((List.length_set ..).trans F.len)) ?_ ?_ own_live own_inj))
  ·obtain⟨o,e,_⟩:=hn';rw[e];rfl
  ·exact .inr ⟨.inl hk,c,hc,hn'⟩
  ·intro j y u hj hy hr;exact hr.other same (fun q=>absurd q (Ne.symm c2)) fun c' hc' q=>hj (hu j (by rw[hy,F.ci y x c (((q ..).symm▸hc')) hc]))
  ·refine cps fun U y0=>?_;obtain⟨m,o,es,ep,e,r⟩:=F.ns;refine y0 ?_;exact⟨m,o,es,ep,((same _ (Ne.symm c2)).trans e),r⟩
  ·intro y c' hc';by_cases q:c'=c
   ·rw[q];exact⟨_,hn'⟩
   ·refine cps fun U y0=>?_;obtain⟨_,_,_,_,_,u,o,h6,h7⟩:=F.cg y c' hc';refine y0 ?_;exact⟨u,o,((same c' q).trans h6),h7⟩
end
section
variable {X:Qu}{P0 g:PM}{K:Type}[DecidableEq K]{k:DK X K}
theorem Ej{a b:K}(h:k.enc a=k.enc b):a=b:=by
 have:=k.eq a b;rw[h,k.eq b b] at this;simp at this;exact this
inductive qG{X:Qu}{K:Type}[DecidableEq K](k:DK X K)(P0 g:PM)(key:K)(val:Value)(l:List K)(vals:List Value)(ks' vs':List AV):Prop
 | mk (l':List K) (vals':List Value) (h1:ks'=l'.map k.enc) (h2:l'.length=vals'.length) (h3:Qo X P0 g vs' vals') (h4:stored (l.zip vals) key val=l'.zip vals')
inductive CW{X:Qu}{K:Type}[DecidableEq K](k:DK X K)(P0 g:PM)(ks:List AV)(vks vvs:List Value)(l:List K)(vals:List Value)(ks' vs':List AV):Prop
 | mk (lk:List K) (l':List K) (vals':List Value) (h1:Carries k.knd (vks.zip vvs) (lk.zip vvs)) (h2:ks=lk.map k.enc) (h3:lk.length=vvs.length) (h4:ks'=l'.map k.enc) (h5:l'.length=vals'.length) (h6:Qo X P0 g vs' vals') (h7:merged (l.zip vals) (lk.zip vvs)=l'.zip vals')
theorem S7(key:K)(val:Value)(v:AV)(hv:VR X P0 g v val):∀(l:List K) (vals:List Value) (vs:List AV) (ks' vs':List AV),l.length=vals.length->l.Nodup->Qo X P0 g vs vals->VG (k.enc key) v (l.map k.enc) vs=some (ks',vs')->
  qG k P0 g key val l vals ks' vs':=by
 intro zz
 induction zz with
 | nil=>
  intro zy;rcases zy with _|⟨_,_⟩
  ·
   intro vs ks' vs' _ _ h e;simp at e;obtain⟨rfl,rfl⟩:=e;exact⟨[key],[val],rfl,rfl,by dsimp only[Qo];exact⟨val,[],rfl,hv,by dsimp only[Qo]<;>rfl⟩,by rfl⟩
  ·
   intro _ _ _ h _ _ _;simp at h
 | cons x l ih=>
  intro zy;rcases zy with _|⟨u,vals⟩
  ·
   intro _ _ _ h _ _ _;simp at h
  ·
   intro zy;rcases zy with _|⟨d,vs⟩
   ·
    intro ks' vs' _ _ h _;dsimp only[Qo] at h;simp at h
   ·
    intro ks' vs' hl hn h e;dsimp only[Qo] at h;obtain⟨u',r',e1,h1,h2⟩:=h;simp at e1;obtain⟨rfl,rfl⟩:=e1;rw[List.map_cons] at e;dsimp only[VG] at e;rw[k.eq] at e;rw[List.nodup_cons] at hn;by_cases hx:x=key
    ·refine cps fun U y0=>?_;subst hx;simp at e;obtain⟨rfl,rfl⟩:=e;refine y0 ?_;refine⟨x::l,val::vals,rfl,by simpa using hl,by dsimp only[Qo];exact⟨val,vals,rfl,hv,h2⟩,?_⟩;unfold stored;have:((x::l).zip (u::vals)).any (fun kv=>kv.1=x)=true:=by simp
     refine Eq.trans (if_pos this) ?_;rw[List.zip_cons_cons,List.map_cons,List.zip_cons_cons];simp;refine List.map_congr_left (g:=id) (fun p hp=>?_) |>.trans (List.map_id _);obtain⟨a,b⟩:=p;have:a∈l:=(List.of_mem_zip hp).1;have hne:a≠x:=fun q=>hn.1 (q▸this);simp[hne]
    ·simp[hx] at e;refine cps fun U y0=>?_;obtain⟨a,b,e2,rfl,rfl⟩:=e;obtain⟨l',vals',f1,f2,f3,f4⟩:=ih vals vs a b (by simpa using hl) hn.2 h2 e2;refine y0 ?_;refine⟨x::l',u::vals',by rw[List.map_cons,f1],by simpa using f2,by dsimp only[Qo];exact⟨u,vals',rfl,h1,f3⟩,?_⟩;rw[List.zip_cons_cons,List.zip_cons_cons,<-f4];unfold stored;simp only[List.any_cons,hx,decide_false,Bool.false_or,List.map_cons,if_false,List.cons_append];by_cases q:((l.zip vals).any fun kv=>decide (kv.fst=key))=true
     ·rw[if_pos q,if_pos q]
     ·rw[if_neg q,if_neg q]
set_option tactic.hygienic true in
theorem Vv{l:List (K×Value)}{key:K}{val:Value}(h:(l.map (·.1)).Nodup):((stored l key val).map (·.1)).Nodup:=by
 unfold stored
 split
 ·have:(l.map (fun kv=>if kv.1=key then(kv.1,val) else kv)).map (·.1)=l.map (·.1):=by
   refine Eq.trans List.map_map ?_;refine List.map_congr_left fun p Z=>?_;simp only[Function.comp]
   split<;>rfl
  refine Eq.mpr (congrArg _ this) ?_;exact h
 ·rename_i hn;rw[List.map_append,List.nodup_append];refine⟨h,by simp,fun a ha b hb=>?_⟩;simp at hb;subst hb;intro q;subst q;apply hn;obtain⟨p,hp,rfl⟩:=List.mem_map.mp ha;rw[List.any_eq_true];exact⟨p,hp,by simp⟩
theorem Vn{l:List K}{vals:List Value}(h:l.length=vals.length):(l.zip vals).map (·.1)=l:=by
 exact(List.map_fst_zip (by lia))
theorem Xq:∀(ks vs:List AV) (vks vvs:List Value) (l:List K) (vals:List Value) (cs:List AV) (ks' vs':List AV),ks.length=vs.length->ks.all k.of=true->Qo X P0 g ks vks->Qo X P0 g vs vvs->l.length=vals.length->l.Nodup->Qo X P0 g cs vals->
  JI ks vs (l.map k.enc,cs)=some (ks',vs')->
  CW k P0 g ks vks vvs l vals ks' vs':=by
 intro zz
 induction zz with
 | nil=>
  intro vs vks vvs l vals cs ks' vs' hkv _ hk hv hl hn hc e;have:vs=[]:=by cases vs with|nil=>rfl|cons _ _=>simp at hkv
  subst this;dsimp only[Qo] at hk hv;subst hk hv;dsimp only[JI] at e;replace e:=sp e;obtain⟨rfl,rfl⟩:=e;exact⟨[],l,vals,trivial,rfl,rfl,rfl,hl,hc,rfl⟩
 | cons x ks ih=>
  intro zy;rcases zy with _|⟨v,vs⟩
  ·
   intro _ _ _ _ _ _ _ hkv _ _ _ _ _ _ _;simp at hkv
  ·
   intro vks vvs l vals cs ks' vs' hkv ho hk hv hl hn hc e;dsimp only[Qo] at hk hv;refine cps fun U y0=>?_;obtain⟨u,r,rfl,hk1,hk2⟩:=hk;obtain⟨w,q,rfl,hv1,hv2⟩:=hv;rw[List.all_cons,Bool.and_eq_true] at ho;obtain⟨key,rfl,his⟩:=k.ofv P0 g x u ho.1 hk1;dsimp only[JI] at e;rw[Option.bind_eq_some_iff] at e;obtain⟨⟨ks1,vs1⟩,e1,e2⟩:=e;obtain⟨l1,vals1,rfl,f2,f3,f4⟩:=S7 key w v hv1 l vals cs ks1 vs1 hl hn hc e1;have hn1:l1.Nodup:=by
    have:=Vv (K:=K) (l:=l.zip vals) (key:=key) (val:=w) (by rw[Vn hl];exact hn);rw[f4,Vn f2] at this;exact this
   obtain⟨lk,l',vals',g1,g2,g3,g4,g5,g6,g7⟩:=ih vs r q l1 vals1 vs1 ks' vs' (by simpa using hkv) ho.2 hk2 hv2 f2 hn1 f3 e2;refine y0 ?_;refine⟨key::lk,l',vals',?_,by rw[List.map_cons,g2],by simpa using g3,g4,g5,g6,?_⟩
   ·rw[List.zip_cons_cons,List.zip_cons_cons];exact⟨his,rfl,g1⟩
   ·rw[List.zip_cons_cons,<-g7,<-f4];rfl
end
section
variable {X:Qu}{n:Nat}{Φ:Qj}{env:Env}{names:List Str}
variable {A:Around}{P0 g g1:PM}{P:PF}{s:Shared}{E:VP}
noncomputable def pairsOf(env:Env)(pos:Pos)(ps:List (Expr×Expr)):List (Sem Value×Sem Value):=ps.map fun p=>(eval p.1 env,do let x <-eval p.2 env;standAt pos;pure x)
theorem YK{pos:Pos}:∀(ks vs:List Expr),(evalEachOpt (ks.map some) env).zip ((evalEach vs env).map fun v=>do let x <-v;standAt pos;pure x)=(pairsOf env pos (ks.zip vs)).map fun p=>(some p.1,p.2)
 | [],_=>rfl
 | k::ks,[]=>rfl
 | k::ks,v::vs=>by
  have:=YK (pos:=pos) ks vs;simp only[List.map_cons,arm_evalEachOpt_cons,arm_evalEach_cons,arm_evalOpt_some,List.zip_cons_cons,pairsOf] at this ⊢;exact congrArg _ (this ..)
noncomputable def UD(ps:List (IR×IR)):List IR:=ps.flatMap fun p=>[p.1,p.2]
set_option tactic.hygienic true in
theorem KI{ps:List (IR×IR)}{ρ:List LV}{D D':Q8}{xs:List AV}{a b:IR}(h:runs Φ (UD ((a,b)::ps)) ρ D=some (xs,D')):
  ∃x y r D1 D2,xs=x::y::r/\run Φ a ρ D=some (x,D1)/\run Φ b ρ D1=some (y,D2)/\runs Φ (UD ps) ρ D2=some (r,D'):=by
 have e:UD ((a,b)::ps)=a::b::UD ps:=rfl;rw[e] at h;dsimp only[runs] at h
 split at h<;>try first|exact Qf h|(cases h;done)
 rename_i x D1 h1;refine cps fun U y0=>?_
 split at h<;>try first|exact Qf h|(cases h;done)
 rename_i ys D3 h2;refine Hq h2 ?_;clear h2;intro y D2 h3 h2;refine Bq h2 ?_;clear h2;intro r Dz h4 h2;replace h2:=sp h2;obtain⟨rfl,rfl⟩:=h2;replace h:=sp h;obtain⟨rfl,rfl⟩:=h;refine y0 ?_;exact⟨x,y,r,D1,D2,rfl,h1,h3,h4⟩
theorem Xi{pos:Pos}:∀{ps:List (Expr×Expr)} {is:List (IR×IR)},ps.length=is.length->(∀p∈ps.zip is,Qg X n Φ env names p.1.1 p.2.1/\Qg X n Φ env names p.1.2 p.2.2)->
  ∀(A:Around) (P0:PM) (P:PF) (fl:Bool) (own:Nat->Option Addr) (g:PM) (ρ:List LV) (D D':Q8) (xs:List AV) (s:Shared) (Q:List (Value×Value)->Shared->Prop) (E:VP),
  Ze A n->runs Φ (UD is) ρ D=some (xs,D')->Z6 X P0 P fl env names own g ρ D s.heap->
  (∀vks vvs g' h' tk,Qs X.dk g s.heap g' h'->QO X D' h'->Qo X P0 g' (UP xs) vks->Qo X P0 g' (Xt xs) vvs->vks.length=ps.length->vvs.length=ps.length->Q (vks.zip vvs) { s with heap:=h',toks:=tk })->
  QD X.M A (evalPairs (pairsOf env pos ps)) Q E s:=by
 intro ps
 induction ps with
 | nil=>
  intro is hl hi;rcases is with _|⟨_,_⟩
  ·exact fun A P0 P fl own g ρ D D' xs s Q E R h F hQ=>by
    have:runs Φ [] ρ D=some (xs,D'):=h;dsimp only[runs] at this;refine cps fun U y0=>?_;replace this:=sp this;obtain⟨rfl,rfl⟩:=this;refine y0 ?_;exact Q7 (hQ [] [] g s.heap s.toks (Qs.refl F.sub) F.deck (by dsimp only[UP,Qo]<;>rfl) (by dsimp only[Xt,Qo]<;>rfl) rfl rfl)
  ·simp at hl
 | cons p ps ih0=>
  intro is hl hi;rcases is with _|⟨i,is⟩
  ·simp at hl
  ·exact fun A P0 P fl own g ρ D D' xs s Q E R h F hQ=>by
    refine cps fun U y0=>?_;obtain⟨x,y,r,D1,D2,rfl,h1,h2,h3⟩:=KI h;refine y0 ?_;have h0:=hi (p,i) (by rw[List.zip_cons_cons];exact List.mem_cons_self);have ih:=ih0 (is:=is) (by simpa using hl) fun q hq=>hi q (by rw[List.zip_cons_cons];exact List.mem_cons_of_mem _ hq);show QD _ _ (evalPairs ((eval p.1 env,do let x <-eval p.2 env;standAt pos;pure x)::pairsOf env pos ps)) _ _ _;rw[evalPairs];refine Q0 (h0.1 A P0 P fl own g ρ D D1 x s _ E R h1 F fun v g1 H1 t1 G1 dk1 r1=>?_);have F1:=F.grow G1 dk1;refine Q0 (Q5 (Q0 (h0.2 A P0 P fl own g1 ρ D1 D2 y _ _ E R h2 F1 fun w g2 H2 t2 G2 dk2 r2=>Q0 (Q4 (Q7 ?_)))));refine Q0 (Q5 (ih A P0 P fl own g2 ρ D2 D' r _ _ E R h3 (F1.grow G2 dk2) fun vks vvs g3 H3 t3 G3 dk3 r3 r4 l3 l4=>?_));refine Q7 (hQ (v::vks) (w::vvs) g3 H3 t3 ((G1.trans G2).trans G3) dk3 ?_ ?_ (by rw[List.length_cons,List.length_cons,l3]) (by rw[List.length_cons,List.length_cons,l4]))
    ·dsimp only[UP,Qo];exact⟨v,vks,rfl,(r1.up G2.up).up G3.up,r3⟩
    ·dsimp only[Xt,Qo];exact⟨w,vvs,rfl,r2.up G3.up,r4⟩
theorem WY(st:St X g)(hs:PM.le g s.heap.get?):(s.heap.objs.size == sysModules)=false:=by
 refine cps fun U y0=>?_;obtain⟨mc,⟨o,es,ep,e,_⟩,_⟩:=st.lim;refine y0 ?_;have:=Heap.lt_size (hs _ _ e);have h2:(2:Nat) < s.heap.objs.size:=this;rw[beq_eq_false_iff_ne];intro q;have:s.heap.objs.size=1:=q;lia
theorem Yd{K:Type}[DecidableEq K](k:DK X K){ks vs:List Expr}{is:List (IR×IR)}{pos:Pos}(hl:(ks.zip vs).length=is.length)(hi:∀p∈(ks.zip vs).zip is,Qg X n Φ env names p.1.1 p.2.1/\Qg X n Φ env names p.1.2 p.2.2)
  {fl:Bool} {own:Nat->Option Addr} {ρ:List LV} {D D':Q8} {xs:List AV} {ks' vs':List AV} {Q:VP} (R:Ze A n) (h:runs Φ (UD is) ρ D=some (xs,D')) (F:Z6 X P0 P fl env names own g ρ D s.heap)
  (hk:(UP xs).all k.of=true) (hne:ks.zip vs≠[]) (hlen:(ks.zip vs).length<=15) (hp:JI (UP xs) (Xt xs) ([],[])=some (ks',vs'))
  (hQ:∀g' h' tk o,Qs X.dk g s.heap g' h'->QO X D' h'->g' s.heap.objs.size=none->h'.get? s.heap.objs.size=some o->(s.heap.objs.size == sysModules)=false->ZV k P0 g' ks' vs' o->Q (.ref s.heap.objs.size) { s with heap:=h',toks:=tk }):
  QD X.M A (eval (.Dict (ks.map some) vs pos) env) Q E s:=by
 rw[arm_eval_Dict,YK,dictDisplay_pairs (pairsOf env pos (ks.zip vs)) (by unfold pairsOf;simpa using hne) (by unfold pairsOf;rw[List.length_map];lia)];refine Q0 (Q4 (Q0 ?_));dsimp only[subDict];refine Q9 (wpAny_alloc ?_);refine Q0 (Q5 ?_);rw[if_pos (by unfold pairsOf;rw[List.length_map];exact hlen)];have keep:∀b o,s.heap.get? b=some o->(s.heap.push { cls:=.type "dict",data:=.dict #[] }).get? b=some o:=fun b o e=>Heap.get?_push_of_some _ e;have G0:Qs X.dk g s.heap g (s.heap.push { cls:=.type "dict",data:=.dict #[] }):=Qs.same F.sub keep;have F0:=F.grow G0 (F.deck.keeps keep);refine Q0 (Xi (pos:=pos) hl hi A P0 P fl own g ρ D D' xs { s with heap:=s.heap.push { cls:=.type "dict",data:=.dict #[] } } _ E R h F0 fun vks vvs g1 H1 t1 G1 dk1 r1 r2 l1 l2=>?_);have hnew:(s.heap.push { cls:=.type "dict",data:=.dict #[] }).get? s.heap.objs.size=some { cls:=.type "dict",data:=.dict #[] }:=Heap.get?_push_size _ rfl;have hg0:g s.heap.objs.size=none:=by
  rcases q:g s.heap.objs.size with _|o
  ·rfl
  ·have:=F.sub _ _ q;rw[Zj] at this;exact Qf this
 have hdk:s.heap.objs.size∉X.dk:=fun q=>by
  have:=(F.dg _ q).2.2;rw[Zj] at this;exact Bool.false_ne_true this
 have hg1:g1 s.heap.objs.size=none:=by
  rcases q:g1 s.heap.objs.size with _|o
  ·rfl
  ·
   rcases G1.new _ _ q with e|e
   ·exact Qf (hg0.symm.trans e)
   ·exact Qf (e.symm.trans hnew)
 have hH1:H1.get? s.heap.objs.size=some { cls:=.type "dict",data:=.dict #[] }:=by
  obtain⟨o',e,k⟩:=G1.keep _ _ hnew;rw[e,k hdk]
 refine cps fun U y0=>?_;obtain⟨lk,l',vals',c1,c2,c3,c4,c5,c6,c7⟩:=Xq (k:=k) (UP xs) (Xt xs) vks vvs [] [] [] ks' vs' (by rw[<- r1.len,<-r2.len,l1,l2]) hk r1 r2 rfl List.nodup_nil (by dsimp only[Qo]<;>rfl) hp;refine y0 ?_;refine Q5 (Q9 (wpAny_storeAll (knd:=k.knd) (vks.zip vvs) (lk.zip vvs) [] { s with heap:=H1,toks:=t1 } _ c1 ⟨_,#[],0,hH1,⟨rfl,rfl,rfl⟩,rfl,fun Z he=>by simp at he,Pairs.nil,List.nodup_nil⟩ ?_ fun h' hm' hs'=>?_))
 ·rw[List.length_nil,List.length_zip,sizeLine_eq];have:vvs.length<=15:=by rw[l2];exact hlen
  lia
 ·refine Q7 (Q7 (Q7 ?_));refine cps fun U y0=>?_;obtain⟨o,ho,hod⟩:=Heap.dictOf_iff.mp hm';refine y0 ?_;refine hQ g1 h' _ o ⟨fun b ob e=>?_,G1.up,fun b ob e=>?_,fun b ob e=>?_⟩ ?_ hg1 ho (WY F.st F.sub) ⟨l',vals',c4,c5,c6,?_⟩
  ·refine cps fun U y0=>?_;obtain⟨o1,e1,k1⟩:=G0.keep b ob e;obtain⟨o2,e2,k2⟩:=G1.keep b o1 e1;refine y0 ?_;have hb:b≠s.heap.objs.size:=Nat.ne_of_lt (Heap.lt_size e);exact⟨o2,((hs'.2 b hb).trans e2),fun hb'=>(k2 hb').trans (k1 hb')⟩
  ·rcases G1.new b ob e with q|q
   ·exact .inl q
   ·right;rcases z:s.heap.get? b with _|o0
    ·rfl
    ·rw[keep _ _ z] at q;exact Qf q.symm
  ·have hb:b≠s.heap.objs.size:=fun q=>by rw[q,hg1] at e;exact Qf e
   refine Eq.trans (hs'.2 b hb) ?_;exact G1.sub _ _ e
  ·rcases dk1 with q|⟨q1,q2,q3,⟨t1',t2',q4⟩,oo,vs2,n2,q5,q6⟩
   ·exact .inl q
   ·have da:X.da≠s.heap.objs.size:=fun z=>hdk (by rw[q1,<-z];exact List.mem_cons_self);have ca:X.ca≠s.heap.objs.size:=fun z=>hdk (by rw[q1,<-z];exact List.mem_cons_of_mem _ List.mem_cons_self);refine .inr ⟨q1,q2,q3,⟨t1',t2',?_⟩,oo,vs2,n2,((hs'.2 _ ca).trans q5),q6⟩;obtain⟨o',es,ep,z1,z2⟩:=q4;exact⟨o',es,ep,((hs'.2 _ da).trans z1),z2⟩
  ·have c7':merged [] (lk.zip vvs)=l'.zip vals':=c7;refine Eq.mpr (congrArg _ c7'.symm) ?_;exact hod
theorem ZV.up{K:Type}[DecidableEq K]{k:DK X K}{ks vs:List AV}{o:Obj}{g':PM}(h:ZV k P0 g ks vs o)(hg:PM.le g g'):ZV k P0 g' ks vs o:=
 let⟨l,vals,e1,e2,e3,e4⟩:=h;⟨l,vals,e1,e2,e3.up hg,e4⟩
set_option tactic.hygienic true in
theorem HZ{dk:List Addr}{h h':Heap}{g':PM}{a:Addr}{o:Obj}(G:Qs dk g h g' h')(ha:h.get? a=none)(hg:g' a=none)(ho:h'.get? a=some o):Qs dk g h (g'.add a o) h'/\PM.le g' (g'.add a o):=by
 have le:PM.le g' (g'.add a o):=fun b ob e=>by
  unfold PM.add
  split
  ·rename_i q;rw[q,hg] at e;exact Qf e
  ·exact e
 refine⟨⟨G.keep,G.up.trans le,fun b ob e=>?_,fun b ob e=>?_⟩,le⟩
 ·unfold PM.add at e
  split at e
  ·rename_i q;rw[q];exact .inr ha
  ·exact G.new b ob e
 ·unfold PM.add at e
  split at e
  ·rename_i q;obtain rfl:=so e;rw[q];exact ho
  ·exact G.sub _ _ e
set_option tactic.hygienic true in
theorem P8{ks vs:List Expr}{is:List (IR×IR)}{pos:Pos}(hl:(ks.zip vs).length=is.length)(hi:∀p∈(ks.zip vs).zip is,Qg X n Φ env names p.1.1 p.2.1/\Qg X n Φ env names p.1.2 p.2.2):
  Qg X n Φ env names (.Dict (ks.map some) vs pos) (.dict (UD is)):=fun A P0 P fl own g ρ D D' d s Q E R h F hQ=>by
 dsimp only[run] at h;refine cps fun U y0=>?_;refine Bq h ?_;clear h;intro xs D1 h1 h
 split at h<;>first|exact Qf h|(revert hQ;apply Vw h;intro hQ)
 rename_i ks' vs' h2;unfold TY at h2;refine Ha h2 ?_;clear h2;intro hk h2;simp only[Bool.and_eq_true,decide_eq_true_eq,Bool.not_eq_true'] at hk;obtain⟨⟨hk1,hk2⟩,hk3⟩:=hk;refine y0 ?_;have hxl:∀{is:List (IR×IR)} {ρ D D' xs},runs Φ (UD is) ρ D=some (xs,D')->xs.length=2 * is.length:=fun{is}=>by
  induction is with
  | nil=>intro ρ D D' xs h;have:runs Φ [] ρ D=some (xs,D'):=h;dsimp only[runs] at this;cases this;rfl
  | cons p is ih=>
   intro ρ D D' xs h;refine cps fun U y0=>?_;obtain⟨x,y,r,D1,D2,rfl,_,_,h3⟩:=KI h;refine y0 ?_;simp[ih h3];lia
 have hx:=hxl h1;have hne:ks.zip vs≠[]:=fun q=>by
  rw[q] at hl;have:is.length=0:=hl.symm;rw[this] at hx;have:xs=[]:=List.length_eq_zero_iff.mp hx;replace hk2:=this▸hk2;cases hk2
 have hlen:(ks.zip vs).length<=15:=by lia
 unfold TK at hk1;simp only[Bool.or_eq_true] at hk1;rcases hk1 with(hk1|hk1)|hk1
 ·refine Yd (Bs X) hl hi R h1 F hk1 hne hlen h2 fun g' h' tk o G dk hg ho hsys hD=>?_;obtain⟨G',le⟩:=HZ G (Zj _) hg ho;exact hQ _ _ h' tk G' dk (.of_dict hsys (PM.add_self _ _ _) (.inl (hD.up le)))
 ·refine Yd (DG X) hl hi R h1 F hk1 hne hlen h2 fun g' h' tk o G dk hg ho hsys hD=>?_;obtain⟨G',le⟩:=HZ G (Zj _) hg ho;exact hQ _ _ h' tk G' dk (.of_dict hsys (PM.add_self _ _ _) (.inr (.inl (hD.up le))))
 ·refine Yd (DF X) hl hi R h1 F hk1 hne hlen h2 fun g' h' tk o G dk hg ho hsys hD=>?_;obtain⟨G',le⟩:=HZ G (Zj _) hg ho;exact hQ _ _ h' tk G' dk (.of_dict hsys (PM.add_self _ _ _) (.inr (.inr (hD.up le))))
end
noncomputable def J6(X:Qu)(n:Nat)(Φ:Qj)(env:Env)(names:List Str)(o:Bool)(e:Expr)(ir:IR):Prop:=
 ∀(A:Around) (P0:PM) (P:PF) (fl:Bool) (own:Nat->Option Addr) (g:PM) (ρ:List LV) (D D':Q8) (lv:LV) (s:Shared) (Q:VP) (E:VP),
  Ze A n->YX Φ o ir ρ D=some (lv,D')->Z6 X P0 P fl env names own g ρ D s.heap->
  (∀v oa g' h' tk,Qs X.dk g s.heap g' h'->QO X D' h'->LVal X P0 g' h' oa v lv->(∀a,oa=some a->s.heap.get? a=none/\g' a=none/\(h'.get? a).isSome)->Q v { s with heap:=h',toks:=tk })->QD X.M A (eval e env) Q E s
section
variable {X:Qu}{n:Nat}{Φ:Qj}{env:Env}{names:List Str}
variable {A:Around}{P0 g g1:PM}{P:PF}{s:Shared}{E:VP}
theorem UI{o:Bool}{e:Expr}{ir:IR}(h0:Qg X n Φ env names e ir)(hr:∀ρ D,YX Φ o ir ρ D=match run Φ ir ρ D with|some (v,D1)=>some (.val v,D1)|none=>none):J6 X n Φ env names o e ir:=
 fun A P0 P fl own g ρ D D' lv s Q E R h F hQ=>by
 rw[hr] at h;refine cps fun U y0=>?_;refine Hq h ?_;clear h;intro v Dz h1 h;cases h;refine y0 ?_;exact h0 A P0 P fl own g ρ D D' v s Q E R h1 F fun v g1 H1 t1 G1 dk1 r1=>hQ v none g1 H1 t1 G1 dk1 r1 fun a e=>by exact Qf e
theorem Pe{es:List Expr}{irs:List IR}{pos}(h0:J7 X n Φ env names es irs):J6 X n Φ env names true (.List es pos) (.lst irs):=fun A P0 P fl own g ρ D D' lv s Q E R h F hQ=>by
 unfold YX at h;dsimp only at h;refine cps fun U y0=>?_;refine Bq h ?_;clear h;intro ds D1 h1 h;refine Ha h ?_;clear h;intro hz h;revert hQ;apply Vw h;intro hQ;refine y0 ?_;refine(arm_eval_List ..).symm▸?_;refine Q0 (Q4 (Q0 (h0 A P0 P fl own g ρ D _ ds pos s _ E R h1 F fun vs g1 H1 t1 G1 dk1 r1=>?_)));have hl:=r1.len;refine Q3 (wpAny_newList ?_ (by rw[sizeLine_eq];lia));have keep:∀b o,H1.get? b=some o->(H1.push { cls:=.type "list",data:=.seq vs.toArray }).get? b=some o:=fun b o e=>Heap.get?_push_of_some _ e;have hn:(H1.push { cls:=.type "list",data:=.seq vs.toArray }).get? H1.objs.size=some { cls:=.type "list",data:=.seq vs.toArray }:=Heap.get?_push_size _ rfl;have hfr:H1.get? H1.objs.size=none:=Zj _;have hg1:g1 H1.objs.size=none:=by
  rcases q:g1 H1.objs.size with _|o
  ·rfl
  ·have:=G1.sub _ _ q;rw[hfr] at this;exact Qf this
 refine hQ _ (some H1.objs.size) g1 _ t1 (G1.trans (Qs.same G1.sub keep)) (dk1.keeps keep) ⟨_,vs,rfl,rfl,⟨_,_,0,hn,rfl,rfl,rfl,rfl,rfl⟩,r1⟩ fun a e=>?_;obtain rfl:=so e;refine⟨?_,hg1,congrArg _ (hn ..)⟩;rcases q:s.heap.get? H1.objs.size with _|o
 ·rfl
 ·
  obtain⟨o',e',_⟩:=G1.keep _ _ q;exact Qf (hfr.symm.trans e')
set_option tactic.hygienic true in
theorem Gs{ks vs:List Expr}{is:List (IR×IR)}{pos:Pos}(hl:(ks.zip vs).length=is.length)(hi:∀p∈(ks.zip vs).zip is,Qg X n Φ env names p.1.1 p.2.1/\Qg X n Φ env names p.1.2 p.2.2):
  J6 X n Φ env names true (.Dict (ks.map some) vs pos) (.dict (UD is)):=fun A P0 P fl own g ρ D D' lv s Q E R h F hQ=>by
 unfold YX at h;dsimp only at h;refine cps fun U y0=>?_;refine Bq h ?_;clear h;intro xs D1 h1 h
 split at h<;>try first|exact Qf h|(cases h;done)
 rename_i hb
 split at h<;>first|exact Qf h|(revert hQ;apply Vw h;intro hQ)
 rename_i ks' vs' h2;unfold TY at h2;refine Ha h2 ?_;clear h2;intro hk h2;simp only[Bool.and_eq_true,decide_eq_true_eq,Bool.not_eq_true'] at hk;obtain⟨⟨hk1,hk2⟩,hk3⟩:=hk;refine y0 ?_;have hxl:∀{is:List (IR×IR)} {ρ D D' xs},runs Φ (UD is) ρ D=some (xs,D')->xs.length=2 * is.length:=fun{is}=>by
  induction is with
  | nil=>intro ρ D D' xs h;have:runs Φ [] ρ D=some (xs,D'):=h;dsimp only[runs] at this;cases this;rfl
  | cons p is ih=>
   intro ρ D D' xs h;refine cps fun U y0=>?_;obtain⟨x,y,r,D1,D2,rfl,_,_,h3⟩:=KI h;refine y0 ?_;simp[ih h3];lia
 have hx:=hxl h1;have hne:ks.zip vs≠[]:=fun q=>by
  rw[q] at hl;have:is.length=0:=hl.symm;rw[this] at hx;have:xs=[]:=List.length_eq_zero_iff.mp hx;replace hk2:=this▸hk2;cases hk2
 have hlen:(ks.zip vs).length<=15:=by lia
 refine Yd (Bs X) hl hi R h1 F hb hne hlen h2 fun g' h' tk o G dk hg ho hsys hD=>?_;refine cps fun U y0=>?_;obtain⟨l,vals,e1,e2,e3,e4⟩:=hD;refine y0 ?_;refine hQ _ (some s.heap.objs.size) g' h' tk G dk ⟨_,o,vals,rfl,rfl,hsys,ho,e3,l,e1,e2,e4⟩ fun a e=>?_;obtain rfl:=so e;exact⟨Zj _,hg,congrArg _ (ho ..)⟩
theorem Pf{o:Bool}{x:Str}{p pos}{nk:List (Str×NameKind)}(ok:QS env nk)(hk:nk.lookup x=some .globalImplicit)(hf:Wt.lookup x.cps.toList=some .bytearray)(hy:(x == ("__debug__":Str))=false):
  J6 X n Φ env names o (.Call (.Name x p) [] [] pos) (.bi .bytearray []):=fun A P0 P fl own g ρ D D' lv s Q E R h F hQ=>by
 have e0:YX Φ o (.bi .bytearray []) ρ D=some (.ownb [],D):=by cases o<;>rfl
 replace h:=Eq.trans e0.symm h;refine cps fun U y0=>?_;replace h:=sp h;obtain⟨rfl,rfl⟩:=h;refine y0 ?_;have hb:=F.st.bi _ _ (mem_of_lookup hf);rw[Zh] at hb;have hk':env.kindOf x=some .globalImplicit:=by unfold Env.kindOf;rw[ok.nm];exact hk
 rw[arm_eval_Call_Name'];refine Q9 (Calls.Name_function_global ok.kd hk' (Calls.loadGlobal_builtin (by rw[ok.gl];exact F.st.glob.at F.sub) hb.1 (by rw[ok.bl];exact F.st.blt.at F.sub) hb.2 ?_) hy);refine Qy (es:=[]) (fun e he=>by cases he) (Q7 ⟨HX,?_⟩);refine Yu fun h' hk hfr hn=>?_;have hg:g s.heap.objs.size=none:=by
  rcases q:g s.heap.objs.size with _|o
  ·rfl
  ·have:=F.sub _ _ q;rw[hfr] at this;exact Qf this
 refine hQ _ (some s.heap.objs.size) g h' s.toks (Qs.same F.sub hk) (F.deck.keeps hk) ⟨_,rfl,rfl,⟨#[],hn,rfl⟩⟩ fun a e=>?_;obtain rfl:=so e;exact⟨hfr,hg,congrArg _ (hn ..)⟩
structure Done(X:Qu)(P0:PM)(P:PF)(g:PM)(D:Q8)(h:Heap):Prop where
 sub:PM.le g h.get?
 prot:PM.le P.pr h.get?
 deck:QO X D h
 dg:∀b∈X.dk,g b=none/\P.pr b=none/\(h.get? b).isSome
 gn:∀b o,g b=some o->P.g0 b=some o\/P.pr b=none
 gu:PM.leM P0 P.g0 g
noncomputable def OJ(X:Qu)(P0:PM)(P:PF)(fl:Bool)(env:Env)(names:List Str)(ρ:List LV)(D:Q8)(h:Heap):Out->Flow->Prop
 | .next,f=>f=.next/\∃g own,Z6 X P0 P fl env names own g ρ D h
 | .ret d,f=>∃v g,f=.ret v/\VR X P0 g d v/\Done X P0 P g D h
 | .exc _,_=>False
noncomputable def Qq(X:Qu)(n:Nat)(Φ:Qj)(env:Env)(names:List Str)(fl:Bool)(m:Sem Flow)(run1:List LV->Q8->Option (Out×List LV×Q8)):Prop:=
 ∀(A:Around) (P0:PM) (P:PF) (own:Nat->Option Addr) (g:PM) (ρ ρ':List LV) (D D':Q8) (out:Out) (s:Shared) (Q:Flow->Shared->Prop) (E:VP),
  Ze A n->run1 ρ D=some (out,ρ',D')->(∀v,out≠.exc v)->Z6 X P0 P fl env names own g ρ D s.heap->
  (∀f h' tk,OJ X P0 P fl env names ρ' D' h' out f->Q f { s with heap:=h',toks:=tk })->QD X.M A m Q E s
theorem Za{st:Stmt}{rest:List Stmt}{fl:Bool}{o:List Nat}{W:Nat}{sr:SR}{srs:List SR}(h1:Qq X n Φ env names fl (PySem.exec st env) (exec Φ fl o W sr))(h2:Qq X n Φ env names fl (PySem.execs rest env) (execs Φ fl o W srs)):
  Qq X n Φ env names fl (PySem.execs (st::rest) env) (execs Φ fl o W (sr::srs)):=fun A P0 P own g ρ ρ' D D' out s Q E R h hne F hQ=>by
 dsimp only[execs] at h;refine(execs_cons ..).symm▸?_;rcases e1:exec Φ fl o W sr ρ D with _|r
 ·rw[e1] at h;exact Qf h
 ·
  refine cps fun U y0=>?_;obtain⟨o1,ρ1,D1⟩:=r;refine y0 ?_;rw[e1] at h;rcases o1 with _|d|v
  ·
   refine Q0 (h1 A P0 P own g ρ ρ1 D D1 .next s _ E R e1 (fun v q=>by cases q) F fun f h' tk hr=>?_);obtain⟨rfl,g',own',F'⟩:=hr;exact h2 A P0 P own' g' ρ1 ρ' D1 D' out _ Q E R h hne F' hQ
  ·
   replace h:=V2 h;obtain⟨rfl,rfl,rfl⟩:=h;refine Q0 (h1 A P0 P own g ρ _ D _ (.ret d) s _ E R e1 (fun v q=>by cases q) F fun f h' tk hr=>?_);have hr':=hr;obtain⟨v,g',rfl,_⟩:=hr;exact Q7 (hQ _ h' tk hr')
  ·cases h;exact absurd rfl (hne v)
theorem JM{fl:Bool}{o:List Nat}{W:Nat}:Qq X n Φ env names fl (PySem.execs [] env) (execs Φ fl o W []):=fun A P0 P own g ρ ρ' D D' out s Q E R h hne F hQ=>by
 dsimp only[execs] at h;refine cps fun U y0=>?_;replace h:=V2 h;obtain⟨rfl,rfl,rfl⟩:=h;refine y0 ?_;exact Q7 (hQ .next s.heap s.toks ⟨rfl,g,own,F⟩)
theorem HG{t:Expr}{a b:List Stmt}{pos:Pos}{fl:Bool}{o:List Nat}{W:Nat}{it:IR}{sa sb:List SR}(ht:ZN X n Φ env names t it)(ha:Qq X n Φ env names fl (PySem.execs a env) (execs Φ fl o W sa))(hb:Qq X n Φ env names fl (PySem.execs b env) (execs Φ fl o W sb)):
  Qq X n Φ env names fl (PySem.exec (.If t a b pos) env) (exec Φ fl o W (.ifs it sa sb)):=fun A P0 P own g ρ ρ' D D' out s Q E R h hne F hQ=>by
 dsimp only[exec] at h;refine(exec_If ..).symm▸?_;refine Q0 (Q4 ?_);unfold truthOf at h;rcases e1:run Φ it ρ D with _|r
 ·rw[e1] at h;exact Qf h
 ·
  refine cps fun U y0=>?_;obtain⟨x,D1⟩:=r;refine y0 ?_;replace h:=e1▸h;dsimp only at h;rcases e2:x.truth with _|c
  ·rw[e2] at h;exact Qf h
  ·
   replace h:=e2▸h;refine Q0 (ht A P0 P fl own g ρ D D1 x c s _ E R e1 e2 F fun g1 H1 t1 G1 dk1=>?_);cases c with
   | true=>exact Qk (if_pos rfl) (ha A P0 P own g1 ρ ρ' D1 D' out _ Q E R h hne (F.grow G1 dk1) hQ)
   | false=>exact Qk (if_neg Bool.false_ne_true) (hb A P0 P own g1 ρ ρ' D1 D' out _ Q E R h hne (F.grow G1 dk1) hQ)
end
theorem YS{e:Expr}{t:Option Expr}{l:Nat}{env:Env}(h:Y5 e=true):swapsWith e t l env=pure false:=by
 rcases e with _|_<;>first|rfl|exact Bool.noConfusion h
structure Z4(env:Env)(names:List Str)(i:Nat)(x:Str):Prop where
 at_:names[i]?=some x
 un:∀j,names[j]?=some x->j=i
 wr:Wr env x
section
variable {X:Qu}{n:Nat}{Φ:Qj}{env:Env}{names:List Str}
variable {A:Around}{P0 g g1:PM}{P:PF}{s:Shared}{E:VP}{fl:Bool}{own:Nat->Option Addr}{ρ:List LV}{D D':Q8}{nk:List (Str×NameKind)}{o:List Nat}{W:Nat}
theorem Z6.fresh{h:Heap}(F:Z6 X P0 P fl env names own g ρ D h){g1:PM}{h1:Heap}{a:Addr}(ha:h.get? a=none)(hg:g1 a=none)(hs:(h1.get? a).isSome):Zw X P env own g1 h1 a where
 g:=hg
 p:=by
  rcases q:P.pr a with _|o
  ·rfl
  ·rw[F.prot _ _ q] at ha;exact Qf ha.symm
 d:=fun q=>by have:=(F.dg _ q).2.2;rw[ha] at this;exact Bool.false_ne_true this
 l:=fun q=>by have:=F.ll;rw[<- q,ha] at this;exact Bool.false_ne_true this
 s:=hs
 c:=fun x c e q=>by
  refine cps fun U y0=>?_;obtain⟨_,_,_,_,_,v,o,e',_⟩:=F.cg x c e;refine y0 ?_;rw[q,ha] at e';exact Qf e'
 o:=fun i q=>by
  have:=(F.og i a q).2.2.2.2;rw[ha] at this;exact Bool.false_ne_true this
theorem V1(ok:QS env nk){h:Heap}(F:Z6 X P0 P fl env names own g ρ D h){i:Nat}{x:Str}(hx:Z4 env names i x){v:Value}{lv:LV}{oa:Option Addr}{H1:Heap}{D1:Q8}{Q:Unit->Shared->Prop}
  (hs:s.heap=H1) (G:Qs X.dk g h g1 H1) (dk:QO X D1 H1) (hv:LVal X P0 g1 H1 oa v lv) (hoa:∀a,oa=some a->h.get? a=none/\g1 a=none/\(H1.get? a).isSome)
  (hQ:∀h' tk own',Z6 X P0 P fl env names own' g1 (ρ.set i lv) D1 h'->Q () { s with heap:=h',toks:=tk }):wpAny X.M A (bindName env x v) Q E s:=by
 subst hs;have F1:=F.grow G dk;cases oa with
 | some a=>
  have h1:=(hoa a rfl).1;have h2:=(hoa a rfl).2.1;have h3:=(hoa a rfl).2.2;exact JQ ok F1 hx.at_ hx.un hx.wr hv (.inr ⟨a,rfl,F.fresh h1 h2 h3⟩) fun h' tk Z F'=>hQ h' tk _ F'
 | none=>
  have hv':LVal X P0 g1 s.heap (own i) v lv:=by
   rcases lv with _|d|ds|l|⟨ks,ds⟩
   ·exact hv.elim
   ·exact hv
   ·refine False.elim ?_;obtain⟨a,vs,e,_⟩:=hv;exact Qf e
   ·refine False.elim ?_;obtain⟨a,e,_⟩:=hv;exact Qf e
   ·refine False.elim ?_;obtain⟨a,o,vals,e,_⟩:=hv;exact Qf e
  exact JQ ok F1 hx.at_ hx.un hx.wr hv' (.inl rfl) fun h' tk Z F'=>hQ h' tk _ F'
set_option tactic.hygienic true in
theorem JL(ok:QS env nk){e:Expr}{ir:IR}{i:Nat}{x:Str}{p pos:Pos}(hx:Z4 env names i x)(hc:Y5 e=true)(h0:J6 X n Φ env names (o.contains i) e ir):
  Qq X n Φ env names fl (PySem.exec (.Assign [.Name x p] e pos) env) (exec Φ fl o W (.set i ir)):=fun A P0 P own g ρ ρ' D D' out s Q E R h hne F hQ=>by
 dsimp only[exec] at h;refine cps fun U y0=>?_
 split at h<;>first|exact Qf h|cases h
 refine y0 ?_;rename_i lv h1;refine Qk (exec_Assign_Name _ _ _ _ _ (YS hc)) ?_;refine Q0 (Q4 (Q0 (h0 A P0 P fl own g ρ D D' lv s _ E R h1 F fun v oa g1 H1 t1 G1 dk1 r1 f1=>?_)));refine Q0 (Q4 (Q9 (V1 ok F hx rfl G1 dk1 r1 f1 fun h' tk own' F'=>?_)));exact Q7 (hQ .next h' tk ⟨rfl,g1,own',F'⟩)
theorem Z6.read(ok:QS env nk){h:Heap}(F:Z6 X P0 P fl env names own g ρ D h){i:Nat}{x:Str}{lv:LV}(hi:names[i]?=some x)(hv:ρ[i]?=some lv)(hne:lv≠.u):∃v,Rd env h x v/\LVal X P0 g h (own i) v lv:=by
 have:=F.slot i x lv hi hv;rcases lv with _|d|ds|l|⟨ks,ds⟩
 ·exact absurd rfl hne
 ·obtain⟨v,a,b⟩:=this;exact⟨v,a,b⟩
 ·obtain⟨a,vs,e,r,l,q⟩:=this;exact⟨.ref a,r,a,vs,e,rfl,l,q⟩
 ·obtain⟨a,e,r,q⟩:=this;exact⟨.ref a,r,a,e,rfl,q⟩
 ·obtain⟨a,o,vals,e,r,q,q1,q2,q3,q4,q5,q6⟩:=this;exact⟨.ref a,r,a,o,vals,e,rfl,q,q1,q2,q3,q4,q5,q6⟩
theorem Z6.own_set{h h':Heap}(F:Z6 X P0 P fl env names own g ρ D h){i:Nat}{x:Str}{a:Addr}{lv:LV}(hx:Z4 env names i x)(ea:own i=some a)(hr:Rd env h x (.ref a))(same:∀b,b≠a->h'.get? b=h.get? b)(live:(h'.get? a).isSome)
  (hv:LVal X P0 g h' (own i) (.ref a) lv):Z6 X P0 P fl env names own g (ρ.set i lv) D h':=by
 refine cps fun U y0=>?_;obtain⟨q1,q2,q3,q4,q5⟩:=F.og i a ea;refine y0 ?_;have rdk:∀y u,Rd env h y u->Rd env h' y u:=fun y u hr=>hr.other same (fun q=>absurd q.symm q4) fun c hc q=>(F.cg y c hc).2.2.1 i (by rw[ea,q]);refine F.change (z:=a) q1 q2 q3 same live (fun j y lv' hj hl=>?_) (((List.length_set ..).trans F.len)) ?_ ?_ (fun j b e=>.inl e) F.oi
 ·by_cases q:j=i
  ·subst q;have hlt:j < ρ.length:=by
    have:=(List.getElem?_eq_some_iff.mp hl).1;rwa [List.length_set] at this
   replace hl:=Eq.trans (List.getElem?_set_self hlt).symm hl;obtain rfl:=so hl;have hxy:y=x:=by
    have:=hx.at_;replace this:=Eq.trans hj.symm this;obtain rfl:=so this;rfl
   subst hxy;exact hv.lr (rdk _ _ hr) fun Z Z Z e=>e
  ·replace hl:=Eq.trans (List.getElem?_set_ne (Ne.symm q)).symm hl;refine(F.slot j y lv' hj hl).grow (rdk y) (PM.le.refl g) fun b e o ho=>?_;have:b≠a:=fun z=>q (F.oi j i a (((e ..).trans (congrArg _ (z ..)))) ea);exact Eq.trans (same b this) (ho)
 ·refine cps fun U y0=>?_;obtain⟨m',o',es,ep,e,r⟩:=F.ns;refine y0 ?_;exact⟨m',o',es,ep,((same _ (Ne.symm q4)).trans e),r⟩
 ·intro y c hc;refine cps fun U y0=>?_;obtain⟨_,_,h3,_,_,v,o',h6,h7⟩:=F.cg y c hc;refine y0 ?_;have:c≠a:=fun z=>h3 i (by rw[ea,z]);exact⟨v,o',((same c this).trans h6),h7⟩
theorem K1{h H1:Heap}(F:Z6 X P0 P fl env names own g ρ D h)(G:Qs X.dk g h g1 H1){i:Nat}{a:Addr}(ea:own i=some a){o:Obj}(e:h.get? a=some o):H1.get? a=some o:=by
 obtain⟨o',e',k⟩:=G.keep _ _ e;rw[e',k (F.og i a ea).2.2.1]
theorem Rd.grow(F:Z6 X P0 P fl env names own g ρ D s.heap){D1:Q8}{H1:Heap}(G:Qs X.dk g s.heap g1 H1){x:Str}{v:Value}(hr:Rd env s.heap x v):Rd env H1 x v:=by
 rcases hr with⟨a,m,⟨o,es,ep,e,r⟩,c⟩|⟨a,c,b,⟨o,e,d⟩⟩
 ·obtain⟨o',e',k⟩:=G.keep _ _ e;exact .inl ⟨a,m,⟨o,es,ep,((e' ..).trans (congrArg _ (k F.ld))),r⟩,c⟩
 ·obtain⟨o',e',k⟩:=G.keep _ _ e;exact .inr ⟨a,c,b,o,((e' ..).trans (congrArg _ (k (F.cg _ _ b).1))),d⟩
theorem TF{h1 h2:Heap}(F:Z6 X P0 P fl env names own g ρ D h1){i:Nat}{x:Str}{a:Addr}{bb:Array UInt8}{l:List Nat}(hx:Z4 env names i x)(ea:own i=some a)(hr:Rd env h1 x (.ref a))
  (e1:h2.get? a=some (Z3 bb)) (e2:Heap.SameBut a h1 h2) (hb:bb.toList.map UInt8.toNat=l):Z6 X P0 P fl env names own g (ρ.set i (.ownb l)) D h2:=
 F.own_set hx ea hr (fun b hb=>e2.2 b hb) (congrArg _ (e1 ..)) ⟨a,ea,rfl,bb,e1,hb⟩
theorem Gd(ok:QS env nk){oo:Op}{i:Nat}{x:Str}{p pos:Pos}{H1:Heap}{t1:Nat}{D1:Q8}{a b c:Int}{t u:Tok}{Q:Flow->Shared->Prop}(hx:Z4 env names i x)(F:Z6 X P0 P fl env names own g ρ D s.heap)(G1:Qs X.dk g s.heap g1 H1)(dk1:QO X D1 H1)
  (h:(oo=.add/\c=a+b)\/(oo=.sub/\c=a - b)) (hQ:∀h' tk g own,Z6 X P0 P fl env names own g (ρ.set i (.val (.int c))) D1 h'->Q .next { s with heap:=h',toks:=tk }):
  QD X.M A (do standAt pos;let new <-operate [.int a t,.int b u] (inplaceOp (Dv oo) (.int a t) (.int b u));standAt p;bindName env x new;pure Flow.next) Q E { s with heap:=H1,toks:=t1 }:=by
 refine Q0 ?_;refine Q4 ?_;refine Q0 ?_;refine Zr ?_;have fin:QD X.M A (do standAt p;bindName env x (.int c t1);pure Flow.next) Q E { s with heap:=H1,toks:=t1+1 }:=by
  refine Q0 (Q4 (Q9 (V1 (s:={ s with heap:=H1,toks:=t1+1 }) ok F hx rfl G1 dk1 (lv:=.val (.int c)) (oa:=none) (show LVal X P0 g1 H1 none (.int c t1) (.val (.int c)) from JP (X:=X) (P0:=P0) (g:=g1)) (fun a e=>by exact Qf e) fun h' tk own' F'=>?_)));exact Q7 (hQ h' tk g1 own' F')
 rcases h with⟨rfl,rfl⟩|⟨rfl,rfl⟩
 ·exact Q3 (PyProof.Rows.iadd_int (s:={ s with heap:=H1,toks:=t1 }) fin)
 ·exact Q3 (PyProof.Rows.isub_int (s:={ s with heap:=H1,toks:=t1 }) fin)
theorem Gu(ok:QS env nk){e:Expr}{ir:IR}{op:Operator}{oo:Op}{i:Nat}{x:Str}{p pos:Pos}(hop:PK op=some oo)(hx:Z4 env names i x)(hcd:(x == ("__classdict__":Str))=false)(h0:Qg X n Φ env names e ir):
  Qq X n Φ env names fl (PySem.exec (.AugAssign (.Name x p) op e pos) env) (exec Φ fl o W (.aug i oo ir)):=fun A P0 P own g ρ ρ' D D' out s Q E R h hne F hQ=>by
 dsimp only[exec] at h;refine(exec_AugAssign_Name ..).symm▸?_;refine Q0 (Q4 ?_);have eo:op=Dv oo:=by cases op<;>first|exact Qf hop|(obtain rfl:=so hop;rfl)
 subst eo;refine kA h ?_ ?_<;>clear h
 ·intro a hv h;refine cps fun U y0=>?_;obtain⟨v,r0,r1⟩:=F.read ok hx.at_ hv (by simp);obtain⟨t,rfl⟩:=VR.int_is (X:=X) (P0:=P0) (g:=g) r1;refine kI h ?_;clear h;intro b D1 h1 h;refine y0 ?_;refine Q9 (Hz ok r0 hcd ?_);refine Q0 (Q5 (h0 A P0 P fl own g ρ D D1 (.int b) s _ E R h1 F fun w g1 H1 t1 G1 dk1 r2=>?_));obtain⟨u,rfl⟩:=r2.int_is;rcases oo with _|_|_|_|_<;>try exact Qf h
  ·replace h:=V2 h;obtain⟨rfl,rfl,rfl⟩:=h;have:=Gd (A:=A) (E:=E) (p:=p) (pos:=pos) (t1:=t1) (t:=t) (u:=u) (Q:=Q) (oo:=.add) (a:=a) (b:=b) (c:=a+b) ok hx F G1 dk1 (.inl ⟨rfl,rfl⟩) fun h' tk g own F'=>hQ .next h' tk ⟨rfl,g,own,F'⟩;exact this
  ·replace h:=V2 h;obtain⟨rfl,rfl,rfl⟩:=h;have:=Gd (A:=A) (E:=E) (p:=p) (pos:=pos) (t1:=t1) (t:=t) (u:=u) (Q:=Q) (oo:=.sub) (a:=a) (b:=b) (c:=a - b) ok hx F G1 dk1 (.inr ⟨rfl,rfl⟩) fun h' tk g own F'=>hQ .next h' tk ⟨rfl,g,own,F'⟩;exact this
 ·intro l hv h;refine cps fun U y0=>?_;obtain⟨v,r0,a,ea,rfl,bb,hb,hbl⟩:=F.read ok hx.at_ hv (by simp);refine kO h ?_;clear h;rintro m D1 rfl h1 h;refine Ha h ?_;clear h;intro hz h;refine cps fun gC gK=>?_;cases h;refine gK ?_;refine y0 ?_;refine Q9 (Hz ok r0 hcd ?_);refine Q0 (Q5 (h0 A P0 P fl own g ρ D D' (.bytes m) s _ E R h1 F fun w g1 H1 t1 G1 dk1 r2=>?_));dsimp only[VR] at r2;obtain⟨mb,u,rfl,hm⟩:=r2;have F1:=F.grow G1 dk1;have hb1:=K1 F G1 ea hb;have l1:=map_len hbl;have l2:=map_len hm;rw[Array.length_toList] at l1 l2;have:=ZL hz;rw[List.length_append] at this;refine Q0 ?_;refine Q4 ?_;refine Q0 ?_;refine Zr ?_;refine Vs (s:={ s with heap:=H1,toks:=t1 }) hb1 (by rw[sizeLine_eq];lia) fun h2 e1 e2=>?_;have hl2:(bb++mb).toList.map UInt8.toNat=l++m:=by rw[Array.toList_append,List.map_append,hbl,hm]
  have F2:=TF F1 hx ea (Rd.grow (D1:=D') F G1 r0) e1 e2 hl2;refine Q0 ?_;refine Q4 ?_;refine(Q9 (JQ (s:={ s with heap:=h2,toks:=t1 }) ok F2 hx.at_ hx.un hx.wr (lv:=.ownb (l++m)) (oa:=own i) ⟨a,ea,rfl,⟨_,e1,hl2⟩⟩ (.inl rfl) fun h' tk Z F'=>?_));rw[List.set_set] at F';exact Q7 (hQ .next h' tk ⟨rfl,g1,_,F'⟩)
end
section
variable {X:Qu}{n:Nat}{Φ:Qj}{env:Env}{names:List Str}
variable {A:Around}{P0 g g1:PM}{P:PF}{s:Shared}{E:VP}{fl:Bool}{own:Nat->Option Addr}{ρ:List LV}{D D':Q8}{nk:List (Str×NameKind)}{o:List Nat}{W:Nat}
theorem TH{h:Heap}{a:Addr}{vs:List Value}(l:X5 h a vs):∃n,h.get? a=some { cls:=.type "list",dict:=none,data:=.seq vs.toArray n,slots:=#[] }:=by
 obtain⟨ob,xs,n,h1,h2,h3,h4,h5,rfl⟩:=l.is;refine⟨n,?_⟩;rw[h1,Us h2 h3,h4,h5]
theorem append_list{a:Addr}{vs:List Value}{v:Value}{Q:VP}(l:X5 s.heap a vs)(hz:vs.length<=16777216)(h:∀h',X5 h' a (vs++[v])->Heap.SameBut a s.heap h'->Q .none { s with heap:=h' }):
  wpAny X.M A (call (.builtin "list.append") [.ref a,v]) Q E s:=by
 obtain⟨n,e⟩:=TH l;refine call_meets PySem.F.slot_list_append ⟨_,e,rfl⟩ PySem.F.entry_list_append (PySem.F.args_list_append_2 _ _) (list_append a vs.toArray n v (by rw[sizeLine_eq];simpa using hz)) ⟨e,?_⟩;refine h _ ⟨_,_,_,Heap.get?_update_self _ e rfl,rfl,rfl,rfl,rfl,by simp⟩ (Heap.SameBut.update ..)
theorem W3{a:Addr}{vs:List Value}{pl:Sem Bool}{Q:Value×List Value->Shared->Prop}(l:X5 s.heap a vs)(hq:Q (.builtin "list.append",[.ref a]) s):wpAny X.M A (getMethod (.ref a) "append" pl) Q E s:=by
 obtain⟨n,e⟩:=TH l;exact getMethod_builtin ⟨_,e,rfl⟩ F.plainAttrs_list F.slot_list_append F.type_list_append (fun b q=>by cases q;exact⟨_,e,rfl⟩) hq
theorem WJ{a:Addr}{b:Array UInt8}{pl:Sem Bool}{Q:Value×List Value->Shared->Prop}(e:s.heap.get? a=some (Z3 b))(hq:Q (.builtin "bytearray.append",[.ref a]) s):wpAny X.M A (getMethod (.ref a) "append" pl) Q E s:=
 getMethod_builtin (ZS e) BF.plainAttrs_bar BA.slot_append BF.type_append (fun b q=>by cases q;exact⟨_,e,rfl⟩) hq
theorem GC(ok:QS env nk):interactive env=false:=by unfold interactive;rw[ok.kd];rfl
theorem YR(ok:QS env nk){e:Expr}{pos:Pos}{Q:Flow->Shared->Prop}(hc:Y5 e=true)(h:QD X.M A (eval e env) (fun v s'=>v=.none/\Q .next s') E s):QD X.M A (PySem.exec (.Expr e pos) env) Q E s:=by
 refine Qk (exec_Expr _ _ _ (GC ok) (YS hc)) ?_;refine Q0 (Q4 (Q0 (Zu h (fun v s' hv=>?_) fun Z Z x=>x)));obtain⟨rfl,hq⟩:=hv;refine Qk (dropValue_plain fun a q=>by cases q) ?_;exact Q7 hq
set_option tactic.hygienic true in
theorem VC(ok:QS env nk){e:Expr}{ir:IR}{i:Nat}{x:Str}{p apos cpos pos:Pos}(hx:Z4 env names i x)(hcd:(x == ("__classdict__":Str))=false)(hdb:(x == ("__debug__":Str))=false)(hline:(apos.endLine == cpos.line)=true)(hst:notStar e=true)
  (h0:J7 X n Φ env names [e] [ir]):Qq X n Φ env names fl (PySem.exec (.Expr (.Call (.Attribute (.Name x p) "append" apos) [e] [] cpos) pos) env) (exec Φ fl o W (.append i ir)):=fun A P0 P own g ρ ρ' D D' out s Q E R h hne F hQ=>by
 dsimp only[exec] at h;refine YR ok rfl ?_;have hst':∀q∈[e],notStar q=true:=by simp[hst]
 refine kU h ?_ ?_<;>clear h<;>intro l hv h
 ·refine cps fun U y0=>?_;obtain⟨v,r0,a,vs,ea,rfl,hl,hvs⟩:=F.read ok hx.at_ hv (by simp)
  split at h<;>try first|exact Qf h|(cases h;done)
  rename_i d D1 h1;refine Ha h ?_;clear h;intro hz h;refine cps fun gC gK=>?_;cases h;refine gK ?_;refine y0 ?_;refine Ji rfl hline hst' (by simp) (Q3 (wpAny_Name (Hz ok r0 hcd fun pl=>?_) hdb));refine W3 hl ?_;have h5:runs Φ [ir] ρ D=some ([d],D'):=HL h1;refine Qy hst' (h0 A P0 P fl own g ρ D D' [d] cpos s _ E R h5 F fun us g1 H1 t1 G1 dk1 r2=>⟨QW,?_⟩);obtain⟨u1,us1,rfl,r3,r4⟩:=r2;dsimp only[Qo] at r4;subst r4;have F1:=F.grow G1 dk1;have hl1:X5 H1 a vs:=by
   exact hl.on fun ob q=>K1 F G1 ea q
  have hlen:=hvs.len;refine Q3 (append_list (s:={ s with heap:=H1,toks:=t1 }) hl1 (by lia) fun h2 e1 e2=>⟨rfl,?_⟩);refine hQ .next h2 t1 ⟨rfl,g1,own,?_⟩;refine F1.own_set hx ea (Rd.grow (D1:=D') F G1 r0) (fun b hb=>e2.2 b hb) ?_ ⟨a,_,ea,rfl,e1,?_⟩
  ·exact e1.live
  ·refine(hvs.up G1.up).append ?_;exact⟨u1,[],rfl,r3,rfl⟩
 ·refine cps fun U y0=>?_;obtain⟨v,r0,a,ea,rfl,bb,hb,hbl⟩:=F.read ok hx.at_ hv (by simp);refine kI h ?_;clear h;intro c D1 h1 h;refine Ha h ?_;clear h;intro hz h;cases h;have z1:=hz.1;have z2:=hz.2.1;have z3:=hz.2.2;refine y0 ?_;refine Ji rfl hline hst' (by simp) (Q3 (wpAny_Name (Hz ok r0 hcd fun pl=>?_) hdb));refine WJ hb ?_;have h5:runs Φ [ir] ρ D=some ([.int c],D'):=HL h1;refine Qy hst' (h0 A P0 P fl own g ρ D D' [.int c] cpos s _ E R h5 F fun us g1 H1 t1 G1 dk1 r2=>⟨QW,?_⟩);obtain⟨u1,us1,rfl,r3,r4⟩:=r2;dsimp only[Qo] at r4;subst r4;obtain⟨u,rfl⟩:=r3.int_is;have F1:=F.grow G1 dk1;have l1:=map_len hbl;rw[Array.length_toList] at l1;have:=ZL z3;rw[List.length_cons] at this;refine HA (s:={ s with heap:=H1,toks:=t1 }) (K1 F G1 ea hb) z1 z2 (by rw[sizeLine_eq];lia) fun h2 e1 e2=>⟨rfl,?_⟩
  refine hQ .next h2 t1 ⟨rfl,g1,own,?_⟩;refine TF F1 hx ea (Rd.grow (D1:=D') F G1 r0) e1 e2 ?_;rw[Array.toList_push,List.map_append,hbl];congr 1;simp;omega
end
section
variable {X:Qu}{n:Nat}{Φ:Qj}{env:Env}{names:List Str}
variable {A:Around}{P0 g g1:PM}{P:PF}{s:Shared}{E:VP}{fl:Bool}{own:Nat->Option Addr}{ρ:List LV}{D D':Q8}{nk:List (Str×NameKind)}{o:List Nat}{W:Nat}
theorem VA(ok:QS env nk){e:Expr}{ir:IR}{i:Nat}{x:Str}{p apos cpos pos:Pos}(hx:Z4 env names i x)(hcd:(x == ("__classdict__":Str))=false)(hdb:(x == ("__debug__":Str))=false)(hline:(apos.endLine == cpos.line)=true)(hst:notStar e=true)
  (h0:J7 X n Φ env names [e] [ir]):Qq X n Φ env names fl (PySem.exec (.Expr (.Call (.Attribute (.Name x p) "update" apos) [e] [] cpos) pos) env) (exec Φ fl o W (.update i ir)):=fun A P0 P own g ρ ρ' D D' out s Q E R h hne F hQ=>by
 dsimp only[exec] at h;refine YR ok rfl ?_;have hst':∀q∈[e],notStar q=true:=by simp[hst]
 refine cps fun U y0=>?_;refine kW h ?_;clear h;intro ks ds hv h;obtain⟨v,r0,a,ob,vals,ea,rfl,hsys,hob,hvals,lk,rfl,hlk,hod⟩:=F.read ok hx.at_ hv (by simp);refine kD h ?_;clear h;intro xs ys D1 h1 h;refine Ha h ?_;clear h;intro hb h;rcases h2:JI xs ys (lk.map Z8,ds) with _|⟨ks',vs'⟩
 ·rw[h2] at h;exact Qf h
 rw[h2] at h;cases h;refine y0 ?_;simp only[Bool.and_eq_true,decide_eq_true_eq] at hb;have hD:s.heap.DictOf (bytesKind pw X.w) a (lk.zip vals):=Heap.dictOf_iff.mpr ⟨ob,hob,hod⟩;refine Ji rfl hline hst' (by simp) (Q3 (wpAny_Name (Hz ok r0 hcd fun pl=>?_) hdb));refine getMethod_builtin hD.typeIs PySem.F.plainAttrs_dict PySem.F.slot_dict_update PySem.F.type_dict_update (fun b e=>hD.mapOf.noDict b e) ?_;have h5:runs Φ [ir] ρ D=some ([.dict xs ys],D'):=HL h1;refine Qy hst' (h0 A P0 P fl own g ρ D D' [.dict xs ys] cpos s _ E R h5 F fun us g1 H1 t1 G1 dk1 r2=>⟨QW,?_⟩);dsimp only[Qo] at r2;refine cps fun U y0=>?_;obtain⟨u1,us1,rfl,r3,r4⟩:=r2;subst r4;have F1:=F.grow G1 dk1;obtain⟨a2,o2,rfl,s2,e2,hk⟩:=r3.dict_at;refine y0 ?_;have hne2:a≠a2:=fun q=>by rw[<- q,(F1.og i a ea).1] at e2;exact Qf e2
 have hD1:H1.DictOf (bytesKind pw X.w) a (lk.zip vals):=Heap.dictOf_iff.mpr ⟨ob,K1 F G1 ea hob,hod⟩
 -- the other dict is of bytes too,or empty
 have key:=ZV.toB hb.1 hk;refine cps fun U y0=>?_;obtain⟨l2,v2,rfl,q2,q3,q4⟩:=key;refine y0 ?_;have hD2:H1.DictOf (bytesKind pw X.w) a2 (l2.zip v2):=Heap.dictOf_iff.mpr ⟨o2,G1.sub _ _ e2,q4⟩;have hnd:lk.Nodup:=by
  obtain⟨_,_,_,_,_,_,z⟩:=hod;rw[Vn hlk] at z;exact z
 -- the keys' own values,read back
 have hkeys:∃vks,Qo X P0 g1 (l2.map Z8) vks:=by
  refine⟨l2.map fun b=>.bytes b.toArray 0,?_⟩;clear hD2 q4 q2 h2 hb h1 h5 hk r3 q3
  induction l2 with
  | nil=>skip;rfl
  | cons b r ih=>
   rw[List.map_cons,List.map_cons];dsimp only[Qo];exact⟨_,_,rfl,by dsimp only[Z8,VR];exact⟨_,_,rfl,rfl⟩,ih⟩
 refine cps fun U y0=>?_;obtain⟨vks,hvks⟩:=hkeys;have hlen:(l2.map Z8).length=ys.length:=((List.length_map ..).trans ((q2 ..).trans (q3.len ..)))
 obtain⟨lk2,l',vals',c1,c2,c3,c4,c5,c6,c7⟩:=Xq (k:=Bs X) (l2.map Z8) ys vks v2 lk vals ds ks' vs' hlen hb.1 hvks q3 hlk hnd (hvals.up G1.up) h2;have hl2:lk2=l2:=by
  have:(Bs X).enc=Z8:=rfl;rw[this] at c2;have inj:∀a b:List (List UInt8),a.map Z8=b.map Z8->a=b:=fun a=>by
   induction a with
   | nil=>intro b h;cases b with|nil=>rfl|cons _ _=>simp at h
   | cons x r ih=>
    intro b h;rcases b with _|⟨y,r2⟩
    ·simp at h
    ·
     rw[List.map_cons,List.map_cons,List.cons.injEq] at h;have e1:x=y:=Ej (k:=Bs X) h.1;rw[e1,ih r2 h.2]
  exact(inj _ _ c2).symm
 subst hl2;refine y0 ?_;refine Q3 (call_meetsIn PySem.F.slot_dict_update hD1.typeIs PySem.F.entry_dict_update (PySem.F.args_dict_update_2 _ _) (meets_dict_update (bytesKind pw X.w) a a2 hne2 s2) ⟨_,_,hD1,hD2,?_,fun h2' d1 d2 sb=>⟨rfl,?_⟩⟩)
 ·rw[List.length_zip,List.length_zip,sizeLine_eq];have h3:=hb.2;rw[List.length_map,List.length_map] at h3;lia
 ·refine hQ .next h2' t1 ⟨rfl,g1,own,?_⟩;obtain⟨o3,ho3,hod3⟩:=Heap.dictOf_iff.mp d1;refine F1.own_set hx ea (Rd.grow (D1:=D') F G1 r0) (fun b hb=>sb.2 b hb) (congrArg _ (ho3 ..)) ⟨a,o3,vals',ea,rfl,hsys,ho3,c6,l',c4,c5,?_⟩;have c7':merged (lk.zip vals) (lk2.zip v2)=l'.zip vals':=c7;refine Eq.mpr (congrArg _ c7'.symm) ?_;exact hod3
set_option tactic.hygienic true in
theorem Z6.release{h:Heap}(F:Z6 X P0 P fl env names own g ρ D h):∃g',Z6 X P0 P fl env names (fun Z=>none) g' (ρ.map LV.rel) D h:=by
 have dec:∀b,Decidable (∃i,own i=some b):=fun b=>Classical.propDecidable _
 let g':PM:=fun b=>if _:∃i,own i=some b then h.get? b else g b
 have le:PM.le g g':=fun b ob e=>by
  show(if _:∃i,own i=some b then h.get? b else g b)=some ob
  split
  ·rename_i q;obtain⟨i,q⟩:=q;exact Qf (((F.og i b q).1).symm.trans e)
  ·exact e
 have own_at:∀i a ob,own i=some a->h.get? a=some ob->g' a=some ob:=fun i a ob e ho=>by
  show(if _:∃i,own i=some a then h.get? a else g a)=some ob;rw[dif_pos ⟨i,e⟩,ho]
 have not_own:∀b,(∀i,own i≠some b)->g' b=g b:=fun b hb=>by
  show(if _:∃i,own i=some b then h.get? b else g b)=g b;rw[dif_neg fun⟨i,e⟩=>hb i e]
 refine⟨g',?_⟩;refine
  {sub:=fun b ob e=>?_
   st:=F.st.up le
   prot:=F.prot
   deck:=F.deck
   flag:=F.flag
   slot:=fun i x lv hi hl=>?_
   len:=((List.length_map ..).trans F.len)
   ns:=F.ns
   lg:=((not_own _ fun i e=>(F.og i _ e).2.2.2.1 rfl).trans F.lg)
   lp:=F.lp
   ld:=F.ld
   og:=fun i a e=>by exact(nomatch e)
   oi:=fun i j a e=>by exact(nomatch e)
   cg:=fun x c e=>let⟨h1,h2,h3,h4,h5,h6⟩:=F.cg x c e;⟨h1,h2,(fun i (q:(none:Option Addr)=some c)=>nomatch q),(((not_own _ h3).trans h4)),h5,h6⟩
   ci:=F.ci
   dg:=fun b hb=>let⟨h1,h2,h3⟩:=F.dg b hb;⟨((not_own _ fun i e=>(F.og i _ e).2.2.1 hb).trans h1),h2,h3⟩
   p0:=F.p0
   base:=fun e=>let⟨B,b1,b2,b3⟩:=F.base e;⟨B,b1.trans le,b2,b3⟩
   gn:=fun b ob e=>?_
   gu:=F.gu.le le }
 ·by_cases q:∃i,own i=some b
  ·have:g' b=h.get? b:=dif_pos q;rw[this] at e;exact e
  ·have:g' b=g b:=dif_neg q;rw[this] at e;exact F.sub _ _ e
 ·replace hl:=Eq.trans (List.getElem?_map).symm hl;rcases hr:ρ[i]? with _|l0
  ·rw[hr] at hl;exact Qf hl
  ·
   replace hl:=(congrArg _ (hr ..)).symm.trans hl;obtain rfl:=so hl;have:=F.slot i x l0 hi hr;rcases l0 with _|d|ds|l|⟨ks,ds⟩
   ·trivial
   ·obtain⟨v,a,b⟩:=this;exact⟨v,a,b.up le⟩
   ·
    refine cps fun U y0=>?_;obtain⟨a,vs,e,r,l,q⟩:=this;obtain⟨ob,xs,n,q1,q2,q3,q4,q5,rfl⟩:=l.is;refine y0 ?_;refine⟨.ref a,r,?_⟩;dsimp only[VR];exact⟨a,ob,xs,n,rfl,own_at i a ob e q1,q2,q3,q4,q5,q.up le⟩
   ·
    refine cps fun U y0=>?_;obtain⟨a,e,r,⟨b,q1,q2⟩⟩:=this;refine y0 ?_;refine⟨.ref a,r,?_⟩;dsimp only[VR];exact⟨a,b,rfl,own_at i a _ e q1,q2⟩
   ·
    refine cps fun U y0=>?_;obtain⟨a,ob,vals,e,r,q,h1,h2,k,h3,h4,h5⟩:=this;refine y0 ?_;refine⟨.ref a,r,.of_dict q (own_at i a ob e h1) (.inl ⟨k,vals,h3,h4,h2.up le,h5⟩)⟩
 ·by_cases q:∃i,own i=some b
  ·obtain⟨i,q⟩:=q;exact .inr (F.og i b q).2.1
  ·have:g' b=g b:=dif_neg q;rw[this] at e;exact F.gn _ _ e
theorem Z6.done{h:Heap}(F:Z6 X P0 P fl env names own g ρ D h):Done X P0 P g D h:=⟨F.sub,F.prot,F.deck,F.dg,F.gn,F.gu⟩
theorem Kw{e:Expr}{ir:IR}{pos:Pos}(h0:Qg X n Φ env names e ir):Qq X n Φ env names fl (PySem.exec (.Return (some e) pos) env) (exec Φ fl o W (.ret ir)):=fun A P0 P own g ρ ρ' D D' out s Q E R h hne F hQ=>by
 dsimp only[exec] at h;refine cps fun U y0=>?_;refine Hq h ?_;clear h;intro d D' h1 h;revert hQ;apply Aj h;intro hQ;obtain⟨g',F'⟩:=F.release;refine y0 ?_;refine(exec_Return_some ..).symm▸?_;refine Q0 (Q4 (Q0 (h0 A P0 P fl _ g' _ D D' d s _ E R h1 F' fun v g1 H1 t1 G1 dk1 r1=>?_)));exact Q7 (hQ (.ret v) H1 t1 ⟨v,g1,rfl,r1,(F'.grow G1 dk1).done⟩)
end
structure Ent where
 i:Nat
 x:Str
 v:Value
 lv:LV
 oa:Option Addr
noncomputable def YC(l:List Ent)(ρ:List LV):List LV:=l.foldl (fun ρ e=>ρ.set e.i e.lv) ρ
theorem KY:∀(l:List Ent) (ρ:List LV),(YC l ρ).length=ρ.length:=by
 intro zz
 induction zz with
 | nil=>
  intro _;exact rfl
 | cons e l ih=>
  intro ρ;show(YC l (ρ.set e.i e.lv)).length=_;rw[ih,List.length_set]
theorem YB:∀(l:List Ent) (ρ:List LV) (j:Nat),(∀e∈l,e.i≠j)->(YC l ρ)[j]?=ρ[j]?:=by
 intro zz
 induction zz with
 | nil=>
  intro _ _ _;exact rfl
 | cons e l ih=>
  intro ρ j h;show(YC l (ρ.set e.i e.lv))[j]?=_;exact((ih _ j fun e he=>h e (List.mem_cons_of_mem _ he)).trans (List.getElem?_set_ne (h e List.mem_cons_self)))
theorem Tx:∀(l:List Ent) (ρ:List LV) (e:Ent),e∈l->(l.map Ent.i).Nodup->e.i < ρ.length->(YC l ρ)[e.i]?=some e.lv:=by
 intro zz
 induction zz with
 | nil=>
  intro _ _ he _ _;exact absurd he List.not_mem_nil
 | cons f l ih=>
  intro ρ e he hn hlt;show(YC l (ρ.set f.i f.lv))[e.i]?=_;rw[List.map_cons,List.nodup_cons] at hn;rcases List.mem_cons.mp he with rfl|he'
  ·rw[YB l _ _ fun q hq z=>hn.1 (by rw[<- z];exact List.mem_map_of_mem hq),List.getElem?_set_self hlt]
  ·exact ih _ e he' hn.2 ((Eq.mpr (congrArg _ (List.length_set ..)) hlt))
theorem Pg(l:List Ent)(ρ:List LV)(hn:(l.map Ent.i).Nodup):YC l.reverse ρ=YC l ρ:=by
 apply List.ext_getElem?;intro j;by_cases h:∃e∈l,e.i=j
 ·obtain⟨e,he,rfl⟩:=h;by_cases hlt:e.i < ρ.length
  ·rw[Tx l ρ e he hn hlt,Tx l.reverse ρ e (List.mem_reverse.mpr he) (by rw[List.map_reverse];exact(List.reverse_perm _).nodup_iff.mpr hn) hlt]
  ·rw[List.getElem?_eq_none (by rw[KY];omega),List.getElem?_eq_none (by rw[KY];omega)]
 ·have h':∀e∈l,e.i≠j:=fun e he q=>h ⟨e,he,q⟩;rw[YB l ρ j h',YB l.reverse ρ j fun e he=>h' e (List.mem_reverse.mp he)]
theorem YA:∀(l:List Ent) (ρ:List LV),YC l ρ=Tw (l.map Ent.i) (l.map Ent.lv) ρ:=by
 intro zz
 induction zz with
 | nil=>
  intro _;exact rfl
 | cons e l ih=>
  intro ρ;show YC l (ρ.set e.i e.lv)=_;rw[ih];rfl
section
variable {X:Qu}{env:Env}{names:List Str}
variable {A:Around}{P0 g:PM}{P:PF}{E:VP}{fl:Bool}{D:Q8}{nk:List (Str×NameKind)}
set_option tactic.hygienic true in
theorem V0(ok:QS env nk):∀(l:List Ent) (ts:List (Value->Sem Unit)) (own:Nat->Option Addr) (ρ:List LV) (s:Shared) (Q:Unit->Shared->Prop),
  ts.length=l.length->(∀p∈l.zip ts,∀(Q:Unit->Shared->Prop) s,wpAny X.M A (bindName env p.1.x p.1.v) Q E s->wpAny X.M A (p.2 p.1.v) Q E s)->
  Z6 X P0 P fl env names own g ρ D s.heap->(∀e∈l,Z4 env names e.i e.x/\LVal X P0 g s.heap e.oa e.v e.lv/\∀a,e.oa=some a->Zw X P env own g s.heap a)->
  (l.filterMap Ent.oa).Nodup->(l.map Ent.i).Nodup->(∀h' tk own',Z6 X P0 P fl env names own' g (YC l ρ) D h'->Q () { s with heap:=h',toks:=tk })->
  wpAny X.M A (assignInOrder ts (l.map Ent.v)) Q E s:=by
 intro l
 induction l with
 | nil=>
  intro ts own ρ s Q hl _ F _ _ _ hQ;rcases ts with _|⟨_,_⟩
  ·exact wpAny_pure (hQ s.heap s.toks own F)
  ·simp at hl
 | cons e l ih=>
  intro ts own ρ s Q hl ht F he hd hn hQ;rcases ts with _|⟨t,ts⟩
  ·simp at hl
  have hx:=(he e List.mem_cons_self).1;have hv:=(he e List.mem_cons_self).2.1;have hf:=(he e List.mem_cons_self).2.2;rw[List.map_cons,List.nodup_cons] at hn;have step:∀(oa:Option Addr),LVal X P0 g s.heap oa e.v e.lv->(oa=own e.i\/∃a,oa=some a/\Zw X P env own g s.heap a)->(∀a,oa=some a->e.oa=some a\/own e.i=some a)->
    wpAny X.M A (do holding (l.map Ent.v) (t e.v);assignInOrder ts (l.map Ent.v)) Q E s:=fun oa hv' hoa hor=>by
   refine wpAny_bind (wpAny_holding (ht (e,t) (by rw[List.zip_cons_cons];exact List.mem_cons_self) _ _ (JQ ok F hx.at_ hx.un hx.wr hv' hoa fun h' tk same F'=>?_)));refine ih ts _ _ { s with heap:=h',toks:=tk } Q (by simpa using hl) (fun p hp=>ht p (by rw[List.zip_cons_cons];exact List.mem_cons_of_mem _ hp)) F' (fun e2 he2=>?_) ?_ hn.2 fun h2 tk2 own2 F2=>hQ h2 tk2 own2 F2
   ·have hx2:=(he e2 (List.mem_cons_of_mem _ he2)).1;have hv2:=(he e2 (List.mem_cons_of_mem _ he2)).2.1;have hf2:=(he e2 (List.mem_cons_of_mem _ he2)).2.2;have same2:∀a,e2.oa=some a->h'.get? a=s.heap.get? a:=fun a ea=>same a (hf2 a ea).l (hf2 a ea).c;refine⟨hx2,?_,fun a ea=>?_⟩
    ·revert hv2 same2;rcases e2.lv with _|d|ds|l|⟨ks,ds⟩
     ·intro hv2 _;exact hv2.elim
     ·intro hv2 _;exact hv2
     ·
      intro hv2 same2;obtain⟨a,vs,ea,q,lq,q3⟩:=hv2;exact⟨a,vs,ea,q,lq.on fun ob e=>((same2 a ea).trans e),q3⟩
     ·
      intro hv2 same2;refine cps fun U y0=>?_;obtain⟨a,ea,q,⟨b,q1,q2⟩⟩:=hv2;refine y0 ?_;exact⟨a,ea,q,⟨b,((same2 a ea).trans q1),q2⟩⟩
     ·
      intro hv2 same2;refine cps fun U y0=>?_;obtain⟨a,o,vals,ea,q,z,q1,q2,q3,q4,q5,q6⟩:=hv2;refine y0 ?_;exact⟨a,o,vals,ea,q,z,((same2 a ea).trans q1),q2,q3,q4,q5,q6⟩
    ·obtain⟨f1,f2,f3,f4,f5,f6,f7⟩:=hf2 a ea;refine⟨f1,f2,f3,f4,((congrArg _ (same2 a ea)).trans f5),f6,fun j q=>?_⟩;unfold U7 at q
     split at q
     ·rename_i hj;rcases hor a q with z|z
      ·-- two entries' own things are apart
       rw[List.filterMap_cons,z] at hd;rw[List.nodup_cons] at hd;exact hd.1 (List.mem_filterMap.mpr ⟨e2,he2,ea⟩)
      ·exact f7 e.i z
     ·exact f7 j q
   ·revert hd;rw[List.filterMap_cons]
    split
    ·exact id
    ·intro hd;exact(List.nodup_cons.mp hd).2
  cases eoa:e.oa with
  | some a=>exact step e.oa hv (.inr ⟨a,eoa,hf a eoa⟩) fun a' q=>.inl q
  | none=>
   refine step (own e.i) ?_ (.inl rfl) fun a' q=>.inr q;rw[eoa] at hv;revert hv;rcases e.lv with _|d|ds|l|⟨ks,ds⟩
   ·exact fun hv=>hv.elim
   ·exact id
   ·rintro⟨a,vs,q,_⟩;exact Qf q
   ·rintro⟨a,q,_⟩;exact Qf q
   ·rintro⟨a,o,vals,q,_⟩;exact Qf q
end
section
variable {X:Qu}{n:Nat}{Φ:Qj}{env:Env}{names:List Str}
variable {A:Around}{P0 g g1:PM}{P:PF}{s:Shared}{E:VP}{fl:Bool}{own:Nat->Option Addr}{ρ:List LV}{D D':Q8}{nk:List (Str×NameKind)}{o:List Nat}{W:Nat}
theorem LVal.grow{h h':Heap}{oa:Option Addr}{v:Value}{lv:LV}{g':PM}{dk:List Addr}(y:LVal X P0 g h oa v lv)(G:Qs X.dk g h g' h')(hd:∀a,oa=some a->a∉X.dk):LVal X P0 g' h' oa v lv:=by
 have keep:∀a,oa=some a->∀ob,h.get? a=some ob->h'.get? a=some ob:=fun a e ob eo=>by
  obtain⟨o',e',k⟩:=G.keep _ _ eo;rw[e',k (hd a e)]
 rcases lv with _|d|ds|l|⟨ks,ds⟩
 ·exact y.elim
 ·exact VR.up (X:=X) (P0:=P0) (g:=g) (g':=g') y G.up
 ·
  obtain⟨a,vs,e,q,l,r⟩:=y;exact⟨a,vs,e,q,l.on (keep a e),r.up G.up⟩
 ·
  refine cps fun U y0=>?_;obtain⟨a,e,q,⟨b,h1,h2⟩⟩:=y;refine y0 ?_;exact⟨a,e,q,⟨b,keep a e _ h1,h2⟩⟩
 ·
  refine cps fun U y0=>?_;obtain⟨a,ob,vals,e,q,z,h1,h2,r,r1,r2,r3⟩:=y;refine y0 ?_;exact⟨a,ob,vals,e,q,z,keep a e _ h1,h2.up G.up,r,r1,r2,r3⟩
theorem Am:∀{es:List Expr} {irs:List IR} {ixs:List (Nat×Str)},es.length=irs.length->ixs.length=irs.length->(∀e∈es,notStar e=true)->(∀p∈(es.zip irs).zip ixs,J6 X n Φ env names (o.contains p.2.1) p.1.1 p.1.2)->
  ∀(A:Around) (P0:PM) (P:PF) (fl:Bool) (own:Nat->Option Addr) (g:PM) (ρ:List LV) (D D':Q8) (lvs:List LV) (pos:Pos) (s:Shared) (Q:List Value->Shared->Prop) (E:Value->Shared->Prop),
  Ze A n->UJ Φ o (ixs.map (·.1)) irs ρ D=some (lvs,D')->Z6 X P0 P fl env names own g ρ D s.heap->
  (∀(l:List Ent) g' h' tk,Qs X.dk g s.heap g' h'->QO X D' h'->(l.map fun e=>(e.i,e.x))=ixs->l.map Ent.lv=lvs->(∀e∈l,LVal X P0 g' h' e.oa e.v e.lv/\∀a,e.oa=some a->s.heap.get? a=none/\g' a=none/\(h'.get? a).isSome)->
   (l.filterMap Ent.oa).Nodup->Q (l.map Ent.v) { s with heap:=h',toks:=tk })->QD X.M A (spliced (backTo pos (starEach es env))) Q E s:=by
 intro es
 induction es with
 | nil=>
  intro irs ixs hl hl2 hst hi;rcases irs with _|⟨_,_⟩
  ·rcases ixs with _|⟨_,_⟩
   ·exact fun A P0 P fl own g ρ D D' lvs pos s Q E R h F hQ=>by
     have:UJ Φ o [] [] ρ D=some (lvs,D'):=h;dsimp only[UJ] at this;refine cps fun gC gK=>?_;replace this:=sp this;obtain⟨rfl,rfl⟩:=this;refine gK ?_;exact Q7 (hQ [] g s.heap s.toks (Qs.refl F.sub) F.deck rfl rfl (fun e he=>by exact(nomatch he)) List.nodup_nil)
   ·simp at hl2
  ·simp at hl
 | cons e es ih0=>
  intro irs ixs hl hl2 hst hi;rcases irs with _|⟨a,irs⟩
  ·simp at hl
  ·rcases ixs with _|⟨⟨i,x⟩,ixs⟩
   ·simp at hl2
   ·exact fun A P0 P fl own g ρ D D' lvs pos s Q E R h F hQ=>by
     have ih:=ih0 (irs:=irs) (ixs:=ixs) (by simpa using hl) (by simpa using hl2) (fun e he=>hst e (List.mem_cons_of_mem _ he)) fun p hp=>hi p (by rw[List.zip_cons_cons,List.zip_cons_cons];exact List.mem_cons_of_mem _ hp);have h0:=hi ((e,a),(i,x)) (by rw[List.zip_cons_cons,List.zip_cons_cons];exact List.mem_cons_self);have h':UJ Φ o (i::ixs.map (·.1)) (a::irs) ρ D=some (lvs,D'):=h;dsimp only[UJ] at h';refine cps fun gC gK=>?_;refine za h' ?_;clear h';intro lv D1 h1 h';refine z9 h' ?_;clear h';intro lvs Dz h2 h';revert hQ;apply Vw h';intro hQ;refine gK ?_;rw[Zf (hst e List.mem_cons_self)];show QD _ _ (spliced ((false,eval e env)::backTo pos (starEach es env))) _ _ _;rw[spliced];refine Q0 (h0 A P0 P fl own g ρ D D1 lv s _ E R h1 F fun v oa g1 H1 t1 G1 dk1 r1 f1=>?_);dsimp only[Bool.false_eq_true,if_false];refine Q0 (Q7 (Q0 (Q5 (ih A P0 P fl own g1 ρ D1 _ lvs pos _ _ E R h2 (F.grow G1 dk1) fun l g2 H2 t2 G2 dk2 e1 e2 e3 e4=>?_))));have ndk:∀b,s.heap.get? b=none->b∉X.dk:=fun b hb q=>by have:=(F.dg b q).2.2;rw[hb] at this;exact Bool.false_ne_true this
     refine Q7 (hQ (⟨i,x,v,lv,oa⟩::l) g2 H2 t2 (G1.trans G2) dk2 (((List.map_cons ..).trans (congrArg _ (e1 ..)))) (((List.map_cons ..).trans (congrArg _ (e2 ..)))) (fun e he=>?_) ?_)
     ·rcases List.mem_cons.mp he with rfl|he
      ·refine⟨r1.grow (dk:=X.dk) G2 fun b hb=>ndk b (f1 b hb).1,fun b hb=>?_⟩;refine cps fun gC gK=>?_;have q1:=(f1 b hb).1;have q2:=(f1 b hb).2.1;have q3:=(f1 b hb).2.2;obtain⟨ob,hob⟩:=Option.isSome_iff_exists.mp q3;refine gK ?_;refine⟨q1,?_,?_⟩
       ·rcases z:g2 b with _|o'
        ·rfl
        ·
         rcases G2.new b o' z with z|z
         ·exact Qf (q2.symm.trans z)
         ·rw[z] at q3;exact Bool.noConfusion q3
       ·obtain⟨o',z,_⟩:=G2.keep _ _ hob;rw[z];rfl
      ·have q1:=(e3 e he).1;have q2:=(e3 e he).2;refine⟨q1,fun b hb=>?_⟩;have z1:=(q2 b hb).1;have z2:=(q2 b hb).2.1;have z3:=(q2 b hb).2.2;refine⟨?_,z2,z3⟩;rcases z:s.heap.get? b with _|o'
       ·rfl
       ·
        obtain⟨o2,z',_⟩:=G1.keep _ _ z;exact Qf (z1.symm.trans z')
     ·refine Eq.mpr (congrArg _ List.filterMap_cons) ?_;rcases hoa:oa with _|b
      ·exact e4
      ·
       refine List.nodup_cons.mpr ⟨fun hm=>?_,e4⟩;refine cps fun gC gK=>?_;obtain⟨e',he',q⟩:=List.mem_filterMap.mp hm;have q1:=(e3 e' he').2 b q;have q2:=(f1 b hoa).2.2;replace q2:=q1.1▸q2;cases q2
theorem Cb{α:Type}{c:Prop}[Decidable c]{a b:α}{P:α->Prop}(h1:c->P a)(h2:¬c->P b):P (if c then a else b):=by
 by_cases q:c
 ·exact(if_pos q (t:=a) (e:=b)).symm▸h1 q
 ·exact(if_neg q (t:=a) (e:=b)).symm▸h2 q
theorem E6{g:Expr->Option Str}{f:Str×Pos->Bool}(hg:∀p:Str×Pos,g (.Name p.1 p.2)=if f p=true then some p.1 else none)(l:List (Str×Pos)):
  ((l.map fun p=>Expr.Name p.1 p.2).filterMap g).length=l.length->(l.map fun p=>Expr.Name p.1 p.2).filterMap g=l.map (·.1):=by
 induction l with
 | nil=>intro _;rfl
 | cons p l ih=>
  intro h;rw[List.map_cons,List.filterMap_cons,hg] at h ⊢;by_cases q:f p=true
  ·rw[if_pos q] at h ⊢;exact congrArg (p.1::·) (ih (Nat.succ.inj h))
  ·rw[if_neg q] at h;exact absurd h (Nat.ne_of_lt (Nat.lt_succ_of_le (Nat.le_trans (List.length_filterMap_le ..) (Nat.le_of_eq (List.length_map ..)))))
theorem Ym{tps:List (Str×Pos)}{es:List Expr}{k k2:Nat}{tp p2:Pos}(ok:QS env nk)(hc:es.all (constantsAlone 8)=true->es.all (foldedForSure 8)=true):
  swappedStores [.Tuple (tps.map fun p=>.Name p.1 p.2) k tp] (.Tuple es k2 p2) env=pure none\/swappedStores [.Tuple (tps.map fun p=>.Name p.1 p.2) k tp] (.Tuple es k2 p2) env=pure (some (tps.map (·.1))):=by
 refine Cb (P:=fun x=>x=pure none\/x=pure (some (tps.map (·.1)))) (fun Z=>.inl rfl) fun c1=>?_;refine Cb (P:=fun x=>x=pure none\/x=pure (some (tps.map (·.1)))) (fun Z=>.inl rfl) fun c2=>?_;refine Cb (P:=fun x=>x=pure none\/x=pure (some (tps.map (·.1)))) (fun Z=>.inl rfl) fun c3=>?_;refine Cb (P:=fun x=>x=pure none\/x=pure (some (tps.map (·.1)))) (fun Z=>.inl rfl) fun c4=>?_;refine Cb (P:=fun x=>x=pure none\/x=pure (some (tps.map (·.1)))) (fun c5=>absurd (hc c5) c4) fun c6=>?_;refine .inr (congrArg (fun z=>pure (some z)) ?_);refine E6 (fun p=>rfl) tps ?_;have c7:_=false:=Bool.eq_false_iff.mpr c3;rw[Bool.or_eq_false_iff] at c7;have c8:=c7.1;rw[bne_eq_false_iff_eq] at c8;rw[List.length_map] at c8;exact c8
end
theorem UW:∀{l:List Nat},apart l=true->l.Nodup:=by
 intro zz
 induction zz with
 | nil=>
  intro _;exact List.nodup_nil
 | cons i r ih=>
  intro h;dsimp only[apart] at h;rw[Bool.and_eq_true,Bool.not_eq_true'] at h;refine List.nodup_cons.mpr ⟨fun q=>?_,ih h.2⟩;have:=List.contains_iff_mem.mpr q;replace h:=this▸h;cases h.1
section
variable {X:Qu}{n:Nat}{Φ:Qj}{env:Env}{names:List Str}
variable {A:Around}{P0 g g1:PM}{P:PF}{s:Shared}{E:VP}{fl:Bool}{own:Nat->Option Addr}{ρ:List LV}{D D':Q8}{nk:List (Str×NameKind)}{o:List Nat}{W:Nat}
theorem Zp:∀{tps:List (Str×Pos)},assignEach (tps.map fun p=>.Name p.1 p.2) env=tps.map fun p=>(false,fun v=>do standAt p.2;bindName env p.1 v)
 | []=>rfl
 | p::tps=>by
  rw[List.map_cons,List.map_cons,<-Zp (tps:=tps)];rfl
theorem XO{h h':Heap}(e:Heap.ExtBut h.objs.size h h'):∀b o,h.get? b=some o->h'.get? b=some o:=fun b o q=>e b o (Nat.ne_of_lt (Heap.lt_size q)) q
theorem JE(ok:QS env nk){tps:List (Str×Pos)}{l:List Ent}{t:Addr}{items:Array Value}{tp:Pos}{k:Nat}{Q:Unit->Shared->Prop}(hh:A.handled=none)(F:Z6 X P0 P fl env names own g ρ D s.heap)
  (ht:IsTup s.heap t items) (hv:l.map Ent.v=items.toList) (hx:l.map Ent.x=tps.map (·.1)) (he:∀e∈l,Z4 env names e.i e.x/\LVal X P0 g s.heap e.oa e.v e.lv/\∀a,e.oa=some a->Zw X P env own g s.heap a)
  (hd:(l.filterMap Ent.oa).Nodup) (hn:(l.map Ent.i).Nodup) (hQ:∀h' tk own',Z6 X P0 P fl env names own' g (YC l ρ) D h'->Q () { s with heap:=h',toks:=tk }):
  wpAny X.M A (assign (.Tuple (tps.map fun p=>.Name p.1 p.2) k tp) env (.ref t)) Q E s:=by
 have hlen:l.length=tps.length:=by have:=congrArg List.length hx;simpa using this
 have hlen2:l.length=items.size:=by have:=congrArg List.length hv;simpa using this
 refine assign_Tuple_tuple hh ht ?_ ?_ fun h' ext=>?_
 ·rw[Zp,List.length_map];lia
 ·refine(congrArg _ (Zp ..)).trans ?_;rw[List.findIdx?_eq_none_iff];intro p hp;obtain⟨q,_,rfl⟩:=List.mem_map.mp hp;rfl
 ·refine(hv ..)▸?_;have keep:=XO ext;have F':=F.grow (Qs.same F.sub keep) (F.deck.keeps keep);refine V0 (s:={ s with heap:=h' }) ok l _ own ρ Q (by rw[Zp,List.map_map,List.length_map];lia) (fun p hp Q s hs=>?_) F' (fun e hm=>?_) hd hn hQ
  ·obtain⟨e,tt⟩:=p;rw[Zp,List.map_map] at hp;have:∃q:Str×Pos,q.1=e.x/\tt=(fun v=>(do standAt q.2;bindName env q.1 v)):=by
    clear hQ ext keep F' ht hlen2 hv he hd hn F
    induction l generalizing tps with
    | nil=>simp at hp
    | cons e0 l ih=>
     rcases tps with _|⟨p0,tps⟩
     ·simp at hp
     ·
      rw[List.map_cons,List.zip_cons_cons] at hp;rw[List.map_cons,List.map_cons,List.cons.injEq] at hx;rcases List.mem_cons.mp hp with q|q
      ·cases q;exact⟨p0,hx.1.symm,rfl⟩
      ·exact ih hx.2 (by simpa using hlen) q
   obtain⟨q,q1,rfl⟩:=this;show wpAny X.M A (do standAt q.2;bindName env q.1 e.v) Q E s;refine(q1 ..).symm▸?_;exact wpAny_bind (wpAny_standAt hs)
  ·have q1:=(he e hm).1;have q2:=(he e hm).2.1;have q3:=(he e hm).2.2;refine⟨q1,q2.grow (dk:=X.dk) (Qs.same F.sub keep) fun a ea=>(q3 a ea).d,fun a ea=>?_⟩;obtain⟨f1,f2,f3,f4,f5,f6,f7⟩:=q3 a ea;obtain⟨ob,hob⟩:=Option.isSome_iff_exists.mp f5;exact⟨f1,f2,f3,f4,by show(h'.get? a).isSome;rw[keep _ _ hob];rfl,f6,f7⟩
theorem Yk(ok:QS env nk){l:List Ent}{t:Addr}{items:Array Value}{xs:List Str}{Q:Flow->Shared->Prop}(hh:A.handled=none)(F:Z6 X P0 P fl env names own g ρ D s.heap)
  (ht:IsTup s.heap t items) (hv:l.map Ent.v=items.toList) (hx:l.map Ent.x=xs) (he:∀e∈l,Z4 env names e.i e.x/\LVal X P0 g s.heap e.oa e.v e.lv/\∀a,e.oa=some a->Zw X P env own g s.heap a)
  (hd:(l.filterMap Ent.oa).Nodup) (hn:(l.map Ent.i).Nodup) (hQ:∀h' tk own',Z6 X P0 P fl env names own' g (YC l ρ) D h'->Q .next { s with heap:=h',toks:=tk }) (st:List (Value->Sem Unit)):
  wpAny X.M A (assignStores env (.ref t) (some xs) st) Q E s:=by
 have hlen:xs.length=items.size:=by
  have h1:=congrArg List.length hv;have h2:=congrArg List.length hx;simp at h1 h2;lia
 refine wpAny_bind (wpAny_rule ?_);refine(hlen ..).symm▸?_;refine wpAny_bind (unpackItems_tuple hh ht fun h' ext=>?_);have keep:=XO ext;have F':=F.grow (Qs.same F.sub keep) (F.deck.keeps keep);rw[<- hv,<-List.map_reverse];refine wpAny_bind (V0 (s:={ s with heap:=h' }) ok l.reverse _ own ρ _ (by rw[<- hx];simp) (fun p hp Q s hs=>?_) F' (fun e hm=>?_) ?_ ?_ fun h2 tk own' F2=>wpAny_pure ?_)
 ·obtain⟨e,tt⟩:=p;have:tt=bindName env e.x:=by
   rw[<- hx,<-List.map_reverse,List.map_map] at hp;generalize l.reverse=m at hp;clear hQ ext keep F' ht hlen hv he hd hn F hx
   induction m with
   | nil=>simp at hp
   | cons e0 m ih=>
    rw[List.map_cons,List.zip_cons_cons] at hp;rcases List.mem_cons.mp hp with q|q
    ·cases q;rfl
    ·exact ih q
  show wpAny X.M A (tt e.v) Q E s;refine(this ..).symm▸?_;exact hs
 ·have q1:=(he e (List.mem_reverse.mp hm)).1;have q2:=(he e (List.mem_reverse.mp hm)).2.1;have q3:=(he e (List.mem_reverse.mp hm)).2.2;refine⟨q1,q2.grow (dk:=X.dk) (Qs.same F.sub keep) fun a ea=>(q3 a ea).d,fun a ea=>?_⟩;obtain⟨f1,f2,f3,f4,f5,f6,f7⟩:=q3 a ea;obtain⟨ob,hob⟩:=Option.isSome_iff_exists.mp f5;exact⟨f1,f2,f3,f4,by show(h'.get? a).isSome;rw[keep _ _ hob];rfl,f6,f7⟩
 ·rw[List.filterMap_reverse];exact(List.reverse_perm _).nodup_iff.mpr hd
 ·rw[List.map_reverse];exact(List.reverse_perm _).nodup_iff.mpr hn
 ·rw[Pg l ρ hn] at F2;exact hQ h2 tk own' F2
set_option tactic.hygienic true in
theorem Nl(ok:QS env nk){tps:List (Str×Pos)}{es:List Expr}{irs:List IR}{is:List Nat}{k k2:Nat}{tp p2 pos:Pos}(h1l:es.length=irs.length)(h2l:is.length=irs.length)(h3l:tps.length=irs.length)
  (hsl:∀p∈is.zip (tps.map (·.1)),Z4 env names p.1 p.2) (hst:∀e∈es,notStar e=true) (hc:es.all (constantsAlone 8)=true->es.all (foldedForSure 8)=true) (hz:irs.length<=100)
  (hi:∀p∈(es.zip irs).zip (is.zip (tps.map (·.1))),J6 X n Φ env names (o.contains p.2.1) p.1.1 p.1.2):
  Qq X n Φ env names fl (PySem.exec (.Assign [.Tuple (tps.map fun p=>.Name p.1 p.2) k tp] (.Tuple es k2 p2) pos) env) (exec Φ fl o W (.setN is irs)):=fun A P0 P own g ρ ρ' D D' out s Q E R h hne F hQ=>by
 dsimp only[exec] at h;refine cps fun U y0=>?_
 split at h<;>try first|exact Qf h|(cases h;done)
 rename_i lvs D1 h1
 split at h<;>first|exact Qf h|cases h
 refine y0 ?_;rename_i hap;refine(PyProof.Rows.exec_Assign ..).symm▸?_;refine Q0 (Q4 (Q9 (wpAny_of_eq (a:=false) rfl ?_)));refine Qk (if_neg Bool.false_ne_true) ?_;refine(arm_eval_Tuple ..).symm▸?_;have hixs:(is.zip (tps.map (·.1))).map (·.1)=is:=by rw[List.map_fst_zip (by rw[List.length_map];lia)]
 have h1':UJ Φ o ((is.zip (tps.map (·.1))).map (·.1)) irs ρ D=some (lvs,D'):=by rw[hixs];exact h1
 refine Q0 (Q0 (Q4 (Q0 (Am (o:=o) h1l (by rw[List.length_zip,List.length_map];lia) hst hi A P0 P fl own g ρ D D' lvs p2 s _ E R h1' F fun l g1 H1 t1 G1 dk1 e1 e2 e3 e4=>?_))));have hll:l.length=irs.length:=by
  have:=congrArg List.length e1;rw[List.length_map,List.length_zip,List.length_map] at this;lia
 refine Q3 (wpAny_newTuple ?_ (by rw[List.length_map,sizeLine_eq];lia));have keep:∀b ob,H1.get? b=some ob->(H1.push { cls:=.type "tuple",data:=.seq (l.map Ent.v).toArray }).get? b=some ob:=fun b ob e=>Heap.get?_push_of_some _ e;have G2:=Qs.same (dk:=X.dk) G1.sub keep;have F2:=(F.grow G1 dk1).grow G2 (dk1.keeps keep);have ht:IsTup (H1.push { cls:=.type "tuple",data:=.seq (l.map Ent.v).toArray }) H1.objs.size (l.map Ent.v).toArray:=⟨_,Heap.get?_push_size _ rfl,rfl,_,rfl⟩
 have hex:l.map Ent.x=tps.map (·.1):=by
  have:=congrArg (List.map (·.2)) e1;rw[List.map_map,List.map_snd_zip (by rw[List.length_map];lia)] at this;exact this
 have hei:l.map Ent.i=is:=by
  have:=congrArg (List.map (·.1)) e1;rw[List.map_map,hixs] at this;exact this
 have he:∀e∈l,Z4 env names e.i e.x/\LVal X P0 g1 (H1.push { cls:=.type "tuple",data:=.seq (l.map Ent.v).toArray }) e.oa e.v e.lv/\∀a,e.oa=some a->Zw X P env own g1 (H1.push { cls:=.type "tuple",data:=.seq (l.map Ent.v).toArray }) a:=fun e hm=>by
  have q1:=(e3 e hm).1;have q2:=(e3 e hm).2;have nd:∀a,e.oa=some a->a∉X.dk:=fun a ea q=>by have:=(F.dg a q).2.2;rw[(q2 a ea).1] at this;exact Bool.false_ne_true this
  refine⟨hsl (e.i,e.x) (by rw[<- e1];exact List.mem_map_of_mem hm),q1.grow (dk:=X.dk) G2 nd,fun a ea=>?_⟩;refine cps fun U y0=>?_;have z1:=(q2 a ea).1;have z2:=(q2 a ea).2.1;have z3:=(q2 a ea).2.2;obtain⟨ob,hob⟩:=Option.isSome_iff_exists.mp z3;refine y0 ?_;exact F.fresh z1 z2 (congrArg _ (keep _ _ hob))
 have hn:(l.map Ent.i).Nodup:=by rw[hei];exact UW hap
 have fin:∀h' tk own',Z6 X P0 P fl env names own' g1 (YC l ρ) D' h'->Q .next { s with heap:=h',toks:=tk }:=fun h' tk own' F3=>by
  rw[YA,hei,e2] at F3;exact hQ .next h' tk ⟨rfl,g1,own',F3⟩
 rcases Ym (tps:=tps) (k:=k) (k2:=k2) (tp:=tp) (p2:=p2) ok hc with q|q
 ·refine Q9 (wpAny_of_eq q ?_);have key:=JE (s:={ s with heap:=H1.push { cls:=.type "tuple",data:=.seq (l.map Ent.v).toArray },toks:=t1 }) (A:=A) (E:=E) (tp:=tp) (k:=k) (Q:=fun Z s'=>QD X.M A (pure Flow.next) Q E s') ok R.hd F2 ht rfl hex he e4 hn fun h' tk own' F3=>Q7 (fin h' tk own' F3);have goal:=Q9 (f:=fun Z=>(pure Flow.next:Sem Flow)) key;exact goal
 ·refine Q9 (wpAny_of_eq q ?_);have key:=Yk (s:={ s with heap:=H1.push { cls:=.type "tuple",data:=.seq (l.map Ent.v).toArray },toks:=t1 }) (A:=A) (E:=E) (Q:=Q) ok R.hd F2 ht rfl hex he e4 hn fin ((assignEach [.Tuple (tps.map fun p=>.Name p.1 p.2) k tp] env).map (·.2));exact Q3 key
theorem Xb{ds:List AV}{vs:List Value}{is:List Nat}{xs:List Str}(hv:Qo X P0 g ds vs)(h1:ds.length=is.length)(h2:xs.length=is.length)(h:Heap):
  ∃l:List Ent,l.map Ent.v=vs/\l.map Ent.i=is/\l.map Ent.x=xs/\l.map Ent.lv=ds.map .val/\l.filterMap Ent.oa=[]/\∀e∈l,LVal X P0 g h e.oa e.v e.lv/\e.oa=none:=by
 induction ds generalizing vs is xs with
 | nil=>
  dsimp only[Qo] at hv;subst hv;have:is=[]:=List.length_eq_zero_iff.mp h1.symm;subst this;have:xs=[]:=List.length_eq_zero_iff.mp h2;subst this;exact⟨[],rfl,rfl,rfl,rfl,rfl,fun e he=>by cases he⟩
 | cons d ds ih=>
  dsimp only[Qo] at hv;obtain⟨v,r,rfl,q1,q2⟩:=hv;rcases is with _|⟨i,is⟩
  ·simp at h1
  ·
   rcases xs with _|⟨x,xs⟩
   ·simp at h2
   ·
    refine cps fun U y0=>?_;obtain⟨l,z1,z2,z3,z4,z5,z6⟩:=ih q2 (by simpa using h1) (by simpa using h2);refine y0 ?_;refine⟨⟨i,x,v,.val d,none⟩::l,((List.map_cons ..).trans (congrArg _ (z1 ..))),((List.map_cons ..).trans (congrArg _ (z2 ..))),((List.map_cons ..).trans (congrArg _ (z3 ..))),by rw[List.map_cons,z4,List.map_cons],((List.filterMap_cons ..).trans z5),fun e he=>?_⟩;rcases List.mem_cons.mp he with rfl|he
    ·exact⟨q1,rfl⟩
    ·exact z6 e he
theorem HJ:∀(is:List Nat) (vs:List AV) (ρ:List LV),setN is vs ρ=Tw is (vs.map .val) ρ:=by
 intro zz
 induction zz with
 | nil=>
  intro _ _;exact rfl
 | cons i is ih=>
  intro zy;rcases zy with _|⟨v,vs⟩
  ·
   intro _;exact rfl
  ·
   intro ρ;exact ih vs _
end
section
variable {X:Qu}{n:Nat}{Φ:Qj}{env:Env}{names:List Str}
variable {A:Around}{P0 g g1:PM}{P:PF}{s:Shared}{E:VP}{fl:Bool}{own:Nat->Option Addr}{ρ:List LV}{D D':Q8}{nk:List (Str×NameKind)}{o:List Nat}{W:Nat}
theorem Ng{ts:List Expr}{k:Nat}{tp:Pos}{e:Expr}(h:ND e=true):swappedStores [.Tuple ts k tp] e env=pure none:=by
 rcases e with _|_<;>first|rfl|exact Bool.noConfusion h
set_option tactic.hygienic true in
theorem VB(ok:QS env nk){tps:List (Str×Pos)}{e:Expr}{ir:IR}{is:List Nat}{k:Nat}{tp pos:Pos}(h2l:is.length=tps.length)
  (hsl:∀p∈is.zip (tps.map (·.1)),Z4 env names p.1 p.2) (hc:Y5 e=true) (ht:ND e=true) (h0:Qg X n Φ env names e ir):
  Qq X n Φ env names fl (PySem.exec (.Assign [.Tuple (tps.map fun p=>.Name p.1 p.2) k tp] e pos) env) (exec Φ fl o W (.unpack is ir)):=fun A P0 P own g ρ ρ' D D' out s Q E R h hne F hQ=>by
 dsimp only[exec] at h;refine cps fun U y0=>?_;refine kT h ?_;clear h;intro ds D1 h1 h
 split at h<;>first|exact Qf h|cases h
 refine y0 ?_;rename_i hap;refine(PyProof.Rows.exec_Assign ..).symm▸?_;refine Q0 (Q4 (Q9 (wpAny_of_eq (a:=false) (by unfold swapsWithSole;exact YS hc) ?_)));refine Qk (if_neg Bool.false_ne_true) ?_;refine Q0 (h0 A P0 P fl own g ρ D D' (.tuple ds) s _ E R h1 F fun v g1 H1 t1 G1 dk1 r1=>?_);refine Q9 (wpAny_of_eq (Ng ht) ?_);have F1:=F.grow G1 dk1;refine cps fun U y0=>?_;obtain⟨a,items,rfl,ha,hv⟩:=r1.tuple_at (s:={ s with heap:=H1,toks:=t1 }) G1.sub;obtain⟨l,z1,z2,z3,z4,z5,z6⟩:=Xb (is:=is) (xs:=tps.map (·.1)) hv hap.1 (((List.length_map ..).trans h2l.symm)) H1;refine y0 ?_;have key:=JE (s:={ s with heap:=H1,toks:=t1 }) (A:=A) (E:=E) (tp:=tp) (k:=k) (Q:=fun Z s'=>QD X.M A (pure Flow.next) Q E s') ok R.hd F1 ha z1 z3 (fun e hm=>⟨hsl (e.i,e.x) (by
   have:(l.map fun e=>(e.i,e.x))=is.zip (tps.map (·.1)):=by
    rw[<- z2,<-z3,List.zip_map',]
   refine(this ..)▸?_;exact List.mem_map_of_mem (f:=fun e:Ent=>(e.i,e.x)) hm),(z6 e hm).1,fun a q=>by rw[(z6 e hm).2] at q;exact Qf q⟩) ((Eq.mpr (congrArg _ (z5 ..)) List.nodup_nil)) (by rw[z2];exact UW hap.2) fun h' tk own' F3=>Q7 ?_
 ·have goal:=Q9 (f:=fun Z=>(pure Flow.next:Sem Flow)) key;exact goal
 ·rw[YA,z2,z4,<-HJ] at F3;exact hQ .next h' tk ⟨rfl,g1,own',F3⟩
theorem Tz{c:Code}{Q:Flow->Shared->Prop}(hc:ZU X.M (A.mark none) c (fun r s'=>match r with|.ok f=>Q f s'|.error _=>False) s):QD X.M A (runOwn c env) Q E s:=by
 refine QP (Vp (Wg hc fun r s' hr=>?_) nofun);cases r with
 | ok f=>exact hr
 | error e=>exact hr.elim
theorem FO{t:Expr}{b:List Stmt}{it:IR}{sb:List SR}(ht:ZN X n Φ env names t it)(hb:Qq X n Φ env names fl (PySem.execs b env) (execs Φ fl o W sb))(R:Ze A n):
  ∀(w:Nat) (own:Nat->Option Addr) (g:PM) (ρ ρ':List LV) (D D':Q8) (out:Out) (s:Shared) (Rr:Result->Shared->Prop),
   iter (fun ρ D=>truthOf Φ it ρ D) (fun ρ D=>execs Φ fl o W sb ρ D) w ρ D=some (out,ρ',D')->(∀v,out≠.exc v)->Z6 X P0 P fl env names own g ρ D s.heap->
   (∀f h' tk,OJ X P0 P fl env names ρ' D' h' out f->Rr (.ok f) { s with heap:=h',toks:=tk })->ZU X.M A (.whileLoop t b [] env) Rr s:=by
 intro zz
 induction zz with
 | zero=>
  intro _ _ _ _ _ _ _ _ _ h _ _ _;dsimp only[iter] at h;exact Qf h
 | succ w ih=>
  intro own g ρ ρ' D D' out s Rr h hne F hQ;dsimp only[iter] at h;refine Qx rfl ?_;rw[Around.under_of_weight rfl rfl];refine QP ?_;unfold truthOf at h;rcases e1:run Φ it ρ D with _|r
  ·rw[e1] at h;exact Qf h
  ·
   refine cps fun U y0=>?_;obtain⟨x,D1⟩:=r;refine y0 ?_;replace h:=e1▸h;dsimp only at h;rcases e2:x.truth with _|c
   ·rw[e2] at h;exact Qf h
   ·
    replace h:=e2▸h;dsimp only at h;refine Q0 (ht A P0 P fl own g ρ D D1 x c s _ _ R e1 e2 F fun g1 H1 t1 G1 dk1=>?_);have F1:=F.grow G1 dk1;rcases c with _|_
    ·
     refine cps fun U y0=>?_;replace h:=V2 h;obtain⟨rfl,rfl,rfl⟩:=h;refine y0 ?_;refine Qk (if_neg Bool.false_ne_true) ?_;refine Q0 (Q7 (Q7 ?_));exact hQ .next H1 t1 ⟨rfl,g1,own,F1⟩
    ·
     dsimp only at h;refine Qk (if_pos rfl) ?_;rcases e3:execs Φ fl o W sb ρ D1 with _|r
     ·rw[e3] at h;exact Qf h
     ·
      refine cps fun U y0=>?_;obtain⟨o1,ρ1,D2⟩:=r;refine y0 ?_;replace h:=e3▸h;rcases o1 with _|d|v
      ·
       refine Q0 (hb A P0 P own g1 ρ ρ1 D1 D2 .next { s with heap:=H1,toks:=t1 } _ _ R e3 (fun v q=>by cases q) F1 fun f h2 tk2 hr=>?_);obtain⟨rfl,g2,own2,F2⟩:=hr;refine Q7 ⟨rfl,?_⟩;exact ih own2 g2 ρ1 ρ' D2 D' out _ Rr h hne F2 hQ
      ·
       replace h:=V2 h;obtain⟨rfl,rfl,rfl⟩:=h;refine Q0 (hb A P0 P own g1 ρ _ D1 _ (.ret d) { s with heap:=H1,toks:=t1 } _ _ R e3 (fun v q=>by cases q) F1 fun f h2 tk2 hr=>?_);have hr':=hr;refine cps fun U y0=>?_;obtain⟨v,g2,rfl,_⟩:=hr;refine y0 ?_;exact Q7 (hQ _ h2 tk2 hr')
      ·cases h;exact absurd rfl (hne v)
theorem Xg{t:Expr}{b:List Stmt}{it:IR}{sb:List SR}{pos:Pos}(ht:ZN X n Φ env names t it)(hb:Qq X n Φ env names fl (PySem.execs b env) (execs Φ fl o W sb)):
  Qq X n Φ env names fl (PySem.exec (.While t b [] pos) env) (exec Φ fl o W (.whiles it sb)):=fun A P0 P own g ρ ρ' D D' out s Q E R h hne F hQ=>by
 dsimp only[exec] at h;refine(exec_While ..).symm▸?_;refine Q0 (Q4 (Tz ?_));have e:A.mark none=A:=rfl;refine(e ..)▸?_;exact FO ht hb R W own g ρ ρ' D D' out s _ h hne F hQ
end
section
variable {X:Qu}{P0 g g':PM}{P:PF}{fl:Bool}{env:Env}{names:List Str}{own own':Nat->Option Addr}{ρ ρ':List LV}{D D':Q8}{h h':Heap}{I:Addr}{o:Obj}
theorem Z6.step(F:Z6 X P0 P fl env names own g ρ D h)(hf:Zw X P env own g h I)(keep:∀b o,b≠I->h.get? b=some o->h'.get? b=some o)(hI:P0 I=none):Z6 X P0 P fl env names own g ρ D h':=by
 have alive:∀b,b≠I->(h.get? b).isSome->(h'.get? b).isSome:=fun b q hb=>by
  obtain⟨o,ho⟩:=Option.isSome_iff_exists.mp hb;rw[keep b o q ho];rfl
 have nz:∀b o,g b=some o->b≠I:=fun b o e q=>by rw[q,hf.g] at e;exact Qf e
 have rd:∀x v,Rd env h x v->Rd env h' x v:=fun x v y=>by
  rcases y with⟨a,m,⟨o,es,ep,e,r⟩,c⟩|⟨a,c,b,⟨o,e,d⟩⟩
  ·exact .inl ⟨a,m,⟨o,es,ep,keep _ _ (Ne.symm hf.l) e,r⟩,c⟩
  ·exact .inr ⟨a,c,b,o,keep _ _ (hf.c _ _ b) e,d⟩
 refine
  {sub:=fun b o e=>keep b o (nz b o e) (F.sub b o e)
   st:=F.st
   prot:=fun b o e=>keep b o (fun q=>by rw[q,hf.p] at e;exact Qf e) (F.prot b o e)
   deck:=?_
   flag:=F.flag
   slot:=fun i x lv h1 h2=>(F.slot i x lv h1 h2).grow (rd x) (PM.le.refl g) fun a ha o e=>keep _ _ (fun q=>hf.o i (((ha ..).trans (congrArg _ (q ..))))) e
   len:=F.len
   ns:=let⟨m,o,es,ep,e,r⟩:=F.ns;⟨m,o,es,ep,keep _ _ (Ne.symm hf.l) e,r⟩
   lg:=F.lg
   lp:=F.lp
   ld:=F.ld
   og:=fun i a ha=>let⟨h1,h2,h3,h4,h5⟩:=F.og i a ha;⟨h1,h2,h3,h4,alive _ (fun q=>hf.o i (((ha ..).trans (congrArg _ (q ..))))) h5⟩
   oi:=F.oi
   cg:=fun x c e=>let⟨h1,h2,h3,h4,h5,v,o,h6,h7⟩:=F.cg x c e;⟨h1,h2,h3,h4,h5,v,o,keep _ _ (hf.c x c e) h6,h7⟩
   ci:=F.ci
   dg:=fun b hb=>let⟨h1,h2,h3⟩:=F.dg b hb;⟨h1,h2,alive _ (fun q=>hf.d ((Eq.mpr (congrArg _ (q ..).symm) hb))) h3⟩
   p0:=fun b o e=>alive _ (fun q=>by rw[q,hI] at e;exact Qf e) (F.p0 b o e)
   base:=F.base
   gn:=F.gn
   gu:=F.gu }
 rcases F.deck with e|⟨e1,e2,e3,⟨t1,t2,e4⟩,o,vs,n,e5,e6⟩
 ·exact .inl e
 ·have da:X.da≠I:=fun q=>hf.d (by rw[e1,<-q];exact List.mem_cons_self);have ca:X.ca≠I:=fun q=>hf.d (by rw[e1,<-q];exact List.mem_cons_of_mem _ List.mem_cons_self);refine .inr ⟨e1,e2,e3,⟨t1,t2,?_⟩,o,vs,n,keep _ _ ca e5,e6⟩;obtain⟨o',es,ep,q1,q2⟩:=e4;exact⟨o',es,ep,keep _ _ da q1,q2⟩
theorem Zw.step(hf:Zw X P env own g h I)(live:(h'.get? I).isSome):Zw X P env own g h' I:=⟨hf.g,hf.p,hf.d,hf.l,live,hf.c,hf.o⟩
noncomputable abbrev PF.hold(P:PF)(I:Addr)(o:Obj)(g:PM):PF:=⟨P.pr.add I o,g⟩
theorem Z6.hold(F:Z6 X P0 P fl env names own g ρ D h)(hf:Zw X P env own g h I)(ho:h.get? I=some o)(hc:o.cls≠.type "dict"):Z6 X P0 (P.hold I o g) fl env names own g ρ D h:=by
 have off:∀b,b≠I->P.pr.add I o b=P.pr b:=fun b q=>if_neg q;exact
  {sub:=F.sub
   st:=F.st
   prot:=fun b o' e=>by
    by_cases q:b=I
    ·subst q;have:P.pr.add b o b=some o:=if_pos rfl;change P.pr.add b o b=_ at e;replace e:=Eq.trans this.symm e;obtain rfl:=so e;exact ho
    ·change P.pr.add I o b=_ at e;rw[off b q] at e;exact F.prot b o' e
   deck:=F.deck
   flag:=fun hfl b o' e=>by
    by_cases q:b=I
    ·subst q;have:P.pr.add b o b=some o:=if_pos rfl;change P.pr.add b o b=_ at e;rw[this] at e;obtain rfl:=so e;exact .inr hc
    ·change P.pr.add I o b=_ at e;rw[off b q] at e;exact F.flag hfl b o' e
   slot:=F.slot
   len:=F.len
   ns:=F.ns
   lg:=F.lg
   lp:=(off _ (Ne.symm hf.l)).trans F.lp
   ld:=F.ld
   og:=fun i a ha=>let⟨h1,h2,h3,h4,h5⟩:=F.og i a ha;⟨h1,(off a fun q=>hf.o i (((ha ..).trans (congrArg _ (q ..))))).trans h2,h3,h4,h5⟩
   oi:=F.oi
   cg:=fun x c e=>let⟨h1,h2,h3,h4,h5,h6⟩:=F.cg x c e;⟨h1,h2,h3,h4,(off c (hf.c x c e)).trans h5,h6⟩
   ci:=F.ci
   dg:=fun b hb=>let⟨h1,h2,h3⟩:=F.dg b hb;⟨h1,(off b fun q=>hf.d ((Eq.mpr (congrArg _ (q ..).symm) hb))).trans h2,h3⟩
   p0:=F.p0
   base:=F.base
   gn:=fun b o' e=>.inl e
   gu:=fun b o' e=>.inl e }
theorem Z6.free(F:Z6 X P0 P fl env names own g ρ D h)(hf:Zw X P env own g h I)(F':Z6 X P0 (P.hold I o g) fl env names own' g' ρ' D' h'):
  Z6 X P0 P fl env names own' g' ρ' D' h'/\Zw X P env own' g' h' I/\h'.get? I=some o:=by
 have onI:P.pr.add I o I=some o:=if_pos rfl;have off:∀b,P.pr.add I o b=none->P.pr b=none/\b≠I:=fun b e=>by
  by_cases q:b=I
  ·refine False.elim ?_;subst q;rw[onI] at e;exact Qf e.symm
  ·have:P.pr.add I o b=P.pr b:=if_neg q;rw[this] at e;exact⟨e,q⟩
 have gI:g' I=none:=by
  rcases q:g' I with _|o2
  ·rfl
  ·
   rcases F'.gn I o2 q with e|e
   ·change g I=_ at e;exact Qf (hf.g.symm.trans e)
   ·have:=(off I e).2;exact absurd rfl this
 have hI:=F'.prot I o onI;refine⟨?_,⟨gI,hf.p,hf.d,Ne.symm (off _ F'.lp).2,congrArg _ (hI ..),fun x c e=>(off c (F'.cg x c e).2.2.2.2.1).2,fun i e=>(off I (F'.og i I e).2.1).2 rfl⟩,hI⟩;exact
  {sub:=F'.sub
   st:=F'.st
   prot:=fun b o' e=>F'.prot b o' (by
    have:P.pr.add I o b=P.pr b:=if_neg fun q=>by rw[q,hf.p] at e;exact Qf e
    exact this.trans e)
   deck:=F'.deck
   flag:=F.flag
   slot:=F'.slot
   len:=F'.len
   ns:=F'.ns
   lg:=F'.lg
   lp:=(off _ F'.lp).1
   ld:=F'.ld
   og:=fun i a ha=>let⟨h1,h2,h3,h4,h5⟩:=F'.og i a ha;⟨h1,(off a h2).1,h3,h4,h5⟩
   oi:=F'.oi
   cg:=fun x c e=>let⟨h1,h2,h3,h4,h5,h6⟩:=F'.cg x c e;⟨h1,h2,h3,h4,(off c h5).1,h6⟩
   ci:=F'.ci
   dg:=fun b hb=>let⟨h1,h2,h3⟩:=F'.dg b hb;⟨h1,(off b h2).1,h3⟩
   p0:=F'.p0
   base:=F'.base
   gn:=fun b o' e=>by
    rcases F'.gn b o' e with q|q
    ·exact F.gn b o' q
    ·exact .inr (off b q).1
   gu:=F.gu.trans F'.gu }
theorem Done.free(F:Z6 X P0 P fl env names own g ρ D h)(hf:Zw X P env own g h I)(F':Done X P0 (P.hold I o g) g' D' h'):Done X P0 P g' D' h':=by
 have onI:P.pr.add I o I=some o:=if_pos rfl;have off:∀b,P.pr.add I o b=none->P.pr b=none/\b≠I:=fun b e=>by
  by_cases q:b=I
  ·refine False.elim ?_;subst q;rw[onI] at e;cases e
  ·have:P.pr.add I o b=P.pr b:=if_neg q;rw[this] at e;exact⟨e,q⟩
 exact
  {sub:=F'.sub
   prot:=fun b o' e=>F'.prot b o' (by
    have:P.pr.add I o b=P.pr b:=if_neg fun q=>by rw[q,hf.p] at e;exact Qf e
    exact this.trans e)
   deck:=F'.deck
   dg:=fun b hb=>let⟨h1,h2,h3⟩:=F'.dg b hb;⟨h1,(off b h2).1,h3⟩
   gn:=fun b o' e=>by
    rcases F'.gn b o' e with q|q
    ·exact F.gn b o' q
    ·exact .inr (off b q).1
   gu:=F.gu.trans F'.gu }
end
noncomputable def Hr(o:Obj):Prop:=∃nm,o.cls=.type nm/\nm∈["list_iterator","tuple_iterator","bytes_iterator","str_ascii_iterator","range_iterator"]
theorem Hr.nd{o:Obj}(h:Hr o):o.cls≠.type "dict":=by
 obtain⟨nm,e,hm⟩:=h;refine(e ..).symm▸?_;intro q;cases q;revert hm;decide
structure Vk(X:Qu)(A:Around)(I:Addr)(P0 g0:PM)(l:List AV)(fp:List Addr)(Pp:Nat->Value->Prop)(St:Nat->Heap->Prop):Prop where
 w:Walks pw X.w A I fp [I] l.length Pp St
 cls:∀i h,St i h->∃o,h.get? I=some o/\Hr o
 fp:∀b∈fp,b=I\/∃o,g0 b=some o/\o.cls≠.type "dict"
 vr:∀i v d,Pp i v->l[i]?=some d->VR X P0 g0 d v
noncomputable def Ge(X:Qu)(env:Env)(names:List Str)(target:Expr)(is:List Nat):Prop:=
 ∀(A:Around) (P0:PM) (P:PF) (fl:Bool) (own:Nat->Option Addr) (g:PM) (ρ ρ0:List LV) (D:Q8) (d:AV) (v:Value) (I:Addr) (o:Obj) (s:Shared) (Q:Unit->Shared->Prop) (E:VP),
  A.handled=none->Z6 X P0 P fl env names own g ρ D s.heap->s.heap.get? I=some o->Hr o->VR X P0 g d v->S8 is d ρ=some ρ0->
  (∀h' tk own',Z6 X P0 P fl env names own' g ρ0 D h'->Q () { s with heap:=h',toks:=tk })->
  wpAny X.M A (letOwnedTupleGo target (.ref I) v) (fun Z s'=>wpAny X.M A (assign target env v) Q E s') E s
section
variable {X:Qu}{n:Nat}{Φ:Qj}{env:Env}{names:List Str}
variable {A:Around}{P0 g0 g g1:PM}{P:PF}{s:Shared}{E:VP}{fl:Bool}{own:Nat->Option Addr}{ρ:List LV}{D D':Q8}{nk:List (Str×NameKind)}{o:List Nat}{W:Nat}
theorem RQ(ok:QS env nk){x:Str}{p:Pos}{i:Nat}(hx:Z4 env names i x):Ge X env names (.Name x p) [i]:=fun A P0 P fl own g ρ ρ0 D d v I o s Q E hh F hI hc hv hp hQ=>by
 have hp':some (ρ.set i (.val d))=some ρ0:=hp;obtain rfl:=so hp';refine wpAny_pure ?_;refine wpAny_bind (wpAny_standAt (JQ (lv:=.val d) (oa:=own i) ok F hx.at_ hx.un hx.wr hv (.inl rfl) fun h' tk same F'=>hQ h' tk _ F'))
theorem put2{C:Prop}{i j:Nat}{d:AV}{ρ ρ0:List LV}(h:S8 [i,j] d ρ=some ρ0)(k:∀x y,d=.tuple [x,y]->apart [i,j]=true->some (setN [i,j] [x,y] ρ)=some ρ0->C):C:=by
 rcases d with _|_|_|_|_|_|l|_<;>try exact Qf h
 rcases l with _|⟨x,_|⟨y,_|_⟩⟩<;>try exact Qf h
 exact k x y rfl (QL h).1 (QL h).2
theorem RP(ok:QS env nk){x y:Str}{px py tp:Pos}{k i j:Nat}(hx:Z4 env names i x)(hy:Z4 env names j y):Ge X env names (.Tuple [.Name x px,.Name y py] k tp) [i,j]:=fun A P0 P fl own g ρ ρ0 D d v I o s Q E hh F hI hc hv hp hQ=>by
 refine cps fun U y0=>?_;refine put2 hp ?_;clear hp;rintro d1 d2 rfl hap hp;revert hQ;apply zI hp;intro hQ;obtain⟨a,items,rfl,ha,hvs⟩:=hv.tuple_at (s:=s) F.sub;refine y0 ?_;have key:wpAny X.M A (assign (.Tuple [.Name x px,.Name y py] k tp) env (.ref a)) Q E s:=by
  refine cps fun U y0=>?_;obtain⟨l,z1,z2,z3,z4,z5,z6⟩:=Xb (is:=[i,j]) (xs:=[x,y]) hvs rfl rfl s.heap;refine y0 ?_;have h2:[x,y]=[(x,px),(y,py)].map (·.1):=rfl;refine JE (tps:=[(x,px),(y,py)]) (tp:=tp) (k:=k) ok hh F ha z1 (z3.trans h2) (fun e hm=>⟨?_,(z6 e hm).1,fun a q=>by rw[(z6 e hm).2] at q;exact Qf q⟩) ((Eq.mpr (congrArg _ (z5 ..)) List.nodup_nil)) (by rw[z2];exact UW hap) fun h' tk own' F3=>?_
  ·have hz:(l.map fun e=>(e.i,e.x))=[i,j].zip [x,y]:=by
    rw[<- z2,<-z3,List.zip_map']
   have hm':(e.i,e.x)∈[i,j].zip [x,y]:=by
    refine(hz ..)▸?_;exact List.mem_map_of_mem (f:=fun e:Ent=>(e.i,e.x)) hm
   simp only[List.zip_cons_cons,List.zip_nil_right,List.mem_cons,Prod.mk.injEq,List.not_mem_nil,or_false] at hm';rcases hm' with⟨q1,q2⟩|⟨q1,q2⟩
   ·rw[q1,q2];exact hx
   ·rw[q1,q2];exact hy
  ·rw[YA,z2,z4,<-HJ] at F3;exact hQ h' tk own' F3
 refine wpAny_bind (wpAny_load hI ?_);refine cps fun U y0=>?_;obtain⟨nm,e,hm⟩:=hc;refine y0 ?_;refine(e ..).symm▸?_;generalize o.data=dt;rcases dt with _|_<;>try exact wpAny_pure key
 dsimp only;rw[if_neg]
 ·exact wpAny_pure key
 ·intro q;rw[Bool.and_eq_true] at q;have:=q.1;revert hm this;simp only[List.mem_cons,List.not_mem_nil,or_false];rintro(rfl|rfl|rfl|rfl|rfl)<;>decide
theorem Ij{target:Expr}{b:List Stmt}{is:List Nat}{sb:List SR}{I:Addr}{l:List AV}{fp:List Addr}{Pp:Nat->Value->Prop}{St:Nat->Heap->Prop}
  (hT:Ge X env names target is) (hb:Qq X n Φ env names fl (PySem.execs b env) (execs Φ fl o W sb)) (R:Ze A n) (Wk:Vk X A I P0 g0 l fp Pp St) (hP0:P0 I=none):
  ∀(k:List AV) (i:Nat) (own:Nat->Option Addr) (g:PM) (ρ ρ':List LV) (D D':Q8) (out:Out) (s:Shared) (Rr:Result->Shared->Prop),
   l.drop i=k->i<=l.length->AV.noStrDs k=true->St i s.heap->PM.leM P0 g0 g->Z6 X P0 P fl env names own g ρ D s.heap->Zw X P env own g s.heap I->
   JV is (fun ρ D=>execs Φ fl o W sb ρ D) k ρ D=some (out,ρ',D')->(∀v,out≠.exc v)->
   (∀f h' tk,OJ X P0 P fl env names ρ' D' h' out f->Rr (.ok f) { s with heap:=h',toks:=tk })->ZU X.M A (.forLoop target (.ref I) b [] env) Rr s:=by
 intro zz
 induction zz with
 | nil=>
  intro i own g ρ ρ' D D' out s Rr hk hil hnd hst hg F hf h hne hQ;dsimp only[JV] at h;refine cps fun U y0=>?_;replace h:=V2 h;obtain⟨rfl,rfl,rfl⟩:=h;have hi:i=l.length:=by have:=List.drop_eq_nil_iff.mp hk;lia
  subst hi;refine y0 ?_;refine Qx rfl ?_;rw[Around.under_of_weight rfl rfl];refine QP ?_;refine Q0 (Q4 ?_);refine Q0 (QP (Q3 (Wk.w.done s _ _ hst fun h' tk keep=>?_)));refine Q7 ⟨rfl,?_⟩;refine Kc (codeAny_block (wpAny_execs_nil ?_));exact hQ .next h' tk ⟨rfl,g,own,F.step hf (fun b o hb e=>keep b o (fun q=>hb (List.mem_singleton.mp q)) e) hP0⟩
 | cons v r ih=>
  intro i own g ρ ρ' D D' out s Rr hk hil hnd hst hg F hf h hne hQ;have hlt:i < l.length:=by
   rcases Nat.lt_or_ge i l.length with q|q
   ·exact q
   ·rw[List.drop_eq_nil_iff.mpr q] at hk;exact(nomatch hk)
  have hiv:l[i]?=some v:=by
   have:=List.getElem?_drop (xs:=l) (i:=i) (j:=0);rw[hk] at this;simpa using this.symm
  have hk':l.drop (i+1)=r:=by
   have:=List.drop_drop (i:=1) (j:=i) (l:=l);rw[hk] at this;simpa using this.symm
  dsimp only[AV.noStrDs] at hnd;rw[Bool.and_eq_true] at hnd;dsimp only[JV] at h;rcases e0:S8 is v ρ with _|ρ0
  ·rw[e0] at h;exact Qf h
  ·
   replace h:=e0▸h;dsimp only at h;refine Qx rfl ?_;rw[Around.under_of_weight rfl rfl];refine QP ?_;refine Q0 (Q4 ?_);refine Q0 (QP (Q3 (Wk.w.item i s _ _ hlt hst fun u h1 t1 hPu st1 keep=>?_)));have keep':∀b o,b≠I->s.heap.get? b=some o->h1.get? b=some o:=fun b o hb e=>keep b o (fun q=>hb (List.mem_singleton.mp q)) e;obtain⟨it,hit,hcls⟩:=Wk.cls _ _ st1;have F1:=F.step hf keep' hP0;have hf1:Zw X P env own g h1 I:=hf.step (congrArg _ (hit ..));have F2:=F1.hold hf1 hit hcls.nd;have hv:=VR.upM hg hnd.1 (Wk.vr i u v hPu hiv);refine Q9 (wpAny_mono (hT A P0 _ fl own g ρ ρ0 D v u I it { s with heap:=h1,toks:=t1 } (fun Z s'=>QD X.M A _ _ _ s') _ R.hd F2 hit hcls hv e0 fun h2 t2 own2 F3=>?_) (fun Z s' hs=>Q9 hs) fun Z Z he=>he);have Gm:∀(h':Heap) (g':PM),PM.leM P0 g g'->PM.le g' h'.get?->h'.get? I=some it->St (i+1) h':=fun h' g' lm sb hI=>by
    refine Wk.w.frame _ _ _ st1 fun b hb ob e=>?_;rcases Wk.fp b hb with rfl|⟨o2,q1,q2⟩
    ·rw[hit] at e;obtain rfl:=so e;exact hI
    ·rcases hg b o2 q1 with z|z
     ·have z2:=F1.sub b o2 z;replace z2:=Eq.trans e.symm z2;refine cps fun U y0=>?_;obtain rfl:=so z2;refine y0 ?_;exact sb _ _ (lm.keep z q2)
     ·obtain⟨_,_,_,_,_,_,_,_,_,_,e2,_⟩:=z;subst e2;exact absurd H8 q2
   rcases e3:execs Φ fl o W sb ρ0 D with _|rr
   ·rw[e3] at h;exact Qf h
   ·
    refine cps fun U y0=>?_;obtain⟨o1,ρ1,D2⟩:=rr;refine y0 ?_;replace h:=e3▸h;rcases o1 with _|d|v
    ·
     refine Q0 (hb A P0 _ own2 g ρ0 ρ1 D D2 .next { s with heap:=h2,toks:=t2 } _ _ R e3 (fun v q=>by cases q) F3 fun f h3 tk3 hr=>?_);refine cps fun U y0=>?_;obtain⟨rfl,g3,own3,F4⟩:=hr;obtain⟨F5,hf5,hI5⟩:=F1.free hf1 F4;refine y0 ?_;have lm:PM.leM P0 g g3:=F4.gu;refine Q7 ⟨rfl,?_⟩;exact ih (i+1) own3 g3 ρ1 ρ' D2 D' out _ Rr hk' hlt hnd.2 (Gm h3 g3 lm F5.sub hI5) (hg.trans lm) F5 hf5 h hne hQ
    ·
     replace h:=V2 h;obtain⟨rfl,rfl,rfl⟩:=h;refine Q0 (hb A P0 _ own2 g ρ0 _ D _ (.ret d) { s with heap:=h2,toks:=t2 } _ _ R e3 (fun v q=>by cases q) F3 fun f h3 tk3 hr=>?_);refine cps fun U y0=>?_;obtain⟨v,g3,rfl,hv3,hd3⟩:=hr;refine y0 ?_;exact Q7 (hQ _ h3 tk3 ⟨v,g3,rfl,hv3,Done.free F1 hf1 hd3⟩)
    ·cases h;exact absurd rfl (hne v)
end
section
variable {X:Qu}{n:Nat}{Φ:Qj}{env:Env}{names:List Str}
variable {A:Around}{P0 g0 g g1:PM}{P:PF}{s:Shared}{E:VP}{fl:Bool}{own:Nat->Option Addr}{ρ:List LV}{D D':Q8}{nk:List (Str×NameKind)}{o:List Nat}{W:Nat}
theorem Qo.nth:∀{ds:List AV} {vs:List Value} {i:Nat} {d:AV} {v:Value},Qo X P0 g ds vs->ds[i]?=some d->vs[i]?=some v->VR X P0 g d v:=by
 intro zz
 induction zz with
 | nil=>
  intro _ _ _ _ _ h _;simp at h
 | cons d ds ih=>
  intro vs zy;rcases zy with _|i
  ·
   intro _ _ h h1 h2;dsimp only[Qo] at h;obtain⟨v,r,rfl,q,_⟩:=h;simp at h1 h2;subst h1 h2;exact q
  ·
   intro _ _ h h1 h2;dsimp only[Qo] at h;obtain⟨v,r,rfl,_,q⟩:=h;exact ih q (by simpa using h1) (by simpa using h2)
theorem Vd{e:Expr}(h:Kz e=true)(x:Value):foldedSetIterable e env x=pure x:=by
 rcases e with _|_<;>first|rfl|exact Bool.noConfusion h
theorem H6{d:AV}{l:List AV}{v:Value}{Q:VP}(hh:A.handled=none)(hs:PM.le g s.heap.get?)(hv:VR X P0 g d v)(hl:Ut d=some l)(hz:l.length<=65536)
  (hQ:∀o fp Pp St,Vk X A s.heap.objs.size P0 g l fp Pp St->St 0 (s.heap.push o)->Q (.ref s.heap.objs.size) { s with heap:=s.heap.push o }):wpAny X.M A (pyIter v) Q E s:=by
 have off:∀a,(s.heap.get? a).isSome->a≠s.heap.objs.size:=fun a ha q=>by rw[q,Zj] at ha;exact Bool.false_ne_true ha
 have keep:∀ob b oc,s.heap.get? b=some oc->(s.heap.push ob).get? b=some oc:=fun ob b oc e=>Heap.get?_push_of_some _ e;cases d with
 | list ds=>
  cases hl;have hv0:=hv;obtain⟨a,items,rfl,ha,hvs⟩:=hv.list_at (s:=s) hs;have hlen:=hvs.len;have hla:a≠s.heap.objs.size:=by obtain⟨_,e,_⟩:=ha;exact off a (by rw[e];rfl)
  refine wpAny_pyIter_list ha (hQ _ [s.heap.objs.size,a] (fun i v=>items[i]?=some v) (fun i h=>h.IsListIter s.heap.objs.size a i/\h.IsList a items) ⟨?_,fun i h st=>?_,fun b hb=>?_,fun i v d hP hd=>?_⟩ ⟨⟨_,Heap.get?_push_size _ rfl,rfl,rfl⟩,ha.push _⟩)
  ·have:=Walks.list (prog:=pw) (w:=X.w) hh s.heap.objs.size a hla items;have hsz:items.size=l.length:=by rw[<- Array.length_toList,hlen]
   rw[hsz] at this;exact this
  ·obtain⟨⟨o,h1,h2,_⟩,_⟩:=st;exact⟨o,h1,_,h2,by decide⟩
  ·rcases List.mem_cons.mp hb with q|q
   ·exact .inl q
   ·rw[List.mem_singleton.mp q];dsimp only[VR] at hv0;obtain⟨a',o,vs,n,e,h1,h2,_⟩:=hv0;cases e;exact .inr ⟨o,h1,by rw[h2];decide⟩
  ·exact hvs.nth hd (by rw[Array.getElem?_toList];exact hP)
 | tuple ds=>
  cases hl;have hv0:=hv;obtain⟨a,items,rfl,ha,hvs⟩:=hv.tuple_at (s:=s) hs;have hlen:=hvs.len;have hla:a≠s.heap.objs.size:=by obtain⟨_,e,_⟩:=ha;exact off a (by rw[e];rfl)
  refine wpAny_pyIter_tuple ha (hQ _ [s.heap.objs.size,a] (fun i v=>items[i]?=some v) (fun i h=>h.IsTupleIter s.heap.objs.size a i/\h.IsTuple a items) ⟨?_,fun i h st=>?_,fun b hb=>?_,fun i v d hP hd=>?_⟩ ⟨⟨_,Heap.get?_push_size _ rfl,rfl,rfl⟩,ha.push _⟩)
  ·have:=Walks.tuple (prog:=pw) (w:=X.w) hh s.heap.objs.size a hla items;have hsz:items.size=l.length:=by rw[<- Array.length_toList,hlen]
   rw[hsz] at this;exact this
  ·obtain⟨⟨o,h1,h2,_⟩,_⟩:=st;exact⟨o,h1,_,h2,by decide⟩
  ·rcases List.mem_cons.mp hb with q|q
   ·exact .inl q
   ·rw[List.mem_singleton.mp q];dsimp only[VR] at hv0;refine cps fun U y0=>?_;obtain⟨a',o,vs,n,e,h1,h2,_⟩:=hv0;cases e;refine y0 ?_;exact .inr ⟨o,h1,by rw[h2];decide⟩
  ·exact hvs.nth hd (by rw[Array.getElem?_toList];exact hP)
 | bytes bs=>
  unfold Ut at hl;dsimp only at hl;refine Ha hl ?_;clear hl;intro _ hl;replace hl:=so hl;subst hl;dsimp only[VR] at hv;obtain⟨b,t,rfl,rfl⟩:=hv;refine KBw.pyIter_bytes (hQ _ [s.heap.objs.size] (fun i v=>∃c u,b[i]?=some c/\v=.int (c.toNat:Int) u) (fun i h=>KBw.IsBytesIter h s.heap.objs.size b t i) ⟨?_,fun i h st=>?_,fun b hb=>.inl (List.mem_singleton.mp hb),fun i v d hP hd=>?_⟩ ⟨_,Heap.get?_push_size _ rfl,rfl,rfl⟩)
  ·have:=KBw.walks (prog:=pw) (w:=X.w) hh s.heap.objs.size b t;rw[<- Array.length_toList] at this;rw[List.length_map,List.length_map];exact this
  ·obtain⟨o,h1,h2,_⟩:=st;exact⟨o,h1,_,h2,by decide⟩
  ·obtain⟨c,u,hc,rfl⟩:=hP;rw[List.getElem?_map,List.getElem?_map,Array.getElem?_toList,hc] at hd;obtain rfl:=so hd;dsimp only[VR];exact⟨u,rfl⟩
 | str x=>
  unfold Ut at hl;dsimp only at hl;refine Ha hl ?_;clear hl;intro ha hl;replace hl:=so hl;subst hl;dsimp only[VR] at hv;obtain⟨b,t,rfl,rfl⟩:=hv;refine wpAny_pyIter_ascii (((Array.all_toList ..).symm.trans ha)) (hQ _ [s.heap.objs.size] (SignAt b) (fun i h=>h.IsStrIter s.heap.objs.size "str_ascii_iterator" b t i) ⟨?_,fun i h st=>?_,fun b hb=>.inl (List.mem_singleton.mp hb),fun i v d hP hd=>?_⟩ ⟨_,Heap.get?_push_size _ rfl,rfl,rfl⟩)
  ·have:=Walks.strAscii (prog:=pw) (w:=X.w) hh s.heap.objs.size b t;rw[<- Array.length_toList] at this;refine(List.length_map ..).symm▸?_;exact this
  ·obtain⟨o,h1,h2,_⟩:=st;exact⟨o,h1,_,h2,by decide⟩
  ·obtain⟨c,u,hc,rfl⟩:=hP;rw[List.getElem?_map,Array.getElem?_toList,hc] at hd;obtain rfl:=so hd;dsimp only[VR];exact⟨_,u,rfl,rfl⟩
 | rng m=>
  refine cps fun U y0=>?_;obtain rfl:=so hl;rw[List.length_map,List.length_range] at hz;dsimp only[VR] at hv;obtain⟨a,t0,t1,t2,rfl,h1⟩:=hv;refine y0 ?_;have hr:IsRange s.heap a 0 (m:Nat) 1 t0 t1 t2:=hs _ _ h1;have hsz:Builtin.Range.rangeSize 0 (m:Nat) 1=(m:Nat):=by rw[rangeSize_one];split<;>lia
  refine wpAny_pyIter_range hr (small_one (Int.natCast_nonneg _) (Int.natCast_nonneg _) (by simp) (by lia)) (hQ _ [s.heap.objs.size] (fun i v=>∃t,v=.int ((0:Int)+i * 1) t) (fun i h=>IsRangeIter h s.heap.objs.size (0+(i:Nat) * 1) ((m:Int) - (i:Nat)) 1)
   ⟨?_,fun i h st=>⟨_,st,_,rfl,by decide⟩,fun b hb=>.inl (List.mem_singleton.mp hb),fun i v d hP hd=>?_⟩ ?_)
  ·have:=Walks.range (prog:=pw) (w:=X.w) hh s.heap.objs.size 0 1 m;rw[List.length_map,List.length_range];exact this
  ·obtain⟨u,rfl⟩:=hP;replace hd:=Eq.trans (List.getElem?_map).symm hd;rcases q:(List.range m)[i]? with _|j
   ·rw[q] at hd;exact Qf hd
   ·
    replace hd:=q▸hd;obtain rfl:=so hd;have:=(List.getElem?_eq_some_iff.mp q).2;rw[List.getElem_range] at this;subst this;dsimp only[VR];exact⟨u,by rw[Int.mul_one,Int.zero_add]⟩
  ·refine(hsz ..).symm▸?_;exact Heap.get?_push_size _ rfl
 | _=>exact Qf hl
set_option tactic.hygienic true in
theorem V4(ok:QS env nk){target e:Expr}{b:List Stmt}{ir:IR}{is:List Nat}{sb:List SR}{pos:Pos}(hT:Ge X env names target is)(hn:Kz e=true)
  (h0:Qg X n Φ env names e ir) (hb:Qq X n Φ env names fl (PySem.execs b env) (execs Φ fl o W sb)):
  Qq X n Φ env names fl (PySem.exec (.For target e b [] pos) env) (exec Φ fl o W (.fors is ir sb)):=fun A P0 P own g ρ ρ' D D' out s Q E R h hne F hQ=>by
 dsimp only[exec] at h;refine cps fun U y0=>?_;refine Hq h ?_;clear h;intro x D1 h1 h
 split at h<;>try first|exact Qf h|(cases h;done)
 rename_i l hl;refine Ha h ?_;clear h;intro hz h;refine y0 ?_;refine(PySem.exec_For ..).symm▸?_;refine Q0 (Q4 ?_);refine Q0 (h0 A P0 P fl own g ρ D D1 x s _ E R h1 F fun v g1 H1 t1 G1 dk1 r1=>?_);rw[Vd hn];refine Q0 (Q7 (Q0 (Q4 ?_)));have F1:=F.grow G1 dk1;refine Q9 (wpAny_holding (H6 (s:={ s with heap:=H1,toks:=t1 }) R.hd G1.sub r1 hl hz.1 fun ob fp Pp St Wk st=>?_));refine Tz ?_;have e:A.mark none=A:=rfl;refine(e ..).symm▸?_;have keep:∀b oc,H1.get? b=some oc->(H1.push ob).get? b=some oc:=fun b oc e=>Heap.get?_push_of_some _ e;have F2:=F1.grow (Qs.same F1.sub keep) (F1.deck.keeps keep);have hfr:H1.get? H1.objs.size=none:=Zj _;obtain⟨oi,hoi,_⟩:=Wk.cls _ _ st;have hg:g1 H1.objs.size=none:=by
  rcases q:g1 H1.objs.size with _|o
  ·rfl
  ·have:=F1.sub _ _ q;rw[hfr] at this;exact Qf this
 have hp:P0 H1.objs.size=none:=by
  rcases q:P0 H1.objs.size with _|o
  ·rfl
  ·have:=F1.p0 _ _ q;rw[hfr] at this;exact Bool.noConfusion this
 exact Ij hT hb R Wk hp l 0 own g1 ρ ρ' D1 D' out _ _ rfl (Nat.zero_le _) hz.2 st (PM.le.refl g1).m F2 (F1.fresh hfr hg (congrArg _ (hoi ..))) h hne hQ
end
set_option tactic.hygienic true in
open Builtin Builtin.ObjectAttr in
theorem Np{X:Qu}{A:Around}{s:Shared}{E:VP}{name:Str}{x dx:Addr}{es:List DictEntry}{n:Nat}{v:Value}{Q:Unit->Shared->Prop}(kk:qM X)(XK:X.K.In s.heap)(I:InstAt s.heap x (instObj modC dx) modC (some (dictOf es n)))
  (ht:takerIn X.K modC name=some none) (hl:(getL name es).isSome=true) (hz:(putL name (PyData.keyHash X.w.params name) (.str name (s.toks+1)) v es).length<=1000)
  (hQ:∀h' tk,Heap.SameBut dx s.heap h'->h'.get? dx=some (dictOf (putL name (PyData.keyHash X.w.params name) (.str name (s.toks+1)) v es) (putN name es n))->Q () { s with heap:=h',toks:=tk }):
  wpAny X.M A (setAttr (.ref x) name v) Q E s:=by
 refine set_plain XK I kk.setA (osa_open (s:={ s with toks:=s.toks+1 }) XK I kk.over ht fun b=>?_);obtain⟨cd,hc,hd'⟩:=any_some (show(clsIn X.K modC).any (·.hasDict)=true from kk.has);have D:s.heap.get? dx=some (dictOf es n):=I.dict;have D':(s.heap.update dx (Obj.putName name (PyData.keyHash X.w.params name) (.str name (s.toks+1)) v)).get? dx=some (dictOf (putL name (PyData.keyHash X.w.params name) (.str name (s.toks+1)) v es) (putN name es n)):=by
  refine(putName_dict ..)▸?_;refine Heap.get?_update_self _ D ?_;rw[putName_dict];rfl
 refine wpAny_bind (wpAny_pure (wpAny_bind (wpAny_bind (wpAny_loadPart I.at_ (wpAny_bind (Looks.here (s:={ s with toks:=s.toks+1 }) (looks_clsIn XK hc) ?_))))));refine(hd' ..).symm▸?_;refine wpAny_pure (a:=some dx) (wpAny_bind (wpAny_pure (wpAny_bind ?_)));refine wpAny_bind (wpAny_bind (wpAny_askSetting (wpAny_pure (wpAny_bind (wpAny_mkText (wpAny_bind (wpAny_loadPart D ?_)))))));dsimp only;have c:(!es.toArray.any (·.key.isStr name)&&es.toArray.any (·.refKey))=false:=by
  unfold getL at hl;rw[List.any_toArray,List.any_toArray]
  split at hl
  ·rename_i en he;rw[List.any_eq_true.mpr ⟨en,List.mem_of_find?_eq_some he,List.find?_some he⟩];rfl
  ·split at hl
   ·refine False.elim ?_;cases hl
   ·rename_i z;rw[Bool.not_eq_true] at z;rw[z,Bool.and_false]
 rw[aRefKeyMayBeTheName_at,c];refine wpAny_updatePart D ?_;refine wpAny_bind (wpAny_lookBehind D' (pastItsLine_dict (by rw[List.size_toArray,sizeLine_eq];lia)) ?_);exact wpAny_pure (hQ _ _ (Heap.SameBut.update ..) D')
theorem V5{hs h1 h2:Int}{t1 t2:Tok}{k vn vt v:Value}:putL ("told":Str) hs k v [⟨h1,.str "name" t1,vn⟩,⟨h2,.str "told" t2,vt⟩]=[⟨h1,.str "name" t1,vn⟩,⟨h2,.str "told" t2,v⟩]:=by
 have h1':(Value.str "name" t1).isStr "told"=false:=by
  show(("name":Str) == ("told":Str))=false;decide +kernel
 have h2':(Value.str "told" t2).isStr "told"=true:=by rfl
 unfold putL;rw[if_neg (((h1' ..)▸Bool.false_ne_true))];dsimp only[putL];exact congrArg _ (if_pos h2')
section
variable {X:Qu}{n:Nat}{Φ:Qj}{env:Env}{names:List Str}
variable {A:Around}{P0 g g1:PM}{P:PF}{s:Shared}{E:VP}{fl:Bool}{own:Nat->Option Addr}{ρ:List LV}{D D':Q8}{nk:List (Str×NameKind)}{o:List Nat}{W:Nat}
theorem NR{C:Prop}{d:AV}{l:List AV}{t:List (List Nat)}(h:Je (d::l)=some t)(k:∀b,d=.bytes b->(Je l).map (b::·)=some t->C):C:=by
 rcases d with _|_<;>first|exact Qf h|exact k _ rfl h
theorem RF:∀{l:List AV} {vs:List Value} {t:List (List Nat)},Qo X P0 g l vs->Je l=some t->∃bt:List (Array UInt8×Tok),vs=bt.map (fun p=>.bytes p.1 p.2)/\bt.map (fun p=>p.1.toList.map UInt8.toNat)=t:=by
 intro zz
 induction zz with
 | nil=>
  intro vs t h e;dsimp only[Qo] at h;subst h;dsimp only[Je] at e;obtain rfl:=so e;exact⟨[],rfl,rfl⟩
 | cons d l ih=>
  intro vs t h e;dsimp only[Qo] at h;refine cps fun U y0=>?_;obtain⟨v,r,rfl,h1,h2⟩:=h;refine y0 ?_;refine cps fun U y0=>?_;refine NR e ?_;clear e;rintro b rfl e;obtain⟨t',e',rfl⟩:=Option.map_eq_some_iff.mp e;obtain⟨bt,rfl,rfl⟩:=ih h2 e';dsimp only[VR] at h1;obtain⟨bb,tk,rfl,rfl⟩:=h1;refine y0 ?_;exact⟨(bb,tk)::bt,rfl,rfl⟩
theorem EW{l:List AV}{v:Value}{t:List (List Nat)}(h:VR X P0 g (.list l) v)(e:Je l=some t):BL g v t:=by
 dsimp only[VR] at h;refine cps fun U y0=>?_;obtain⟨a,o,vs,n,h1,h2,h3,h4,h5,h6,h7⟩:=h;obtain⟨bt,e1,e2⟩:=RF h7 e;refine y0 ?_;exact⟨a,o,vs,n,h1,h2,h3,h4,h5,h6,bt,e1,e2⟩
theorem LR.upM{g':PM}{h h':Heap}{oa:Option Addr}{x:Str}{lv:LV}(y:LR X P0 g env h oa x lv)(hn:lv.noStrD=true)(hr:∀v,Rd env h x v->Rd env h' x v)(hu:PM.leM P0 g g')
  (ho:∀a,oa=some a->∀o,h.get? a=some o->h'.get? a=some o):LR X P0 g' env h' oa x lv:=by
 rcases lv with _|d|ds|l|⟨ks,ds⟩
 ·trivial
 ·obtain⟨v,a,b⟩:=y;exact⟨v,hr _ a,b.upM hu hn⟩
 ·
  refine cps fun U y0=>?_;obtain⟨a,vs,e,r,l,v⟩:=y;refine y0 ?_;exact⟨a,vs,e,hr _ r,l.on (ho a e),v.upM hu hn⟩
 ·
  refine cps fun U y0=>?_;obtain⟨a,e,r,⟨b,h1,h2⟩⟩:=y;refine y0 ?_;exact⟨a,e,hr _ r,⟨b,ho a e _ h1,h2⟩⟩
 ·
  refine cps fun U y0=>?_;obtain⟨a,o,vals,e,r,q,h1,v,k,k1,k2,k3⟩:=y;refine y0 ?_;exact⟨a,o,vals,e,hr _ r,q,ho a e _ h1,v.upM hu hn,k,k1,k2,k3⟩
theorem Z6.retold{h h':Heap}(F:Z6 X P0 P true env names own g ρ D h){dx:Addr}{h1 h2:Int}{t1 t2:Tok}{vn vt vt':Value}{m m':Nat}{td:List (List Nat)}(hdx:g dx=some (Zb h1 t1 vn h2 t2 vt m))(hP:P0 dx=none)
  (b1:BL g vt td) (b2:BL g vt' td) (same:∀b,b≠dx->h'.get? b=h.get? b) (e:h'.get? dx=some (Zb h1 t1 vn h2 t2 vt' m')) (hn:ρ.all LV.noStrD=true):
  Z6 X P0 P true env names own (g.add dx (Zb h1 t1 vn h2 t2 vt' m')) ρ D h':=by
 have onD:g.add dx (Zb h1 t1 vn h2 t2 vt' m') dx=some (Zb h1 t1 vn h2 t2 vt' m'):=if_pos rfl;have offD:∀b,b≠dx->g.add dx (Zb h1 t1 vn h2 t2 vt' m') b=g b:=fun b q=>if_neg q;have lem:PM.leM P0 g (g.add dx (Zb h1 t1 vn h2 t2 vt' m')):=fun b o q=>by
  by_cases z:b=dx
  ·subst z;replace q:=Eq.trans hdx.symm q;obtain rfl:=so q;refine .inr ⟨hP,h1,t1,vn,h2,t2,vt,vt',m,m',rfl,onD,fun td' b'=>?_⟩;refine Eq.mpr (congrArg _ (b'.one b1)) ?_;obtain⟨a,o,vs,k,q1,q2,q3,q4,q5,q6,bt,q7,q8⟩:=b2;refine⟨a,o,vs,k,q1,?_,q3,q4,q5,q6,bt,q7,q8⟩;rw[offD a]
   ·exact q2
   ·rintro rfl;replace q2:=Eq.trans hdx.symm q2;obtain rfl:=so q2;exact absurd q3 (by show Value.type "dict"≠_;decide)
  ·exact .inl ((offD b z).trans q)
 have nn:∀b,g b=none->b≠dx:=fun b q z=>by rw[z,hdx] at q;exact Qf q.symm
 have keep:∀b o,g b=none->h.get? b=some o->h'.get? b=some o:=fun b o q e=>((same b (nn b q)).trans e)
 have alive:∀b,(h.get? b).isSome->(h'.get? b).isSome:=fun b q=>by
  by_cases z:b=dx
  ·rw[z,e];rfl
  ·rw[same b z];exact q
 have gn':∀b,g b=none->g.add dx (Zb h1 t1 vn h2 t2 vt' m') b=none:=fun b q=>(offD b (nn b q)).trans q;have rd:∀x v,Rd env h x v->Rd env h' x v:=fun x v y=>by
  rcases y with⟨a,m,⟨o,es,ep,e,r⟩,c⟩|⟨a,c,b,⟨o,e,d⟩⟩
  ·exact .inl ⟨a,m,⟨o,es,ep,keep _ _ F.lg e,r⟩,c⟩
  ·exact .inr ⟨a,c,b,o,keep _ _ (F.cg _ _ b).2.2.2.1 e,d⟩
 have hpr:P.pr dx=none:=by
  rcases q:P.pr dx with _|o
  ·rfl
  ·
   rcases F.flag rfl dx o q with z|z
   ·exact Qf (hP.symm.trans z)
   ·have:=F.prot dx o q;replace this:=Eq.trans (F.sub _ _ hdx).symm this;obtain rfl:=so this;exact absurd rfl z
 obtain⟨B,B1,B2,B3⟩:=F.base rfl;have Ble:PM.le B (g.add dx (Zb h1 t1 vn h2 t2 vt' m')):=fun b o q=>by
  rw[offD b]
  ·exact B1 b o q
  ·rintro rfl;have:=B2 _ _ q;exact Qf (hP.symm.trans this)
 refine
  {sub:=fun b o q=>?_
   st:=B3.up Ble
   prot:=fun b o q=>by rw[same b (fun z=>by rw[z,hpr] at q;exact Qf q)];exact F.prot b o q
   deck:=?_
   flag:=F.flag
   slot:=fun i x lv q1 q2=>(F.slot i x lv q1 q2).upM (List.all_eq_true.mp hn lv (List.mem_of_getElem? q2)) (rd x) lem fun a ha o q=>keep a o (F.og i a ha).1 q
   len:=F.len
   ns:=let⟨m,o,es,ep,e,r⟩:=F.ns;⟨m,o,es,ep,keep _ _ F.lg e,r⟩
   lg:=gn' _ F.lg
   lp:=F.lp
   ld:=F.ld
   og:=fun i a ha=>let⟨h1,h2,h3,h4,h5⟩:=F.og i a ha;⟨gn' _ h1,h2,h3,h4,alive _ h5⟩
   oi:=F.oi
   cg:=fun x c e=>let⟨h1,h2,h3,h4,h5,v,o,h6,h7⟩:=F.cg x c e;⟨h1,h2,h3,gn' _ h4,h5,v,o,keep _ _ h4 h6,h7⟩
   ci:=F.ci
   dg:=fun b hb=>let⟨h1,h2,h3⟩:=F.dg b hb;⟨gn' _ h1,h2,alive _ h3⟩
   p0:=fun b o e=>alive _ (F.p0 b o e)
   base:=fun Z=>⟨B,Ble,B2,B3⟩
   gn:=fun b o q=>?_
   gu:=F.gu.trans lem }
 ·by_cases z:b=dx
  ·subst z;rw[onD] at q;obtain rfl:=so q;exact e
  ·rw[offD b z] at q;refine Eq.trans (same b z) ?_;exact F.sub b o q
 ·rcases F.deck with q|⟨e1,e2,e3,⟨s1,s2,o',es,ep,q1,q2⟩,o,vs,n,e5,e6⟩
  ·exact .inl q
  ·have da:g X.da=none:=(F.dg X.da (by rw[e1];exact List.mem_cons_self)).1;have ca:g X.ca=none:=(F.dg X.ca (by rw[e1];exact List.mem_cons_of_mem _ List.mem_cons_self)).1;exact .inr ⟨e1,e2,e3,⟨s1,s2,o',es,ep,keep _ _ da q1,q2⟩,o,vs,n,keep _ _ ca e5,e6⟩
 ·by_cases z:b=dx
  ·subst z;exact .inr hpr
  ·rw[offD b z] at q;exact F.gn b o q
theorem Nf{e ob:Expr}{a:Str}{p:Pos}{l:Nat}{env:Env}:swapsWith e (some (.Attribute ob a p)) l env=pure false:=by
 rcases e with _|_<;>rfl
set_option tactic.hygienic true in
theorem WE(ok:QS env nk){e:Expr}{ir:IR}{i:Nat}{x:Str}{p ap pos:Pos}(hx:names[i]?=some x)(hcd:(x == ("__classdict__":Str))=false)(hdb:(x == ("__debug__":Str))=false)(h0:Qg X n Φ env names e ir):
  Qq X n Φ env names fl (PySem.exec (.Assign [.Attribute (.Name x p) "told" ap] e pos) env) (exec Φ fl o W (.setTold i ir)):=fun A P0 P own g ρ ρ' D D' out s Q E R h hne F hQ=>by
 dsimp only[exec] at h;refine cps fun U y0=>?_;refine kN h ?_;clear h;rintro nm t rfl hv h;refine kL h ?_;clear h;intro l D1 h1 h
 split at h<;>try first|exact Qf h|(cases h;done)
 rename_i t' h2;refine Ha h ?_;clear h;intro h3 h;cases h;obtain⟨rfl,h4⟩:=h3;refine y0 ?_;refine Qk (plainObj_exec_Assign_Attribute _ _ _ _ _ Nf) ?_;refine Q0 (Q4 (Q0 (h0 A P0 P true own g ρ D D' _ s _ E R h1 F fun v g1 H1 t1 G1 dk1 r1=>?_)));have F1:=F.grow G1 dk1;obtain⟨u,ru,vu⟩:=F1.slot i x _ hx hv;rw[assign_Attribute];refine Q0 (Q0 (Q5 (Q3 (wpAny_Name (Hz ok ru hcd ?_) hdb))));refine Q0 (Q4 (Q0 (Q5 (Q3 ?_))));dsimp only[VR] at vu;refine cps fun U y0=>?_;obtain⟨a,dx,k1,s1,k2,s2,n1,vn,vt,rfl,e2,e3,e4,e5,e6⟩:=vu;refine y0 ?_;refine Np (name:="told") F1.st.kok (F1.st.inK F1.sub) (K6 (F1.sub _ _ e2) (F1.sub _ _ e3)) F1.st.kok.toldT (congrArg _ (Vb ..)) (by rw[V5];simp) fun h' tk sb eq=>?_;rw[V5] at eq;refine J1 (Q7 (hQ .next h' tk ⟨rfl,_,own,F1.retold e3 e4 e6 (EW r1 h2) (fun b hb=>sb.2 b hb) eq h4⟩))
end
structure ZT(env:Env)(cx:Cx):Prop where
 e:QS env cx.names
 c:∀y,(cx.names.lookup y=some .cell\/cx.names.lookup y=some .free)->∃c,env.cells.lookup y=some c
noncomputable def Wx(X:Qu)(n:Nat)(Φ:Qj)(env:Env)(names:List Str)(ifs:List Expr)(ic:Option IR):Prop:=
 ∀(A:Around) (P0:PM) (P:PF) (fl:Bool) (own:Nat->Option Addr) (g:PM) (ρ:List LV) (D D':Q8) (b:Bool) (s:Shared) (Q:Bool->Shared->Prop) (E:VP),
  Ze A n->U5 Φ ic ρ D=some (b,D')->Z6 X P0 P fl env names own g ρ D s.heap->Vl X g s D' b Q->
  QD X.M A (forIn ifs true fun c r=>if r=true then do let ok <-isTrue c env (eval c env);pure (ForInStep.yield ok) else pure (ForInStep.yield r)) Q E s
section
variable {X:Qu}{n:Nat}{Φ:Qj}{env:Env}{names:List Str}
variable {A:Around}{P0 g0 g g1:PM}{P:PF}{s:Shared}{E:VP}{fl:Bool}{own:Nat->Option Addr}{ρ:List LV}{D D':Q8}{h h' h2:Heap}{dk:List Addr}
theorem FU:Wx X n Φ env names [] none:=fun A P0 P fl own g ρ D D' b s Q E R h F hQ=>by
 dsimp only[U5] at h;refine cps fun U y0=>?_;replace h:=sp h;obtain⟨rfl,rfl⟩:=h;refine y0 ?_;exact Q7 (hQ g s.heap s.toks (Qs.refl F.sub) F.deck)
set_option tactic.hygienic true in
theorem FT{c:Expr}{ic:IR}(h0:ZN X n Φ env names c ic):Wx X n Φ env names [c] (some ic):=fun A P0 P fl own g ρ D D' b s Q E R h F hQ=>by
 dsimp only[U5] at h;refine cps fun U y0=>?_
 split at h<;>try first|exact Qf h|(cases h;done)
 rename_i t D1 h1
 split at h<;>first|exact Qf h|cases h
 refine y0 ?_;rename_i h2;simp only[List.forIn_cons,List.forIn_nil,if_true];refine Q0 (Q0 (h0 A P0 P fl own g ρ D D' t b s _ E R h1 h2 F fun g1 H1 t1 G1 dk1=>?_));exact Q7 (Q7 (hQ g1 H1 t1 G1 dk1))
theorem Qs.off{z:Addr}(G:Qs dk g h g1 h')(hg:g1 z=none)(hz:h.get? z=none)(k:∀b o,b≠z->h'.get? b=some o->h2.get? b=some o):Qs dk g h g1 h2:=
 ⟨fun b o e=>by
  obtain⟨o',e',q⟩:=G.keep b o e;exact⟨o',k b o' (fun w=>by rw[w,hz] at e;exact Qf e) e',q⟩,G.up,G.new,fun b o e=>k b o (fun w=>by rw[w,hg] at e;exact Qf e) (G.sub b o e)⟩
set_option tactic.hygienic true in
theorem Qs.reveal{z:Addr}{o:Obj}(G:Qs dk g h g1 h')(hz:h.get? z=none)(ho:h'.get? z=some o):Qs dk g h (g1.add z o) h':=by
 have up:PM.le g1 (g1.add z o):=fun b o' e=>by
  unfold PM.add
  split
  ·rename_i q;subst q;have:=G.sub _ _ e;rw[ho] at this;exact this
  ·exact e
 refine⟨G.keep,G.up.trans up,fun b o' e=>?_,fun b o' e=>?_⟩
 ·unfold PM.add at e
  split at e
  ·rename_i q;rw[q];exact .inr hz
  ·exact G.new b o' e
 ·unfold PM.add at e
  split at e
  ·rename_i q;rw[q,ho];exact e
  ·exact G.sub b o' e
theorem Zw.grow{z:Addr}(F:Z6 X P0 P fl env names own g ρ D h)(f:Zw X P env own g h z)(G:Qs X.dk g h g1 h'):Zw X P env own g1 h' z:=by
 refine⟨?_,f.p,f.d,f.l,?_,f.c,f.o⟩
 ·rcases q:g1 z with _|o
  ·rfl
  ·
   rcases G.new z o q with e|e
   ·exact Qf (f.g.symm.trans e)
   ·have:=f.s;rw[e] at this;exact Bool.noConfusion this
 ·obtain⟨o,e⟩:=Option.isSome_iff_exists.mp f.s;obtain⟨o',e',_⟩:=G.keep z o e;rw[e'];rfl
theorem QO.off{z:Addr}(d:QO X D h)(hz:z∉X.dk)(k:∀b o,b≠z->h.get? b=some o->h'.get? b=some o):QO X D h':=by
 rcases d with q|⟨e1,e2,e3,⟨s1,s2,o',es,ep,q1,q2⟩,o,vs,n,e5,e6⟩
 ·exact .inl q
 ·have da:X.da≠z:=fun q=>hz (by rw[e1,<-q];exact List.mem_cons_self);have ca:X.ca≠z:=fun q=>hz (by rw[e1,<-q];exact List.mem_cons_of_mem _ List.mem_cons_self);exact .inr ⟨e1,e2,e3,⟨s1,s2,o',es,ep,k _ _ da q1,q2⟩,o,vs,n,k _ _ ca e5,e6⟩
theorem Wz{sc:Scope}{M:Model}(hc:∀y∈sc.names,y.2=.free->∃c,env.cells.lookup y.1=some c){Q:List (Str×Addr)->Shared->Prop}
  (h:∀cs,(∀y c,cs.lookup y=some c->env.cells.lookup y=some c)->(∀y∈sc.names,y.2=.free->(cs.lookup y.1).isSome)->Q cs s):wpAny M A (closureFor sc env) Q E s:=by
 refine wpAny_bind (wpAny_forIn_list _ (fun rest cs s'=>s'=s/\(∀y∈rest,y∈sc.names)/\(∀y c,cs.lookup y=some c->env.cells.lookup y=some c)/\(∀y∈sc.names,y.2=.free->(cs.lookup y.1).isSome\/y∈rest)) _ ?_ ?_ sc.names []
  ⟨rfl,fun Z h=>h,fun y c e=>by simp at e,fun y hy Z=>.inr hy⟩)
 ·rintro⟨y,k⟩ rest cs s' ⟨rfl,h1,h2,h3⟩;by_cases hk:k=.free
  ·subst hk;obtain⟨c,e⟩:=hc _ (h1 _ List.mem_cons_self) rfl;have e':cellOf env y=pure c:=by unfold cellOf;rw[show env.cells.lookup y=some c from e]
   simp only[beq_self_eq_true,if_true,e'];refine wpAny_bind (wpAny_pure (wpAny_pure ⟨rfl,fun z hz=>h1 z (List.mem_cons_of_mem _ hz),fun z c' q=>?_,fun z hz hf=>?_⟩))
   ·rw[List.lookup_cons] at q;by_cases w:z == y
    ·rw[w] at q;obtain rfl:=so q;exact(eq_of_beq w)▸e
    ·rw[Bool.eq_false_iff.mpr w] at q;exact h2 z c' q
   ·rw[List.lookup_cons];by_cases w:z.1 == y
    ·rw[w];exact .inl rfl
    ·rw[Bool.eq_false_iff.mpr w];rcases h3 z hz hf with q|q
     ·exact .inl q
     ·rcases List.mem_cons.mp q with q|q
      ·rw[q] at w;exact absurd (beq_self_eq_true _) w
      ·exact .inr q
  ·have hb:(k == NameKind.free)=false:=by simpa using hk
   simp only[hb,Bool.false_eq_true,if_false];refine wpAny_pure ⟨rfl,fun z hz=>h1 z (List.mem_cons_of_mem _ hz),h2,fun z hz hf=>?_⟩;rcases h3 z hz hf with q|q
   ·exact .inl q
   ·rcases List.mem_cons.mp q with q|q
    ·rw[q] at hf;exact absurd hf hk
    ·exact .inr q
 ·rintro cs s' ⟨rfl,_,h2,h3⟩;exact wpAny_pure (h cs h2 fun y hy hf=>by
   rcases h3 y hy hf with q|q
   ·exact q
   ·cases q)
theorem HT{α β γ:Type}[BEq α][LawfulBEq α]{f:α->β->γ}:∀{l:List (α×β)} {k:α},(l.map fun y=>(y.1,f y.1 y.2)).lookup k=(l.lookup k).map (f k)
 | [],k=>rfl
 | (a,b)::l,k=>by
  rw[List.map_cons,List.lookup_cons,List.lookup_cons];by_cases e:k == a
  ·rw[e,eq_of_beq e];rfl
  ·rw[Bool.eq_false_iff.mpr e];exact HT
theorem VY(cx:Cx)(sc:Scope):Zx cx sc=sc.names.map fun y=>(y.1,(fun n k=>if k == .free&&cx.names.lookup n == some .cell then NameKind.cell else k) y.1 y.2):=by
 refine List.map_congr_left fun y Z=>?_;have a:=y.1;have b:=y.2;dsimp only
 split<;>rfl
theorem Zn(cx:Cx)(sc:Scope)(y:Str):(Zx cx sc).lookup y=(sc.names.lookup y).map fun k=>if k == .free&&cx.names.lookup y == some .cell then NameKind.cell else k:=by
 refine(congrArg _ (VY ..)).trans ?_;exact HT (α:=Str) (f:=fun n k=>if k == .free&&cx.names.lookup n == some .cell then NameKind.cell else k)
structure KS(cx:Cx)(sc:Scope)(x:Str):Prop where
 kd:sc.kind=.function
 ne:x≠eN
 lx:sc.names.lookup x=some .local
 cell:∀y∈sc.names,y.2≠.cell
 loc:∀y∈sc.names,y.2=.local->sc.names.lookup y.1=some .local
 free:∀y∈sc.names,y.2=.free->sc.names.lookup y.1=some .free/\(cx.names.lookup y.1=some .cell\/cx.names.lookup y.1=some .free)
theorem Rh{cx:Cx}{sc:Scope}{x:Str}(h:NZ cx sc x=true):KS cx sc x:=by
 unfold NZ at h;simp only[Bool.and_eq_true,List.all_eq_true,Bool.or_eq_true,Bool.not_eq_true',beq_iff_eq,bne_iff_ne] at h;obtain⟨⟨⟨h1,h2⟩,h3⟩,h4⟩:=h;refine⟨h1,fun q=>by rw[q] at h2;exact absurd h2 (by decide),h3,fun y hy q=>?_,fun y hy q=>?_,fun y hy q=>?_⟩
 ·have:=(h4 y hy).1.1;replace this:=q▸this;cases this
 ·rcases(h4 y hy).1.2 with z|z
  ·rw[q] at z;exact Bool.noConfusion z
  ·exact z
 ·rcases(h4 y hy).2 with z|z
  ·rw[q] at z;exact Bool.noConfusion z
  ·exact z
set_option tactic.hygienic true in
theorem GG{fr:List Nat}{ρ:List LV}{i:Nat}{d:AV}(h:(Ju fr ρ)[i]?=some (.val d)):ρ[i]?=some (.val d)/\fr.contains i=true:=by
 unfold Ju at h;replace h:=Eq.trans (List.getElem?_mapIdx).symm h;rcases q:ρ[i]? with _|lv
 ·rw[q] at h;exact Qf h
 ·
  rw[q] at h;replace h:=so h;rcases lv with _|e|_|_|_<;>try (cases h;done)
  by_cases z:fr.contains i=true
  ·replace h:=(if_pos z).symm.trans h;cases h;exact⟨rfl,z⟩
  ·replace h:=(if_neg z).symm.trans h;cases h
theorem NF{fr:List Nat}{ρ:List LV}{i:Nat}{lv:LV}(h:(Ju fr ρ)[i]?=some lv):lv=.u\/∃d,lv=.val d:=by
 unfold Ju at h;replace h:=Eq.trans (List.getElem?_mapIdx).symm h;rcases q:ρ[i]? with _|l
 ·rw[q] at h;exact Qf h
 ·
  rw[q] at h;simp only[Option.map_some,Option.some.injEq] at h;subst h;rcases l with _|_<;>try (exact .inl rfl)
  dsimp only
  split
  ·exact .inr ⟨_,rfl⟩
  ·exact .inl rfl
theorem Uj{fr:List Nat}{ρ:List LV}:(Ju fr ρ).length=ρ.length:=List.length_mapIdx ..
structure N6(env cenv:Env)(cx:Cx)(sc:Scope)(x:Str)(C:Addr):Prop where
 nm:cenv.scope.names=Zx cx sc
 kd:cenv.scope.kind=.function
 gl:cenv.globals=env.globals
 bl:cenv.builtins=env.builtins
 loc:cenv.locals=C
 sub:∀y c,cenv.cells.lookup y=some c->env.cells.lookup y=some c
 all:∀y∈sc.names,y.2=.free->(cenv.cells.lookup y.1).isSome
theorem N6.ok{cenv:Env}{cx:Cx}{sc:Scope}{x:Str}{C:Addr}(I:N6 env cenv cx sc x C)(ok:ZT env cx)(K:KS cx sc x):ZT cenv (ZZ cx sc x) where
 e:=⟨I.nm,I.kd,I.gl.trans ok.e.gl,I.bl.trans ok.e.bl⟩
 c:=fun y hy=>by
  have hl:(Zx cx sc).lookup y=some .cell\/(Zx cx sc).lookup y=some .free:=hy;rw[Zn] at hl;rcases q:sc.names.lookup y with _|k
  ·rw[q] at hl;rcases hl with z|z<;>exact Qf z
  ·
   have hm:=mem_of_lookup q;have hk:k=.free:=by
    rw[q] at hl;have:=K.cell _ hm;by_cases w:k=.free
    ·exact w
    ·have hb:(k == NameKind.free)=false:=by simpa using w
     simp only[Option.map_some,hb,Bool.false_and,Bool.false_eq_true,if_false,Option.some.injEq] at hl;rcases hl with z|z
     ·exact absurd z this
     ·exact z
   subst hk;exact Option.isSome_iff_exists.mp (I.all _ hm rfl)
theorem Z6.inner{cenv:Env}{cx:Cx}{sc:Scope}{x:Str}{C:Addr}{m:Str->Option Value}{v:Value}{d:AV}(ok:ZT env cx)(I:N6 env cenv cx sc x C)(K:KS cx sc x)(F:Z6 X P0 P fl env cx.slots own g ρ D h)(f:Zw X P env own g h C)
  (hn:h.Ns C m) (hm:m x=some v) (hv:VR X P0 g d v):Z6 X P0 ⟨fun Z=>none,g⟩ false cenv (ZZ cx sc x).slots (fun Z=>none) g (Ju (JC cx sc x) ρ++[.val d]) D h:=by
 have hlen:(cx.slots.map fun y=>if YD sc x y then y else eN).length=ρ.length:=((List.length_map ..).trans (F.len ..).symm)
 refine
  {sub:=F.sub
   st:=F.st
   prot:=fun Z Z e=>by exact Qf e
   deck:=F.deck
   flag:=fun e=>by exact Bool.noConfusion e
   slot:=fun i y lv h1 h2=>?_
   len:=by show _=((cx.slots.map fun y=>if YD sc x y then y else eN)++[x]).length;rw[List.length_append,List.length_append,Uj,hlen];rfl
   ns:=⟨m,by rw[I.loc];exact hn⟩
   lg:=((congrArg _ (I.loc ..)).trans f.g)
   lp:=rfl
   ld:=by rw[I.loc];exact f.d
   og:=fun i a e=>by exact Qf e
   oi:=fun i j a e=>by exact Qf e
   cg:=fun y c e=>by
    have e':=I.sub y c e;refine cps fun U y0=>?_;obtain⟨h1,_,_,h4,_,h6⟩:=F.cg y c e';refine y0 ?_;exact⟨h1,by rw[I.loc];exact f.c y c e',(fun i q=>by exact Qf q),h4,rfl,h6⟩
   ci:=fun y z c e1 e2=>F.ci y z c (I.sub y c e1) (I.sub z c e2)
   dg:=fun b hb=>let⟨h1,_,h3⟩:=F.dg b hb;⟨h1,rfl,h3⟩
   p0:=F.p0
   base:=fun e=>by exact Bool.noConfusion e
   gn:=fun b o e=>.inl e
   gu:=(PM.le.refl g).m }
 have h1:((cx.slots.map fun y=>if YD sc x y then y else eN)++[x])[i]?=some y:=h1;by_cases hi:i < ρ.length
 ·rw[List.getElem?_append_left ((Eq.mpr (congrArg _ (hlen ..)) hi)),List.getElem?_map] at h1;rw[List.getElem?_append_left ((Eq.mpr (congrArg _ (Uj ..)) hi))] at h2;rcases NF h2 with rfl|⟨e,rfl⟩
  ·trivial
  ·obtain⟨h3,h4⟩:=GG h2;rcases q:cx.slots[i]? with _|z
   ·rw[q] at h1;exact Qf h1
   ·
    replace h1:=q▸h1;have hs:YD sc x z=true:=by
     unfold JC at h4;rw[List.contains_iff_mem,List.mem_filter] at h4;have:=h4.2;rw[q] at this;exact this
    simp only[Option.map_some,hs,if_true,Option.some.injEq] at h1;subst h1;unfold YD at hs;rw[Bool.and_eq_true,Bool.and_eq_true] at hs;have hf:=eq_of_beq hs.1.1;have hmem:=mem_of_lookup hf;have hk:=(K.free _ hmem rfl).2;have hl:cenv.kindOf z=some .cell\/cenv.kindOf z=some .free:=by
     unfold Env.kindOf;rw[I.nm,Zn,hf];refine Or.elim hk (fun w=>?_) fun w=>?_
     ·left;rw[show cx.names.lookup z=some .cell from w];rfl
     ·right;rw[show cx.names.lookup z=some .free from w];rfl
    obtain⟨u,ru,vu⟩:=F.slot i z (.val e) q h3;refine⟨u,.inr ⟨hl,?_⟩,vu⟩;obtain⟨c,hc⟩:=Option.isSome_iff_exists.mp (I.all _ hmem rfl);have hke:env.kindOf z=cx.names.lookup z:=by unfold Env.kindOf;rw[ok.e.nm]
    rcases ru with⟨a,_⟩|⟨_,c',b,dd⟩
    ·replace a:=Eq.trans hke.symm a;rcases hk with w|w<;>(rw[show cx.names.lookup z=_ from w] at a;exact absurd a (by decide))
    ·have:=I.sub z c hc;replace this:=Eq.trans b.symm this;obtain rfl:=so this;exact⟨_,hc,dd⟩
 ·have hil:i=ρ.length:=by
   have:=(List.getElem?_eq_some_iff.mp h2).1;rw[List.length_append,Uj] at this;simp at this;lia
  subst hil;rw[List.getElem?_append_right (by rw[hlen];exact Nat.le_refl _),hlen,Nat.sub_self] at h1;rw[List.getElem?_append_right (by rw[Uj];exact Nat.le_refl _),Uj,Nat.sub_self] at h2;obtain rfl:=so h1;obtain rfl:=so h2;refine⟨v,.inl ⟨?_,m,by rw[I.loc];exact hn,hm⟩,hv⟩;unfold Env.kindOf;rw[I.nm,Zn,K.lx];rfl
end
structure LI(X:Qu)(P0:PM)(P:PF)(fl:Bool)(env:Env)(names:List Str)(own:Nat->Option Addr)(ρ:List LV)(g0 gS:PM)(hS:Heap)(I C Dd:Addr)(St:Nat->Heap->Prop)(g:PM)(h:Heap)(i:Nat)(ys:List AV)(vs:List Value)(D:Q8):Prop where
 st:St i h
 le:PM.le g0 g
 G:Qs X.dk gS hS g h
 F:Z6 X P0 P fl env names own g ρ D h
 fI:Zw X P env own g h I
 fC:Zw X P env own g h C
 fD:Zw X P env own g h Dd
 ns:∃m,h.Ns C m
 ls:X5 h Dd vs
 vr:Qo X P0 g ys vs
section
variable {X:Qu}{n:Nat}{Φ:Qj}{env:Env}{names:List Str}
variable {A:Around}{P0 g0 g g1 gS:PM}{P:PF}{s:Shared}{E:VP}{fl:Bool}{own:Nat->Option Addr}{ρ:List LV}{D D':Q8}{h h' h2 hS:Heap}{dk:List Addr}{I C Dd:Addr}{St:Nat->Heap->Prop}{i:Nat}{ys:List AV}{vs:List Value}
theorem X5.keeps(l:X5 h Dd vs)(k:∀o,h.get? Dd=some o->h'.get? Dd=some o):X5 h' Dd vs:=by
 exact l.on k
theorem Gm{l:List AV}{fp:List Addr}{Pp:Nat->Value->Prop}(Wk:Vk X A I P0 g0 l fp Pp St)(st:St i h)(s1:PM.le g0 h.get?)(s2:PM.le g0 h'.get?)(k:∀o,h.get? I=some o->h'.get? I=some o):St i h':=by
 refine Wk.w.frame _ _ _ st fun b hb o e=>?_;rcases Wk.fp b hb with rfl|⟨o2,q1,q2⟩
 ·exact k o e
 ·have:=s1 b o2 q1;replace this:=Eq.trans e.symm this;obtain rfl:=so this;exact s2 b _ q1
theorem LI.grow{l:List AV}{fp:List Addr}{Pp:Nat->Value->Prop}(Wk:Vk X A I P0 g0 l fp Pp St)(L:LI X P0 P fl env names own ρ g0 gS hS I C Dd St g h i ys vs D)(G:Qs X.dk g h g1 h')(d:QO X D' h'):
  LI X P0 P fl env names own ρ g0 gS hS I C Dd St g1 h' i ys vs D':=by
 have kp:∀z,z∉X.dk->∀o,h.get? z=some o->h'.get? z=some o:=fun z hz o e=>by
  obtain⟨o',e',q⟩:=G.keep z o e;rw[e',q hz]
 refine cps fun U y0=>?_;obtain⟨m,o,es,ep,e,r⟩:=L.ns;refine y0 ?_;exact
  {st:=Gm Wk L.st (L.le.trans L.F.sub) ((L.le.trans G.up).trans G.sub) (kp I L.fI.d)
   le:=L.le.trans G.up
   G:=L.G.trans G
   F:=L.F.grow G d
   fI:=L.fI.grow L.F G
   fC:=L.fC.grow L.F G
   fD:=L.fD.grow L.F G
   ns:=⟨m,o,es,ep,kp C L.fC.d _ e,r⟩
   ls:=L.ls.keeps (kp Dd L.fD.d)
   vr:=L.vr.up G.up }
noncomputable def TZ(Φ:Qj)(ic:Option IR)(ie:IR)(σ:List LV)(v:AV)(D:Q8):Option (Option AV×Q8):=match U5 Φ ic (σ++[.val v]) D with
 | some (true,D1)=>(match run Φ ie (σ++[.val v]) D1 with|some (y,D2)=>some (some y,D2)|none=>none)
 | some (false,D1)=>some (none,D1)
 | none=>none
theorem CL{cenv:Env}{cx:Cx}{sc:Scope}{x:Str}{px:Pos}{elt iter:Expr}{ifs:List Expr}{ie:IR}{ic:Option IR}{pos:Pos}{l:List AV}{fp:List Addr}{Pp:Nat->Value->Prop}
  (ok:ZT env cx) (J:N6 env cenv cx sc x C) (K:KS cx sc x) (he:Qg X n Φ cenv (ZZ cx sc x).slots elt ie) (hc:Wx X n Φ cenv (ZZ cx sc x).slots ifs ic) (R:Ze A n)
  (Wk:Vk X A I P0 g0 l fp Pp St) (pI:P0 I=none) (pC:P0 C=none) (pD:P0 Dd=none) (nIC:I≠C) (nID:I≠Dd) (nCD:C≠Dd) (sI:hS.get? I=none) (sC:hS.get? C=none) (sD:hS.get? Dd=none):
  ∀(k:List AV) (i:Nat) (g:PM) (ys rest:List AV) (vs:List Value) (D D':Q8) (s:Shared) (Rr:Result->Shared->Prop),
   l.drop i=k->i<=l.length->LI X P0 P fl env cx.slots own ρ g0 gS hS I C Dd St g s.heap i ys vs D->ys.length+k.length<=65536->
   Ua (TZ Φ ic ie (Ju (JC cx sc x) ρ)) k D=some (rest,D')->
   (∀g' h' tk vs',Qs X.dk gS hS g' h'->QO X D' h'->g' Dd=none->g' C=none->X5 h' Dd vs'->Qo X P0 g' (ys++rest) vs'->(∃m,h'.Ns C m)->Rr (.ok .next) { s with heap:=h',toks:=tk })->
   ZU X.M A (.compLoop (.ListComp elt [⟨.Name x px,iter,ifs,0⟩] sc pos) 0 (.ref I) (.ref Dd) cenv) Rr s:=by
 intro k
 induction k with
 | nil=>
  intro i g ys rest vs D D' s Rr hk hil L hz h hQ;dsimp only[Ua] at h;replace h:=sp h;obtain⟨rfl,rfl⟩:=h;have hi:i=l.length:=by have:=List.drop_eq_nil_iff.mp hk;lia
  subst hi;refine Qx rfl ?_;rw[Around.under_of_weight rfl rfl];show QD X.M A ((compTurn (.ListComp elt [⟨.Name x px,iter,ifs,0⟩] sc pos) 0 (.ref I) (.ref Dd) cenv).onRaise (fun x=>do noteFrame x cenv;theTreesLotGoes x)) _ _ s;refine QP ?_;refine(compTurn_list ..).symm▸?_;refine Q0 (Q4 ?_);refine Q9 (Wk.w.done s _ _ L.st fun h' tk keep=>?_);have keep':∀b o,b≠I->s.heap.get? b=some o->h'.get? b=some o:=fun b o hb e=>keep b o (fun q=>hb (List.mem_singleton.mp q)) e;refine Q7 ?_;refine hQ g h' tk vs (L.G.off L.fI.g sI keep') (L.F.deck.off L.fI.d keep') L.fD.g L.fC.g (L.ls.keeps fun o=>keep' _ o (Ne.symm nID)) (by rw[List.append_nil];exact L.vr) ?_;refine cps fun U y0=>?_;obtain⟨m,o,es,ep,e,r⟩:=L.ns;refine y0 ?_;exact⟨m,o,es,ep,keep' _ _ (Ne.symm nIC) e,r⟩
 | cons v r ih=>
  intro i g ys rest vs D D' s Rr hk hil L hz h hQ;have hlt:i < l.length:=by
   rcases Nat.lt_or_ge i l.length with q|q
   ·exact q
   ·rw[List.drop_eq_nil_iff.mpr q] at hk;cases hk
  have hiv:l[i]?=some v:=by
   have:=List.getElem?_drop (xs:=l) (i:=i) (j:=0);rw[hk] at this;simpa using this.symm
  have hk':l.drop (i+1)=r:=by
   have:=List.drop_drop (i:=1) (j:=i) (l:=l);rw[hk] at this;simpa using this.symm
  replace hz:=List.length_cons▸hz;dsimp only[Ua,TZ] at h;rcases e0:U5 Φ ic (Ju (JC cx sc x) ρ++[.val v]) D with _|tb
  ·rw[e0] at h;exact Qf h
  ·
   refine cps fun U y0=>?_;obtain⟨b,D1⟩:=tb;refine y0 ?_;replace h:=e0▸h;refine Qx rfl ?_;rw[Around.under_of_weight rfl rfl];show QD X.M A ((compTurn (.ListComp elt [⟨.Name x px,iter,ifs,0⟩] sc pos) 0 (.ref I) (.ref Dd) cenv).onRaise (fun x=>do noteFrame x cenv;theTreesLotGoes x)) _ _ s;refine QP ?_;refine(compTurn_list ..).symm▸?_;refine Q0 (Q4 ?_);refine Q9 (Wk.w.item i s _ _ hlt L.st fun u h1 t1 hPu st1 keep=>?_);have keep1:∀b o,b≠I->s.heap.get? b=some o->h1.get? b=some o:=fun b o hb e=>keep b o (fun q=>hb (List.mem_singleton.mp q)) e;have live1:∀b,b≠I->(s.heap.get? b).isSome->(h1.get? b).isSome:=fun b q hb=>by
    obtain⟨o,ho⟩:=Option.isSome_iff_exists.mp hb;rw[keep1 b o q ho];rfl
   obtain⟨it,hit,hcls⟩:=Wk.cls _ _ st1;have L1:LI X P0 P fl env cx.slots own ρ g0 gS hS I C Dd St g h1 (i+1) ys vs D:=
    {st:=st1
     le:=L.le
     G:=L.G.off L.fI.g sI keep1
     F:=L.F.step L.fI keep1 pI
     fI:=L.fI.step (congrArg _ (hit ..))
     fC:=L.fC.step (live1 _ (Ne.symm nIC) L.fC.s)
     fD:=L.fD.step (live1 _ (Ne.symm nID) L.fD.s)
     ns:=by
      refine cps fun U y0=>?_;obtain⟨m,o,es,ep,e,r⟩:=L.ns;refine y0 ?_;exact⟨m,o,es,ep,keep1 _ _ (Ne.symm nIC) e,r⟩
     ls:=L.ls.keeps fun o=>keep1 _ o (Ne.symm nID)
     vr:=L.vr }
   have hv:VR X P0 g v u:=(Wk.vr i u v hPu hiv).up L.le;refine Q0 (Q7 ?_);obtain⟨m,hm⟩:=L1.ns;rw[<- J.loc] at hm;have hkx:cenv.kindOf x=some .local:=by
    unfold Env.kindOf;rw[J.nm,Zn,K.lx];rfl
   refine Q9 (wpAny_assign_Name (wpAny_storeName_local hkx hm (fun h2 hn2 sb2=>?_) (by rw[J.kd];rfl)));rw[J.loc] at hn2 sb2;have keep2:∀b o,b≠C->h1.get? b=some o->h2.get? b=some o:=fun b o hb e=>by rw[sb2.2 b hb];exact e
   have live2:∀b,b≠C->(h1.get? b).isSome->(h2.get? b).isSome:=fun b hb q=>by rw[sb2.2 b hb];exact q
   have F2:=L1.F.step L1.fC keep2 pC;have L2:LI X P0 P fl env cx.slots own ρ g0 gS hS I C Dd St g h2 (i+1) ys vs D:=
    {st:=Gm Wk L1.st (L1.le.trans L1.F.sub) (L1.le.trans F2.sub) fun o=>keep2 _ o nIC
     le:=L.le
     G:=L1.G.off L.fC.g sC keep2
     F:=F2
     fI:=L1.fI.step (live2 _ nIC L1.fI.s)
     fC:=L1.fC.step (by obtain⟨o,es,ep,e,_⟩:=hn2;rw[e];rfl)
     fD:=L1.fD.step (live2 _ (Ne.symm nCD) L1.fD.s)
     ns:=⟨_,hn2⟩
     ls:=L1.ls.keeps fun o=>keep2 _ o (Ne.symm nCD)
     vr:=L.vr }
   refine Q0 (hc A P0 _ false _ g _ D D1 b { s with heap:=h2,toks:=t1+1 } _ _ R e0 (F2.inner ok J K L2.fC hn2 (if_pos rfl) hv) fun g3 h3 t3 G3 dk3=>?_);have L3:=L2.grow Wk G3 dk3;rcases b with _|_
   ·
    dsimp only at h;cases e4:Ua (TZ Φ ic ie (Ju (JC cx sc x) ρ)) r D1 with
    | none=>rw[e4] at h;exact Qf h
    | some q=>
     refine cps fun U y0=>?_;obtain⟨ys4,D4⟩:=q;replace h:=e4▸h;cases h;refine y0 ?_;refine Q7 ⟨rfl,?_⟩;exact ih (i+1) g3 ys ys4 vs D1 D' _ Rr hk' hlt L3 (Nat.le_of_lt (by assumption)) e4 hQ
   ·
    dsimp only at h;rcases e5:run Φ ie (Ju (JC cx sc x) ρ++[.val v]) D1 with _|q
    ·rw[e5] at h;exact Qf h
    ·
     refine cps fun U y0=>?_;obtain⟨y,D2⟩:=q;refine y0 ?_;replace h:=e5▸h;dsimp only at h;cases e4:Ua (TZ Φ ic ie (Ju (JC cx sc x) ρ)) r D2 with
     | none=>rw[e4] at h;exact Qf h
     | some q=>
      refine cps fun U y0=>?_;obtain⟨ys4,D4⟩:=q;replace h:=e4▸h;cases h;refine y0 ?_;have hn3:h3.Ns C (fun y=>if y=x then some u else m y):=by
       refine cps fun U y0=>?_;obtain⟨o,es,ep,e,r⟩:=hn2;obtain⟨o',e',q⟩:=G3.keep _ _ e;refine y0 ?_;exact⟨o,es,ep,((e' ..).trans (congrArg _ (q L2.fC.d))),r⟩
      refine Q0 (Q0 (he A P0 _ false _ g3 _ D1 D2 y { s with heap:=h3,toks:=t3 } _ _ R e5 (L3.F.inner ok J K L3.fC hn3 (if_pos rfl) (hv.up G3.up)) fun w g4 h4 t4 G4 dk4 r4=>?_));have L4:=L3.grow Wk G4 dk4;have hlen:=L4.vr.len;refine Q9 (append_list (s:={ s with heap:=h4,toks:=t4 }) L4.ls (by omega) fun h5 l5 sb5=>?_);refine Q7 (Q7 ⟨rfl,?_⟩);have keep5:∀b o,b≠Dd->h4.get? b=some o->h5.get? b=some o:=fun b o hb e=>by rw[sb5.2 b hb];exact e
      have live5:∀b,b≠Dd->(h4.get? b).isSome->(h5.get? b).isSome:=fun b hb q=>by rw[sb5.2 b hb];exact q
      have F5:=L4.F.step L4.fD keep5 pD;have L5:LI X P0 P fl env cx.slots own ρ g0 gS hS I C Dd St g4 h5 (i+1) (ys++[y]) (vs++[w]) D2:=
       {st:=Gm Wk L4.st (L4.le.trans L4.F.sub) (L4.le.trans F5.sub) fun o=>keep5 _ o nID
        le:=L4.le
        G:=L4.G.off L4.fD.g sD keep5
        F:=F5
        fI:=L4.fI.step (live5 _ nID L4.fI.s)
        fC:=L4.fC.step (live5 _ nCD L4.fC.s)
        fD:=L4.fD.step (l5.live)
        ns:=by
         obtain⟨m,o,es,ep,e,r⟩:=L4.ns;exact⟨m,o,es,ep,keep5 _ _ nCD e,r⟩
        ls:=l5
        vr:=L4.vr.append (by dsimp only[Qo];exact⟨_,_,rfl,r4,by dsimp only[Qo]<;>rfl⟩) }
      exact ih (i+1) g4 (ys++[y]) ys4 (vs++[w]) D2 D' _ Rr hk' hlt L5 (by rw[List.length_append,List.length_singleton];omega) e4 fun g' h' tk vs' q1 q2 q3 q4 q5 q6 q7=>
       hQ g' h' tk vs' q1 q2 q3 q4 q5 (by rw[List.append_assoc] at q6;exact q6) q7
end
section
variable {X:Qu}{n:Nat}{Φ:Qj}{env:Env}{names:List Str}
theorem X8{α:Type}{A:Around}{E:VP}{s:Shared}{c:Prop}[Decidable c]{pos:Pos}{k:PUnit->Sem α}{Q:α->Shared->Prop}(h:QD X.M A (k ()) Q E s):
  QD X.M A (if c then(standAt pos >>= k) else k ()) Q E s:=by
 split
 ·exact Q0 (Q4 h)
 ·exact h
theorem NX{A:Around}{s:Shared}{R:Result->Shared->Prop}{elt target iter:Expr}{ifs:List Expr}{scope:Scope}{pos:Pos}{it acc:Value}{env:Env}
  (h0:ZU X.M A (.compLoop (.ListComp elt [⟨target,iter,ifs,0⟩] scope pos) 0 it acc env) R s)
  (h:∀(Q:VP) E,Q it s->QD X.M A (pyIter it) Q E s):
  ZU X.M A (.compStart (.ListComp elt [⟨target,iter,ifs,0⟩] scope pos) 0 it acc env) R s:=by
 refine Qx rfl ?_;rw[Around.under_of_weight rfl rfl];refine QP ?_;refine Q9 (wpAny_askSetting ?_)
 split
 ·first
   | exact Q0 (Q7 (Q7 (And.intro rfl h0)))
   | exact Q7 (And.intro rfl h0)
 ·refine Q0 (X9 ?_);exact Q0 (Q4 (Q0 (h _ _ (Q7 (And.intro rfl h0)))))
theorem Ep{cenv:Env}{cx:Cx}{sc:Scope}{x:Str}{px:Pos}{elt iter:Expr}{ifs:List Expr}{ie:IR}{ic:Option IR}{pos:Pos}{l:List AV}{fp:List Addr}{Pp:Nat->Value->Prop}
  {A:Around} {P0 g0 g gS:PM} {P:PF} {s:Shared} {fl:Bool} {own:Nat->Option Addr} {ρ:List LV} {D D':Q8} {hS:Heap} {I C Dd:Addr} {St:Nat->Heap->Prop} {ys:List AV}
  (ok:ZT env cx) (K:KS cx sc x) (J:N6 env cenv cx sc x C) (he:∀cenv,ZT cenv (ZZ cx sc x)->Qg X n Φ cenv (ZZ cx sc x).slots elt ie) (hc:∀cenv,ZT cenv (ZZ cx sc x)->Wx X n Φ cenv (ZZ cx sc x).slots ifs ic) (R:Ze A n)
  (Wk:Vk X A I P0 g0 l fp Pp St) (pI:P0 I=none) (pC:P0 C=none) (pD:P0 Dd=none) (nIC:I≠C) (nID:I≠Dd) (nCD:C≠Dd) (sI:hS.get? I=none) (sC:hS.get? C=none) (sD:hS.get? Dd=none)
  (L:LI X P0 P fl env cx.slots own ρ g0 gS hS I C Dd St g s.heap 0 [] [] D) (hz:l.length<=65536)
  (h:Ua (fun v D=>match U5 Φ ic (Ju (JC cx sc x) ρ++[.val v]) D with
    | some (true,D1)=>(match run Φ ie (Ju (JC cx sc x) ρ++[.val v]) D1 with|some (y,D2)=>some (some y,D2)|none=>none)
    | some (false,D1)=>some (none,D1)
    | none=>none) l D=some (ys,D')):
  ZU X.M A (.compStart (.ListComp elt [⟨.Name x px,iter,ifs,0⟩] sc pos) 0 (.ref I) (.ref Dd) cenv) (fun r s'=>∃g' h' tk vs',r=.ok .next/\s'={ s with heap:=h',toks:=tk }/\
   Qs X.dk gS hS g' h'/\QO X D' h'/\g' Dd=none/\g' C=none/\X5 h' Dd vs'/\Qo X P0 g' ys vs'/\(∃m,h'.Ns C m)) s:=
 NX (CL ok J K (he cenv (J.ok ok K)) (hc cenv (J.ok ok K)) R Wk pI pC pD nIC nID nCD sI sC sD l 0 g [] ys [] D D' s _ rfl (Nat.zero_le _) L (by rw[List.length_nil];lia) h
  fun g' h' tk vs' q1 q2 q3 q4 q5 q6 q7=>⟨g',h',tk,vs',rfl,rfl,q1,q2,q3,q4,q5,q6,q7⟩) fun Q E q=>Q3 (Wk.w.self 0 _ _ _ L.st q)
theorem Zl{a b:Addr}(h:(a:Nat) < b):a≠b:=Nat.ne_of_lt h
set_option tactic.hygienic true in
theorem Xe{cx:Cx}{sc:Scope}{x:Str}{px pos:Pos}{elt it:Expr}{ifs:List Expr}{ie iit:IR}{ic:Option IR}(ok:ZT env cx)(K:KS cx sc x)(hs:Kz it=true)(hit:Qg X n Φ env cx.slots it iit)
  (he:∀cenv,ZT cenv (ZZ cx sc x)->Qg X n Φ cenv (ZZ cx sc x).slots elt ie) (hc:∀cenv,ZT cenv (ZZ cx sc x)->Wx X n Φ cenv (ZZ cx sc x).slots ifs ic):
  Qg X n Φ env cx.slots (.ListComp elt [⟨.Name x px,it,ifs,0⟩] sc pos) (.comp (JC cx sc x) ie iit ic):=fun A P0 P fl own g ρ D D' d s Q E R h F hQ=>by
 dsimp only[run] at h;refine cps fun U y0=>?_
 split at h<;>try first|exact Qf h|(cases h;done)
 rename_i v D1 h1
 split at h<;>try first|exact Qf h|(cases h;done)
 rename_i l hl
 split at h<;>try first|exact Qf h|(cases h;done)
 rename_i hz;refine Bq h ?_;clear h;intro ys Dz h2 h;revert hQ;apply Vw h;intro hQ;refine y0 ?_;rw[eval_ListComp];refine Q0 (hit A P0 P fl own g ρ D D1 v s _ E R h1 F fun w g1 H1 t1 G1 dk1 r1=>?_);refine Q0 (Q4 ?_);refine Q0 ?_;rw[Vd hs];refine Q7 ?_;have F1:=F.grow G1 dk1;refine Q9 (wpAny_holding (H6 (s:={ s with heap:=H1,toks:=t1 }) R.hd G1.sub r1 hl hz fun ob fp Pp St Wk st=>?_));refine X8 ?_;refine Q9 (wpAny_newList ?_ (by rw[sizeLine_eq];simp));refine Q9 (Wz (fun y hy q=>ok.c y.1 (by rcases(K.free y hy q).2 with z|z;exact .inl z;exact .inr z)) fun cs c1 c2=>?_);refine Q9 (wpAny_newFunctionEnv K.cell (fun y hy=>by cases hy) (fun h4 hn4 sb4=>?_) K.kd);dsimp only at hn4 sb4 ⊢;have e2:(H1.push ob).objs.size=H1.objs.size+1:=Heap.size_push ..;have e3:((H1.push ob).push { cls:=.type "list",data:=.seq #[] }).objs.size=H1.objs.size+2:=((Heap.size_push ..).trans (congrArg _ (e2 ..)))
 generalize hCC:((H1.push ob).push { cls:=.type "list",data:=.seq #[] }).objs.size=C at *;have nIC:H1.objs.size≠C:=Zl (by rw[e3];exact Nat.lt_add_of_pos_right (Nat.le_of_ble_eq_true rfl));have eDd:(H1.push ob).objs.size≠C:=Zl (by rw[e2,e3];exact Nat.lt_succ_self _);have nID:H1.objs.size≠(H1.push ob).objs.size:=Zl (by rw[e2];exact Nat.lt_succ_self _);have k2:∀b o,H1.get? b=some o->(H1.push ob).get? b=some o:=fun b o e=>Heap.get?_push_of_some _ e;have k3:∀b o,(H1.push ob).get? b=some o->h4.get? b=some o:=fun b o e=>by
  have hb:b≠C:=Zl (by rw[e3];exact Nat.lt_trans (Heap.lt_size e) (by rw[e2];exact Nat.lt_succ_self _));refine Eq.trans (sb4.2 b hb) ?_;exact Heap.get?_push_of_some _ (Heap.get?_push_of_some _ e)
 have k4:∀b o,H1.get? b=some o->h4.get? b=some o:=fun b o e=>k3 b o (k2 b o e);have frI:H1.get? H1.objs.size=none:=Zj _;have none_of:∀z:Addr,H1.objs.size<=z->H1.get? z=none:=fun z hz=>by
  rcases q:H1.get? z with _|o
  ·rfl
  ·exact absurd (Heap.lt_size q) (Nat.not_lt.mpr hz)
 have gnone:∀z:Addr,H1.objs.size<=z->g1 z=none:=fun z hz=>by
  rcases q:g1 z with _|o
  ·rfl
  ·have:=F1.sub _ _ q;rw[none_of z hz] at this;exact Qf this
 have pnone:∀z:Addr,H1.objs.size<=z->P0 z=none:=fun z hz=>by
  rcases q:P0 z with _|o
  ·rfl
  ·have:=F1.p0 _ _ q;rw[none_of z hz] at this;exact Bool.noConfusion this
 have leD:H1.objs.size<=(H1.push ob).objs.size:=by rw[e2];exact Nat.le_succ _
 have leC:H1.objs.size<=C:=by rw[e3];exact Nat.le_add_right _ _
 obtain⟨oi,hoi,_⟩:=Wk.cls _ _ st;have hD4:h4.get? (H1.push ob).objs.size=some { cls:=.type "list",data:=.seq #[] }:=by
  refine Eq.trans (sb4.2 _ eDd) ?_;exact Heap.get?_push_of_some _ (Heap.get?_push_size (H1.push ob) (o:={ cls:=.type "list",data:=.seq #[] }) rfl)
 have G4:Qs X.dk g1 H1 g1 h4:=Qs.same F1.sub k4;have F4:=F1.grow G4 (dk1.keeps k4);have hL4:X5 h4 (H1.push ob).objs.size []:=⟨_,_,0,hD4,rfl,rfl,rfl,rfl,rfl⟩
 refine Q5 (Q0 (KV (Q5 (Vp ?_ nofun))));have em:A.mark none=A:=rfl;rw[em];refine Wg (Ep (I:=H1.objs.size) (C:=C) (Dd:=(H1.push ob).objs.size) (hS:=H1) (gS:=g1) (g:=g1) (g0:=g1) ok K ⟨?_,K.kd,rfl,rfl,rfl,c1,c2⟩ he hc R Wk (pnone _ (Nat.le_refl _)) (pnone _ leC) (pnone _ leD) nIC nID (Ne.symm eDd) frI (none_of _ leC) (none_of _ leD)
  {st:=Gm Wk st (fun b o e=>k2 _ _ (F1.sub b o e)) F4.sub (fun o=>k3 _ o)
   le:=PM.le.refl _
   G:=G4
   F:=F4
   fI:=F1.fresh frI (gnone _ (Nat.le_refl _)) (congrArg _ (k3 _ _ hoi))
   fC:=F1.fresh (none_of _ leC) (gnone _ leC) (by obtain⟨o,es,ep,e,_⟩:=hn4;rw[e];rfl)
   fD:=F1.fresh (none_of _ leD) (gnone _ leD) (congrArg _ (hD4 ..))
   ns:=⟨_,hn4⟩
   ls:=hL4
   vr:=by dsimp only[Qo]<;>rfl } hz h2) fun r s' hr=>?_
 ·show List.map _ _=Zx cx sc;unfold Zx Env.kindOf;rw[ok.e.kd,ok.e.nm];refine List.map_congr_left fun y Z=>?_;obtain⟨a,b⟩:=y;simp
 ·refine cps fun U y0=>?_;obtain⟨g',h',tk,vs',rfl,rfl,q1,q2,q3,q4,q5,q6,m',q7⟩:=hr;refine y0 ?_;refine Q9 (wpAny_holding (wpAny_comp_letGo K.kd _ _ m' (fun y hy hl=>?_) q7 fun h5 m5 n5 sb5=>?_))
  ·show List.lookup y.1 (List.map _ _)=_;have:=K.loc y (List.mem_filter.mp (List.mem_reverse.mp hy)).1 hl;have e6:Zx cx sc=List.map (fun x=>if(x.snd == NameKind.free&&env.scope.kind == ScopeKind.function&&env.kindOf x.fst == some NameKind.cell)=true then(x.fst,NameKind.cell) else(x.fst,x.snd)) sc.names:=by
    unfold Zx Env.kindOf;rw[ok.e.kd,ok.e.nm];refine List.map_congr_left fun y Z=>?_;obtain⟨a,b⟩:=y;simp
   rw[<- e6,Zn,this];rfl
  ·have sbC:∀b,b≠C->h5.get? b=h'.get? b:=fun b hb=>sb5.2 b hb;refine Q7 ?_;obtain⟨o5,xs,n5',w1,w2,w3,w4,w5,w6⟩:=q5.is;have ho5:h5.get? (H1.push ob).objs.size=some o5:=((sbC _ eDd).trans w1)
   have G5:Qs X.dk g1 H1 g' h5:=q1.off q4 (none_of _ leC) fun b o hb e=>((sbC b hb).trans e)
   have G6:=G5.reveal (none_of _ leD) ho5;refine hQ _ _ h5 tk (G1.trans G6) (q2.off (z:=C) (F1.fresh (none_of _ leC) (gnone _ leC) (h1:=h4) (by obtain⟨o,es,ep,e,_⟩:=hn4;rw[e];rfl)).d fun b o hb e=>((sbC b hb).trans e)) ?_;dsimp only[VR];refine⟨_,o5,xs,n5',rfl,PM.add_self ..,w2,w3,w4,w5,?_⟩;refine Eq.mpr (congrArg _ w6) ?_;refine q6.up fun b o e=>?_;unfold PM.add
   split
   ·rename_i z;rw[z,q3] at e;exact Qf e
   ·exact e
end
theorem FnAt.obj'{X:Qu}{g:PM}{x:List Nat}{a:Addr}{d:Arguments×List Stmt×Scope}(h:FnAt X g x a d):Yt g a d:=by
 refine cps fun U y0=>?_;obtain⟨o,pm,code,doc,h1,h2,c,oc,vs,t,rfl,h4,h5,h6⟩:=h.obj;refine y0 ?_;exact⟨o,_,h1,h2,rfl,rfl,rfl,rfl,rfl,rfl,rfl,rfl,c,oc,vs,t,rfl,h4,h5,h6⟩
noncomputable def argNames(p:Arguments):List Str:=p.args.map (·.arg)
noncomputable def isParam(k:Option NameKind):Bool:=k == some .local||k == some .cell
noncomputable def plainDef(d:Arguments×List Stmt×Scope):Bool:=
 d.1.posonlyargs.isEmpty&&d.1.kwonlyargs.isEmpty&&d.1.vararg.isNone&&d.1.kwarg.isNone&&decide (argNames d.1).Nodup&&d.2.2.kind == .function&&!d.2.2.isCoroutine&&!d.2.2.isGenerator&&
 (argNames d.1).all fun x=>isParam (d.2.2.names.lookup x)
theorem Hb{β:Type}:∀{ns:List Str} {vs:List β},ns.length=vs.length->∀x∈ns,((ns.zip vs).lookup x).isSome=true:=by
 intro zz
 induction zz with
 | nil=>
  intro _ _ x h;cases h
 | cons n ns ih=>
  intro zy;rcases zy with _|⟨v,vs⟩
  ·
   intro hl _ _;cases hl
  ·
   intro hl x h;rw[List.zip_cons_cons,List.lookup_cons];by_cases e:x == n
   ·rw[e];rfl
   ·rw[Bool.eq_false_iff.mpr e];rcases List.mem_cons.mp h with q|q
    ·rw[q] at e;exact absurd (beq_self_eq_true _) e
    ·exact ih (Nat.succ.inj hl) x q
theorem Lh{α β:Type}{f g:α->Option β}:∀{l:List α},(∀x∈l,f x=g x)->l.filterMap f=l.filterMap g:=by
 intro zz
 induction zz with
 | nil=>
  intro _;exact rfl
 | cons a l ih=>
  intro h;rw[List.filterMap_cons,List.filterMap_cons,h a List.mem_cons_self,ih fun x hx=>h x (List.mem_cons_of_mem _ hx)]
theorem WL{β:Type}:∀{ns:List Str} {vs:List β},ns.length=vs.length->ns.Nodup->(ns.filterMap fun n=>((ns.zip vs).lookup n).map (n,·))=ns.zip vs:=by
 intro zz
 induction zz with
 | nil=>
  intro _ _ _;exact rfl
 | cons n ns ih=>
  intro zy;rcases zy with _|⟨v,vs⟩
  ·
   intro hl _;cases hl
  ·
   intro hl hn;rw[List.nodup_cons] at hn;rw[List.zip_cons_cons,List.filterMap_cons_some (b:=(n,v)) (by rw[List.lookup_cons,beq_self_eq_true];rfl)];congr 1;have:ns.filterMap (fun m=>(((n,v)::ns.zip vs).lookup m).map (m,·))=ns.filterMap fun m=>((ns.zip vs).lookup m).map (m,·):=by
    refine Lh fun m hm=>?_;have e:(m == n)=false:=by
     rw[beq_eq_false_iff_ne];rintro rfl;exact hn.1 hm
    rw[List.lookup_cons,e]
   refine Eq.trans this ?_;exact ih (Nat.succ.inj hl) hn.2
theorem UU{fd:FuncData}{vals:List Value}(h1:fd.params.posonlyargs=[])(h2:fd.params.kwonlyargs=[])(h3:fd.params.vararg=none)(h4:fd.params.kwarg=none)(h5:fd.defaults=.none)
  (hn:(argNames fd.params).Nodup) (hl:(argNames fd.params).length=vals.length):bindArgs fd ⟨vals,[]⟩=pure ((argNames fd.params).zip vals):=by
 obtain⟨_,⟨qn⟩,p,_,_,_,_,df,_,_,_,_,_,_⟩:=fd;obtain⟨p1,p2,p3,p4,p5,p6,p7⟩:=p;dsimp only at h1 h2 h3 h4 h5;subst h1 h2 h3 h4 h5;have hm:((argNames ⟨[],p2,none,[],p5,none,p7⟩).filter fun n=>((argNames ⟨[],p2,none,[],p5,none,p7⟩).zip vals).lookup n |>.isNone)=[]:=by
  rw[List.filter_eq_nil_iff];intro x hx;have:=Hb hl x hx;rcases q:((argNames ⟨[],p2,none,[],p5,none,p7⟩).zip vals).lookup x with _|_
  ·rw[q] at this;exact Bool.noConfusion this
  ·exact Bool.false_ne_true
 refine Eq.trans (if_neg (fun h=>?_)) ?_
 ·have h:=of_decide_eq_true (Bool.and_eq_true_iff.mp h).1;exact Nat.lt_irrefl _ (Nat.lt_of_le_of_lt (Nat.le_of_eq hl.symm) h)
 have d0:List.drop (([]:List Value).length - (argNames ⟨[],p2,none,[],p5,none,p7⟩).length) ([]:List Value)=[]:=List.drop_nil;have e:(List.take ((argNames ⟨[],p2,none,[],p5,none,p7⟩).length - (List.drop (([]:List Value).length - (argNames ⟨[],p2,none,[],p5,none,p7⟩).length) ([]:List Value)).length) (argNames ⟨[],p2,none,[],p5,none,p7⟩)).filter (fun n=>((argNames ⟨[],p2,none,[],p5,none,p7⟩).zip vals).lookup n |>.isNone)=[]:=by
  rw[d0];exact(congrArg (List.filter _) List.take_length).trans hm
 refine Eq.trans (if_neg (fun h=>?_)) ?_
 ·exact Bool.false_ne_true ((congrArg (fun l:List Str=>!l.isEmpty) e).symm.trans h)
 refine Eq.trans (congrArg (fun l:List (Str×Value)=>Bind.bind (forIn l _ _) _) ((congrArg (List.zip _) d0).trans List.zip_nil_right)) ?_;exact congrArg (pure (f:=Sem)) ((congrArg (List.filterMap _) (List.append_nil _)).trans (WL hl hn))
theorem JZ:∀(names:List (Str×NameKind)) (n:Nat) (acc:List (Str×Addr)) (x:Str),(acc.lookup x).isSome=true->((cellsFrom n names acc).lookup x).isSome=true
 | [],_,_,_,h=>h
 | (y,k)::r,n,acc,x,h=>by
  dsimp only[cellsFrom]
  split
  ·refine JZ r (n+1) ((y,n)::acc) x ?_;refine(congrArg _ (List.lookup_cons ..)).trans ?_;by_cases e:x == y
   ·rw[e];rfl
   ·rw[Bool.eq_false_iff.mpr e];exact h
  ·exact JZ r _ _ x h
theorem Js:∀(names:List (Str×NameKind)) (n:Nat) (acc:List (Str×Addr)) (x:Str),(x,NameKind.cell)∈names->((cellsFrom n names acc).lookup x).isSome=true
 | [],_,_,_,h=>by cases h
 | (y,k)::r,n,acc,x,h=>by
  dsimp only[cellsFrom];rcases List.mem_cons.mp h with q|q
  ·cases q;simp only[beq_self_eq_true,if_true];refine JZ r _ _ _ ?_;rw[List.lookup_cons,beq_self_eq_true];rfl
  ·split
   ·exact Js r _ _ x q
   ·exact Js r _ _ x q
structure Kl(s:Shared)(d:Arguments×List Stmt×Scope)(env:Env):Prop where
 sc:env.scope=d.2.2
 gl:env.globals=mainGlobals
 bl:env.builtins=builtinsNs
 loc:env.locals=s.heap.objs.size
 cells:env.cells=cellsFrom (s.heap.objs.size+1) d.2.2.names []
section
variable {X:Qu}{A:Around}{g:PM}{s:Shared}
theorem Yg{R:Result->Shared->Prop}{a:Addr}{d:Arguments×List Stmt×Scope}{vals:List Value}(fo:Yt g a d)(pd:plainDef d=true)(hs:PM.le g s.heap.get?)(hroom:A.depth < recursionLimit)(hlim:s.heap.NoLimit)(hl:vals.length=d.1.args.length)
  (h:∀env s₁,Kl s d env->env.frame=some env.locals/\env.scope.kind≠.module->InCallC s env.locals (bindL env.kindOf ((argNames d.1).zip vals) fun Z=>none) env.cells (bindC env.kindOf ((argNames d.1).zip vals) fun Z=>none) s₁->
   QD X.M (A.deeper env) (PySem.execs d.2.1 env) (fun f s'=>R (.ok (.ret (match f with|.ret v=>v|_=>.none))) s')
    (fun e s'=>QD X.M (A.deeper env) («leaving» env e) (fun Z s''=>R (.error e) s'') (fun e' s''=>R (.error e') s'') s') s₁):
  ZU X.M A (.call (.ref a) ⟨vals,[]⟩) R s:=by
 refine cps fun U y0=>?_;obtain⟨o,fd,h1,h2,h3,h4,h5,h6,h7,h8,h9,h10,c,oc,vs,t,k1,k2,k3,k4⟩:=fo.is;unfold plainDef at pd;simp only[Bool.and_eq_true,List.isEmpty_iff,Option.isNone_iff_eq_none,decide_eq_true_eq,Bool.not_eq_true',beq_iff_eq,List.all_eq_true] at pd;obtain⟨⟨⟨⟨⟨⟨⟨⟨p1,p2⟩,p3⟩,p4⟩,p5⟩,p6⟩,p7⟩,p8⟩,p9⟩:=pd;refine y0 ?_;have hsc:d.2.2.kind=.function:=p6;refine Qx rfl ?_;show QD X.M A.in1 (callAny (.ref a) ⟨vals,[]⟩) _ _ s;refine Q9 (wpAny_load (hs _ _ h1) ?_);rw[h2];dsimp only[callFunction];rw[k1,h4,h5,p7,p8];refine Q9 (m:=field (.ref c) 1) (wpAny_field (hs _ _ k2) k3 k4 (Q0 (Q7 ?_)));have hnl:(argNames fd.params).length=vals.length:=by rw[h3,hl];exact List.length_map ..
 rw[UU (((congrArg _ (h3 ..)).trans p1)) (((congrArg _ (h3 ..)).trans p2)) (((congrArg _ (h3 ..)).trans p3)) (((congrArg _ (h3 ..)).trans p4)) h8 (by rw[h3];exact p5) hnl,h7,h6,h10,h3];refine Q0 (Q7 ?_);refine Q9 (wpAny_newFunctionEnv_cells hsc ?_ ?_)
 ·rintro⟨x,v⟩ hm;have:=p9 x (List.of_mem_zip hm).1;unfold isParam at this;rw[Bool.or_eq_true,beq_iff_eq,beq_iff_eq] at this;rcases this with q|q
  ·exact .inl q
  ·exact .inr ⟨q,Js _ _ _ _ (mem_of_lookup q)⟩
 ·rintro env rfl s' x;refine Q9 (wpAny_enterFrame (hlim.keeps x.toInCall.keep) hroom ?_);refine Q7 ⟨rfl,?_⟩;refine Qx rfl ?_;show QD X.M (A.deeper _) (do point;match <-(PySem.execs d.2.1 _).onRaise («leaving» _) with|.ret v=>ret v|_=>ret .none) _ _ s';refine Q0 (WV (Q0 (QP (Zu (h _ s' ⟨rfl,rfl,rfl,rfl,rfl⟩ ⟨rfl,by show d.2.2.kind≠_;rw[hsc];decide⟩ x) (fun f s'' h'=>?_) fun Z Z h'=>h'))));rcases f with _|_<;>exact Q7 h'
theorem Wh{R:Result->Shared->Prop}{a:Addr}{d:Arguments×List Stmt×Scope}{vals:List Value}(fo:Yt g a d)(pd:plainDef d=true)(hs:PM.le g s.heap.get?)(hroom:A.depth < recursionLimit)(hlim:s.heap.NoLimit)(hl:vals.length=d.1.args.length)
  (h:∀env s₁,Kl s d env->InCallC s env.locals (bindL env.kindOf ((argNames d.1).zip vals) fun Z=>none) env.cells (bindC env.kindOf ((argNames d.1).zip vals) fun Z=>none) s₁->
   QD X.M (A.deeper env) (PySem.execs d.2.1 env) (fun f s'=>R (.ok (.ret (match f with|.ret v=>v|_=>.none))) s')
    (fun e s'=>QD X.M (A.deeper env) («leaving» env e) (fun Z s''=>R (.error e) s'') (fun e' s''=>R (.error e') s'') s') s₁):
  ZU X.M A (.call (.ref a) ⟨vals,[]⟩) R s:=Yg fo pd hs hroom hlim hl fun env s₁ ee Z ic=>h env s₁ ee ic
end
noncomputable def sN:Str:="self"
noncomputable def nN:Str:="name"
noncomputable def tN:Str:="told"
noncomputable def KH(d:Arguments×List Stmt×Scope):Bool:=
 plainDef d&&argNames d.1 == [sN,nN,tN]&&d.2.2.names.all (fun y=>!(y.2 == .cell))&&(d.2.2.names.lookup sN == some .local)&&(d.2.2.names.lookup nN == some .local)&&(d.2.2.names.lookup tN == some .local)
noncomputable def pI(l a b:Nat):Pos:=⟨l,a,l,b⟩
noncomputable def L8:List Stmt:=[.Assign [.Attribute (.Name sN (pI 70 8 12)) nN (pI 70 8 17)] (.Name nN (pI 70 20 24)) (pI 70 8 24),.Assign [.Attribute (.Name sN (pI 71 8 12)) tN (pI 71 8 17)] (.Name tN (pI 71 20 24)) (pI 71 8 24)]
theorem GL:Y9.map (·.2.1)=some L8:=by kernel_rfl
theorem NO:Y9.map KH=some true:=by decide +kernel
theorem Ii{hs:Int}{k:Tok}{v:Value}:getL tN [⟨hs,.str nN k,v⟩]=some none:=by
 have h1':(Value.str nN k).isStr tN=false:=by
  show(nN == tN)=false;decide +kernel
 unfold getL;rw[List.find?_cons];simp only[h1'];rfl
theorem Aw{hs h2:Int}{k k2:Tok}{v v2:Value}:putL tN h2 (.str tN k2) v2 [⟨hs,.str nN k,v⟩]=[⟨hs,.str nN k,v⟩,⟨h2,.str tN k2,v2⟩]:=by
 have h1':(Value.str nN k).isStr tN=false:=by
  show(nN == tN)=false;decide +kernel
 unfold putL;rw[if_neg (by rw[h1'];exact Bool.false_ne_true)];rfl
section
variable {X:Qu}{n:Nat}{Φ:Qj}{env:Env}{names:List Str}
variable {A:Around}{P0 g g1:PM}{P:PF}{s:Shared}{E:VP}
theorem NL(st:St X g)(hs:PM.le g s.heap.get?):Yi X.M s.heap (.ref modC):=by
 have Y:=makes_of (M:=X.M) (st.inK hs) st.kok.makes;refine cps fun U y0=>?_;obtain⟨oc,od,cd,sl,hC,_⟩:=Y.obj;refine y0 ?_;refine⟨.machine,.inr (.inl rfl),?_⟩;refine Looks.andThen (Looks.ld (part:=none) hC) ?_;exact Looks.andThen Y.call .now
theorem RG{rest:List Value}{kw:List (Str×Value)}:(A.under (.builtin "type.__call__" ⟨.ref modC::rest,kw⟩)).depth<=A.depth+2:=by
 show A.depth+Code.weight _<=_;have:Code.weight (.builtin "type.__call__" ⟨.ref modC::rest,kw⟩)<=2:=by
  have e:Code.weight (.builtin "type.__call__" ⟨.ref modC::rest,kw⟩)=1:=by kernel_rfl
  omega
 omega
theorem GF{va vb:Value}{Q:VP}(st:St X g)(hs:PM.le g s.heap.get?)(hroom:A.depth+3 < recursionLimit)
  (hQ:∀h' tk h1 t1 h2 t2 m,(∀b o,s.heap.get? b=some o->h'.get? b=some o)->h'.get? s.heap.objs.size=some (Zb h1 t1 va h2 t2 vb m)->h'.get? (s.heap.objs.size+1)=some (instObj modC s.heap.objs.size)->Q (.ref (s.heap.objs.size+1)) { s with heap:=h',toks:=tk }):
  wpAny X.M A (call (.ref modC) [va,vb]) Q E s:=by
 refine cps fun U y0=>?_;obtain⟨hh,gg,dd,tt,oo⟩:=s;obtain⟨d,e0,fo⟩:=st.ini;have sh:=NO;have hb:=GL;rw[e0] at sh hb;have hb:d.2.1=L8:=Option.some.inj hb;have sh:KH d=true:=Option.some.inj sh;unfold KH at sh;simp only[Bool.and_eq_true,beq_iff_eq,List.all_eq_true,Bool.not_eq_true'] at sh;obtain⟨⟨⟨⟨⟨p0,p1⟩,p2⟩,p3⟩,p4⟩,p5⟩:=sh;obtain⟨o,fd,h1,h2,h3,h4,h5,h6,h7,h8,h9,h10,c,oc,vs,tk,k1,k2,k3,k4⟩:=fo.is;have pd:=p0;unfold plainDef at pd;simp only[Bool.and_eq_true,List.isEmpty_iff,Option.isNone_iff_eq_none,decide_eq_true_eq,Bool.not_eq_true',beq_iff_eq,List.all_eq_true] at pd;obtain⟨⟨⟨⟨⟨⟨⟨⟨q1,q2⟩,q3⟩,q4⟩,q5⟩,q6⟩,q7⟩,q8⟩,q9⟩:=pd;refine y0 ?_;have hsh:PM.le g hh.get?:=hs;refine wpAny_call ?_;refine make_core (makes_of (st.inK hsh) st.kok.makes) (looks_findIn (st.inK hsh) st.kok.init) (fun self=>bind_fn (st.inK hsh) self st.kok.fn) (.inl rfl) ?_;have hu:=@RG A [va,vb] [];have kp:∀b o,hh.get? b=some o->((hh.push emptyDict).push (instObj modC hh.objs.size)).get? b=some o:=fun b o e=>Heap.get?_push_of_some _ (Heap.get?_push_of_some _ e);have hx:((hh.push emptyDict).push (instObj modC hh.objs.size)).get? (hh.objs.size+1)=some (instObj modC hh.objs.size):=by heap_get
 have hdx:((hh.push emptyDict).push (instObj modC hh.objs.size)).get? hh.objs.size=some (dictOf [] 0):=Heap.get?_push_of_some _ (Heap.get?_push_size _ rfl);have hsz:((hh.push emptyDict).push (instObj modC hh.objs.size)).objs.size=hh.objs.size+2:=((Heap.size_push ..).trans (congrArg _ (Heap.size_push ..)))
 generalize hH0:(hh.push emptyDict).push (instObj modC hh.objs.size)=H0 at *;have hgH:PM.le g H0.get?:=fun b o e=>kp b o (hsh b o e);have hbs:bindArgs fd ⟨[.ref (hh.objs.size+1),va,vb],[]⟩=pure ([(sN,.ref (hh.objs.size+1)),(nN,va),(tN,vb)]):=by
  rw[UU (((congrArg _ (h3 ..)).trans q1)) (((congrArg _ (h3 ..)).trans q2)) (((congrArg _ (h3 ..)).trans q3)) (((congrArg _ (h3 ..)).trans q4)) h8 (by rw[h3];exact q5) (by rw[h3,p1];rfl),h3,p1];rfl
 refine codeAny_call_def (fd:=fd) (body:=d.2.1) (o:=o) (by lia) (hgH _ _ h1) h2 (st.noLimit hgH) ?_ h4 (.of_eq hbs) (by rw[h5];intro y hy q;have:=p2 y hy;rw[q] at this;exact Bool.noConfusion this) ?_ (fun H2 hns hk2=>?_) (((congrArg _ (h5 ..)).trans q7)) (((congrArg _ (h5 ..)).trans q8)) (((congrArg _ (h5 ..)).trans q6))
 ·exact⟨c,oc,vs,tk,k1,hgH _ _ k2,k3,k4⟩
 ·intro y hy;refine(h5 ..).symm▸?_;simp only[List.mem_cons,List.not_mem_nil,or_false] at hy;rcases hy with rfl|rfl|rfl
  ·exact p3
  ·exact p4
  ·exact p5
 ·generalize hE:callEnv fd H0.objs.size 122=env';have esc:env'.scope=d.2.2:=((congrArg _ (hE ..).symm).trans h5)
  have eloc:env'.locals=H0.objs.size:=congrArg _ (hE ..).symm;have ekd:env'.scope.kind=.function:=((congrArg _ (esc ..)).trans q6)
  have kS:env'.kindOf sN=some .local:=by unfold Env.kindOf;rw[esc];exact p3
  have kN:env'.kindOf nN=some .local:=by unfold Env.kindOf;rw[esc];exact p4
  have kT:env'.kindOf tN=some .local:=by unfold Env.kindOf;rw[esc];exact p5
  replace hns:=(eloc).symm▸hns;refine(hb ..).symm▸?_;dsimp only[L8];have hgH2:PM.le g H2.get?:=fun b o e=>hk2 b o (hgH b o e);have mS:(fun x=>List.lookup x ([(sN,Value.ref (hh.objs.size+1)),(nN,va),(tN,vb)]:List (Str×Value)).reverse) sN=some (.ref (hh.objs.size+1)):=by
   show List.lookup sN [(tN,vb),(nN,va),(sN,Value.ref (hh.objs.size+1))]=_;rw[List.lookup_cons,show(sN == tN)=false from by decide +kernel,List.lookup_cons,show(sN == nN)=false from by decide +kernel,List.lookup_cons,show(sN == sN)=true from by decide +kernel]
  have mN:(fun x=>List.lookup x ([(sN,Value.ref (hh.objs.size+1)),(nN,va),(tN,vb)]:List (Str×Value)).reverse) nN=some va:=by
   show List.lookup nN [(tN,vb),(nN,va),(sN,Value.ref (hh.objs.size+1))]=_;rw[List.lookup_cons,show(nN == tN)=false from by decide +kernel,List.lookup_cons,show(nN == nN)=true from by decide +kernel]
  have mT:(fun x=>List.lookup x ([(sN,Value.ref (hh.objs.size+1)),(nN,va),(tN,vb)]:List (Str×Value)).reverse) tN=some vb:=by
   show List.lookup tN [(tN,vb),(nN,va),(sN,Value.ref (hh.objs.size+1))]=_;rw[List.lookup_cons,show(tN == tN)=true from by decide +kernel]
  generalize(fun x=>List.lookup x ([(sN,Value.ref (hh.objs.size+1)),(nN,va),(tN,vb)]:List (Str×Value)).reverse)=mm at *;have dne:env'.locals≠hh.objs.size:=by rw[eloc,hsz];exact Ne.symm (Zl (Nat.lt_add_of_pos_right (Nat.le_of_ble_eq_true rfl)))
  refine wpAny_execs_cons (plainObj_wpAny_Assign_Attribute (wpAny_Name (wpAny_loadName_local ekd kN hns mN (wpAny_Name (wpAny_loadName_local ekd kS hns mS ?_) (by decide +kernel))) (by decide +kernel)));refine Np (es:=[]) (n:=0) st.kok (st.inK hgH2) (K6 (hk2 _ _ hx) (hk2 _ _ hdx)) st.kok.nameT rfl (by show(1:Nat)<=1000;decide) fun H3 tk3 sb3 d3=>?_;have hgH3:PM.le g H3.get?:=fun b o e=>by
   exact Eq.trans (sb3.2 b (Zl (Heap.lt_size (hsh b o e)))) (hgH2 b o e)
  have hns3:=hns.sameBut sb3 dne;refine wpAny_execs_cons (plainObj_wpAny_Assign_Attribute (wpAny_Name (wpAny_loadName_local ekd kT hns3 mT (wpAny_Name (wpAny_loadName_local ekd kS hns3 mS ?_) (by decide +kernel))) (by decide +kernel)));have hx3:H3.get? (hh.objs.size+1)=some (instObj modC hh.objs.size):=by
   exact Eq.trans (sb3.2 _ (Ne.symm (Zl (Nat.lt_succ_self _)))) (hk2 _ _ hx)
  refine Np (es:=[⟨_,.str nN _,va⟩]) (n:=1) st.kok (st.inK hgH3) (K6 hx3 d3) st.kok.toldT (congrArg _ (Ii ..)) (by rw[Aw];show(2:Nat)<=1000;decide) fun H4 tk4 sb4 d4=>?_;rw[Aw] at d4;refine wpAny_execs_nil ⟨rfl,?_⟩;refine hQ H4 tk4 _ _ _ _ _ (fun b o e=>?_) d4 ?_
  ·have hb:=Zl (Heap.lt_size e);rw[sb4.2 b hb,sb3.2 b hb];exact hk2 b o (kp b o e)
  ·exact Eq.trans (sb4.2 _ (Ne.symm (Zl (Nat.lt_succ_self _)))) (hx3)
theorem P4{x:Str}{a b:Expr}{ia ib:IR}{p pos:Pos}{nk:List (Str×NameKind)}(ok:QS env nk)(hk:nk.lookup x=some .globalImplicit)(hx:x.cps.toList=[77,111,100,105,102,105,101,114])
  (hy:(x == ("__debug__":Str))=false) (hst:∀e∈[a,b],notStar e=true) (h0:J7 X n Φ env names [a,b] [ia,ib]):Qg X n Φ env names (.Call (.Name x p) [a,b] [] pos) (.modi ia ib):=fun A P0 P fl own g ρ D D' d s Q E R h F hQ=>by
 dsimp only[run] at h;refine cps fun U y0=>?_;refine kB h ?_;clear h;intro nm D1 h1 h;refine kL h ?_;clear h;intro l D2 h2 h;rcases h3:Je l with _|td
 ·rw[h3] at h;exact Qf h
 rw[h3] at h;cases h;refine y0 ?_;have h5:runs Φ [ia,ib] ρ D=some ([.bytes nm,.list l],D'):=EZ h1 h2;have hx':x="Modifier":=by
  rw[<- Zh x,hx];rfl
 have hk':env.kindOf x=some .globalImplicit:=by unfold Env.kindOf;rw[ok.nm];exact hk
 refine(arm_eval_Call_Name' ..).symm▸?_;refine Q9 (Calls.Name_function_global ok.kd hk' (Calls.loadGlobal_global (by rw[ok.gl];exact F.st.glob.at F.sub) (((congrArg _ (hx' ..)).trans F.st.modi)) ?_) hy);refine Qy hst (h0 A P0 P fl own g ρ D D' [.bytes nm,.list l] pos s _ E R h5 F fun vs g1 H1 t1 G1 dk1 r1=>⟨NL (F.grow G1 dk1).st G1.sub,?_⟩);have F1:=F.grow G1 dk1;refine(List.nil_append ..).symm▸?_;dsimp only[Qo] at r1;obtain⟨va,r,rfl,r2,r3⟩:=r1;obtain⟨vb,r,rfl,r4,r5⟩:=r3;subst r5;have hd:=R.dp;refine Q3 (GF (s:={ s with heap:=H1,toks:=t1 }) F1.st G1.sub (by lia) fun h' tk k1 s1 k2 s2 m keep e1 e2=>?_);have z1:H1.get? H1.objs.size=none:=Zj _;have z2:H1.get? (H1.objs.size+1)=none:=by
  rcases q:H1.get? (H1.objs.size+1) with _|o
  ·rfl
  ·exact absurd (Heap.lt_size q) (Nat.not_lt.mpr (Nat.le_succ _))
 have G2:=((Qs.same G1.sub keep:Qs X.dk g1 H1 g1 h').reveal z1 e1).reveal z2 e2;refine hQ _ _ h' tk (G1.trans G2) (dk1.keeps keep) ?_;have up:PM.le g1 _:=G2.up;have r4':=r4.up up;have bl:=EW r4' h3;dsimp only[VR] at r2 ⊢;refine cps fun U y0=>?_;obtain⟨bb,tk',rfl,hb⟩:=r2;refine y0 ?_;refine⟨_,H1.objs.size,k1,s1,k2,s2,m,_,_,rfl,PM.add_self ..,?_,?_,⟨bb,tk',rfl,hb⟩,bl⟩
 ·skip;refine Eq.trans (if_neg (Zl (Nat.lt_succ_self _))) ?_;exact PM.add_self ..
 ·rcases q:P0 H1.objs.size with _|o
  ·rfl
  ·have:=F1.p0 _ _ q;rw[z1] at this;exact Bool.noConfusion this
end
section
variable {X:Qu}{n:Nat}{Φ:Qj}{env:Env}{names:List Str}
theorem V3{e:Expr}:Qg X n Φ env names e .stuck:=fun A P0 P fl own g ρ D D' d s Q E R h F hQ=>by
 dsimp only[run] at h;exact Qf h
theorem Gj{e:Expr}:ZN X n Φ env names e .stuck:=fun A P0 P fl own g ρ D D' d b s Q E R h hb F hQ=>by
 dsimp only[run] at h;exact Qf h
noncomputable abbrev Qz(X:Qu)(n:Nat)(Φ:Qj)(env:Env)(names:List Str)(e:Expr)(ir:IR):Prop:=Qg X n Φ env names e ir/\ZN X n Φ env names e ir
theorem Qh{e:Expr}:Qz X n Φ env names e .stuck:=⟨V3,Gj⟩
theorem Qt{e:Expr}{ir:IR}(he:isTrue e env (eval e env)=(do let v <-eval e env;standAt e.pos;holding [v] (truthy v)))(h0:Qg X n Φ env names e ir):Qz X n Φ env names e ir:=⟨h0,BB he h0⟩
theorem Zq{α β:Type}{f:α->β}:∀{l:List α} {p:α×β},p∈l.zip (l.map f)->p.1∈l/\p.2=f p.1:=by
 intro zz
 induction zz with
 | nil=>
  intro _ h;cases h
 | cons a l ih=>
  intro p h;rw[List.map_cons,List.zip_cons_cons] at h;rcases List.mem_cons.mp h with rfl|h
  ·exact⟨List.mem_cons_self,rfl⟩
  ·exact⟨List.mem_cons_of_mem _ (ih h).1,(ih h).2⟩
theorem Zk{x:Str}(h:okN x=true):(x == ("__debug__":Str))=false/\(x == ("__classdict__":Str))=false:=by
 unfold okN at h;rw[Bool.and_eq_true,Bool.not_eq_true',Bool.not_eq_true'] at h;exact h
theorem ZH{es:List Expr}(h:Ur es=true):∀e∈es,notStar e=true:=by
 unfold Ur at h;exact List.all_eq_true.mp h
set_option tactic.hygienic true in
theorem XC{x:Str}:∀{l:List Str} {i:Nat},l.idxOf? x=some i->l[i]?=some x:=by
 intro zz
 induction zz with
 | nil=>
  intro _ h;simp at h
 | cons a l ih=>
  intro i h;replace h:=Eq.trans (List.idxOf?_cons).symm h
  split at h
  ·rename_i e;obtain rfl:=so h;exact((List.getElem?_cons_zero).trans (eq_of_beq e))
  ·obtain⟨j,hj,rfl⟩:=Option.map_eq_some_iff.mp h;refine Eq.trans List.getElem?_cons_succ ?_;exact ih hj
theorem Um{op:CmpOp}{o:Co}(h:Er op=some o):op=En o:=by
 rcases op with _|_<;>first|exact Qf h|(obtain rfl:=so h;rfl)
theorem KG{cx:Cx}{x:Str}(h:cx.isGlob x=true):cx.names.lookup x=some .globalImplicit:=by
 unfold Cx.isGlob at h;exact beq_iff_eq.mp h
theorem ZK{x y:Str}(h:x.cps.toList=y.cps.toList):x=y:=by
 rw[<- Zh x,<-Zh y,h]
theorem VL{α:Type}:∀{l:List (Option α)} {r:List α},l.mapM id=some r->l=r.map some
 | [],r,h=>by simp at h;subst h;rfl
 | none::l,r,h=>by simp at h
 | some a::l,r,h=>by
  rw[List.mapM_cons] at h;rcases q:l.mapM id with _|r'
  ·rw[q] at h;exact Qf h
  ·
   rw[q] at h;obtain rfl:=so h;rw[VL q];rfl
theorem Ve{α:Type}{f g:α->IR}:∀(l:List α),(l.flatMap fun p=>[f p,g p])=UD (l.map fun p=>(f p,g p)):=by
 intro zz
 induction zz with
 | nil=>
  exact rfl
 | cons a l ih=>
  rw[List.flatMap_cons,ih];rfl
noncomputable def EV.of:EV->Expr->Prop
 | .const c,e=>∃k p,e=.Constant c k p
 | .name x p,e=>e=.Name x p
 | .bop op vs,e=>∃p,e=.BoolOp op vs p
 | .bin l op r,e=>∃p,e=.BinOp l op r p
 | .un op x,e=>∃p,e=.UnaryOp op x p
 | .ite t a b,e=>∃p,e=.IfExp t a b p
 | .cmp l ops rs,e=>∃p,e=.Compare l ops rs p
 | .call f as ks p,e=>e=.Call f as ks p
 | .attr o a p,e=>e=.Attribute o a p
 | .sub o i,e=>∃p,e=.Subscript o i p
 | .slc lo hi st,e=>∃p,e=.Slice lo hi st p
 | .tup es,e=>∃k p,e=.Tuple es k p
 | .lst es,e=>∃p,e=.List es p
 | .dict ks vs,e=>∃p,e=.Dict ks vs p
 | .lc x gs sc,e=>∃p,e=.ListComp x gs sc p
 | .other,_=>True
theorem Yr(e:Expr):(ev e).of e:=by cases e<;>first|exact rfl|exact trivial|exact⟨_,rfl⟩|exact⟨_,_,rfl⟩
theorem Uh{e:Expr}{x:Str}(h:nameV e=some x):∃p,e=.Name x p:=by
 have q:=Yr e;unfold nameV at h;generalize ev e=v at h q;rcases v with _|_<;>first|exact Qf h|(obtain rfl:=so h;exact⟨_,q⟩)
theorem Wu{e:Expr}{m:Expr×Str×Pos}(h:N4 e=some m):e=.Attribute m.1 m.2.1 m.2.2:=by
 have q:=Yr e;unfold N4 at h;generalize ev e=v at h q;rcases v with _|_<;>first|exact Qf h|(obtain rfl:=so h;exact q)
theorem Wj{e:Expr}{c:Expr×List Expr×List Keyword×Pos}(h:XW e=some c):e=.Call c.1 c.2.1 c.2.2.1 c.2.2.2:=by
 have q:=Yr e;unfold XW at h;generalize ev e=v at h q;rcases v with _|_<;>first|exact Qf h|(obtain rfl:=so h;exact q)
theorem BN{e:Expr}{m:Option Expr×Option Expr×Option Expr}(h:M3 e=some m):∃p,e=.Slice m.1 m.2.1 m.2.2 p:=by
 have q:=Yr e;unfold M3 at h;generalize ev e=v at h q;rcases v with _|_<;>first|exact Qf h|(obtain rfl:=so h;exact q)
theorem Vt{e:Expr}{m:List Expr}(h:Gh e=some m):∃k p,e=.Tuple m k p:=by
 have q:=Yr e;unfold Gh at h;generalize ev e=v at h q;rcases v with _|_<;>first|exact Qf h|(obtain rfl:=so h;exact q)
theorem Sy{e:Expr}{m:List Expr}(h:Mo e=some m):∃p,e=.List m p:=by
 have q:=Yr e;unfold Mo at h;generalize ev e=v at h q;rcases v with _|_<;>first|exact Qf h|(obtain rfl:=so h;exact q)
theorem LF{e:Expr}{m:List (Option Expr)×List Expr}(h:LG e=some m):∃p,e=.Dict m.1 m.2 p:=by
 have q:=Yr e;unfold LG at h;generalize ev e=v at h q;rcases v with _|_<;>first|exact Qf h|(obtain rfl:=so h;exact q)
theorem Vi{e:Expr}{c:Const}(h:VX e=some c):∃k p,e=.Constant c k p:=by
 have q:=Yr e;unfold VX at h;generalize ev e=v at h q;rcases v with _|_<;>first|exact Qf h|(obtain rfl:=so h;exact q)
theorem UB{α:Type}{o:Option α}{f:α->Bool}(h:o.elim false f=true):∃a,o=some a/\f a=true:=match o,h with|some a,h=>⟨a,rfl,h⟩
theorem NM{e:Expr}(h:TM e=true):∃k p,e=.Constant .none k p:=by
 obtain⟨c,h1,h2⟩:=UB h;rcases c with _|_<;>first|exact Vi h1|exact Bool.noConfusion h2
set_option tactic.hygienic true in
theorem SU{e:Expr}(h:MG e=true):∃k p q,e=.UnaryOp .USub (.Constant (.int 1) k p) q:=by
 have q:=Yr e;unfold MG at h;generalize ev e=v at h q;rcases v with _|_<;>try (exact Bool.noConfusion h;done)
 rename_i op x;obtain⟨h1,h2⟩:=QX h;obtain⟨c,h3,h4⟩:=UB h2;obtain⟨k,p,rfl⟩:=Vi h3;rcases c with _|_<;>try (exact Bool.noConfusion h4;done)
 obtain rfl:=eq_of_beq h4;rcases op with _|_<;>try (exact Bool.noConfusion h1;done)
 obtain⟨p2,rfl⟩:=q;exact⟨_,_,_,rfl⟩
theorem VN{o:CmpOp}{o':Co}(h:zj o=some o'):o=En o'/\∀k p,behindInMarks o (.Constant .none k p)=false:=by
 rcases o with _|_<;>cases h<;>exact⟨rfl,fun Z Z=>rfl⟩
section
variable {cx:Cx}{r:Expr->IR}{p:Pos}
theorem Su{x:Str}(ok:ZT env cx):Qz X n Φ env cx.slots (.Name x p) (Fg cx x):=by
 refine Ql (P:=Qz X n Φ env cx.slots _) Qh fun h1=>?_;have d1:=(Zk h1).1;have d2:=(Zk h1).2;cases h2:cx.isGlob x
 ·exact Qe (P:=Qz X n Φ env cx.slots _) Qh fun i hi=>Qt rfl (JF ok.e (XC hi) d2 d1)
 ·exact Qe (P:=Qz X n Φ env cx.slots _) Qh fun v hv=>Qt rfl (P7 ok.e (KG h2) hv d1)
variable (hE:∀e,Qz X n Φ env cx.slots e (r e))
include hE
theorem Ub{es:List Expr}(h:Ur es=true):J7 X n Φ env cx.slots es (es.map r):=Xj (List.length_map ..).symm (ZH h) fun p hp=>by rw[(Zq hp).2];exact(hE _).1
theorem Oh{l:Expr}{ops:List CmpOp}{rs:List Expr}:Qz X n Φ env cx.slots (.Compare l ops rs p) (CM r l ops rs):=by
 refine Qe (P:=Qz X n Φ env cx.slots _) ?_ fun o ho=>Qe (P:=Qz X n Φ env cx.slots _) Qh fun q hq=>?_
 ·refine Qe (P:=Qz X n Φ env cx.slots _) Qh fun o ho=>Qe (P:=Qz X n Φ env cx.slots _) Qh fun q hq=>Ql (P:=Qz X n Φ env cx.slots _) Qh fun hm=>Qe (P:=Qz X n Φ env cx.slots _) Qh fun o1 ho1=>Qe (P:=Qz X n Φ env cx.slots _) Qh fun o2 ho2=>?_;rw[Kq ho,Kq hq];exact⟨P9 (Um ho1) (Um ho2) (Sr hm) (hE _).1 (hE _).1 (hE _).1,RL (Um ho1) (Um ho2) (Sr hm) (hE _).1 (hE _).1 (hE _).1⟩
 ·rw[U8 ho,U8 hq];refine Qe (P:=Qz X n Φ env cx.slots _) (Ql (P:=Qz X n Φ env cx.slots _) Qh fun hm=>Qe (P:=Qz X n Φ env cx.slots _) Qh fun o' ho'=>?_) fun o' ho'=>Ql (P:=Qz X n Φ env cx.slots _) Qh fun hn=>?_
  ·exact⟨Ts (Um ho') (Sr hm) (hE _).1 (hE _).1,Vu (Um ho') (Sr hm) (hE _).1 (hE _).1⟩
  ·obtain⟨k,p2,rfl⟩:=NM hn;exact⟨Ts (VN ho').1 ((VN ho').2 _ _) (hE _).1 HD,Vu (VN ho').1 ((VN ho').2 _ _) (hE _).1 HD⟩
theorem Sx{o:Expr}{m:Str}{ap:Pos}{as:List Expr}:Qz X n Φ env cx.slots (.Call (.Attribute o m ap) as [] p) (Fh r o m ap as p):=by
 refine Ql (P:=Qz X n Φ env cx.slots _) Qh fun h=>?_;obtain⟨h,h3⟩:=QX h;have h1:=(QX h).1;have h2:=(QX h).2;refine Qe (P:=Qz X n Φ env cx.slots _) (Qe (P:=Qz X n Φ env cx.slots _) Qh fun a ha=>?_) fun q hq=>?_
 ·obtain rfl:=U8 ha;have ha:=ZH h3 a List.mem_cons_self;refine Ql (P:=Qz X n Φ env cx.slots _) (Ql (P:=Qz X n Φ env cx.slots _) Qh fun hm=>?_) fun hm=>?_
  ·obtain rfl:=ZK (y:="join") (eq_of_beq hm);exact Qt rfl (P6 h1 h2 ha (hE _).1 (Ub hE h3))
  ·obtain rfl:=ZK (y:="rfind") (eq_of_beq hm);exact Qt rfl (Gp h1 h2 ha (hE _).1 (Ub hE h3))
 ·obtain rfl:=Kq hq;refine Ql (P:=Qz X n Φ env cx.slots _) Qh fun hm=>?_;obtain rfl:=ZK (y:="get") (eq_of_beq hm);exact Qt rfl (BX h1 h2 (ZH h3 _ List.mem_cons_self) (ZH h3 _ (List.mem_cons_of_mem _ List.mem_cons_self)) (hE _).1 (Ub hE h3))
theorem Cp(hc:JD X n Φ)(ok:ZT env cx){x:Str}{p2:Pos}{as:List Expr}:Qz X n Φ env cx.slots (.Call (.Name x p2) as [] p) (zo r cx x as):=by
 refine Ql (P:=Qz X n Φ env cx.slots _) Qh fun h=>?_;obtain⟨h,h3⟩:=QX h;have h1:=(QX h).1;have h2:=(QX h).2;have hg:=KG h3;have hy:=(Zk h1).1;refine Qe (P:=Qz X n Φ env cx.slots _) (Qe (P:=Qz X n Φ env cx.slots _) (Ql (P:=Qz X n Φ env cx.slots _) Qh fun h4=>Qe (P:=Qz X n Φ env cx.slots _) Qh fun q hq=>?_) fun b hb=>?_) fun f hf=>?_
 ·obtain rfl:=Kq hq;exact Qt rfl (P4 ok.e hg (eq_of_beq h4) hy (ZH h2) (Ub hE h2))
 ·exact Qt rfl (M5 ok.e hg hb hy (ZH h2) (Ub hE h2))
 ·exact Qt rfl (Pa ok.e hg hf hy (ZH h2) hc (Ub hE h2))
theorem EN{o:Expr}{a:Str}:Qz X n Φ env cx.slots (.Attribute o a p) (FI r o a):=by
 refine Qe (P:=Qz X n Φ env cx.slots _) Qh fun x hx=>?_;obtain⟨p2,rfl⟩:=Uh hx;refine Ql (P:=Qz X n Φ env cx.slots _) (Ql (P:=Qz X n Φ env cx.slots _) Qh fun hm=>?_) fun hm=>?_
 ·obtain rfl:=ZK (y:="told") (eq_of_beq hm);exact Qt rfl (RZ rfl (hE _).1)
 ·obtain rfl:=ZK (y:="name") (eq_of_beq hm);exact Qt rfl (P2 rfl (hE _).1)
theorem LW:∀e:Option Expr,Gf X n Φ env cx.slots e (e.map r)
 | none=>trivial
 | some e=>(hE e).1
theorem FZ{o i:Expr}:Qz X n Φ env cx.slots (.Subscript o i p) (Ag r o i):=by
 refine Qe (P:=Qz X n Φ env cx.slots _) (Qt rfl (BW (hE _).1 (hE _).1)) fun s hs=>?_;obtain⟨p2,rfl⟩:=BN hs;obtain⟨lo,hi,st⟩:=s;refine Yc (P:=Qz X n Φ env cx.slots _) (fun h=>?_) fun st' h=>Ql (P:=Qz X n Φ env cx.slots _) Qh fun h2=>?_
 ·obtain rfl:st=none:=h;exact Qt rfl (BP (hE _).1 (LW hE _) (LW hE _))
 ·obtain rfl:st=some st':=h;have h3:=(QX h2).1;have h4:=(QX h2).2;have h5:=(QX h3).1;have h6:=(QX h3).2;obtain rfl:lo=none:=Option.isNone_iff_eq_none.mp h5;obtain rfl:hi=none:=Option.isNone_iff_eq_none.mp h6;obtain⟨k,p3,p4,rfl⟩:=SU h4;exact Qt rfl (BQ (hE _).1)
theorem C4{rr:Cx->Expr->IR}(ok:ZT env cx)(hR:∀cx e env,ZT env cx->Qz X n Φ env cx.slots e (rr cx e)){e:Expr}{gs:List Comprehension}{sc:Scope}:Qz X n Φ env cx.slots (.ListComp e gs sc p) (zh r cx rr e gs sc):=by
 refine Qe (P:=Qz X n Φ env cx.slots _) Qh fun g hg=>Qe (P:=Qz X n Φ env cx.slots _) Qh fun x hx=>Ql (P:=Qz X n Φ env cx.slots _) Qh fun h=>?_;obtain⟨h,h3⟩:=QX h;have h1:=(QX h).1;have h2:=(QX h).2;obtain rfl:=U8 hg;obtain⟨t,it,ifs,as⟩:=g;obtain⟨p2,rfl⟩:=Uh hx;obtain rfl:as=0:=eq_of_beq h1;have K:=Rh h2;refine Ql (P:=Qz X n Φ env cx.slots _) (Qe (P:=Qz X n Φ env cx.slots _) Qh fun c hc=>?_) fun hn=>?_
 ·obtain rfl:ifs=[c]:=U8 hc;exact Qt rfl (Xe ok K h3 (hE _).1 (fun cenv okc=>(hR _ _ cenv okc).1) fun cenv okc=>FT (hR _ _ cenv okc).2)
 ·obtain rfl:ifs=[]:=nil_of hn;exact Qt rfl (Xe ok K h3 (hE _).1 (fun cenv okc=>(hR _ _ cenv okc).1) fun cenv okc=>FU)
end
theorem Eu{cx:Cx}{r:Expr->IR}{p:Pos}(hE:∀e,Qz X n Φ env cx.slots e (r e))(hc:JD X n Φ)(ok:ZT env cx){f:Expr}{as:List Expr}:Qz X n Φ env cx.slots (.Call f as [] p) (Fw r cx f as p):=by
 refine Qe (P:=Qz X n Φ env cx.slots _) (Qe (P:=Qz X n Φ env cx.slots _) Qh fun m hm=>?_) fun x hx=>?_
 ·refine(Wu hm).symm▸?_;exact Sx hE
 ·obtain⟨p2,rfl⟩:=Uh hx;exact Cp hE hc ok
theorem TX{cx:Cx}{r:Expr->IR}{p:Pos}(hE:∀e,Qz X n Φ env cx.slots e (r e)){ks vs:List Expr}:Qg X n Φ env cx.slots (.Dict (ks.map some) vs p) (.dict ((ks.zip vs).flatMap fun p=>[r p.1,r p.2])):=by
 refine(Ve ..).symm▸?_;refine P8 (List.length_map ..).symm fun p hp=>?_;rw[(Zq (f:=fun p=>(r p.1,r p.2)) hp).2];exact⟨(hE _).1,(hE _).1⟩
theorem Oj{cx:Cx}{r:Expr->IR}{p:Pos}(hE:∀e,Qz X n Φ env cx.slots e (r e)){vs:List Expr}:∀{op:BoolOp},Qz X n Φ env cx.slots (.BoolOp op vs p) (CQ r vs op):=by
 have hz:∀p∈vs.zip (vs.map r),Qz X n Φ env cx.slots p.1 p.2:=fun p hp=>by rw[(Zq hp).2];exact hE _
 exact fun{op}=>match op with
  | .And=>⟨Tt (op:=.And) (List.length_map ..).symm fun p hp=>(hz p hp).1,Tq (op:=.And) (List.length_map ..).symm fun p hp=>(hz p hp).2⟩
  | .Or=>⟨Tt (op:=.Or) (List.length_map ..).symm fun p hp=>(hz p hp).1,Tq (op:=.Or) (List.length_map ..).symm fun p hp=>(hz p hp).2⟩
theorem LM(hc:JD X n Φ){rr:Cx->Expr->IR}(hR:∀cx e env,ZT env cx->Qz X n Φ env cx.slots e (rr cx e)){cx:Cx}{env:Env}(ok:ZT env cx):∀(v:EV) (e:Expr),v.of e->Qz X n Φ env cx.slots e (Fv rr cx v):=by
 have hE:=fun e=>hR cx e env ok;intro v e q;rcases v with c|⟨x,p⟩|⟨op,vs⟩|⟨l,op,r⟩|⟨op,x⟩|⟨t,a,b⟩|⟨l,ops,rs⟩|⟨f,as,ks,p⟩|⟨o,a,p⟩|⟨o,i⟩|⟨a,b,c⟩|es|es|⟨ks,vs⟩|⟨e,gs,sc⟩|_
 ·
  obtain⟨k,p,rfl⟩:=q;rcases c with _|_<;>first
   | exact Qt rfl HD
   | exact Qt rfl Pb
   | exact Qt rfl Vy
   | exact Qt rfl Hl
   | exact Qt rfl Gr
   | exact Qh
 ·obtain rfl:=q;exact Su ok
 ·obtain⟨p,rfl⟩:=q;exact Oj hE
 ·obtain⟨p,rfl⟩:=q;exact Qe (P:=Qz X n Φ env cx.slots _) Qh fun o ho=>Qt rfl (Tu ho (hE l).1 (hE r).1)
 ·
  obtain⟨p,rfl⟩:=q;rcases op with _|_<;>first
   | exact Qh
   | exact⟨BS (hE x).1,BC (hE x).2⟩
   | exact Qt rfl (BU (hE x).1)
 ·obtain⟨p,rfl⟩:=q;exact⟨BV (hE t).2 (hE a).1 (hE b).1,BD (hE t).2 (hE a).2 (hE b).2⟩
 ·obtain⟨p,rfl⟩:=q;exact Oh hE
 ·
  obtain rfl:=q;refine Ql (P:=Qz X n Φ env cx.slots _) Qh fun h=>?_;obtain rfl:=nil_of h;exact Eu hE hc ok
 ·obtain rfl:=q;exact EN hE
 ·obtain⟨p,rfl⟩:=q;exact FZ hE
 ·exact Qh
 ·obtain⟨k,p,rfl⟩:=q;exact Ql (P:=Qz X n Φ env cx.slots _) Qh fun h=>Qt rfl (BO (Ub hE h))
 ·obtain⟨p,rfl⟩:=q;exact Ql (P:=Qz X n Φ env cx.slots _) Qh fun h=>Qt rfl (Vx (Ub hE h))
 ·
  obtain⟨p,rfl⟩:=q;refine Qe (P:=Qz X n Φ env cx.slots _) Qh fun ks' hk=>?_;obtain rfl:=VL hk;exact Qt rfl (TX hE)
 ·obtain⟨p,rfl⟩:=q;exact C4 hE ok hR
 ·exact Qh
theorem Yf(hc:JD X n Φ):∀(k:Nat) (cx:Cx) (e:Expr) (env:Env),ZT env cx->Qz X n Φ env cx.slots e (comp k cx e):=by
 intro zz
 induction zz with
 | zero=>
  intro _ _ _ _;exact Qh
 | succ k ih=>
  intro _ e _ ok;exact LM hc (ih) ok (ev e) e (Yr e)
end
section
variable {X:Qu}{n:Nat}{Φ:Qj}{env:Env}{names:List Str}
theorem Yy{o:Bool}{e:Expr}:J6 X n Φ env names o e .stuck:=UI V3 fun ρ D=>JT rfl ρ D
theorem XB{cx:Cx}{r:Expr->IR}(hE:∀e,Qz X n Φ env cx.slots e (r e))(ok:ZT env cx)(o:Bool)(e:Expr):J6 X n Φ env cx.slots o e (M6 r cx e):=by
 refine Ql (P:=J6 X n Φ env cx.slots o e) ?_ fun h=>UI (hE e).1 fun ρ D=>JT h ρ D;refine Qe (P:=J6 X n Φ env cx.slots o e) (Qe (P:=J6 X n Φ env cx.slots o e) (Qe (P:=J6 X n Φ env cx.slots o e) Yy fun d hd=>Qe (P:=J6 X n Φ env cx.slots o e) Yy fun ks hk=>?_) fun es he=>Ql (P:=J6 X n Φ env cx.slots o e) Yy fun h=>?_)
  fun c hc=>Qe (P:=J6 X n Φ env cx.slots o e) Yy fun x hx=>Ql (P:=J6 X n Φ env cx.slots o e) Yy fun h=>Qe (P:=J6 X n Φ env cx.slots o e) Yy fun b hb=>Ql (P:=J6 X n Φ env cx.slots o e) Yy fun h2=>?_
 ·obtain⟨p,rfl⟩:=LF hd;obtain⟨ks',vs⟩:=d;obtain rfl:=VL hk;rcases o with _|_
  ·exact UI (TX hE) fun ρ D=>rfl
  ·
   rw[Ve];refine Gs (List.length_map ..).symm fun p hp=>?_;rw[(Zq (f:=fun p=>(r p.1,r p.2)) hp).2];exact⟨(hE _).1,(hE _).1⟩
 ·obtain⟨p,rfl⟩:=Sy he;rcases o with _|_
  ·exact UI (Vx (Ub hE h)) fun ρ D=>rfl
  ·exact Pe (Ub hE h)
 ·refine cps fun U y0=>?_;obtain⟨h,h4⟩:=QX h;obtain⟨h,h3⟩:=QX h;obtain⟨h1,h2'⟩:=QX h;obtain rfl:=eq_of_beq h2;obtain⟨f,as,ks,p⟩:=c;obtain rfl:as=[]:=nil_of h3;obtain rfl:ks=[]:=nil_of h4;obtain⟨p2,rfl⟩:=Uh hx;refine y0 ?_;rw[Wj hc];exact Pf ok.e (KG h2') hb (Zk h1).1
end
section
variable {X:Qu}{n:Nat}{Φ:Qj}{env:Env}{names:List Str}{fl:Bool}{o:List Nat}{W:Nat}
theorem KX{m:Sem Flow}:Qq X n Φ env names fl m (exec Φ fl o W .stuck):=fun A P0 P own g ρ ρ' D D' out s Q E R h hne F hQ=>by
 dsimp only[exec] at h;exact Qf h
theorem Xh{m:Sem Flow}{ir:IR}:Qq X n Φ env names fl m (exec Φ fl o W (.raise ir)):=fun A P0 P own g ρ ρ' D D' out s Q E R h hne F hQ=>by
 dsimp only[exec] at h;refine cps fun U y0=>?_;refine Hq h ?_;clear h;intro _ _ _ h;revert hne hQ;apply Aj h;intro hne hQ;refine y0 ?_;exact absurd rfl (hne _)
theorem Z9{cx:Cx}{e:Expr}{i:Nat}(ok:ZT env cx)(nd:cx.slots.Nodup)(h:ZY cx e=some i):∃x p,e=.Name x p/\Z4 env cx.slots i x/\okN x=true:=by
 obtain⟨x,hx,h'⟩:=Option.bind_eq_some_iff.mp h;obtain⟨p,rfl⟩:=Uh hx;cases h1:okN x&&(cx.names.lookup x == some .local||cx.names.lookup x == some .cell) with
 | false=>rw[h1] at h';exact Qf h'
 | true=>
 rw[h1] at h';rw[Bool.and_eq_true,Bool.or_eq_true,beq_iff_eq,beq_iff_eq] at h1;have hi:=XC h';have hk:env.kindOf x=cx.names.lookup x:=by unfold Env.kindOf;rw[ok.e.nm]
 refine⟨x,p,rfl,⟨hi,fun j hj=>?_,?_⟩,h1.1⟩
 ·have hlt:=(List.getElem?_eq_some_iff.mp hj).1;exact(List.getElem?_inj hlt nd).mp (hj.trans hi.symm)
 ·unfold Wr;rw[hk];refine Or.elim h1.2 (fun q=>?_) fun q=>?_
  ·exact .inl q
  ·exact .inr ⟨q,ok.c x (.inl q)⟩
theorem Nh{cx:Cx}(ok:ZT env cx)(nd:cx.slots.Nodup):∀{ts:List Expr} {is:List Nat},slotsOf cx ts=some is->
  ∃tps:List (Str×Pos),ts=tps.map (fun p=>.Name p.1 p.2)/\is.length=tps.length/\∀p∈is.zip (tps.map (·.1)),Z4 env cx.slots p.1 p.2:=by
 intro ts
 induction ts with
 | nil=>
  intro is h;unfold slotsOf at h;simp at h;subst h;exact⟨[],rfl,rfl,fun p hp=>by cases hp⟩
 | cons t ts ih=>
  intro is h;unfold slotsOf at h;replace h:=Eq.trans List.mapM_cons.symm h;rcases q:ZY cx t with _|i
  ·rw[q] at h;exact Qf h
  ·
   replace h:=q▸h;rcases q2:ts.mapM (ZY cx) with _|is'
   ·simp[q2] at h
   ·
    simp[q2] at h;refine cps fun U y0=>?_;subst h;obtain⟨x,p,rfl,sa,_⟩:=Z9 ok nd q;obtain⟨tps,rfl,hl,hs⟩:=ih (is:=is') q2;refine y0 ?_;refine⟨(x,p)::tps,rfl,by rw[List.length_cons,List.length_cons,hl],fun r hr=>?_⟩;rw[List.map_cons,List.zip_cons_cons] at hr;rcases List.mem_cons.mp hr with rfl|hr
    ·exact sa
    ·exact hs r hr
theorem Up{cx:Cx}{k:Nat}(h:∀st,Qq X n Φ env cx.slots fl (PySem.exec st env) (exec Φ fl o W (Zz k cx st))):∀(l:List Stmt),Qq X n Φ env cx.slots fl (PySem.execs l env) (execs Φ fl o W (l.map (Zz k cx)))
 | []=>JM
 | st::l=>by rw[List.map_cons];exact Za (h st) (Up h l)
noncomputable def SS(X:Qu)(n:Nat)(Φ:Qj)(env:Env)(names:List Str)(fl:Bool)(o:List Nat)(W:Nat)(st:Stmt)(sr:SR):Prop:=Qq X n Φ env names fl (PySem.exec st env) (exec Φ fl o W sr)
noncomputable def SV.of:SV->Stmt->Prop
 | .ret e,s=>∃p,s=.Return e p
 | .asg ts e,s=>∃p,s=.Assign ts e p
 | .aug t op e,s=>∃p,s=.AugAssign t op e p
 | .expr e,s=>∃p,s=.Expr e p
 | .ifs t a b,s=>∃p,s=.If t a b p
 | .whl t b e,s=>∃p,s=.While t b e p
 | .fr t it b e,s=>∃p,s=.For t it b e p
 | .rse e c,s=>∃p,s=.Raise e c p
 | .other,_=>True
theorem EY(s:Stmt):(sv s).of s:=by cases s<;>first|exact trivial|exact⟨_,rfl⟩
theorem GD{e:Expr}(h:Gh e=none):ND e=true:=by cases e<;>first|rfl|exact Qf h.symm
section
variable {cx:Cx}{r:Expr->IR}{rs:Stmt->SR}{p:Pos}
theorem QH{st:Stmt}:SS X n Φ env names fl o W st .stuck:=KX
theorem Oz(ok:ZT env cx)(nd:cx.slots.Nodup)(hE:∀e,Qz X n Φ env cx.slots e (r e)){t e:Expr}:SS X n Φ env cx.slots fl o W (.Assign [t] e p) (OA r cx t e):=by
 refine Qe (P:=SS X n Φ env cx.slots fl o W (.Assign [t] e p)) (Qe (P:=SS X n Φ env cx.slots fl o W (.Assign [t] e p)) (Qe (P:=SS X n Φ env cx.slots fl o W (.Assign [t] e p)) QH fun m hm=>Ql (P:=SS X n Φ env cx.slots fl o W (.Assign [t] e p)) QH fun h=>Qe (P:=SS X n Φ env cx.slots fl o W (.Assign [t] e p)) QH fun i hi=>?_)
  fun ts ht=>Qe (P:=SS X n Φ env cx.slots fl o W (.Assign [t] e p)) QH fun is hi=>?_) fun i hi=>Ql (P:=SS X n Φ env cx.slots fl o W (.Assign [t] e p)) QH fun h=>?_
 ·refine cps fun U y0=>?_;obtain⟨x,p,e1,sa,hn⟩:=Z9 ok nd hi;obtain⟨ob,a,ap⟩:=m;obtain rfl:ob=.Name x p:=e1;refine y0 ?_;refine(Wu hm).symm▸?_;obtain rfl:a="told":=ZK (eq_of_beq h);exact WE ok.e sa.at_ (Zk hn).2 (Zk hn).1 (hE _).1
 ·obtain⟨tps,e1,hl,hs⟩:=Nh ok nd hi;subst e1;obtain⟨k,tp,rfl⟩:=Vt ht;refine Yc (P:=SS X n Φ env cx.slots fl o W _) (fun he=>Ql (P:=SS X n Φ env cx.slots fl o W _) QH fun h=>VB ok.e hl hs h (GD he) (hE _).1) fun es he=>Ql (P:=SS X n Φ env cx.slots fl o W _) QH fun h=>?_;obtain⟨k2,p2,rfl⟩:=Vt he;obtain⟨h,h4⟩:=QX h;obtain⟨h,h3⟩:=QX h;have h1:=(QX h).1;have h2:=(QX h).2;have h2:=(List.length_map _).symm.trans (eq_of_beq h2);refine Nl ok.e (List.length_map ..).symm ((hl.trans h2).trans (List.length_map _).symm) (h2.trans (List.length_map _).symm) hs (ZH h1) (fun q=>?_) (Nat.le_trans (Nat.le_of_eq (List.length_map _)) (of_decide_eq_true h3)) fun p hp=>?_
  ·rw[q] at h4;exact h4
  ·refine Eq.mpr (congrArg _ ((Zq (List.of_mem_zip hp).1).2)) ?_;exact XB hE ok _ _
 ·obtain⟨x,p,rfl,sa,hn⟩:=Z9 ok nd hi;exact JL ok.e sa h (XB hE ok _ _)
theorem Ee(ok:ZT env cx)(nd:cx.slots.Nodup)(hE:∀e,Qz X n Φ env cx.slots e (r e)){e:Expr}:SS X n Φ env cx.slots fl o W (.Expr e p) (Lm r cx e):=by
 refine Qe (P:=SS X n Φ env cx.slots fl o W (.Expr e p)) QH fun c hc=>Qe (P:=SS X n Φ env cx.slots fl o W (.Expr e p)) QH fun m hm=>Qe (P:=SS X n Φ env cx.slots fl o W (.Expr e p)) QH fun a ha=>Ql (P:=SS X n Φ env cx.slots fl o W (.Expr e p)) QH fun h=>Qe (P:=SS X n Φ env cx.slots fl o W (.Expr e p)) QH fun i hi=>?_;obtain⟨f,as,ks,cp⟩:=c;obtain⟨ob,m,ap⟩:=m;obtain rfl:as=[a]:=U8 ha;obtain⟨h,h3⟩:=QX h;have h1:=(QX h).1;have h2:=(QX h).2;obtain rfl:ks=[]:=nil_of h1;obtain⟨x,q,e1,sa,hn⟩:=Z9 ok nd hi;obtain rfl:ob=.Name x q:=e1;obtain rfl:f=_:=Wu hm;obtain rfl:=Wj hc;have hst:∀e∈[a],notStar e=true:=fun e he=>List.mem_singleton.mp he▸h2;have hL:J7 X n Φ env cx.slots [a] [r a]:=Xj (irs:=[r a]) rfl hst fun p hp=>List.mem_singleton.mp hp▸(hE a).1;refine Ql (P:=SS X n Φ env cx.slots fl o W _) (Ql (P:=SS X n Φ env cx.slots fl o W _) QH fun hm=>?_) fun hm=>?_
 ·obtain rfl:m="update":=ZK (eq_of_beq hm);exact VA ok.e sa (Zk hn).2 (Zk hn).1 h3 h2 hL
 ·obtain rfl:m="append":=ZK (eq_of_beq hm);exact VC ok.e sa (Zk hn).2 (Zk hn).1 h3 h2 hL
theorem MZ(ok:ZT env cx)(nd:cx.slots.Nodup)(hE:∀e,Qz X n Φ env cx.slots e (r e))(hS:∀l:List Stmt,Qq X n Φ env cx.slots fl (PySem.execs l env) (execs Φ fl o W (l.map rs))){t it:Expr}{b:List Stmt}(hn:Kz it=true):
  SS X n Φ env cx.slots fl o W (.For t it b [] p) (O0 r cx rs t it b):=by
 refine Qe (P:=SS X n Φ env cx.slots fl o W (.For t it b [] p)) (Qe (P:=SS X n Φ env cx.slots fl o W (.For t it b [] p)) QH fun ts ht=>Qe (P:=SS X n Φ env cx.slots fl o W (.For t it b [] p)) QH fun q hq=>Qe (P:=SS X n Φ env cx.slots fl o W (.For t it b [] p)) QH fun i hi=>Qe (P:=SS X n Φ env cx.slots fl o W (.For t it b [] p)) QH fun j hj=>?_) fun i hi=>?_
 ·refine cps fun U y0=>?_;obtain⟨x,p,e1,sa,_⟩:=Z9 ok nd hi;obtain⟨y,p2,e2,sb,_⟩:=Z9 ok nd hj;obtain⟨k,tp,rfl⟩:=Vt ht;refine y0 ?_;rw[Kq hq,e1,e2];exact V4 ok.e (RP ok.e sa sb) hn (hE _).1 (hS _)
 ·refine cps fun U y0=>?_;obtain⟨x,p,rfl,sa,_⟩:=Z9 ok nd hi;refine y0 ?_;exact V4 ok.e (RQ ok.e sa) hn (hE _).1 (hS _)
theorem M7{st:Stmt}{e:Expr}:SS X n Φ env names fl o W st (M8 r cx e):=
 Qe (P:=SS X n Φ env names fl o W st) QH fun Z Z=>Qe (P:=SS X n Φ env names fl o W st) QH fun Z Z=>Qe (P:=SS X n Φ env names fl o W st) QH fun Z Z=>Ql (P:=SS X n Φ env names fl o W st) QH fun Z=>Xh
theorem Rg(ok:ZT env cx)(nd:cx.slots.Nodup)(hE:∀e,Qz X n Φ env cx.slots e (r e))(hS:∀l:List Stmt,Qq X n Φ env cx.slots fl (PySem.execs l env) (execs Φ fl o W (l.map rs))):∀(v:SV) (st:Stmt),v.of st->SS X n Φ env cx.slots fl o W st (NY r cx rs v):=by
 intro v st q;rcases v with e|⟨ts,e⟩|⟨t,op,e⟩|e|⟨t,a,b⟩|⟨t,b,e⟩|⟨t,it,b,e⟩|⟨e,c⟩|_
 ·
  obtain⟨p,rfl⟩:=q;exact Yc (P:=SS X n Φ env cx.slots fl o W _) (fun Z=>QH) fun e' he=>he▸Kw (hE _).1
 ·
  obtain⟨p,rfl⟩:=q;exact Qe (P:=SS X n Φ env cx.slots fl o W _) QH fun t ht=>U8 ht▸Oz ok nd hE
 ·
  obtain⟨p,rfl⟩:=q;refine Qe (P:=SS X n Φ env cx.slots fl o W _) QH fun i hi=>Qe (P:=SS X n Φ env cx.slots fl o W _) QH fun o' ho=>?_;obtain⟨x,p,rfl,sa,hn⟩:=Z9 ok nd hi;exact Gu ok.e ho sa (Zk hn).2 (hE _).1
 ·obtain⟨p,rfl⟩:=q;exact Ee ok nd hE
 ·obtain⟨p,rfl⟩:=q;exact HG (hE _).2 (hS _) (hS _)
 ·
  obtain⟨p,rfl⟩:=q;exact Ql (P:=SS X n Φ env cx.slots fl o W _) QH fun h=>nil_of h▸Xg (hE _).2 (hS _)
 ·
  obtain⟨p,rfl⟩:=q;refine Ql (P:=SS X n Φ env cx.slots fl o W _) QH fun h=>?_;have h1:=(QX h).1;have h2:=(QX h).2;obtain rfl:=nil_of h1;exact MZ ok nd hE hS h2
 ·exact Ql (P:=SS X n Φ env cx.slots fl o W _) QH fun Z=>Qe (P:=SS X n Φ env cx.slots fl o W _) QH fun Z Z=>M7
 ·exact QH
end
theorem JY(hc:JD X n Φ):∀(k:Nat) (cx:Cx) (st:Stmt) (env:Env),ZT env cx->cx.slots.Nodup->Qq X n Φ env cx.slots fl (PySem.exec st env) (exec Φ fl o W (Zz k cx st)):=by
 intro zz
 induction zz with
 | zero=>
  intro cx st env ok nd;exact KX
 | succ k ih=>
  intro cx st env ok nd;exact Rg ok nd (fun e=>Yf hc (k+1) cx e env ok) (Up fun st=>ih cx st env ok nd) (sv st) st (EY st)
end
section
variable {kind:Str->Option NameKind}
theorem Rm{x:Str}:∀{ns:List Str} {vs:List Value} {m:Str->Option Value},x∉ns->bindL kind (ns.zip vs) m x=m x:=by
 intro zz
 induction zz with
 | nil=>
  intro _ _ _;exact rfl
 | cons n ns ih=>
  intro zy;rcases zy with _|⟨v,vs⟩
  ·
   intro _ _;exact rfl
  ·
   intro m h;rw[List.mem_cons,not_or] at h;rw[List.zip_cons_cons];dsimp only[bindL];refine Eq.trans (ih h.2) ?_
   split
   ·exact if_neg h.1
   ·rfl
theorem Rn{x:Str}:∀{ns:List Str} {vs:List Value} {m:Str->Option Value},x∉ns->bindC kind (ns.zip vs) m x=m x:=by
 intro zz
 induction zz with
 | nil=>
  intro _ _ _;exact rfl
 | cons n ns ih=>
  intro zy;rcases zy with _|⟨v,vs⟩
  ·
   intro _ _;exact rfl
  ·
   intro m h;rw[List.mem_cons,not_or] at h;rw[List.zip_cons_cons];dsimp only[bindC];refine Eq.trans (ih h.2) ?_
   split
   ·rfl
   ·exact if_neg h.1
theorem LY{x:Str}{v:Value}:∀{ns:List Str} {vs:List Value} {m:Str->Option Value} {i:Nat},ns.Nodup->ns[i]?=some x->vs[i]?=some v->kind x=some .local->bindL kind (ns.zip vs) m x=some v:=by
 intro zz
 induction zz with
 | nil=>
  intro _ _ _ _ h _ _;simp at h
 | cons n ns ih=>
  intro zy;rcases zy with _|⟨u,vs⟩
  ·
   intro _ _ _ _ h _;simp at h
  ·
   intro m zy;rcases zy with _|i
   ·
    intro nd h1 h2 hk;rw[List.getElem?_cons_zero] at h1 h2;obtain rfl:=so h1;obtain rfl:=so h2;rw[List.zip_cons_cons];dsimp only[bindL];rw[Rm (List.nodup_cons.mp nd).1,if_pos hk];exact if_pos rfl
   ·
    intro nd h1 h2 hk;rw[List.getElem?_cons_succ] at h1 h2;rw[List.zip_cons_cons];exact ih (List.nodup_cons.mp nd).2 h1 h2 hk
theorem LZ{x:Str}{v:Value}:∀{ns:List Str} {vs:List Value} {m:Str->Option Value} {i:Nat},ns.Nodup->ns[i]?=some x->vs[i]?=some v->kind x≠some .local->bindC kind (ns.zip vs) m x=some v:=by
 intro zz
 induction zz with
 | nil=>
  intro _ _ _ _ h _ _;simp at h
 | cons n ns ih=>
  intro zy;rcases zy with _|⟨u,vs⟩
  ·
   intro _ _ _ _ h _;simp at h
  ·
   intro m zy;rcases zy with _|i
   ·
    intro nd h1 h2 hk;rw[List.getElem?_cons_zero] at h1 h2;obtain rfl:=so h1;obtain rfl:=so h2;rw[List.zip_cons_cons];dsimp only[bindC];rw[Rn (List.nodup_cons.mp nd).1,if_neg hk];exact if_pos rfl
   ·
    intro nd h1 h2 hk;rw[List.getElem?_cons_succ] at h1 h2;rw[List.zip_cons_cons];exact ih (List.nodup_cons.mp nd).2 h1 h2 hk
end
noncomputable def QI(d:Arguments×List Stmt×Scope):List Str:=(d.2.2.names.filter fun y=>y.2 == .local||y.2 == .cell).map (·.1)
noncomputable def Qc(d:Arguments×List Stmt×Scope):Cx:={ names:=d.2.2.names,slots:=QI d }
noncomputable def UE(d:Arguments×List Stmt×Scope):Bool:=
 plainDef d&&(QI d).take d.1.args.length == argNames d.1&&decide (QI d).Nodup&&d.2.2.names.all fun y=>!(y.2 == .free)
theorem Qo.at{X:Qu}{P0 g:PM}:∀{ds:List AV} {vs:List Value} {i:Nat} {d:AV},Qo X P0 g ds vs->ds[i]?=some d->∃v,vs[i]?=some v/\VR X P0 g d v:=by
 intro zz
 induction zz with
 | nil=>
  intro _ _ _ _ h;simp at h
 | cons d ds ih=>
  intro vs zy;rcases zy with _|i
  ·
   intro _ h h1;dsimp only[Qo] at h;obtain⟨v,r,rfl,q,_⟩:=h;simp at h1;subst h1;exact⟨v,rfl,q⟩
  ·
   intro _ h h1;dsimp only[Qo] at h;obtain⟨v,r,rfl,_,q⟩:=h;obtain⟨u,h2,h3⟩:=ih q (by simpa using h1);exact⟨u,by simpa using h2,h3⟩
section
variable {X:Qu}{n:Nat}{Φ:Qj}{env:Env}{A:Around}{P0 g:PM}{s s₁:Shared}{D:Q8}{d:Arguments×List Stmt×Scope}{as:List AV}{vs:List Value}{fl:Bool}
noncomputable def Qw(X:Qu)(h:Heap)(g:PM):PF:=⟨fun b=>if b∈X.dk then none else h.get? b,g⟩
theorem JW(EE:Kl s d env)(ok:UE d=true):ZT env (Qc d):=by
 unfold UE at ok;simp only[Bool.and_eq_true,List.all_eq_true,decide_eq_true_eq,beq_iff_eq,Bool.not_eq_true'] at ok;obtain⟨⟨⟨pd,o2⟩,o3⟩,o4⟩:=ok;unfold plainDef at pd;simp only[Bool.and_eq_true,beq_iff_eq] at pd;refine⟨⟨congrArg _ (EE.sc ..),((congrArg _ (EE.sc ..)).trans pd.1.1.1.2),EE.gl,EE.bl⟩,fun y hy=>?_⟩;rcases hy with q|q
 ·rw[EE.cells];exact Option.isSome_iff_exists.mp (Js _ _ _ _ (Mine.mem_of_lookup q))
 ·have:=o4 _ (Mine.mem_of_lookup q);refine False.elim ?_;cases this
theorem J4(EE:Kl s d env)(IC:InCallC s env.locals (bindL env.kindOf ((argNames d.1).zip vs) fun Z=>none) env.cells (bindC env.kindOf ((argNames d.1).zip vs) fun Z=>none) s₁)(ok:UE d=true)
  (st:St X g) (hs:PM.le g s.heap.get?) (dk:QO X D s.heap) (hdk:∀b∈X.dk,g b=none/\(s.heap.get? b).isSome) (hp0:∀b o,P0 b=some o->(s.heap.get? b).isSome)
  (hfl:fl=true->P0=s.heap.get?) (rel:Qo X P0 g as vs) (hl:as.length=d.1.args.length):
  Z6 X P0 (Qw X s.heap g) fl env (QI d) (fun Z=>none) g (as.map .val++List.replicate ((QI d).length - d.1.args.length) .u) D s₁.heap:=by
 have okc:=JW EE ok;unfold UE at ok;simp only[Bool.and_eq_true,List.all_eq_true,decide_eq_true_eq,beq_iff_eq,Bool.not_eq_true'] at ok;refine cps fun U y0=>?_;obtain⟨⟨⟨pd,o2⟩,o3⟩,o4⟩:=ok;unfold plainDef at pd;simp only[Bool.and_eq_true,List.all_eq_true,decide_eq_true_eq] at pd;obtain⟨⟨⟨⟨⟨_,p5⟩,p6⟩,p7⟩,p8⟩,p9⟩:=pd;refine y0 ?_;have keep:=IC.toInCall.keep;have hloc:=EE.loc;have fr:∀z:Addr,s.heap.objs.size<=z->s.heap.get? z=none:=fun z hz=>by
  rcases q:s.heap.get? z with _|o
  ·rfl
  ·exact absurd (Heap.lt_size q) (Nat.not_lt.mpr hz)
 have frL:s.heap.get? env.locals=none:=by rw[hloc];exact fr _ (Nat.le_refl _)
 have gn:∀z:Addr,s.heap.get? z=none->g z=none:=fun z hz=>by
  rcases q:g z with _|o
  ·rfl
  ·have:=hs _ _ q;rw[hz] at this;exact Qf this
 have frC:∀x c,env.cells.lookup x=some c->s.heap.get? c=none:=fun x c e=>by
  have:=IC.above x c (Mine.mem_of_lookup e);refine fr c ?_;rw[hloc] at this;exact Nat.le_of_lt this
 have ndk:∀z:Addr,s.heap.get? z=none->z∉X.dk:=fun z hz q=>by
  have:=(hdk z q).2;rw[hz] at this;exact Bool.false_ne_true this
 have prn:∀z:Addr,s.heap.get? z=none->(Qw X s.heap g).pr z=none:=fun z hz=>by
  show(if z∈X.dk then none else s.heap.get? z)=none
  split
  ·rfl
  ·exact hz
 have hlen:d.1.args.length<=(QI d).length:=by
  have:=congrArg List.length o2;rw[List.length_take] at this;unfold argNames at this;replace this:=this.trans (List.length_map ..);lia
 refine
  {sub:=fun b o e=>keep b o (hs b o e)
   st:=st
   prot:=fun b o e=>by
    have e:(if b∈X.dk then none else s.heap.get? b)=some o:=e
    split at e
    ·refine False.elim ?_;exact Qf e
    ·exact keep b o e
   deck:=dk.keeps keep
   flag:=fun q b o e=>by
    have e:(if b∈X.dk then none else s.heap.get? b)=some o:=e
    split at e
    ·refine False.elim ?_;exact Qf e
    ·rw[hfl q];exact .inl e
   slot:=fun i x lv h1 h2=>?_
   len:=by rw[List.length_append,List.length_map,List.length_replicate,hl];omega
   ns:=⟨_,IC.toInCall.ns⟩
   lg:=gn _ frL
   lp:=prn _ frL
   ld:=ndk _ frL
   og:=fun i a e=>by exact Qf e
   oi:=fun i j a e=>by exact Qf e
   cg:=fun x c e=>⟨ndk _ (frC x c e),Ne.symm (Zl (IC.above x c (Mine.mem_of_lookup e))),(fun i q=>by exact Qf q),gn _ (frC x c e),prn _ (frC x c e),_,IC.cell x c e⟩
   ci:=fun x y c e1 e2=>name_of_addr IC.apart (Mine.mem_of_lookup e1) (Mine.mem_of_lookup e2)
   dg:=fun b hb=>⟨(hdk b hb).1,if_pos hb,by
    obtain⟨o,ho⟩:=Option.isSome_iff_exists.mp (hdk b hb).2;rw[keep b o ho];rfl⟩
   p0:=fun b o e=>by
    obtain⟨o',ho⟩:=Option.isSome_iff_exists.mp (hp0 b o e);rw[keep b o' ho];rfl
   base:=fun q=>⟨g,PM.le.refl g,(Eq.mpr (congrArg _ (hfl q)) hs),st⟩
   gn:=fun b o e=>.inl e
   gu:=(PM.le.refl g).m }
 by_cases hi:i < as.length
 ·rw[List.getElem?_append_left ((Eq.mpr (congrArg _ (List.length_map ..)) hi)),List.getElem?_map] at h2;rcases q:as[i]? with _|dd
  ·rw[q] at h2;exact Qf h2
  ·
   replace h2:=q▸h2;obtain rfl:=so h2;obtain⟨v,hv,rv⟩:=rel.at q;have hx:(argNames d.1)[i]?=some x:=by
    rw[<- o2,List.getElem?_take_of_lt (by omega)];exact h1
   have hk:=p9 x (List.mem_of_getElem? hx);unfold isParam at hk;rw[Bool.or_eq_true,beq_iff_eq,beq_iff_eq] at hk;have hke:env.kindOf x=d.2.2.names.lookup x:=by unfold Env.kindOf;rw[EE.sc]
   refine⟨v,?_,rv⟩;refine Or.elim hk (fun z=>?_) fun z=>?_
   ·exact .inl ⟨hke.trans z,_,IC.toInCall.ns,LY p5 hx hv (hke.trans z)⟩
   ·obtain⟨c,hc⟩:=okc.c x (.inl z);refine .inr ⟨.inl (hke.trans z),c,hc,?_⟩;have:=IC.cell x c hc;rw[LZ (kind:=env.kindOf) p5 hx hv (by rw[hke.trans z];decide)] at this;exact this
 ·rw[List.getElem?_append_right (by rw[List.length_map];omega)] at h2;have:=List.eq_of_mem_replicate (List.mem_of_getElem? h2);subst this;trivial
end
structure Tj(code:Fn->FC):Prop where
 fc:∀x f,(x,f)∈Jd->f≠.k33->fc x=some (code f)
 ok:∀x f d,(x,f)∈Jd->f≠.k33->Jx x pw.main.body=some d->UE d=true
noncomputable def Bj(X:Qu):Prop:=
 ∀as D d D',Ka as D=some (d,D')->∀x,(x,Fn.k33)∈Jd->∀(n:Nat) (A:Around) (P0 g:PM) (vs:List Value) (a:Addr) (s:Shared) (Q:VP) (E:VP),
  Ze A (n+1)->St X g->PM.le g s.heap.get?->QO X D s.heap->(∀b∈X.dk,g b=none/\(s.heap.get? b).isSome)->(∀b o,P0 b=some o->(s.heap.get? b).isSome)->Qo X P0 g as vs->X.mg (Zc x)=some (.ref a)->
  Ww X P0 g s D' d Q->QD X.M A (call (.ref a) vs) Q E s
theorem Ze.deeper{A:Around}{n:Nat}(R:Ze A (n+1))(env:Env):Ze (A.deeper env) n where
 hd:=R.hd
 dp:=by have:=R.dp;show A.depth+1+2 * n+20 < _;lia
 un:=by have:=R.un;show A.units+3+16 * n+100 < _;lia
section
variable {X:Qu}{n:Nat}{P0 P1 g g':PM}{s:Shared}{D D':Q8}{h':Heap}
set_option tactic.hygienic true in
theorem KL(hs:PM.le g s.heap.get?)(hdk:∀b∈X.dk,g b=none/\(s.heap.get? b).isSome)(F:Done X P1 (Qw X s.heap g) g' D' h'):Qs X.dk g s.heap g' h':=by
 have pr:∀b o,b∉X.dk->s.heap.get? b=some o->h'.get? b=some o:=fun b o hb e=>F.prot b o (by show(if b∈X.dk then none else s.heap.get? b)=_;rw[if_neg hb];exact e);refine⟨fun b o e=>?_,fun b o e=>?_,fun b o e=>?_,F.sub⟩
 ·by_cases hb:b∈X.dk
  ·refine cps fun U y0=>?_;obtain⟨o',ho⟩:=Option.isSome_iff_exists.mp (F.dg b hb).2.2;refine y0 ?_;exact⟨o',ho,fun q=>absurd hb q⟩
  ·exact⟨o,pr b o hb e,fun Z=>rfl⟩
 ·have hb:b∉X.dk:=fun q=>by rw[(hdk b q).1] at e;exact Qf e
  have e':=pr b o hb (hs b o e);rcases F.gu b o e with q|⟨_,h1,t1,vn,h2,t2,vt,vt',m,m',_,q,_⟩
  ·exact q
  ·have:=F.sub _ _ q;rw[e'] at this;obtain rfl:=so this;exact q
 ·rcases F.gn b o e with q|q
  ·exact .inl q
  ·right;have q:(if b∈X.dk then none else s.heap.get? b)=none:=q
   split at q
   ·rename_i hb;exact Qf (((F.dg b hb).1).symm.trans e)
   ·exact q
theorem I4{x:Option (Out×Q8)}{d:AV}{D':Q8}(h:(match x with|some (.ret v,D1)=>some (v,D1)|_=>none)=some (d,D')):x=some (.ret d,D'):=by
 rcases x with _|⟨o,D⟩
 ·exact Qf h
 ·rcases o with _|_|_<;>try exact Qf h
  cases h;rfl
theorem LS{code:Fn->FC}(hcode:Tj code)(W:Nat)(draw:Bj X):∀n,JD X n (ZA code W n):=by
 intro zz
 induction zz with
 | zero=>
  exact fun f as D d D' h=>by
   dsimp only[ZA,Ys] at h;exact Qf h
 | succ n ih=>
  exact fun f as D d D' h x hx A P0 g vs a s Q E R st hs dk hdk hp0 rel hmg hQ=>by
   have ih:=ih;dsimp only[ZA] at h;refine cps fun U y0=>?_;replace h:=I4 h;refine y0 ?_;replace h:=Eq.trans U0.symm h;by_cases hf:f=.k33
   ·refine cps fun U y0=>?_;subst hf;replace h:=Eq.trans (if_pos rfl).symm h;obtain⟨⟨v,D1⟩,e1,e2⟩:=Option.map_eq_some_iff.mp h;cases e2;refine y0 ?_;exact draw as D _ _ e1 x hx n A P0 g vs a s Q E R st hs dk hdk hp0 rel hmg hQ
   ·replace h:=Eq.trans (if_neg hf).symm h;refine cps fun U y0=>?_;obtain⟨df,a',hdf,hat⟩:=st.fn x f hx;have ea:a'=a:=by
     have:=hat.name;replace this:=Eq.trans hmg.symm this;cases this;rfl
    subst ea;have hok:=hcode.ok x f df hx hf hdf;have hfc:=hcode.fc x f hx hf;dsimp only[fc] at hfc;have hdf':Jx x PySem.Challenge.pw_og0273_01.main.body=some df:=hdf;rw[hdf'] at hfc;have hfc:=Option.some.inj hfc;refine Ha h ?_;clear h;intro hlen h;refine y0 ?_;have elen:(code f).params=df.1.args.length:=congrArg _ (hfc ..).symm;have eslots:(code f).slots=(QI df).length:=congrArg _ (hfc ..).symm;have ebody:(code f).body=df.2.1.map (Zz 20 (Qc df)):=congrArg _ (hfc ..).symm;rw[ebody,elen,eslots] at h;replace hlen:=Eq.trans hlen elen;generalize hown:(code f).own=own at h;have hpl:plainDef df=true:=by
     have:=hok;unfold UE at this;simp only[Bool.and_eq_true] at this;exact this.1.1.1
    have hvl:=rel.len;have hdp:=R.dp;refine ZD (Wh hat.obj' hpl hs (by clear h;lia) (st.noLimit hs) (((hvl ..).trans (hlen ..))) fun env s₁ EE IC=>?_);have okc:=JW EE hok;have nd:(Qc df).slots.Nodup:=by
     have:=hok;unfold UE at this;simp only[Bool.and_eq_true,decide_eq_true_eq] at this;exact this.1.2
    obtain⟨h1,t1,rfl⟩:=IC.toInCall.same
    -- the modifiers that may be told anew
    refine cps fun U y0=>?_;obtain⟨P1,hp1,hpf,hrel,hpn⟩:∃P1:PM,(∀b o,P1 b=some o->(s.heap.get? b).isSome)/\(AV.noModis as=true->P1=s.heap.get?)/\Qo X P1 g as vs/\(∀b,P1 b=none->P0 b=none):=by
     rcases q:AV.noModis as with _|_
     ·exact⟨P0,hp0,(fun z=>by exact Bool.noConfusion z),rel,fun b e=>e⟩
     ·
      refine⟨s.heap.get?,fun b o e=>congrArg _ (e ..),fun Z=>rfl,Qo.anyP q rel,fun b e=>?_⟩;rcases z:P0 b with _|o
      ·rfl
      ·have:=hp0 b o z;rw[e] at this;exact Bool.noConfusion this
    refine y0 ?_;have F0:=J4 (P0:=P1) (fl:=AV.noModis as) EE IC hok st hs dk hdk hp1 hpf hrel hlen;rcases e1:execs (ZA code W n) (AV.noModis as) own W (df.2.1.map (Zz 20 (Qc df))) (as.map .val++List.replicate ((QI df).length - df.1.args.length) .u) D with _|r
    ·rw[e1] at h;exact Qf h
    ·
     refine cps fun U y0=>?_;obtain⟨out,ρ',D1⟩:=r;refine y0 ?_;replace h:=e1▸h;refine Up (fun st=>JY ih 20 (Qc df) st env okc nd) df.2.1 (A.deeper env) P1 (Qw X s.heap g) (fun Z=>none) g _ ρ' D D1 out _ _ _ (R.deeper env) e1 (fun v q=>by subst q;cases h) F0 fun fw h2 t2 hr=>?_;rcases out with _|d|v
     ·
      refine cps fun U y0=>?_;cases h;obtain⟨rfl,g2,own2,F2⟩:=hr;refine y0 ?_;exact hQ .none g2 h2 t2 (KL hs hdk F2.done) F2.deck (by dsimp only[VR]<;>rfl)
     ·
      cases h;obtain⟨v,g2,rfl,rv,F2⟩:=hr;exact hQ v g2 h2 t2 (KL hs hdk F2) F2.deck (rv.mono (PM.le.refl _) hpn)
     ·cases h
end
end
section
open IR SR
noncomputable abbrev Ff:SR:=.ret (.tup [.loc 3,.loc 4])
noncomputable abbrev RC:SR:=.set 6 (.idx (.loc 2) (.loc 4))
noncomputable abbrev pd0:SR:=.set 4 (.call .k6 [.loc 1])
noncomputable abbrev AF:List IR:=[.lit (.bytes [110]),.lit (.bytes [107])]
noncomputable abbrev Uv:IR:=.cmp .lt (.loc 2) (.bi .len [.loc 0])
noncomputable abbrev JJ:IR:=.cmp .lt (.loc 4) (.bi .len [.loc 0])
noncomputable abbrev UA:IR:=.cmp .lt (.loc 1) (.bi .len [.loc 0])
noncomputable abbrev NA:SR:=.setN [3,4] [.lit (.bytes []),.lit (.bytes [])]
noncomputable abbrev DU:SR:=.unpack [3,4] (.call .k9 [.loc 0])
noncomputable abbrev DP:SR:=.set 9 (.call .k33 [.loc 0,.lit (.int 4)])
noncomputable abbrev Ry:SR:=.set 9 (.call .k33 [.loc 0,.lit (.int 4)])
noncomputable abbrev YG:SR:=.set 19 (.bi .bytes [.comp [] (.bi .ord [.loc 20]) (.loc 17) none])
noncomputable abbrev Hu:IR:=.cmp .lt (.bin .add (.loc 4) (.lit (.int 1))) (.bi .len [.loc 3])
noncomputable abbrev Fd:List IR:=[.lit (.bytes [97]),.lit (.bytes [116,105,116,108,101]),.lit (.bytes [98])]
noncomputable abbrev DX:SR:=.set 5 (.call .k12 [.idx (.loc 4) (.lit (.int 0)),.loc 2,.loc 3])
noncomputable abbrev Du:SR:=.ret (.call .k4 [.call .k19 [.name (.loc 0),.loc 5,.loc 6]])
noncomputable abbrev DY:SR:=.ifs (.cmp .lt (.bi .len [.loc 4]) (.lit (.int 2))) [.ret (.lit (.bytes []))] []
noncomputable abbrev Ax:SR:=.set 8 (.call .k10 [.loc 3,.tup [.lit (.bytes [33]),.lit (.bytes [33,33])]])
noncomputable abbrev Sa:SR:=.ret (.call .k32 [.call .k14 [.loc 3,.loc 4,.loc 1,.loc 2],.loc 3])
noncomputable abbrev Bn:SR:=.ifs (.cmp .isNotNone (.loc 6) (.lit .none)) [.ret (.call .k32 [.stuck,.loc 3])] []
noncomputable abbrev Bo:SR:=.set 6 (.call .k10 [.loc 3,.tup [.lit (.bytes [83]),.lit (.bytes [87]),.lit (.bytes [80])]])
noncomputable abbrev qV:List IR:=[.lit (.bytes [116,105,116,108,101]),.lit (.bytes [97]),.lit (.bytes [98]),.lit (.bytes [112,97,116,104])]
noncomputable abbrev qT:List IR:=[.lit (.bytes [97]),.lit (.bytes [98]),.lit (.bytes [99]),.lit (.bytes [110,111,110,101]),.lit (.bytes [])]
noncomputable abbrev C3:SR:=.setN [2,3] [.comp [] (.bi .int [.loc 4]) (.slc (.loc 0) none (some (.lit (.int 12)))) none,.lit (.int 4444)]
noncomputable abbrev YH:SR:=.set 6 (.idx (.dict [.lit (.bytes [110]),.lit (.int 12),.lit (.bytes [107]),.neg (.lit (.int 7))]) (.loc 4))
noncomputable abbrev Fe:List IR:=[.lit (.bytes [97,42]),.lit (.bytes [42,100,42,102]),.lit (.bytes [63,63]),.lit (.bytes [42]),.lit (.bytes [120])]
noncomputable abbrev pt2:SR:=.fors [5] (.loc 3) [.setTold 5 (.comp [1,2] (.call .k12 [.loc 10,.loc 1,.loc 2]) (.told (.loc 5)) none)]
noncomputable abbrev Ae:SR:=.set 4 (.call .k34 [.loc 0,.lst Fd])
noncomputable abbrev DW:SR:=.set 6 (.call .k12 [.join (.lit (.bytes [44])) (.slc (.loc 4) (some (.lit (.int 1))) none),.loc 2,.loc 3])
noncomputable abbrev FR:SR:=.ret (.tup [.bin .add (.bin .add (.lit (.bytes [35,123])) (.loc 4)) (.lit (.bytes [125])),.get (.loc 2) (.loc 4) (.lit (.bytes []))])
noncomputable abbrev lp0:SR:=.setN [2,3] [.call .k35 [],.call .k33 [.loc 0,.ite (.cmp .gt (.loc 1) (.lit (.int 0))) (.lit (.int 17)) (.lit (.int 7))]]
noncomputable abbrev qY:List IR:=[.lit (.bytes [97]),.lit (.bytes [98]),.lit (.bytes [99]),.lit (.bytes [116,105,116,108,101]),.lit (.bytes [110,111,110,101]),.lit (.bytes [110])]
noncomputable abbrev pt7:SR:=.ifs (.cmp .isNotNone (.loc 7) (.lit .none)) [.ret (.call .k32 [.call .k18 [.loc 7,.loc 4,.loc 1,.loc 2],.loc 3])] []
noncomputable abbrev AG:List IR:=[.lit (.str [43]),.lit (.str [45]),.lit (.str [42]),.lit (.str [47]),.lit (.str [109]),.lit (.str [61,61]),.lit (.str [60]),.lit (.str [62,61])]
noncomputable abbrev DQ:SR:=.set 4 (.call .k34 [.loc 0,.lst qT])
noncomputable abbrev j2:SR:=.ret (.dict [.lit (.str [99,101,108,108,115]),.rev (.loc 2),.lit (.str [109,105,120,101,100]),.loc 3,.lit (.str [116,117,114,110]),.lit (.int 0)])
noncomputable abbrev Bm:SR:=.ifs (.cmp .isNotNone (.call .k10 [.loc 3,.tup [.lit (.bytes [78])]]) (.lit .none)) [.ret (.call .k32 [.stuck,.loc 3])] []
noncomputable abbrev RA:SR:=.set 7 (.lst [.slc (.loc 6) none (some (.loc 5)),.slc (.loc 6) (some (.bin .sub (.bi .len [.loc 6]) (.bi .min [.loc 5,.bi .len [.loc 6]]))) none])
noncomputable abbrev Af:SR:=.set 16 (.call .k34 [.loc 0,.lst Fe])
noncomputable abbrev zl:SR:=.set 3 (.ite (.cmp .eq (.slc (.loc 0) (some (.loc 2)) (some (.bin .add (.loc 2) (.lit (.int 2))))) (.lit (.bytes [35,91]))) (.stuck) (.neg (.lit (.int 1))))
noncomputable abbrev Rw:SR:=.set 10 (.bin .add (.idx (.lst [.lit (.bytes [61]),.lit (.bytes [61,45]),.lit (.bytes [112]),.lit (.bytes [112,45])]) (.loc 9)) (.call .k36 [.loc 5]))
noncomputable abbrev lp7:SR:=.setN [11,12] [.call .k42 [.loc 0,.loc 1,.bin .sub (.loc 1) (.lit (.int 1))],.call .k42 [.loc 0,.loc 1,.bin .sub (.loc 1) (.lit (.int 1))]]
noncomputable abbrev piBody:List SR:=[.set 6 (.call .k41 [.loc 0,.loc 2]),.setN [3,4] [.bin .add (.loc 3) (.idx (.loc 6) (.lit (.int 0))),.bin .add (.loc 4) (.idx (.loc 6) (.lit (.int 1)))]]
noncomputable def YU:List SR:=[.append 1 (.slc (.loc 0) (some (.loc 2)) (some (.loc 3))),.set 2 (.bin .add (.loc 3) (.lit (.int 1))),.set 3 (.call .k5 [.loc 0,.loc 2,.lit (.bytes [44])])]
noncomputable abbrev EU:SR:=.setN [9,15] [.call .k33 [.loc 0,.lit (.int 3)],.tup [.call .k38 [.idx (.loc 11) (.lit (.int 1))],.call .k38 [.idx (.loc 12) (.lit (.int 1))]]]
noncomputable abbrev pt0:SR:=.ifs (.cmp .eq (.slc (.loc 0) none (some (.lit (.int 1)))) (.lit (.bytes [63]))) [.ret (.call .k17 [.slc (.loc 0) (some (.lit (.int 1))) none,.loc 1,.loc 2])] []
noncomputable abbrev KD:List SR:=[.set 3 (.bin .mod (.bin .add (.bin .add (.bin .mul (.loc 3) (.lit (.int 48271))) (.bin .mod (.loc 1) (.lit (.int 2147483629)))) (.lit (.int 4444))) (.lit (.int 2147483587)))]
noncomputable abbrev LQ:SR:=.ret (.ite (.and (.cmp .lt (.loc 4) (.bi .len [.loc 3])) (.cmp .gt (.loc 4) (.lit (.int 0)))) (.call .k12 [.idx (.loc 3) (.loc 4),.loc 1,.loc 2]) (.lit (.bytes [])))
noncomputable abbrev Ad:SR:=.set 4 (.call .k34 [.loc 0,.lst qY])
noncomputable abbrev Rx:SR:=.ifs (.cmp .eq (.loc 5) (.lit (.int 0))) [.ret (.tup [.bin .add (.bin .add (.lit (.bytes [35,123,110,58])) (.loc 4)) (.lit (.bytes [125])),.call .k36 [.bi .len [.loc 6]]])] []
noncomputable abbrev FQ:SR:=.setN [5,4] [.call .k33 [.loc 0,.lit (.int 9)],.call .k34 [.loc 0,.lst qV]]
noncomputable abbrev Tp:SR:=.set 14 (.ite (.cmp .eq (.loc 9) (.lit (.int 0))) (.and (.idx (.loc 15) (.lit (.int 0))) (.idx (.loc 15) (.lit (.int 1)))) (.or (.idx (.loc 15) (.lit (.int 0))) (.idx (.loc 15) (.lit (.int 1)))))
noncomputable abbrev C2:SR:=.fors [1] (.loc 2) KD
noncomputable abbrev Rv:SR:=.ret (.tup [.bin .add (.bin .add (.bin .add (.bin .add (.lit (.bytes [35,123])) (.loc 10)) (.lit (.bytes [58]))) (.loc 4)) (.lit (.bytes [125])),.idx (.bin .add (.loc 7) (.loc 8)) (.loc 9)])
noncomputable abbrev qX:List IR:=[.tup [.lit (.bytes [35,83]),.lit (.bytes [115,49])],.tup [.lit (.bytes [35,73]),.lit (.bytes [51])],.tup [.lit (.bytes [35,84]),.lit (.bytes [116,111,112])],.tup [.lit (.bytes [35,87]),.lit (.bytes [])]]
noncomputable def Yh:List SR:=[.ifs (.call .k16 [.idx (.loc 3) (.loc 4),.loc 1,.loc 2]) [.ret (.call .k12 [.idx (.loc 3) (.bin .add (.loc 4) (.lit (.int 1))),.loc 1,.loc 2])] [],.aug 4 .add (.lit (.int 2))]
noncomputable abbrev Me:SR:=.ifs (.cmp .eq (.name (.loc 0)) (.lit (.bytes [101]))) [.ret (.call .k26 [.ite (.cmp .ne (.told (.loc 0)) (.lst [])) (.idx (.told (.loc 0)) (.lit (.int 0))) (.lit (.bytes [])),.loc 5,.loc 6])] []
noncomputable abbrev KA:SR:=.setN [4,18] [.call .k34 [.loc 0,.lst AF],.ite (.cmp .gt (.call .k33 [.loc 0,.lit (.int 3)]) (.lit (.int 0))) (.loc 18) (.bin .sub (.lit (.int 0)) (.loc 18))]
noncomputable abbrev Rz:SR:=.set 8 (.lst [.bin .add (.loc 6) (.bin .mul (.lit (.bytes [32])) (.bin .sub (.loc 5) (.bi .len [.loc 6]))),.bin .add (.bin .mul (.lit (.bytes [32])) (.bin .sub (.loc 5) (.bi .len [.loc 6]))) (.loc 6)])
noncomputable abbrev RE:SR:=.ifs (.cmp .eq (.loc 9) (.lit (.int 2))) [.ret (.tup [.bin .add (.bin .add (.lit (.bytes [35,123,33,58])) (.idx (.loc 11) (.lit (.int 0)))) (.lit (.bytes [125])),.call .k39 [.not (.idx (.loc 15) (.lit (.int 0)))]])] []
noncomputable abbrev To:SR:=.ret (.tup [.bin .add (.bin .add (.bin .add (.bin .add (.lit (.bytes [35,123,109,58])) (.loc 16)) (.lit (.bytes [44,35,123]))) (.loc 4)) (.lit (.bytes [125,125])),.call .k39 [.call .k37 [.loc 16,.idx (.loc 2) (.loc 4)]]])
noncomputable abbrev Dt:SR:=.ifs (.cmp .isNotNone (.loc 8) (.lit .none)) [.set 9 (.call .k3 [.call .k12 [.loc 4,.loc 1,.loc 2]]),.ret (.call .k32 [.call .k4 [.cmp .eq (.loc 9) (.cmp .eq (.name (.loc 8)) (.lit (.bytes [33,33])))],.loc 3])] []
noncomputable abbrev KC:SR:=.setN [17,18] [.call .k34 [.loc 0,.lst AG],.bin .add (.lit (.int 1)) (.call .k33 [.loc 0,.lit (.int 9)])]
noncomputable abbrev Mf:SR:=.ifs (.cmp .eq (.name (.loc 0)) (.lit (.bytes [109]))) [.set 7 (.cmp .in_ (.lit (.bytes [105])) (.join (.lit (.bytes [])) (.told (.loc 0)))),.ret (.call .k4 [.call .k23 [.call .k22 [.loc 5,.loc 7],.call .k22 [.loc 6,.loc 7]]])] []
noncomputable abbrev Bl:SR:=.set 7 (.call .k10 [.loc 3,.bin .add (.glob [80,65,73,82,95,77,79,68,73,70,73,69,82,83] (.tuple [.bytes [124,124],.bytes [38,38],.bytes [61,61],.bytes [33,61],.bytes [60,61],.bytes [62,61],.bytes [60],.bytes [62]])) (.tup [.lit (.bytes [109]),.lit (.bytes [101])])])
noncomputable abbrev OU:SR:=.ifs (.cmp .eq (.loc 3) (.lit (.int 3))) [.ret (.call .k34 [.loc 0,.lst qX])] []
noncomputable abbrev YF:SR:=.ret (.tup [.bin .add (.bin .add (.bin .add (.bin .add (.bin .add (.bin .add (.lit (.bytes [35,123,101,124])) (.loc 19)) (.lit (.bytes [124,58,35,123]))) (.loc 4)) (.lit (.bytes [125,44]))) (.call .k36 [.loc 18])) (.lit (.bytes [125])),.call .k36 [.call .k40 [.loc 17,.loc 6,.loc 18]]])
noncomputable def modBody:List SR:=[.set 3 (.bin .add (.loc 1) (.bi .len [.loc 2])),.ifs (.and (.cmp .eq (.slc (.loc 0) (some (.loc 1)) (some (.loc 3))) (.loc 2)) (.cmp .in_ (.slc (.loc 0) (some (.loc 3)) (some (.bin .add (.loc 3) (.lit (.int 1))))) (.tup [.lit (.bytes [58]),.lit (.bytes [59])]))) [.ret (.tup [.modi (.loc 2) (.lst []),.loc 3])] []]
noncomputable abbrev qU:List IR:=[.tup [.lit (.bytes [35,123,98,58,112,97,116,104,125]),.lit (.bytes [121,122])],.tup [.lit (.bytes [35,123,100,58,112,97,116,104,125]),.lit (.bytes [47,117,47,120])],.tup [.lit (.bytes [35,123,119,58,116,105,116,108,101,125]),.lit (.bytes [55])],.tup [.lit (.bytes [35,123,33,33,58,35,123,99,125,125]),.lit (.bytes [48])]]
noncomputable abbrev qW:List IR:=[.tup [.lit (.bytes [35,91,102,103,61,114,101,100,93]),.lit (.bytes [35,91,102,103,61,114,101,100,93])],.tup [.lit (.bytes [35,40,108,115,32,120,41]),.lit (.bytes [])],.tup [.lit (.bytes [35,123,108,58,97,32,98,125]),.lit (.bytes [97,32,98])],.tup [.lit (.bytes [35,123,69,58,97,103,97,105,110,125]),.lit (.bytes [120,33,115,49])]]
noncomputable abbrev Ac:SR:=.set 14 (.idx (.lst [.cmp .eq (.idx (.loc 11) (.lit (.int 1))) (.idx (.loc 12) (.lit (.int 1))),.cmp .ne (.idx (.loc 11) (.lit (.int 1))) (.idx (.loc 12) (.lit (.int 1))),.cmp .lt (.idx (.loc 11) (.lit (.int 1))) (.idx (.loc 12) (.lit (.int 1))),.cmp .ge (.idx (.loc 11) (.lit (.int 1))) (.idx (.loc 12) (.lit (.int 1)))]) (.loc 9))
noncomputable abbrev qZ:List IR:=[.tup [.lit (.bytes [120]),.lit (.bytes [120])],.tup [.lit (.bytes [104,105,32]),.lit (.bytes [104,105,32])],.tup [.lit (.bytes [35,35]),.lit (.bytes [35])],.tup [.lit (.bytes [35,44]),.lit (.bytes [44])],.tup [.lit (.bytes [35,125]),.lit (.bytes [125])],.tup [.lit (.bytes [55]),.lit (.bytes [55])],.tup [.lit (.bytes [48]),.lit (.bytes [48])]]
noncomputable abbrev RD:SR:=.ret (.tup [.bin .add (.bin .add (.bin .add (.bin .add (.bin .add (.bin .add (.lit (.bytes [35,123])) (.idx (.lst [.lit (.bytes [38,38]),.lit (.bytes [124,124])]) (.loc 9))) (.lit (.bytes [58]))) (.idx (.loc 11) (.lit (.int 0)))) (.lit (.bytes [44]))) (.idx (.loc 12) (.lit (.int 0)))) (.lit (.bytes [125])),.call .k39 [.loc 14]])
noncomputable abbrev Bw:SR:=.ret (.tup [.bin .add (.bin .add (.bin .add (.bin .add (.bin .add (.bin .add (.lit (.bytes [35,123,63])) (.loc 13)) (.lit (.bytes [44]))) (.idx (.loc 11) (.lit (.int 0)))) (.lit (.bytes [44]))) (.idx (.loc 12) (.lit (.int 0)))) (.lit (.bytes [125])),.ite (.call .k38 [.loc 6]) (.idx (.loc 11) (.lit (.int 1))) (.idx (.loc 12) (.lit (.int 1)))])
noncomputable abbrev OV:SR:=.ifs (.cmp .eq (.loc 3) (.lit (.int 2))) [Ad,FR] []
noncomputable abbrev DO:SR:=.ret (.tup [.bin .add (.bin .add (.bin .add (.bin .add (.bin .add (.bin .add (.lit (.bytes [35,123])) (.idx (.lst [.lit (.bytes [61,61]),.lit (.bytes [33,61]),.lit (.bytes [60]),.lit (.bytes [62,61])]) (.loc 9))) (.lit (.bytes [58]))) (.idx (.loc 11) (.lit (.int 0)))) (.lit (.bytes [44]))) (.idx (.loc 12) (.lit (.int 0)))) (.lit (.bytes [125])),.call .k39 [.loc 14]])
noncomputable def VK:List SR:=[.unpack [3,2] (.call .k7 [.loc 0,.loc 2]),.ifs (.cmp .isNone (.loc 3) (.lit .none)) [.ret (.tup [.lst [],.loc 0])] [],.append 1 (.loc 3),.ifs (.cmp .eq (.slc (.loc 0) (some (.loc 2)) (some (.bin .add (.loc 2) (.lit (.int 1))))) (.lit (.bytes [58]))) [.ret (.tup [.loc 1,.slc (.loc 0) (some (.bin .add (.loc 2) (.lit (.int 1)))) none])] [],.aug 2 .add (.lit (.int 1))]
noncomputable abbrev OR:SR:=.ifs (.cmp .eq (.loc 3) (.lit (.int 6))) [.ret (.call .k34 [.loc 0,.lst qU])] []
noncomputable abbrev modIt:IR:=.bin .add (.glob [80,76,65,73,78,95,77,79,68,73,70,73,69,82,83] (.tuple [.bytes [108],.bytes [69],.bytes [84],.bytes [98],.bytes [100],.bytes [110],.bytes [119],.bytes [97],.bytes [83],.bytes [87],.bytes [80],.bytes [33],.bytes [33,33]])) (.glob [80,65,73,82,95,77,79,68,73,70,73,69,82,83] (.tuple [.bytes [124,124],.bytes [38,38],.bytes [61,61],.bytes [33,61],.bytes [60,61],.bytes [62,61],.bytes [60],.bytes [62]]))
noncomputable abbrev Bx:SR:=.ifs (.cmp .eq (.loc 4) (.lit (.bytes []))) [.setN [13,6] [.bin .add (.bin .add (.bin .add (.bin .add (.lit (.bytes [35,123,61,61,58])) (.idx (.loc 11) (.lit (.int 0)))) (.lit (.bytes [44]))) (.idx (.loc 12) (.lit (.int 0)))) (.lit (.bytes [125])),.call .k39 [.cmp .eq (.idx (.loc 11) (.lit (.int 1))) (.idx (.loc 12) (.lit (.int 1)))]]] [.setN [13,6] [.loc 4,.get (.loc 2) (.loc 4) (.lit (.bytes []))]]
noncomputable abbrev OQ:SR:=.ifs (.or (.cmp .eq (.name (.loc 0)) (.lit (.bytes [38,38]))) (.cmp .eq (.name (.loc 0)) (.lit (.bytes [124,124])))) [.set 8 (.lst [.call .k3 [.loc 5],.call .k3 [.loc 6]]),.ret (.call .k4 [.ite (.cmp .eq (.name (.loc 0)) (.lit (.bytes [38,38]))) (.and (.idx (.loc 8) (.lit (.int 0))) (.idx (.loc 8) (.lit (.int 1)))) (.or (.idx (.loc 8) (.lit (.int 0))) (.idx (.loc 8) (.lit (.int 1))))])] []
noncomputable abbrev OT:SR:=.ifs (.cmp .eq (.loc 3) (.lit (.int 4))) [.ret (.call .k34 [.loc 0,.lst qW])] []
noncomputable abbrev lp1:SR:=.ifs (.cmp .lt (.loc 3) (.lit (.int 2))) [.ret (.call .k34 [.loc 0,.lst qZ])] []
noncomputable abbrev lp11:SR:=.ifs (.cmp .eq (.loc 3) (.lit (.int 14))) [Af,Ae,To] []
noncomputable def Yb:List SR:=[.ifs (.and (.cmp .eq (.idx (.loc 0) (.loc 1)) (.glob [83,73,71,78] (.int 35))) (.cmp .lt (.bin .add (.loc 1) (.lit (.int 1))) (.bi .len [.loc 0]))) [.ifs (.cmp .eq (.idx (.loc 0) (.bin .add (.loc 1) (.lit (.int 1)))) (.glob [79,80,69,78] (.int 123))) [.aug 3 .add (.lit (.int 1))] [],.aug 1 .add (.lit (.int 1))] [.ifs (.and (.cmp .gt (.loc 3) (.lit (.int 0))) (.cmp .eq (.idx (.loc 0) (.loc 1)) (.glob [67,76,79,83,69] (.int 125)))) [.aug 3 .sub (.lit (.int 1))] [.ifs (.and (.cmp .eq (.loc 3) (.lit (.int 0))) (.cmp .in_ (.idx (.loc 0) (.loc 1)) (.loc 2))) [.ret (.loc 1)] []]],.aug 1 .add (.lit (.int 1))]
noncomputable abbrev j4:SR:=.ifs (.cmp .ge (.loc 3) (.lit (.int 0))) [.append 1 (.tup [.lit (.bool false),.slc (.loc 0) (some (.loc 2)) (some (.bin .add (.loc 3) (.lit (.int 1))))]),.set 2 (.bin .add (.loc 3) (.lit (.int 1)))] [.set 3 (.bin .add (.loc 2) (.lit (.int 1))),.ifs (.cmp .eq (.slc (.loc 0) (some (.loc 2)) (some (.bin .add (.loc 2) (.lit (.int 3))))) (.lit (.bytes [35,35,91]))) [.set 3 (.bin .add (.loc 2) (.lit (.int 2)))] [],.whiles (.and (.cmp .lt (.loc 3) (.bi .len [.loc 0])) (.and (.cmp2 .le .lt (.lit (.int 128)) (.idx (.loc 0) (.loc 3)) (.lit (.int 192))) (.cmp .ge (.idx (.loc 0) (.loc 2)) (.lit (.int 192))))) [.aug 3 .add (.lit (.int 1))],.append 1 (.tup [.lit (.bool true),.slc (.loc 0) (some (.loc 2)) (some (.loc 3))]),.set 2 (.loc 3)]
noncomputable abbrev lp9:SR:=.ifs (.cmp .lt (.loc 3) (.lit (.int 13))) [Ry,Ac,DO] []
noncomputable abbrev W7:List SR:=[zl,j4]
noncomputable abbrev lp8:SR:=.ifs (.cmp .lt (.loc 3) (.lit (.int 10))) [DQ,Bx,Bw] []
noncomputable abbrev lp10:SR:=.ifs (.cmp .eq (.loc 3) (.lit (.int 13))) [EU,RE,Tp,RD] []
noncomputable abbrev OS:SR:=.ifs (.cmp .eq (.loc 3) (.lit (.int 5))) [FQ,RC,RA,Rz,Ry,Rx,Rw,Rv] []
noncomputable def Zy:List SR:=[.set 6 (.ite (.cmp .lt (.bin .add (.loc 4) (.lit (.int 1))) (.bi .len [.loc 0])) (.idx (.loc 0) (.bin .add (.loc 4) (.lit (.int 1)))) (.lit (.int 0))),.ifs (.or (.cmp .ne (.idx (.loc 0) (.loc 4)) (.glob [83,73,71,78] (.int 35))) (.cmp .eq (.bin .add (.loc 4) (.lit (.int 1))) (.bi .len [.loc 0]))) [.append 3 (.idx (.loc 0) (.loc 4)),.aug 4 .add (.lit (.int 1))] [.ifs (.cmp .eq (.loc 6) (.glob [79,80,69,78] (.int 123))) [.set 7 (.call .k5 [.loc 0,.bin .add (.loc 4) (.lit (.int 2)),.lit (.bytes [125])]),.ifs (.or (.cmp .isNone (.loc 7) (.lit .none)) (.cmp .ge (.loc 2) (.glob [77,79,83,84,95,68,69,69,80] (.int 10)))) [.raise (.loc 4)] [],.aug 3 .add (.call .k13 [.slc (.loc 0) (some (.bin .add (.loc 4) (.lit (.int 2)))) (some (.loc 7)),.loc 1,.bin .add (.loc 2) (.lit (.int 1))]),.set 4 (.bin .add (.loc 7) (.lit (.int 1)))] [.ifs (.cmp .eq (.loc 6) (.lit (.int 40))) [.set 7 (.call .k5 [.loc 0,.bin .add (.loc 4) (.lit (.int 2)),.lit (.bytes [41])]),.ifs (.cmp .isNone (.loc 7) (.lit .none)) [.raise (.loc 4)] [],.set 4 (.bin .add (.loc 7) (.lit (.int 1)))] [.ifs (.and (.cmp .eq (.loc 6) (.glob [83,73,71,78] (.int 35))) (.cmp .eq (.slc (.loc 0) (some (.bin .add (.loc 4) (.lit (.int 2)))) (some (.bin .add (.loc 4) (.lit (.int 3))))) (.lit (.bytes [91])))) [.aug 3 .add (.lit (.bytes [35,35,91])),.aug 4 .add (.lit (.int 3))] [.ifs (.cmp .in_ (.loc 6) (.tup [.glob [83,73,71,78] (.int 35),.glob [67,79,77,77,65] (.int 44),.glob [67,76,79,83,69] (.int 125)])) [.append 3 (.loc 6),.aug 4 .add (.lit (.int 2))] [.ifs (.cmp .in_ (.loc 6) (.loc 5)) [.aug 3 .add (.get (.loc 1) (.idx (.loc 5) (.loc 6)) (.lit (.bytes []))),.aug 4 .add (.lit (.int 2))] [.append 3 (.glob [83,73,71,78] (.int 35)),.aug 4 .add (.lit (.int 1))]]]]]]]
noncomputable def KR:List SR:=[.set 1 (.ite (.cmp .ge (.loc 0) (.lit (.int 0))) (.loc 0) (.neg (.loc 0))),.set 2 (.lst [.bin .add (.lit (.int 48)) (.bin .mod (.loc 1) (.lit (.int 10)))]),.set 1 (.bin .fdiv (.loc 1) (.lit (.int 10))),.whiles (.cmp .gt (.loc 1) (.lit (.int 0))) [.append 2 (.bin .add (.lit (.int 48)) (.bin .mod (.loc 1) (.lit (.int 10)))),.set 1 (.bin .fdiv (.loc 1) (.lit (.int 10)))],.ifs (.cmp .lt (.loc 0) (.lit (.int 0))) [.append 2 (.lit (.int 45))] [],.ret (.bi .bytes [.rev (.loc 2)])]
noncomputable def XY:List SR:=[.ifs (.cmp .eq (.bi .len [.loc 0]) (.lit (.int 0))) [.ret (.lit .none)] [],.set 1 (.lit (.int 0)),.fors [2] (.loc 0) [.ifs (.not (.cmp2 .le .le (.lit (.int 48)) (.loc 2) (.lit (.int 57)))) [.ret (.lit .none)] [],.set 1 (.bin .sub (.bin .add (.bin .mul (.lit (.int 10)) (.loc 1)) (.loc 2)) (.lit (.int 48)))],.ret (.loc 1)]
noncomputable def KQ:List SR:=[.ret (.dict [.lit (.int 68),.lit (.bytes [112,97,110,101,95,105,100]),.lit (.int 70),.lit (.bytes [119,105,110,100,111,119,95,102,108,97,103,115]),.lit (.int 72),.lit (.bytes [104,111,115,116]),.lit (.int 73),.lit (.bytes [119,105,110,100,111,119,95,105,110,100,101,120]),.lit (.int 80),.lit (.bytes [112,97,110,101,95,105,110,100,101,120]),.lit (.int 83),.lit (.bytes [115,101,115,115,105,111,110,95,110,97,109,101]),.lit (.int 84),.lit (.bytes [112,97,110,101,95,116,105,116,108,101]),.lit (.int 87),.lit (.bytes [119,105,110,100,111,119,95,110,97,109,101]),.lit (.int 104),.lit (.bytes [104,111,115,116,95,115,104,111,114,116])])]
noncomputable def Rl:List SR:=[.ret (.and (.cmp .ne (.loc 0) (.lit (.bytes []))) (.cmp .ne (.loc 0) (.lit (.bytes [48]))))]
noncomputable def Wo:List SR:=[.ret (.ite (.loc 0) (.lit (.bytes [49])) (.lit (.bytes [48])))]
noncomputable def X1:List SR:=[.set 3 (.lit (.int 0)),.whiles UA Yb,.ret (.lit .none)]
noncomputable def Wq:List SR:=[.setN [1,2] [.lst [],.lit (.int 0)],.set 3 (.call .k5 [.loc 0,.loc 2,.lit (.bytes [44])]),.whiles (.cmp .isNotNone (.loc 3) (.lit .none)) YU,.ret (.bin .add (.loc 1) (.lst [.slc (.loc 0) (some (.loc 2)) none]))]
noncomputable def US:List SR:=[.fors [2] modIt modBody,.set 2 (.slc (.loc 0) (some (.loc 1)) (some (.bin .add (.loc 1) (.lit (.int 1))))),.ifs (.or (.cmp .eq (.loc 2) (.lit (.bytes []))) (.cmp .notIn (.loc 2) (.glob [84,79,76,68,95,77,79,68,73,70,73,69,82,83] (.bytes [109,78,115,116,61,112,101,113,82])))) [.ret (.tup [.lit .none,.loc 1])] [],.aug 1 .add (.lit (.int 1)),.ifs (.cmp .in_ (.slc (.loc 0) (some (.loc 1)) (some (.bin .add (.loc 1) (.lit (.int 1))))) (.tup [.lit (.bytes [58]),.lit (.bytes [59]),.lit (.bytes [])])) [.ret (.tup [.ite (.cmp .ne (.slc (.loc 0) (some (.loc 1)) (some (.bin .add (.loc 1) (.lit (.int 1))))) (.lit (.bytes []))) (.modi (.loc 2) (.lst [])) (.lit .none),.loc 1])] [],.ifs (.or (.and (.cmp .in_ (.loc 2) (.tup [.lit (.bytes [61]),.lit (.bytes [112])])) (.cmp .ne (.idx (.loc 0) (.loc 1)) (.glob [83,76,65,83,72] (.int 47)))) (.cmp .eq (.loc 2) (.lit (.bytes [82])))) [.set 3 (.call .k5 [.loc 0,.loc 1,.lit (.bytes [58,59])]),.ret (.ite (.cmp .isNotNone (.loc 3) (.lit .none)) (.tup [.modi (.loc 2) (.lst [.slc (.loc 0) (some (.loc 1)) (some (.loc 3))]),.loc 3]) (.tup [.lit .none,.loc 1]))] [],.ret (.call .k8 [.loc 2,.loc 0,.loc 1])]
noncomputable def KO:List SR:=[.setN [3,4] [.idx (.loc 1) (.loc 2),.lst []],.ifs (.or (.cmp2 .le .le (.lit (.int 48)) (.loc 3) (.lit (.int 57))) (.or (.cmp2 .le .le (.lit (.int 65)) (.loc 3) (.lit (.int 90))) (.or (.cmp2 .le .le (.lit (.int 97)) (.loc 3) (.lit (.int 122))) (.cmp .in_ (.loc 3) (.lit (.bytes [58,59])))))) [.ret (.tup [.lit .none,.loc 2])] [],.set 5 (.call .k5 [.loc 1,.bin .add (.loc 2) (.lit (.int 1)),.bin .add (.bi .bytes [.lst [.loc 3]]) (.lit (.bytes [58,59]))]),.whiles (.cmp .isNotNone (.loc 5) (.lit .none)) [.append 4 (.slc (.loc 1) (some (.bin .add (.loc 2) (.lit (.int 1)))) (some (.loc 5))),.set 2 (.loc 5),.ifs (.cmp .in_ (.idx (.loc 1) (.loc 2)) (.lit (.bytes [58,59]))) [.ret (.tup [.modi (.loc 0) (.loc 4),.loc 2])] [],.ifs (.cmp .in_ (.slc (.loc 1) (some (.bin .add (.loc 2) (.lit (.int 1)))) (some (.bin .add (.loc 2) (.lit (.int 2))))) (.tup [.lit (.bytes [58]),.lit (.bytes [59])])) [.ret (.tup [.modi (.loc 0) (.loc 4),.bin .add (.loc 2) (.lit (.int 1))])] [],.set 5 (.call .k5 [.loc 1,.bin .add (.loc 2) (.lit (.int 1)),.bin .add (.bi .bytes [.lst [.loc 3]]) (.lit (.bytes [58,59]))])],.ret (.tup [.lit .none,.loc 2])]
noncomputable def YN:List SR:=[.setN [1,2] [.lst [],.lit (.int 0)],.whiles (.lit (.bool true)) VK]
noncomputable def Ki:List SR:=[.fors [2] (.rev (.loc 0)) [.ifs (.cmp .in_ (.name (.loc 2)) (.loc 1)) [.ret (.loc 2)] []],.ret (.lit .none)]
noncomputable def Hi:List SR:=[.ret (.call .k12 [.loc 0,.loc 1,.lit (.int 0)])]
noncomputable def Zd:List SR:=[.setN [3,4,5] [.bi .bytearray [],.lit (.int 0),.call .k2 []],.whiles JJ Zy,.ret (.bi .bytes [.loc 3])]
noncomputable def Zi:List SR:=[pt0,DU,pt2,Bo,Bn,Bm,Bl,pt7,Ax,Dt,Sa]
noncomputable def WR:List SR:=[.ifs (.cmp .isNotNone (.call .k10 [.loc 0,.tup [.lit (.bytes [108])]]) (.lit .none)) [.ret (.call .k20 [.loc 1])] [],.ifs (.cmp .isNotNone (.call .k10 [.loc 0,.tup [.lit (.bytes [82])]]) (.lit .none)) [.ret (.stuck)] [],.set 4 (.call .k15 [.loc 1,.loc 2,.loc 3]),.ifs (.cmp .isNotNone (.call .k10 [.loc 0,.tup [.lit (.bytes [97])]]) (.lit .none)) [.set 5 (.call .k1 [.loc 4]),.ret (.ite (.and (.cmp .isNotNone (.loc 5) (.lit .none)) (.cmp2 .le .lt (.lit (.int 32)) (.loc 5) (.lit (.int 127)))) (.bi .bytes [.lst [.loc 5]]) (.lit (.bytes [])))] [],.ifs (.cmp .isNotNone (.call .k10 [.loc 0,.tup [.lit (.bytes [116])]]) (.lit .none)) [.set 4 (.stuck)] [],.ifs (.cmp .isNotNone (.call .k10 [.loc 0,.tup [.lit (.bytes [98])]]) (.lit .none)) [.set 4 (.slc (.loc 4) (some (.bin .add (.rfind (.loc 4) (.lit (.bytes [47]))) (.lit (.int 1)))) none)] [],.ifs (.cmp .isNotNone (.call .k10 [.loc 0,.tup [.lit (.bytes [100])]]) (.lit .none)) [.set 4 (.call .k21 [.loc 4])] [],.set 6 (.call .k10 [.loc 0,.tup [.lit (.bytes [113])]]),.ifs (.cmp .isNotNone (.loc 6) (.lit .none)) [.set 4 (.stuck)] [],.ifs (.cmp .isNotNone (.call .k10 [.loc 0,.tup [.lit (.bytes [69]),.lit (.bytes [84])]]) (.lit .none)) [.ifs (.cmp .ge (.loc 3) (.glob [77,79,83,84,95,68,69,69,80] (.int 10))) [.raise (.lit (.int 0))] [],.set 4 (.call .k12 [.loc 4,.loc 2,.bin .add (.loc 3) (.lit (.int 1))])] [],.ret (.loc 4)]
noncomputable def Wn:List SR:=[pt0,.ifs (.cmp .in_ (.lit (.bytes [35])) (.loc 0)) [.ret (.call .k12 [.loc 0,.loc 1,.loc 2])] [],.ret (.get (.loc 1) (.loc 0) (.lit (.bytes [])))]
noncomputable def Ws:List SR:=[.ifs (.cmp .in_ (.loc 0) (.loc 1)) [.ret (.call .k3 [.idx (.loc 1) (.loc 0)])] [],.set 3 (.call .k12 [.loc 0,.loc 1,.loc 2]),.ret (.and (.cmp .ne (.loc 3) (.loc 0)) (.call .k3 [.loc 3]))]
noncomputable def Hh:List SR:=[.set 3 (.call .k6 [.loc 0]),.set 4 (.lit (.int 0)),.whiles Hu Yh,LQ]
noncomputable def Zv:List SR:=[pd0,DY,DX,DW,Mf,Me,OQ,Du]
noncomputable def Kk:List SR:=[.ifs (.cmp .eq (.loc 0) (.lit (.bytes [61,61]))) [.ret (.cmp .eq (.loc 1) (.loc 2))] [],.ifs (.cmp .eq (.loc 0) (.lit (.bytes [33,61]))) [.ret (.cmp .ne (.loc 1) (.loc 2))] [],.ifs (.cmp .eq (.loc 0) (.lit (.bytes [60]))) [.ret (.cmp .lt (.loc 1) (.loc 2))] [],.ifs (.cmp .eq (.loc 0) (.lit (.bytes [62]))) [.ret (.cmp .gt (.loc 1) (.loc 2))] [],.ret (.ite (.cmp .eq (.loc 0) (.lit (.bytes [60,61]))) (.cmp .le (.loc 1) (.loc 2)) (.cmp .ge (.loc 1) (.loc 2)))]
noncomputable def Kf:List SR:=[.setN [1,2] [.bi .bytearray [],.lit (.int 0)],.whiles Uv [.ifs (.and (.cmp .eq (.idx (.loc 0) (.loc 2)) (.glob [83,73,71,78] (.int 35))) (.cmp .in_ (.slc (.loc 0) (some (.bin .add (.loc 2) (.lit (.int 1)))) (some (.bin .add (.loc 2) (.lit (.int 2))))) (.tup [.lit (.bytes [44]),.lit (.bytes [35]),.lit (.bytes [123]),.lit (.bytes [125])]))) [.aug 2 .add (.lit (.int 1))] [],.append 1 (.idx (.loc 0) (.loc 2)),.aug 2 .add (.lit (.int 1))],.ret (.bi .bytes [.loc 1])]
noncomputable def He:List SR:=[.set 1 (.rfind (.loc 0) (.lit (.bytes [47]))),.ifs (.cmp .lt (.loc 1) (.lit (.int 0))) [.ret (.lit (.bytes [46]))] [],.ret (.ite (.cmp .gt (.loc 1) (.lit (.int 0))) (.slc (.loc 0) none (some (.loc 1))) (.lit (.bytes [47])))]
noncomputable def Hf:List SR:=[.ifs (.not (.loc 1)) [.ret (.loc 0)] [],.ret (.bi .bytes [.comp [] (.ite (.cmp2 .le .le (.lit (.int 65)) (.loc 2) (.lit (.int 90))) (.bin .add (.loc 2) (.lit (.int 32))) (.loc 2)) (.loc 0) none])]
noncomputable def WS:List SR:=[.setN [2,3,4,5] [.lit (.int 0),.lit (.int 0),.lit .none,.lit (.int 0)],.whiles (.cmp .lt (.loc 3) (.bi .len [.loc 1])) [.ifs (.and Uv (.cmp .eq (.idx (.loc 0) (.loc 2)) (.lit (.int 42)))) [.setN [4,5] [.loc 2,.loc 3],.aug 2 .add (.lit (.int 1))] [.ifs (.and Uv (.cmp .in_ (.idx (.loc 0) (.loc 2)) (.tup [.lit (.int 63),.idx (.loc 1) (.loc 3)]))) [.aug 2 .add (.lit (.int 1)),.aug 3 .add (.lit (.int 1))] [.ifs (.cmp .isNotNone (.loc 4) (.lit .none)) [.aug 5 .add (.lit (.int 1)),.setN [2,3] [.bin .add (.loc 4) (.lit (.int 1)),.loc 5]] [.ret (.lit (.bool false))]]]],.whiles (.and Uv (.cmp .eq (.idx (.loc 0) (.loc 2)) (.lit (.int 42)))) [.aug 2 .add (.lit (.int 1))],.ret (.cmp .eq (.loc 2) (.bi .len [.loc 0]))]
noncomputable def Wm:List SR:=[.set 1 (.call .k1 [.ite (.cmp .eq (.slc (.loc 0) none (some (.lit (.int 1)))) (.lit (.bytes [45]))) (.slc (.loc 0) (some (.lit (.int 1))) none) (.loc 0)]),.ret (.ite (.and (.cmp .isNotNone (.loc 1) (.lit .none)) (.cmp .eq (.slc (.loc 0) none (some (.lit (.int 1)))) (.lit (.bytes [45])))) (.neg (.loc 1)) (.loc 1))]
noncomputable def Kh:List SR:=[.set 2 (.bin .fdiv (.bi .abs [.loc 0]) (.bi .abs [.loc 1])),.ret (.ite (.cmp .eq (.cmp .lt (.loc 0) (.lit (.int 0))) (.cmp .lt (.loc 1) (.lit (.int 0)))) (.loc 2) (.neg (.loc 2)))]
noncomputable def Kg:List SR:=[.setN [3,4] [.call .k24 [.loc 1],.call .k24 [.loc 2]],.ifs (.or (.cmp .isNone (.loc 3) (.lit .none)) (.or (.cmp .isNone (.loc 4) (.lit .none)) (.and (.cmp .in_ (.loc 0) (.tup [.lit (.bytes [47]),.lit (.bytes [109]),.lit (.bytes [37])])) (.cmp .eq (.loc 4) (.lit (.int 0)))))) [.ret (.lit (.bytes []))] [],.ifs (.cmp .in_ (.loc 0) (.tup [.lit (.bytes [61,61]),.lit (.bytes [33,61]),.lit (.bytes [60]),.lit (.bytes [62]),.lit (.bytes [60,61]),.lit (.bytes [62,61])])) [.ret (.call .k4 [.call .k19 [.loc 0,.loc 3,.loc 4]])] [],.ifs (.cmp .eq (.loc 0) (.lit (.bytes [43]))) [.ret (.call .k0 [.bin .add (.loc 3) (.loc 4)])] [],.ifs (.cmp .eq (.loc 0) (.lit (.bytes [45]))) [.ret (.call .k0 [.bin .sub (.loc 3) (.loc 4)])] [],.ifs (.cmp .eq (.loc 0) (.lit (.bytes [42]))) [.ret (.call .k0 [.bin .mul (.loc 3) (.loc 4)])] [],.ifs (.cmp .eq (.loc 0) (.lit (.bytes [47]))) [.ret (.call .k0 [.call .k25 [.loc 3,.loc 4]])] [],.ret (.ite (.cmp .in_ (.loc 0) (.tup [.lit (.bytes [109]),.lit (.bytes [37])])) (.call .k0 [.bin .sub (.loc 3) (.bin .mul (.loc 4) (.call .k25 [.loc 3,.loc 4]))]) (.lit (.bytes [])))]
noncomputable def Hd:List SR:=[.setN [1,2] [.lst [],.lit (.int 0)],.whiles Uv W7,.ret (.loc 1)]
noncomputable def Wl:List SR:=[.ret (.bi .len [.comp [] (.loc 1) (.call .k27 [.loc 0]) (some (.idx (.loc 1) (.lit (.int 0))))])]
noncomputable def X2:List SR:=[.set 3 (.call .k27 [.loc 0]),.set 4 (.ite (.loc 2) (.bin .sub (.bi .len [.comp [] (.loc 9) (.loc 3) (some (.idx (.loc 9) (.lit (.int 0))))]) (.loc 1)) (.lit (.int 0))),.setN [5,6] [.bi .bytearray [],.lit (.int 0)],.fors [7,8] (.loc 3) [.ifs (.loc 7) [.aug 6 .add (.lit (.int 1))] [],.ifs (.or (.not (.loc 7)) (.and (.cmp .gt (.loc 6) (.loc 4)) (.cmp .le (.loc 6) (.bin .add (.loc 1) (.bi .max [.lit (.int 0),.loc 4]))))) [.aug 5 .add (.loc 8)] []],.ret (.bi .bytes [.loc 5])]
noncomputable def KP:List SR:=[.set 2 (.ite (.cmp .ne (.loc 1) (.lst [])) (.call .k24 [.idx (.loc 1) (.lit (.int 0))]) (.lit .none)),.ifs (.cmp .isNone (.loc 2) (.lit .none)) [.ret (.loc 0)] [],.set 3 (.bi .abs [.loc 2]),.ifs (.cmp .le (.call .k28 [.loc 0]) (.loc 3)) [.ret (.loc 0)] [],.set 4 (.ite (.cmp .gt (.bi .len [.loc 1]) (.lit (.int 1))) (.idx (.loc 1) (.lit (.int 1))) (.lit (.bytes []))),.set 5 (.call .k29 [.loc 0,.loc 3,.cmp .lt (.loc 2) (.lit (.int 0))]),.ret (.ite (.cmp .lt (.loc 2) (.lit (.int 0))) (.bin .add (.loc 4) (.loc 5)) (.bin .add (.loc 5) (.loc 4)))]
noncomputable def Hg:List SR:=[.set 2 (.ite (.cmp .ne (.loc 1) (.lst [])) (.call .k24 [.idx (.loc 1) (.lit (.int 0))]) (.lit .none)),.ifs (.cmp .isNone (.loc 2) (.lit .none)) [.ret (.loc 0)] [],.set 3 (.bin .mul (.lit (.bytes [32])) (.bi .max [.lit (.int 0),.bin .sub (.bi .min [.bi .abs [.loc 2],.glob [77,79,83,84,95,87,73,68,69] (.int 10000)]) (.call .k28 [.loc 0])])),.ret (.ite (.cmp .ge (.loc 2) (.lit (.int 0))) (.bin .add (.loc 0) (.loc 3)) (.bin .add (.loc 3) (.loc 0)))]
noncomputable def Kj:List SR:=[.fors [2] (.loc 1) [.ifs (.cmp .eq (.name (.loc 2)) (.lit (.bytes [115]))) [.set 0 (.stuck)] []],.set 3 (.call .k10 [.loc 1,.tup [.lit (.bytes [61])]]),.ifs (.cmp .isNotNone (.loc 3) (.lit .none)) [.set 0 (.call .k30 [.loc 0,.told (.loc 3)])] [],.set 4 (.call .k10 [.loc 1,.tup [.lit (.bytes [112])]]),.ifs (.cmp .isNotNone (.loc 4) (.lit .none)) [.set 0 (.call .k31 [.loc 0,.told (.loc 4)])] [],.set 5 (.call .k10 [.loc 1,.tup [.lit (.bytes [110]),.lit (.bytes [119])]]),.ifs (.cmp .isNone (.loc 5) (.lit .none)) [.ret (.loc 0)] [],.ret (.call .k0 [.ite (.cmp .eq (.name (.loc 5)) (.lit (.bytes [110]))) (.bi .len [.loc 0]) (.call .k28 [.loc 0])])]
noncomputable def Tc:List SR:=[.ret (.idx (.loc 1) (.call .k33 [.loc 0,.bi .len [.loc 1]]))]
noncomputable def N1:List SR:=[.set 0 (.dict [.lit (.bytes [97]),.lit (.bytes [120]),.lit (.bytes [98]),.lit (.bytes []),.lit (.bytes [99]),.lit (.bytes [48]),.lit (.bytes [110]),.lit (.bytes [49,50]),.lit (.bytes [107]),.lit (.bytes [45,55]),.lit (.bytes [116,105,116,108,101]),.lit (.bytes [97,98,32,99,100,101,102]),.lit (.bytes [112,97,116,104]),.lit (.bytes [47,117,47,120,47,121,122])]),.update 0 (.dict [.lit (.bytes [115,101,115,115,105,111,110,95,110,97,109,101]),.lit (.bytes [115,49]),.lit (.bytes [119,105,110,100,111,119,95,105,110,100,101,120]),.lit (.bytes [51]),.lit (.bytes [112,97,110,101,95,116,105,116,108,101]),.lit (.bytes [116,111,112]),.lit (.bytes [97,103,97,105,110]),.lit (.bytes [35,123,97,125,33,35,83])]),.ret (.loc 0)]
noncomputable def WQ:List SR:=[.ret (.bi .bytes [.comp [] (.bi .ord [.loc 1]) (.bi .str [.loc 0]) none])]
noncomputable def Td:List SR:=[.ifs (.cmp .eq (.loc 0) (.lit (.bytes []))) [.ret (.cmp .eq (.loc 1) (.lit (.bytes [])))] [],.ifs (.cmp .eq (.slc (.loc 0) none (some (.lit (.int 1)))) (.lit (.bytes [42]))) [.ret (.cmp .ne (.comp [0,1] (.loc 2) (.bi .range [.bin .add (.bi .len [.loc 1]) (.lit (.int 1))]) (some (.call .k37 [.slc (.loc 0) (some (.lit (.int 1))) none,.slc (.loc 1) (some (.loc 2)) none]))) (.lst []))] [],.ret (.and (.cmp .ne (.loc 1) (.lit (.bytes []))) (.and (.cmp .in_ (.slc (.loc 0) none (some (.lit (.int 1)))) (.tup [.lit (.bytes [63]),.slc (.loc 1) none (some (.lit (.int 1)))])) (.call .k37 [.slc (.loc 0) (some (.lit (.int 1))) none,.slc (.loc 1) (some (.lit (.int 1))) none])))]
noncomputable def WO:List SR:=[.ret (.cmp .notIn (.loc 0) (.tup [.lit (.bytes []),.lit (.bytes [48])]))]
noncomputable def XZ:List SR:=[.ret (.ite (.loc 0) (.lit (.bytes [49])) (.lit (.bytes [48])))]
noncomputable def Rk:List SR:=[.ifs (.cmp .in_ (.loc 0) (.tup [.lit (.str [43]),.lit (.str [45]),.lit (.str [42])])) [.ret (.ite (.cmp .eq (.loc 0) (.lit (.str [43]))) (.bin .add (.loc 1) (.loc 2)) (.ite (.cmp .eq (.loc 0) (.lit (.str [45]))) (.bin .sub (.loc 1) (.loc 2)) (.bin .mul (.loc 1) (.loc 2))))] [],.set 3 (.bin .mul (.bin .fdiv (.bi .abs [.loc 1]) (.bi .abs [.loc 2])) (.ite (.cmp .eq (.cmp .lt (.loc 1) (.lit (.int 0))) (.cmp .lt (.loc 2) (.lit (.int 0)))) (.lit (.int 1)) (.neg (.lit (.int 1))))),.ifs (.cmp .eq (.loc 0) (.lit (.str [47]))) [.ret (.loc 3)] [],.ifs (.cmp .eq (.loc 0) (.lit (.str [109]))) [.ret (.bin .sub (.loc 1) (.bin .mul (.loc 3) (.loc 2)))] [],.ret (.bi .int [.idx (.dict [.lit (.str [61,61]),.cmp .eq (.loc 1) (.loc 2),.lit (.str [60]),.cmp .lt (.loc 1) (.loc 2),.lit (.str [62,61]),.cmp .ge (.loc 1) (.loc 2)]) (.loc 0)])]
noncomputable def N0:List SR:=[lp0,lp1,OV,OU,OT,OS,OR,lp7,lp8,lp9,lp10,lp11,KC,KA,YH,YG,YF]
noncomputable def X0:List SR:=[NA,.fors [5] (.bi .range [.call .k33 [.loc 0,.bin .add (.loc 1) (.lit (.int 1))]]) piBody,Ff]
noncomputable def Te:List SR:=[C3,C2,j2]
noncomputable def QN:Fn->FC
 | .k0=>⟨1,3,[2],KR⟩
 | .k1=>⟨1,3,[],XY⟩
 | .k2=>⟨0,0,[],KQ⟩
 | .k3=>⟨1,1,[],Rl⟩
 | .k4=>⟨1,1,[],Wo⟩
 | .k5=>⟨3,4,[],X1⟩
 | .k6=>⟨1,4,[1],Wq⟩
 | .k7=>⟨2,4,[],US⟩
 | .k8=>⟨3,6,[4],KO⟩
 | .k9=>⟨1,4,[1],YN⟩
 | .k10=>⟨2,3,[],Ki⟩
 | .k11=>⟨2,2,[],Hi⟩
 | .k12=>⟨3,8,[3],Zd⟩
 | .k13=>⟨3,10,[],Zi⟩
 | .k14=>⟨4,7,[],WR⟩
 | .k15=>⟨3,3,[],Wn⟩
 | .k16=>⟨3,4,[],Ws⟩
 | .k17=>⟨3,5,[],Hh⟩
 | .k18=>⟨4,9,[],Zv⟩
 | .k19=>⟨3,3,[],Kk⟩
 | .k20=>⟨1,3,[1],Kf⟩
 | .k21=>⟨1,2,[],He⟩
 | .k22=>⟨2,2,[],Hf⟩
 | .k23=>⟨2,6,[],WS⟩
 | .k24=>⟨1,2,[],Wm⟩
 | .k25=>⟨2,3,[],Kh⟩
 | .k26=>⟨3,5,[],Kg⟩
 | .k27=>⟨1,4,[1],Hd⟩
 | .k28=>⟨1,1,[],Wl⟩
 | .k29=>⟨3,9,[],X2⟩
 | .k30=>⟨2,6,[],KP⟩
 | .k31=>⟨2,4,[],Hg⟩
 | .k32=>⟨2,6,[],Kj⟩
 | .k33=>⟨0,0,[],[]⟩
 | .k34=>⟨2,2,[],Tc⟩
 | .k35=>⟨0,1,[0],N1⟩
 | .k36=>⟨1,1,[],WQ⟩
 | .k37=>⟨2,2,[],Td⟩
 | .k38=>⟨1,1,[],WO⟩
 | .k39=>⟨1,1,[],XZ⟩
 | .k40=>⟨3,4,[],Rk⟩
 | .k41=>⟨2,20,[],N0⟩
 | .k42=>⟨3,7,[],X0⟩
 | .k43=>⟨1,4,[],Te⟩
end
section
variable {Φ:Qj}{fl:Bool}{own:List Nat}{W n:Nat}{D D1 D2:Q8}{ρ:List LV}
theorem cons_of{s:SR}{r:List SR}{ρ ρ1:List LV}{D1:Q8}(h:exec Φ fl own W s ρ D=some (.next,ρ1,D1)):execs Φ fl own W (s::r) ρ D=execs Φ fl own W r ρ1 D1:=by
 dsimp only[execs];rw[h]
theorem Qr{s:SR}{r:List SR}{ρ ρ1:List LV}{D1:Q8}{v:AV}(h:exec Φ fl own W s ρ D=some (.ret v,ρ1,D1)):execs Φ fl own W (s::r) ρ D=some (.ret v,ρ1,D1):=by
 dsimp only[execs];rw[h]
theorem LK{s:SR}{r:List SR}{ρ ρ1:List LV}{D1:Q8}{v:AV}(h:exec Φ fl own W s ρ D=some (.exc v,ρ1,D1)):execs Φ fl own W (s::r) ρ D=some (.exc v,ρ1,D1):=by
 dsimp only[execs];rw[h]
theorem execs_nil{ρ:List LV}:execs Φ fl own W [] ρ D=some (.next,ρ,D):=rfl
theorem ZP{t:IR}{b:List SR}{ρ:List LV}:exec Φ fl own W (.whiles t b) ρ D=iter (fun ρ D=>truthOf Φ t ρ D) (fun ρ D=>execs Φ fl own W b ρ D) W ρ D:=rfl
theorem Tv{i:Nat}{v:AV}{ρ:List LV}:exec Φ fl own W (.set i (.lit v)) ρ D=some (.next,ρ.set i (.val v),D):=by
 cases own.contains i<;>rfl
theorem S4{v:AV}{ρ:List LV}:exec Φ fl own W (.ret (.lit v)) ρ D=some (.ret v,ρ,D):=rfl
theorem J3{t:List LV->Q8->Option (Bool×Q8)}{b:List LV->Q8->Option (Out×List LV×Q8)}{w:Nat}{ρ ρ1:List LV}{D1 D2:Q8}(h1:t ρ D=some (true,D1))(h2:b ρ D1=some (.next,ρ1,D2)):iter t b (w+1) ρ D=iter t b w ρ1 D2:=by
 dsimp only[iter];rw[h1];dsimp only;rw[h2]
theorem HY{t:List LV->Q8->Option (Bool×Q8)}{b:List LV->Q8->Option (Out×List LV×Q8)}{w:Nat}{ρ ρ1:List LV}{D1 D2:Q8}{v:AV}(h1:t ρ D=some (true,D1))(h2:b ρ D1=some (.ret v,ρ1,D2)):iter t b (w+1) ρ D=some (.ret v,ρ1,D2):=by
 dsimp only[iter];rw[h1];dsimp only;rw[h2]
theorem Ul{t:List LV->Q8->Option (Bool×Q8)}{b:List LV->Q8->Option (Out×List LV×Q8)}{w:Nat}{ρ:List LV}{D1:Q8}(h1:t ρ D=some (false,D1)):iter t b (w+1) ρ D=some (.next,ρ,D1):=by
 dsimp only[iter];rw[h1]
theorem Qv{i:Nat}{e:IR}{v:AV}(h1:YZ e=true)(h:run Φ e ρ D=some (v,D1)):exec Φ fl own W (.set i e) ρ D=some (.next,ρ.set i (.val v),D1):=by
 dsimp only[exec];rw[JT h1,h]
theorem Zm{t:IR}{a b:List SR}(h:truthOf Φ t ρ D=some (true,D1)):exec Φ fl own W (.ifs t a b) ρ D=execs Φ fl own W a ρ D1:=by dsimp only[exec];rw[h]
theorem Z0{t:IR}{a b:List SR}(h:truthOf Φ t ρ D=some (false,D1)):exec Φ fl own W (.ifs t a b) ρ D=execs Φ fl own W b ρ D1:=by dsimp only[exec];rw[h]
theorem Qm{s:SR}:execs Φ fl own W [s] ρ D=exec Φ fl own W s ρ D:=by
 dsimp only[execs];rcases exec Φ fl own W s ρ D with _|⟨o,ρ1,D1⟩
 ·rfl
 ·rcases o with _|_<;>rfl
theorem Zg{r:Nat}(h:r < 1000000):Jb (.int (r:Nat))=some r:=by
 dsimp only[Jb];have h1:(0:Int)<=(r:Int):=Int.natCast_nonneg r;have h2:(r:Int) < 9223372036854775808:=by lia
 simp only[h1,h2,and_self,if_true,Int.toNat_natCast]
theorem EL{i:Nat}{e:IR}{l m:List Nat}(h0:ρ[i]?=some (.ownb l))(h:run Φ e ρ D=some (.bytes m,D1))(hb:Qi (l++m)=true):exec Φ fl own W (.aug i .add e) ρ D=some (.next,ρ.set i (.ownb (l++m)),D1):=by
 dsimp only[exec];rw[h0];rw[h];exact(if_pos hb)
theorem ZQ{a:IR}{lo hi:Option IR}{x z:AV}{l h:Option Nat}{D2 D3:Q8}(h1:run Φ a ρ D=some (x,D1))(h2:JS Φ lo ρ D1=some (l,D2))(h3:JS Φ hi ρ D2=some (h,D3))(h4:Ku x l h=some z):
  run Φ (.slc a lo hi) ρ D=some (z,D3):=by
 dsimp only[run];rw[h1];dsimp only;rw[h2];dsimp only;rw[h3];dsimp only;rw[h4]
theorem Qp{e:IR}{x:AV}{n:Nat}(h1:run Φ e ρ D=some (x,D1))(h2:Jb x=some n):JS Φ (some e) ρ D=some (some n,D1):=by
 dsimp only[JS];rw[h1];dsimp only;rw[h2]
theorem ZG:JS Φ none ρ D=some (none,D):=rfl
theorem Qd{f:Fn}{as:List IR}{vs:List AV}{r:Option (AV×Q8)}(h1:runs Φ as ρ D=some (vs,D1))(h2:Φ f vs D1=r):run Φ (.call f as) ρ D=r:=by
 dsimp only[run];rw[h1];exact h2
theorem Q1{e:IR}{as:List IR}{v:AV}{vs:List AV}{D2:Q8}(h1:run Φ e ρ D=some (v,D1))(h2:runs Φ as ρ D1=some (vs,D2)):runs Φ (e::as) ρ D=some (v::vs,D2):=by
 dsimp only[runs];rw[h1];dsimp only;rw[h2]
theorem Q6:runs Φ [] ρ D=some ([],D):=rfl
theorem Q2{i:Nat}{v:AV}(h:ρ[i]?=some (.val v)):run Φ (.loc i) ρ D=some (v,D):=by
 dsimp only[run];rw[h]
theorem QB{o:Op}{a b:IR}{x y z:AV}{D2:Q8}(h1:run Φ a ρ D=some (x,D1))(h2:run Φ b ρ D1=some (y,D2))(h3:Uc o x y=some z):run Φ (.bin o a b) ρ D=some (z,D2):=by
 dsimp only[run];rw[h1];dsimp only;rw[h2];dsimp only;rw[h3]
theorem HM{x:List Nat}{v:AV}:run Φ (.glob x v) ρ D=some (v,D):=rfl
theorem Qa{v:AV}:run Φ (.lit v) ρ D=some (v,D):=rfl
theorem YO{i:Nat}{e:IR}{l:List AV}{v:AV}(h0:ρ[i]?=some (.own l))(h:run Φ e ρ D=some (v,D1))(hl:l.length<=65536):exec Φ fl own W (.append i e) ρ D=some (.next,ρ.set i (.own (l++[v])),D1):=by
 dsimp only[exec];rw[h0];dsimp only;rw[h];dsimp only;rw[if_pos hl]
theorem Zt{a i:IR}{x y z:AV}(h1:run Φ a ρ D=some (x,D1))(h2:run Φ i ρ D1=some (y,D2))(h3:Uu x y=some z):run Φ (.idx a i) ρ D=some (z,D2):=by
 dsimp only[run];rw[h1];dsimp only;rw[h2];dsimp only;rw[h3]
theorem QA{o:Co}{a b:IR}{x y:AV}{z:Bool}(h1:run Φ a ρ D=some (x,D1))(h2:run Φ b ρ D1=some (y,D2))(h3:Jh o x y=some z):run Φ (.cmp o a b) ρ D=some (.bool z,D2):=by
 dsimp only[run];rw[h1];dsimp only;rw[h2];dsimp only;rw[h3]
theorem ZE{t:IR}{x:AV}{b:Bool}(h1:run Φ t ρ D=some (x,D1))(h2:x.truth=some b):truthOf Φ t ρ D=some (b,D1):=by
 unfold truthOf;rw[h1];dsimp only;rw[h2]
theorem Z1{o:Co}{a b:IR}{x y:AV}{z:Bool}(h1:run Φ a ρ D=some (x,D1))(h2:run Φ b ρ D1=some (y,D2))(h3:Jh o x y=some z):truthOf Φ (.cmp o a b) ρ D=some (z,D2):=ZE (QA h1 h2 h3) rfl
theorem QJ{e:IR}{v:AV}(h:run Φ e (ρ.map LV.rel) D=some (v,D1)):exec Φ fl own W (.ret e) ρ D=some (.ret v,ρ,D1):=by
 dsimp only[exec];rw[h]
theorem JH{a b:IR}{x:AV}{c:Bool}{r:Option (AV×Q8)}(h1:run Φ a ρ D=some (x,D1))(h2:x.truth=some c)(h3:(if c then run Φ b ρ D1 else some (x,D1))=r):run Φ (.and a b) ρ D=r:=by
 dsimp only[run];rw[h1];dsimp only;rw[h2];subst h3;cases c<;>rfl
theorem Po{a b:IR}{x:AV}{c:Bool}{r:Option (AV×Q8)}(h1:run Φ a ρ D=some (x,D1))(h2:x.truth=some c)(h3:(if c then some (x,D1) else run Φ b ρ D1)=r):run Φ (.or a b) ρ D=r:=by
 dsimp only[run];rw[h1];dsimp only;rw[h2];subst h3;cases c<;>rfl
theorem Y2{t a b:IR}{x:AV}{c:Bool}{r:Option (AV×Q8)}(h1:run Φ t ρ D=some (x,D1))(h2:x.truth=some c)(h3:(if c then run Φ a ρ D1 else run Φ b ρ D1)=r):run Φ (.ite t a b) ρ D=r:=by
 dsimp only[run];rw[h1];dsimp only;rw[h2];subst h3;cases c<;>rfl
theorem JG{es:List IR}{vs:List AV}(h:runs Φ es ρ D=some (vs,D1))(hl:vs.length<=65536):run Φ (.tup es) ρ D=some (.tuple vs,D1):=by
 dsimp only[run];rw[h];dsimp only;rw[if_pos hl]
theorem U4{es:List IR}{vs:List AV}(h:runs Φ es ρ D=some (vs,D1))(hl:vs.length<=65536):run Φ (.lst es) ρ D=some (.list vs,D1):=by
 dsimp only[run];rw[h];dsimp only;rw[if_pos hl]
theorem WX{is:List Nat}{e:IR}{vs:List AV}(h:run Φ e ρ D=some (.tuple vs,D1))(hl:vs.length=is.length)(ha:apart is=true):exec Φ fl own W (.unpack is e) ρ D=some (.next,Mine.setN is vs ρ,D1):=by
 dsimp only[exec];rw[h];dsimp only;rw[if_pos ⟨hl,ha⟩]
theorem Jk{b:Bi}{as:List IR}{vs:List AV}{z:AV}(h:runs Φ as ρ D=some (vs,D1))(h2:B9 b vs=some z):run Φ (.bi b as) ρ D=some (z,D1):=by
 dsimp only[run];rw[h];dsimp only;rw[h2]
theorem Ni{o:List Nat}{lo hi:Option Nat}(h:Qi o=true):Ku (.bytes o) lo hi=some (.bytes (Yz o lo hi)):=by
 unfold Ku;dsimp only;rw[if_pos h]
theorem Vf{x y:List Nat}:Jh .eq (.bytes x) (.bytes y)=some (x == y):=rfl
theorem TU{x y:Int}:Jh .eq (.int x) (.int y)=some (x == y):=rfl
theorem PQ{x y:List Nat}:Jh .ne (.bytes x) (.bytes y)=some (!(x == y)):=rfl
theorem Y0{a b:IR}{x y:Bool}(h1:run Φ a ρ D=some (.bool x,D))(h2:run Φ b ρ D=some (.bool y,D)):truthOf Φ (.and a b) ρ D=some (x&&y,D):=by
 obtain⟨⟩:=x
 ·exact ZE (JH h1 rfl rfl) rfl
 ·exact ZE (JH h1 rfl h2) (by rfl)
theorem Pq{Φ:Qj}{ρ:List LV}{D D1 D2:Q8}{a b:IR}{x y:List Nat}{l:List AV}(h1:run Φ a ρ D=some (.bytes x,D1))(h2:run Φ b ρ D1=some (.list l,D2))(h3:TL l=some y)(hb:Qi y=true):run Φ (.join a b) ρ D=some (.bytes y,D2):=by
 dsimp only[run];rw[h1];dsimp only;rw[h2];dsimp only;rw[h3];exact if_pos hb
end
theorem UT{l:List Nat}(h:l.length<=16777216):Qi l=true:=by unfold Qi;exact decide_eq_true h
noncomputable def Jg(ends:List Nat):Nat->List Nat->Option Nat
 | _,[]=>none
 | deep,[c]=>if 0 < deep/\c=125 then none else if deep=0/\ends.contains c=true then some 0 else none
 | deep,c::c2::r=>
  if c=35 then(Jg ends (if c2=123 then deep+1 else deep) r).map (·+2)
  else if 0 < deep/\c=125 then(Jg ends (deep - 1) (c2::r)).map (·+1)
  else if deep=0/\ends.contains c=true then some 0
  else(Jg ends deep (c2::r)).map (·+1)
section
variable {Φ:Qj}{fl:Bool}{own:List Nat}{W:Nat}{D:Q8}{ends:List Nat}
noncomputable abbrev M1(o:List Nat)(at_ deep:Nat)(ends:List Nat):List LV:=[.val (.bytes o),.val (.int (at_:Nat)),.val (.bytes ends),.val (.int (deep:Nat))]
theorem K7{o:List Nat}{k:Nat}(h:Qi o=true):Uu (.bytes o) (.int (k:Nat))=(o[k]?).map fun c=>.int (c:Nat):=by
 unfold Uu;dsimp only;rw[if_pos (Int.natCast_nonneg k),Int.toNat_natCast,h];cases o[k]?<;>rfl
theorem Lx{o:List Nat}{k deep c c2 n:Int}{bin:Bool}(h1:Uu (.bytes o) (.int k)=some (.int c))(hlen:B9 .len [.bytes o]=some (.int n))(h2:k+1 < n->Uu (.bytes o) (.int (k+1))=some (.int c2))(hin:NP (.int c) (.bytes ends)=some bin):
  execs Φ fl own W Yb [.val (.bytes o),.val (.int k),.val (.bytes ends),.val (.int deep)] D=
   if(c == 35&&decide (k+1 < n))=true then some (.next,[.val (.bytes o),.val (.int (k+1+1)),.val (.bytes ends),.val (.int (if c2 == 123 then deep+1 else deep))],D)
   else if(decide (0 < deep)&&c == 125)=true then some (.next,[.val (.bytes o),.val (.int (k+1)),.val (.bytes ends),.val (.int (deep - 1))],D)
   else if(deep == 0&&bin)=true then some (.ret (.int k),[.val (.bytes o),.val (.int k),.val (.bytes ends),.val (.int deep)],D)
   else some (.next,[.val (.bytes o),.val (.int (k+1)),.val (.bytes ends),.val (.int deep)],D):=by
 have i0:run Φ (.idx (.loc 0) (.loc 1)) [.val (.bytes o),.val (.int k),.val (.bytes ends),.val (.int deep)] D=some (.int c,D):=Zt (Q2 rfl) (Q2 rfl) h1;have t1:=Y0 (D:=D) (QA i0 (HM (x:=[83,73,71,78]) (v:=.int 35)) TU) (QA (QB (Q2 (i:=1) rfl) (Qa (v:=.int 1)) Bc) (Jk (Q1 (Q2 (i:=0) rfl) Q6) hlen) Bu);cases e1:(c == 35&&decide (k+1 < n)) with
 | true=>
  replace t1:=t1.trans (congrArg (fun b=>some (b,D)) e1);refine(cons_of (D1:=D) (ρ1:=[.val (.bytes o),.val (.int (k+1)),.val (.bytes ends),.val (.int (if c2 == 123 then deep+1 else deep))]) ((Zm t1).trans ((cons_of (D1:=D) (ρ1:=[.val (.bytes o),.val (.int k),.val (.bytes ends),.val (.int (if c2 == 123 then deep+1 else deep))]) ?_).trans rfl))).trans rfl;have t2:=Z1 (Φ:=Φ) (D:=D) (Zt (Q2 (i:=0) (ρ:=[.val (.bytes o),.val (.int k),.val (.bytes ends),.val (.int deep)]) rfl) (QB (Q2 (i:=1) rfl) (Qa (v:=.int 1)) Bc) (h2 (of_decide_eq_true (Bool.and_eq_true_iff.mp e1).2))) (HM (x:=[79,80,69,78]) (v:=.int 123)) TU;cases q:(c2 == 123)
  ·exact(Z0 (t2.trans (congrArg (fun b=>some (b,D)) q))).trans rfl
  ·exact(Zm (t2.trans (congrArg (fun b=>some (b,D)) q))).trans rfl
 | false=>
  replace t1:=t1.trans (congrArg (fun b=>some (b,D)) e1);have t3:=Y0 (Φ:=Φ) (D:=D) (ρ:=[.val (.bytes o),.val (.int k),.val (.bytes ends),.val (.int deep)]) (QA (Q2 (i:=3) rfl) (Qa (v:=.int 0)) Bt) (QA i0 (HM (x:=[67,76,79,83,69]) (v:=.int 125)) TU);cases e2:(decide (0 < deep)&&c == 125) with
  | true=>exact(cons_of ((Z0 t1).trans (Qm.trans ((Zm (t3.trans (congrArg (fun b=>some (b,D)) e2))).trans rfl)))).trans rfl
  | false=>
   replace t3:=t3.trans (congrArg (fun b=>some (b,D)) e2);have t4:=Y0 (Φ:=Φ) (D:=D) (ρ:=[.val (.bytes o),.val (.int k),.val (.bytes ends),.val (.int deep)]) (QA (Q2 (i:=3) rfl) (Qa (v:=.int 0)) TU) (QA i0 (Q2 (i:=2) rfl) (Ga.trans hin));cases e3:(deep == 0&&bin) with
   | true=>exact Qr ((Z0 t1).trans (Qm.trans ((Z0 t3).trans (Qm.trans ((Zm (t4.trans (congrArg (fun b=>some (b,D)) e3))).trans rfl)))))
   | false=>exact(cons_of ((Z0 t1).trans (Qm.trans ((Z0 t3).trans (Qm.trans ((Z0 (t4.trans (congrArg (fun b=>some (b,D)) e3))).trans rfl)))))).trans rfl
theorem JA{o:List Nat}(h:Qi o=true):B9 .len [.bytes o]=some (.int (o.length:Nat)):=by
 exact if_pos h
theorem Wc{o:List Nat}{k:Int}{l:List LV}(h:Qi o=true):truthOf Φ UA (.val (.bytes o)::.val (.int k)::l) D=some (decide (k < (o.length:Nat)),D):=by
 dsimp only[truthOf,UA,run,runs,List.getElem?_cons_zero,List.getElem?_cons_succ];simp only[truthOf,UA,List.getElem?_cons_zero,List.getElem?_cons_succ,JA h,Bv,ED,Bu,EC,EB,Bt,EA,Ez,Ey,Ex,Ga,Ew,FY,BJ,FX,FW]
theorem La{c:Nat}(hc:c < 256):NP (.int (c:Nat)) (.bytes ends)=some (ends.contains c):=by
 unfold NP;dsimp only;rw[if_pos ⟨Int.natCast_nonneg c,by lia⟩,Int.toNat_natCast]
theorem Lb{pre r:List Nat}{c:Nat}(hb:Qi (pre++c::r)=true):Uu (.bytes (pre++c::r)) (.int (pre.length:Nat))=some (.int (c:Nat)):=by
 exact(K7 hb).trans (by rw[List.getElem?_append_right (Nat.le_refl _),Nat.sub_self];rfl)
theorem TO{pre r:List Nat}{c c2:Nat}(hb:Qi (pre++c::c2::r)=true):Uu (.bytes (pre++c::c2::r)) (.int ((pre.length:Nat)+1))=some (.int (c2:Nat)):=by
 exact(K7 (k:=pre.length+1) hb).trans (by rw[List.getElem?_append_right (Nat.le_succ _),Nat.succ_sub (Nat.le_refl _),Nat.sub_self];rfl)
theorem VS{k a:Nat}(x:Option Nat):(match x with|some e=>Out.ret (.int ((k+a+e:Nat)))|none=>.next)=match x.map (·+a) with|some e=>.ret (.int ((k+e:Nat)))|none=>.next:=by
 rcases x with _|e
 ·rfl
 ·exact congrArg (fun n:Nat=>Out.ret (.int n)) ((Nat.add_assoc ..).trans (congrArg _ (Nat.add_comm ..)))
theorem Ei{o:List Nat}{k deep c c2:Nat}(hb:Qi o=true)(h1:o[k]?=some c)(h2:k+1 < o.length->o[k+1]?=some c2)(hc:c < 256):
  execs Φ fl own W Yb (M1 o k deep ends) D=
   if c=35/\k+1 < o.length then some (.next,M1 o (k+2) (if c2=123 then deep+1 else deep) ends,D)
   else if 0 < deep/\c=125 then some (.next,M1 o (k+1) (deep - 1) ends,D)
   else if deep=0/\ends.contains c=true then some (.ret (.int (k:Nat)),M1 o k deep ends,D)
   else some (.next,M1 o (k+1) deep ends,D):=by
 refine(Lx (c:=(c:Nat)) (c2:=(c2:Nat)) ((K7 hb).trans (congrArg _ h1)) (JA hb) (fun q=>(K7 (k:=k+1) hb).trans (congrArg _ (h2 (Int.ofNat_lt.mp q)))) (La hc)).trans ?_;refine ite_congr (propext (Bool.and_eq_true_iff.trans (and_congr (beq_iff_eq.trans (Int.ofNat_inj (n:=35))) (decide_eq_true_iff.trans (Int.ofNat_lt (n:=k+1)))))) (fun Z=>?_) fun Z=>ite_congr (propext (Bool.and_eq_true_iff.trans (and_congr (decide_eq_true_iff.trans (Int.ofNat_lt (n:=0))) (beq_iff_eq.trans (Int.ofNat_inj (n:=125)))))) (fun q=>?_)
  fun Z=>ite_congr (propext (Bool.and_eq_true_iff.trans (and_congr (beq_iff_eq.trans (Int.ofNat_inj (n:=0))) .rfl))) (fun Z=>rfl) fun Z=>rfl
 ·by_cases q:c2=123
  ·subst q;rfl
  ·rw[if_neg q,if_neg (c:=((c2:Int) == 123)=true) fun z=>q (Int.ofNat_inj.mp (beq_iff_eq.mp z))];rfl
 ·rw[show((deep:Nat):Int) - 1=((deep - 1:Nat):Int) from(Int.ofNat_sub q.1).symm];rfl
theorem XR{o:List Nat}{k deep w:Nat}(hb:Qi o=true)(hk:o.length<=k)(hw:0 < w):
  ∃ρ',iter (fun ρ D=>truthOf Φ UA ρ D) (fun ρ D=>execs Φ fl own W Yb ρ D) w (M1 o k deep ends) D=some (match Jg ends deep (o.drop k) with|some e=>.ret (.int ((k+e:Nat)))|none=>.next,ρ',D):=by
 rcases w with _|w
 ·exact absurd hw (Nat.lt_irrefl 0)
 refine(List.drop_of_length_le hk).symm▸?_;exact⟨_,Ul ((Wc hb).trans (congrArg (fun b=>some (b,D)) (decide_eq_false (fun h=>Nat.not_lt.mpr hk (Int.ofNat_lt.mp h)))))⟩
theorem Ly{o:List Nat}(hb:Qi o=true):∀(m k deep w:Nat),o.length - k<=m->(∀c∈o.drop k,c < 256)->o.length - k < w->
  ∃ρ',iter (fun ρ D=>truthOf Φ UA ρ D) (fun ρ D=>execs Φ fl own W Yb ρ D) w (M1 o k deep ends) D=some (match Jg ends deep (o.drop k) with|some e=>.ret (.int ((k+e:Nat)))|none=>.next,ρ',D):=by
 intro m
 induction m with
 | zero=>exact fun k deep w hm Z hw=>XR hb (Nat.sub_eq_zero_iff_le.mp (Nat.le_zero.mp hm)) (Nat.lt_of_le_of_lt (Nat.zero_le _) hw)
 | succ m ih=>
  intro k deep w hm hc hw;rcases Nat.lt_or_ge k o.length with hk|hk
  ·have hd:=List.drop_eq_getElem_cons hk;rcases w with _|w
   ·exact absurd hw (Nat.not_lt_zero _)
   have ht:=(Wc (Φ:=Φ) (D:=D) (l:=[.val (.bytes ends),.val (.int (deep:Nat))]) hb).trans (congrArg (fun b=>some (b,D)) (decide_eq_true (Int.ofNat_lt.mpr hk)));rw[hd] at hc ⊢;have hs:=Ei (Φ:=Φ) (fl:=fl) (own:=own) (W:=W) (D:=D) (ends:=ends) (deep:=deep) hb (List.getElem?_eq_getElem hk) (c2:=o[k+1]?.getD 0) (fun h=>by rw[List.getElem?_eq_getElem h];rfl) (hc _ (.head _));have l1:o.length - (k+1)<=m:=Nat.pred_le_pred hm;have l2:o.length - (k+1) < w:=Nat.lt_of_lt_of_le (Nat.pred_lt (Nat.sub_ne_zero_of_lt hk)) (Nat.le_of_lt_succ hw);have hc1:∀c∈o.drop (k+1),c < 256:=fun c h=>hc c (.tail _ h);clear hc hd hm hw;generalize o[k]=c at *;by_cases e0:c=35/\k+1 < o.length
   ·rw[if_pos e0] at hs;obtain⟨rfl,e0⟩:=e0;have hd:=List.drop_eq_getElem_cons e0;rw[hd] at hc1;obtain⟨ρ',q⟩:=ih (k+2) (if o[k+1]?.getD 0=123 then deep+1 else deep) w (Nat.le_trans (Nat.sub_le_sub_left (Nat.le_succ _) _) l1) (fun c h=>hc1 c (.tail _ h)) (Nat.lt_of_le_of_lt (Nat.sub_le_sub_left (Nat.le_succ _) _) l2);have hf:Jg ends deep (35::o[k+1]::o.drop (k+2))=(Jg ends (if o[k+1]=123 then deep+1 else deep) (o.drop (k+2))).map (·+2):=if_pos rfl;refine⟨ρ',(J3 ht hs).trans (q.trans ((congrArg (fun x=>some (x,ρ',D)) (VS _)).trans ?_))⟩;rw[hd,hf,List.getElem?_eq_getElem e0];rfl
   ·replace hs:=Eq.trans hs (if_neg e0);have hf:Jg ends deep (c::o.drop (k+1))=if 0 < deep/\c=125 then(Jg ends (deep - 1) (o.drop (k+1))).map (·+1) else if deep=0/\ends.contains c=true then some 0 else(Jg ends deep (o.drop (k+1))).map (·+1):=by
     rcases q:o.drop (k+1) with _|⟨c2,r⟩
     ·rfl
     ·exact if_neg fun z=>e0 ⟨z,Nat.lt_of_sub_pos (by rw[<- List.length_drop,q];exact Nat.succ_pos _)⟩
    rw[hf];by_cases e1:0 < deep/\c=125
    ·rw[if_pos e1] at hs ⊢;obtain⟨ρ',q⟩:=ih (k+1) (deep - 1) w l1 hc1 l2;exact⟨ρ',(J3 ht hs).trans (q.trans (congrArg (fun x=>some (x,ρ',D)) (VS _)))⟩
    ·rw[if_neg e1] at hs ⊢;by_cases e2:deep=0/\ends.contains c=true
     ·rw[if_pos e2] at hs ⊢;exact⟨_,HY ht hs⟩
     ·rw[if_neg e2] at hs ⊢;obtain⟨ρ',q⟩:=ih (k+1) deep w l1 hc1 l2;exact⟨ρ',(J3 ht hs).trans (q.trans (congrArg (fun x=>some (x,ρ',D)) (VS _)))⟩
  ·exact XR hb hk (Nat.lt_of_le_of_lt (Nat.zero_le _) hw)
end
noncomputable def Qn:Option (Out×List LV×Q8)->Option (AV×Q8)
 | some (.ret v,_,D)=>some (v,D)
 | some (.next,_,D)=>some (.none,D)
 | _=>none
theorem QC{W n:Nat}{f:Fn}{as:List AV}{D:Q8}(hf:f≠.k33)(hl:as.length=(QN f).params):
  ZA QN W (n+1) f as D=Qn (execs (ZA QN W n) (AV.noModis as) (QN f).own W (QN f).body (as.map .val++List.replicate ((QN f).slots - (QN f).params) .u) D):=by
 show(match Ys QN W (n+1) f as D with|some (.ret v,D1)=>some (v,D1)|_=>none)=_;rw[U0,if_neg hf,if_pos hl];change (match(match execs (ZA QN W n) (AV.noModis as) (QN f).own W (QN f).body (as.map .val++List.replicate ((QN f).slots - (QN f).params) .u) D with
   | some (.ret v,_,D1)=>some (Out.ret v,D1)|some (.next,_,D1)=>some (Out.ret .none,D1)|some (.exc v,_,D1)=>some (Out.exc v,D1)|none=>none) with
  | some (Out.ret v,D1)=>some (v,D1)|_=>none)=_
 generalize execs (ZA QN W n) (AV.noModis as) (QN f).own W (QN f).body (as.map .val++List.replicate ((QN f).slots - (QN f).params) .u) D=r;rcases r with _|⟨o,ρ,D1⟩
 ·rfl
 ·rcases o with _|_<;>rfl
theorem s_end{W n:Nat}{pre r ends:List Nat}{D:Q8}(hb:Qi (pre++r)=true)(hc:∀c∈r,c < 256)(hw:r.length < W):
  ZA QN W (n+1) .k5 [.bytes (pre++r),.int (pre.length:Nat),.bytes ends] D=some (match Jg ends 0 r with|some e=>.int ((pre.length+e:Nat))|none=>.none,D):=by
 refine Eq.trans (QC (by decide) rfl) ?_;have e1:(pre++r).length - pre.length=r.length:=by rw[List.length_append,Nat.add_sub_cancel_left]
 obtain⟨ρ',k⟩:=Ly (Φ:=ZA QN W n) (fl:=AV.noModis [.bytes (pre++r),.int (pre.length:Nat),.bytes ends]) (own:=[]) (W:=W) (D:=D) (ends:=ends) hb r.length pre.length 0 W (Nat.le_of_eq e1) (((List.drop_left ..)▸hc)) (e1.symm▸hw);rw[List.drop_left] at k;show Qn (execs _ _ _ _ [SR.set 3 (IR.lit (AV.int 0)),SR.whiles UA Yb,SR.ret (IR.lit (AV.none))] _ _)=_;refine(congrArg _ (cons_of Tv)).trans ?_;replace k:=Eq.trans (ZP) k;cases q:Jg ends 0 r with
 | some e=>
  rw[q] at k;exact(congrArg Qn (Qr k)).trans rfl
 | none=>
  replace k:=q▸k;exact(congrArg Qn ((cons_of k).trans (Qr S4))).trans rfl
noncomputable abbrev CF(n:Nat):Qj:=ZA QN 100000 n
noncomputable def Qb:AV:=.dict [.bytes [97],.bytes [98],.bytes [99],.bytes [110],.bytes [107],.bytes [116,105,116,108,101],.bytes [112,97,116,104],.bytes [115,101,115,115,105,111,110,95,110,97,109,101],.bytes [119,105,110,100,111,119,95,105,110,100,101,120],.bytes [112,97,110,101,95,116,105,116,108,101],.bytes [97,103,97,105,110]]
 [.bytes [120],.bytes [],.bytes [48],.bytes [49,50],.bytes [45,55],.bytes [97,98,32,99,100,101,102],.bytes [47,117,47,120,47,121,122],.bytes [115,49],.bytes [51],.bytes [116,111,112],.bytes [35,123,97,125,33,35,83]]
theorem VE(n:Nat)(D:Q8):CF (n+2) .k35 [] D=some (Qb,D):=by kernel_rfl
noncomputable def ZI:AV:=.dict [.int 68,.int 70,.int 72,.int 73,.int 80,.int 83,.int 84,.int 87,.int 104]
 [.bytes [112,97,110,101,95,105,100],.bytes [119,105,110,100,111,119,95,102,108,97,103,115],.bytes [104,111,115,116],.bytes [119,105,110,100,111,119,95,105,110,100,101,120],.bytes [112,97,110,101,95,105,110,100,101,120],.bytes [115,101,115,115,105,111,110,95,110,97,109,101],.bytes [112,97,110,101,95,116,105,116,108,101],.bytes [119,105,110,100,111,119,95,110,97,109,101],.bytes [104,111,115,116,95,115,104,111,114,116]]
noncomputable def pass(s:Nat):Nat->List Nat->Option Nat
 | d,[]=>some d
 | d,[c]=>if c=35 then none else if c=125 then(if d=0 then none else some (d - 1)) else if d=0/\c=s then none else some d
 | d,c::c2::r=>
  if c=35 then pass s (if c2=123 then d+1 else d) r
  else if c=125 then(if d=0 then none else pass s (d - 1) (c2::r))
  else if d=0/\c=s then none else pass s d (c2::r)
theorem Ja(s d:Nat):pass s d []=some d:=rfl
theorem K0(s d:Nat):pass s d [35]=none:=if_pos rfl
theorem J2(s d c2:Nat)(r:List Nat):pass s d (35::c2::r)=pass s (if c2=123 then d+1 else d) r:=if_pos rfl
theorem QT{c:Nat}(h:c≠35)(s d:Nat)(r:List Nat):pass s d (c::r)=if c=125 then(if d=0 then none else pass s (d - 1) r) else if d=0/\c=s then none else pass s d r:=by
 rcases r with _|⟨c2,r⟩
 ·exact if_neg h
 ·exact if_neg h
theorem Lj(ends:List Nat)(d:Nat):Jg ends d []=none:=rfl
theorem GU(ends:List Nat)(d c2:Nat)(r:List Nat):Jg ends d (35::c2::r)=(Jg ends (if c2=123 then d+1 else d) r).map (·+2):=if_pos rfl
theorem Uw{ends:List Nat}{c:Nat}(h:c≠35)(d:Nat)(r:List Nat):Jg ends d (c::r)=if 0 < d/\c=125 then(Jg ends (d - 1) r).map (·+1) else if d=0/\ends.contains c=true then some 0 else(Jg ends d r).map (·+1):=by
 rcases r with _|⟨c2,r⟩
 ·rfl
 ·exact if_neg h
theorem Ug{P:List Nat->Prop}(h0:P [])(h1:P [35])(h2:∀c2 r,P r->P (35::c2::r))(h3:∀c r,c≠35->P r->P (c::r)):∀l,P l
 | []=>h0
 | [c]=>by
  by_cases q:c=35
  ·subst q;exact h1
  ·exact h3 c [] q h0
 | c::c2::r=>by
  by_cases q:c=35
  ·subst q;exact h2 c2 r (Ug h0 h1 h2 h3 r)
  ·exact h3 c _ q (Ug h0 h1 h2 h3 (c2::r))
set_option tactic.hygienic true in
theorem Z5{s:Nat}{x y:List Nat}:∀{d d1:Nat},pass s d x=some d1->pass s d (x++y)=pass s d1 y:=by
 refine Ug (P:=fun x=>∀{d d1:Nat},pass s d x=some d1->pass s d (x++y)=pass s d1 y) ?_ ?_ ?_ ?_ x
 ·intro d d1 h;rw[Ja] at h;obtain rfl:=so h;rfl
 ·intro d d1 h;rw[K0] at h;exact Qf h
 ·intro c2 r ih d d1 h;rw[J2] at h;rw[List.cons_append,List.cons_append,J2];exact ih h
 ·intro c r hc ih d d1 h;rw[QT hc] at h;rw[List.cons_append,QT hc]
  split at h
  ·rename_i q;refine Eq.trans (if_pos q) ?_
   split at h
   ·refine False.elim ?_;exact Qf h
   ·rename_i q2;rw[if_neg q2];exact ih h
  ·rename_i q;refine Eq.trans (if_neg q) ?_
   split at h
   ·refine False.elim ?_;exact Qf h
   ·rename_i q2;rw[if_neg q2];exact ih h
set_option tactic.hygienic true in
theorem Hp{s:Nat}{x:List Nat}:∀{d d1:Nat} (k:Nat),pass s d x=some d1->pass s (d+k) x=some (d1+k):=by
 refine Ug (P:=fun x=>∀{d d1:Nat} (k:Nat),pass s d x=some d1->pass s (d+k) x=some (d1+k)) ?_ ?_ ?_ ?_ x
 ·intro d d1 k h;rw[Ja] at h;obtain rfl:=so h;rw[Ja]
 ·intro d d1 k h;rw[K0] at h;exact Qf h
 ·intro c2 r ih d d1 k h;rw[J2] at h;rw[J2];have:=ih k h
  split at this
  ·rename_i q;rw[if_pos q];rw[show d+k+1=d+1+k by omega];exact this
  ·rename_i q;rw[if_neg q];exact this
 ·intro c r hc ih d d1 k h;rw[QT hc] at h;rw[QT hc]
  split at h
  ·rename_i q;refine Eq.trans (if_pos q) ?_
   split at h
   ·refine False.elim ?_;exact Qf h
   ·rename_i q2;have:=ih k h;rw[if_neg (by lia),show d+k - 1=d - 1+k by omega];exact this
  ·rename_i q;refine Eq.trans (if_neg q) ?_
   split at h
   ·refine False.elim ?_;exact Qf h
   ·rename_i q2;rw[if_neg (by rintro⟨a,b⟩;exact q2 ⟨by lia,b⟩)];exact ih k h
noncomputable def Ends(s:Nat)(ends:List Nat):Prop:=∀c,ends.contains c=true->c=s\/c=125
set_option tactic.hygienic true in
theorem Ky{s:Nat}{x r ends:List Nat}(he:Ends s ends):∀{d d1:Nat},pass s d x=some d1->Jg ends d (x++r)=(Jg ends d1 r).map (·+x.length):=by
 refine Ug (P:=fun x=>∀{d d1:Nat},pass s d x=some d1->Jg ends d (x++r)=(Jg ends d1 r).map (·+x.length)) ?_ ?_ ?_ ?_ x
 ·intro d d1 h;rw[Ja] at h;obtain rfl:=so h;simp
 ·intro d d1 h;rw[K0] at h;exact Qf h
 ·intro c2 l ih d d1 h;rw[J2] at h;rw[List.cons_append,List.cons_append,GU,ih h,Option.map_map];congr 1
 ·intro c l hc ih d d1 h;rw[QT hc] at h;rw[List.cons_append,Uw hc]
  split at h
  ·rename_i q
   split at h
   ·exact Qf h
   ·rename_i q2;rw[if_pos ⟨by lia,q⟩,ih h,Option.map_map];congr 1
  ·rename_i q
   split at h
   ·exact Qf h
   ·rename_i q2;rw[if_neg (by rintro⟨_,b⟩;exact q b),if_neg ?_,ih h,Option.map_map]
    ·congr 1
    ·rintro⟨a,b⟩;rcases he c b with z|z
     ·exact q2 ⟨a,z⟩
     ·exact q z
theorem Lw:Ends 44 [44]:=fun c h=>by simp at h;exact .inl h
theorem Eh:Ends 125 [125]:=fun c h=>by simp at h;exact .inr h
set_option tactic.hygienic true in
theorem Y3{x:List Nat}:∀{d d1:Nat},pass 44 d x=some d1->pass 125 d x=some d1:=by
 refine Ug (P:=fun x=>∀{d d1:Nat},pass 44 d x=some d1->pass 125 d x=some d1) ?_ ?_ ?_ ?_ x
 ·intro d d1 h;rw[Ja] at h;obtain rfl:=so h;rw[Ja]
 ·intro d d1 h;rw[K0] at h;exact Qf h
 ·intro c2 r ih d d1 h;rw[J2] at h;rw[J2];exact ih h
 ·intro c r hc ih d d1 h;rw[QT hc] at h;rw[QT hc]
  split at h
  ·rename_i q;refine Eq.trans (if_pos q) ?_
   split at h
   ·refine False.elim ?_;exact Qf h
   ·rename_i q2;rw[if_neg q2];exact ih h
  ·rename_i q;refine Eq.trans (if_neg q) ?_
   split at h
   ·refine False.elim ?_;exact Qf h
   ·rw[if_neg (by rintro⟨_,b⟩;exact q b)];exact ih h
structure Ud(o:List Nat):Prop where
 len:o.length<=20000
 oct:∀c∈o,c < 256
theorem Ud.ok{o:List Nat}(h:Ud o):Qi o=true:=UT (Nat.le_trans h.len (Nat.le_of_ble_eq_true rfl))
theorem Ud.sub{o p:List Nat}(h:Ud o)(hl:p.length<=o.length)(hm:∀c∈p,c∈o):Ud p:=⟨Nat.le_trans hl h.len,fun c hc=>h.oct c (hm c hc)⟩
theorem Ud.right{p o:List Nat}(h:Ud (p++o)):Ud o:=h.sub (by simp) (by simp +contextual)
theorem Ud.tail{c:Nat}{o:List Nat}(h:Ud (c::o)):Ud o:=h.sub (by simp) (by simp +contextual)
section
open IR SR
theorem H9:Zd=[.setN [3,4,5] [.bi .bytearray [],.lit (.int 0),.call .k2 []],.whiles JJ Zy,.ret (.bi .bytes [.loc 3])]:=by kernel_rfl
noncomputable abbrev J8(o:List Nat)(d:Int)(f:List Nat)(k:Int)(s e:LV):List LV:=[.val (.bytes o),.val Qb,.val (.int d),.ownb f,.val (.int k),.val ZI,s,e]
section
variable {Φ:Qj}{n:Nat}{fl:Bool}{own:List Nat}{W:Nat}{D D1:Q8}{ρ:List LV}
theorem Au{o f:List Nat}{d k L sg:Int}{s e:LV}(hlen:B9 .len [.bytes o]=some (.int L))(hs:(k+1 < L/\Uu (.bytes o) (.int (k+1))=some (.int sg))\/(¬k+1 < L/\sg=0)):
  exec Φ fl own W (.set 6 (IR.ite (IR.cmp (Co.lt) (IR.bin (Op.add) (IR.loc 4) (IR.lit (AV.int 1))) (IR.bi (Bi.len) [IR.loc 0])) (IR.idx (IR.loc 0) (IR.bin (Op.add) (IR.loc 4) (IR.lit (AV.int 1)))) (IR.lit (AV.int 0)))) (J8 o d f k s e) D=some (.next,J8 o d f k (.val (.int sg)) e,D):=by
 refine Qv rfl ?_;rcases hs with⟨h1,h2⟩|⟨h1,rfl⟩
 ·dsimp only[run,runs,J8,List.getElem?_cons_zero,List.getElem?_cons_succ];simp only[J8,List.getElem?_cons_zero,List.getElem?_cons_succ,hlen,Bv,ED,Bu,EC,EB,Bt,EA,Ez,Ey,Ex,Ga,Ew,Bc,FG,FF,FE,FD,Fz,Fy,Fx,FY,BJ,FX,FW,h1,decide_true,h2]
 ·dsimp only[run,runs,J8,List.getElem?_cons_zero,List.getElem?_cons_succ];simp only[J8,List.getElem?_cons_zero,List.getElem?_cons_succ,hlen,Bv,ED,Bu,EC,EB,Bt,EA,Ez,Ey,Ex,Ga,Ew,Bc,FG,FF,FE,FD,Fz,Fy,Fx,FY,BJ,FX,FW,h1,decide_false]
theorem GW{o f:List Nat}{d k L sg:Int}{c:Nat}{s e:LV}(hlen:B9 .len [.bytes o]=some (.int L))(h0:Uu (.bytes o) (.int k)=some (.int (c:Nat)))
  (hs:(k+1 < L/\Uu (.bytes o) (.int (k+1))=some (.int sg))\/(¬k+1 < L/\sg=0)) (hc:c≠35) (h256:c < 256) (hf:Qi (0::f)=true):
  execs Φ fl [3] W Zy (J8 o d f k s e) D=some (.next,J8 o d (f++[c]) (k+1) (.val (.int sg)) e,D):=by
 unfold Zy;rw[cons_of (Au hlen hs),Qm,Zm (D1:=D)]
 ·have h2:(c:Int) < 256:=by lia
  dsimp only[execs,exec,run];simp[h0,hf,h2]
 ·dsimp only[truthOf,run,runs,J8,List.getElem?_cons_zero,List.getElem?_cons_succ];simp only[truthOf,J8,List.getElem?_cons_zero,List.getElem?_cons_succ,h0,Bv,ED,Bu,EC,EB,Bt,EA,Ez,Ey,Ex,Ga,Ew,DE,CC,DD,CB,DC,DB,OY,DA,Dy,Option.map_some,FY,BJ,FX,FW];have:((c:Int) == 35)=false:=by rw[beq_eq_false_iff_ne];lia
  rw[this];rfl
theorem BI{o f:List Nat}{d k L:Int}{s e:LV}(hlen:B9 .len [.bytes o]=some (.int L))(h0:Uu (.bytes o) (.int k)=some (.int 35))(hk:k+1≠L):
  truthOf Φ (IR.or (IR.cmp (Co.ne) (IR.idx (IR.loc 0) (IR.loc 4)) (IR.glob [83,73,71,78] (AV.int 35))) (IR.cmp (Co.eq) (IR.bin (Op.add) (IR.loc 4) (IR.lit (AV.int 1))) (IR.bi (Bi.len) [IR.loc 0]))) (J8 o d f k s e) D=some (false,D):=by
 dsimp only[truthOf,run,runs];simp[truthOf,h0,Bv,ED,Bu,EC,EB,Bt,EA,Ez,Ey,Ex,Ga,Ew,DE,CC,DD,CB,DC,DB,OY,DA,Dy,FY,BJ,FX,FW,hlen,Bc,FG,FF,FE,FD,Fz,Fy,Fx,hk]
theorem HI{o f:List Nat}{d k:Int}{sg v:Int}{e:LV}{x:List Nat}:truthOf Φ (.cmp .eq (.loc 6) (.glob x (.int v))) (J8 o d f k (.val (.int sg)) e) D=some (sg == v,D):=by
 rfl
theorem HH{o f:List Nat}{d k:Int}{sg v:Int}{e:LV}:truthOf Φ (.cmp .eq (.loc 6) (.lit (.int v))) (J8 o d f k (.val (.int sg)) e) D=some (sg == v,D):=by
 rfl
noncomputable abbrev Yl:List SR:=match Zy with|[_,.ifs _ _ b]=>b|_=>[]
theorem NV{o f:List Nat}{d k L sg:Int}{s e:LV}(hlen:B9 .len [.bytes o]=some (.int L))(h0:Uu (.bytes o) (.int k)=some (.int 35))(hk:k+1 < L)(h1:Uu (.bytes o) (.int (k+1))=some (.int sg)):
  execs Φ fl [3] W Zy (J8 o d f k s e) D=execs Φ fl [3] W Yl (J8 o d f k (.val (.int sg)) e) D:=by
 show execs Φ fl [3] W (_::_::[]) _ _=_;rw[cons_of (Au hlen (.inl ⟨hk,h1⟩)),Qm,Z0 (BI hlen h0 (by lia))];rfl
theorem Ef{o f:List Nat}{d k:Int}{sg:Nat}{e:LV}(hs:sg=35\/sg=44\/sg=125)(hf:Qi (0::f)=true)
  (h2:sg=35->Ku (.bytes o) (some (k+2).toNat) (some (k+3).toNat)≠some (.bytes [91])) (hb:Qi o=true) (hk:0<=k/\k < 1000000):
  execs Φ fl [3] W Yl (J8 o d f k (.val (.int (sg:Nat))) e) D=some (.next,J8 o d (f++[sg]) (k+2) (.val (.int (sg:Nat))) e,D):=by
 have p2:Jb (.int (k+2))=some (k+2).toNat:=by unfold Jb;dsimp only;rw[if_pos (by omega)]
 have p3:Jb (.int (k+3))=some (k+3).toNat:=by unfold Jb;dsimp only;rw[if_pos (by omega)]
 show execs Φ fl [3] W [_] _ _=_;rw[Qm,Z0 (by rw[HI];rcases hs with rfl|rfl|rfl<;>rfl),Qm,Z0 (by rw[HH];rcases hs with rfl|rfl|rfl<;>rfl),Qm,Z0 (D1:=D),Qm,Zm (D1:=D)]
 ·have h2:(sg:Int) < 256:=by lia
  dsimp only[execs,exec,run];simp[hf,h2]
 ·rcases hs with rfl|rfl|rfl<;>rfl
 ·rcases hs with rfl|rfl|rfl
  ·dsimp only[truthOf,run,JS,J8,List.getElem?_cons_zero,List.getElem?_cons_succ];simp only[truthOf,J8,List.getElem?_cons_zero,List.getElem?_cons_succ,Bv,Bc,CC,BJ,p2,p3];unfold Ku at h2 ⊢;dsimp only at h2 ⊢;rw[if_pos hb] at h2 ⊢;have h2:=h2 rfl;simp only[ne_eq,Option.some.injEq,AV.bytes.injEq] at h2;have h3:(Yz o (some (k+2).toNat) (some (k+3).toNat) == [91])=false:=by rw[beq_eq_false_iff_ne];exact h2
   simp[CB,h3,BJ]
  ·rfl
  ·rfl
theorem Uy{o f v:List Nat}{d k:Int}{sg:Nat}{e:LV}{w:List Nat}(hs:Jv (.int (sg:Nat)) [.int 68,.int 70,.int 72,.int 73,.int 80,.int 83,.int 84,.int 87,.int 104] (match ZI with|.dict _ vs=>vs|_=>[])=some (some (.bytes w)))
  (hv:Jv (.bytes w) (match Qb with|.dict ks _=>ks|_=>[]) (match Qb with|.dict _ vs=>vs|_=>[])=some v0) (hv0:(v0.getD (.bytes []))=.bytes v) (hf:Qi (f++v)=true) (hn:¬(sg=35\/sg=44\/sg=125\/sg=123\/sg=40)):
  execs Φ fl [3] W Yl (J8 o d f k (.val (.int (sg:Nat))) e) D=some (.next,J8 o d (f++v) (k+2) (.val (.int (sg:Nat))) e,D):=by
 have z:∀m:Nat,sg≠m->((sg:Int) == (m:Int))=false:=fun m h=>beq_eq_false_iff_ne.mpr fun q=>h (Int.ofNat_inj.mp q);have hs':Jv (.int (sg:Nat)) [.int 68,.int 70,.int 72,.int 73,.int 80,.int 83,.int 84,.int 87,.int 104] (match ZI with|.dict _ vs=>vs|_=>[])=some (some (.bytes w)):=hs;show execs Φ fl [3] W [_] _ _=_;rw[Qm,Z0 (by rw[HI,show(123:Int)=((123:Nat):Int) from rfl,z 123 (by clear hs hs' hv;lia)]),Qm,Z0 (by rw[HH,show(40:Int)=((40:Nat):Int) from rfl,z 40 (by clear hs hs' hv;lia)]),Qm,Z0 (D1:=D),Qm,Z0 (D1:=D),Qm,Zm (D1:=D)]
 ·dsimp only[Qb] at hv;dsimp only[ZI] at hs';dsimp only[execs,exec,J8,List.getElem?_cons_zero,List.getElem?_cons_succ,run,ZI,Qb,j3];rw[hs'];dsimp only[Option.bind_some,id_eq];rw[hv];dsimp only;rw[hv0];dsimp only;rw[if_pos hf];rfl
 ·dsimp only[truthOf,J8,List.getElem?_cons_zero,List.getElem?_cons_succ,run,ZI,Ga,z0];dsimp only[ZI] at hs';rw[hs'];rfl
 ·have z1:((35:Int) == (sg:Int))=false:=by clear hs hs' hv;rw[beq_eq_false_iff_ne];lia
  have z2:((44:Int) == (sg:Int))=false:=by clear hs hs' hv;rw[beq_eq_false_iff_ne];lia
  have z3:((125:Int) == (sg:Int))=false:=by clear hs hs' hv;rw[beq_eq_false_iff_ne];lia
  dsimp only[truthOf,run,runs,J8,List.getElem?_cons_zero,List.getElem?_cons_succ];rw[if_pos (by decide)];dsimp only[Ga,z8,Yp,OY];rw[z1,z2,z3];rfl
 ·have z1:=z 35 (by clear hs hs' hv;lia);dsimp only[truthOf,J8,List.getElem?_cons_zero,List.getElem?_cons_succ,run,Bv,ED,Bu,EC,EB,Bt,EA,Ez,Ey,Ex,Ga,Ew,DE,CC,DD,CB,DC,DB,OY,DA,Dy];rw[show(35:Int)=((35:Nat):Int) from rfl,z1];rfl
theorem Lo{o f:List Nat}{d k:Int}{sg:Nat}{e:LV}(hs:Jv (.int (sg:Nat)) [.int 68,.int 70,.int 72,.int 73,.int 80,.int 83,.int 84,.int 87,.int 104] (match ZI with|.dict _ vs=>vs|_=>[])=some none)
  (hf:Qi (0::f)=true) (hn:¬(sg=35\/sg=44\/sg=125\/sg=123\/sg=40)):
  execs Φ fl [3] W Yl (J8 o d f k (.val (.int (sg:Nat))) e) D=some (.next,J8 o d (f++[35]) (k+1) (.val (.int (sg:Nat))) e,D):=by
 have z:∀m:Nat,sg≠m->((sg:Int) == (m:Int))=false:=fun m h=>beq_eq_false_iff_ne.mpr fun q=>h (Int.ofNat_inj.mp q);have hs':Jv (.int (sg:Nat)) [.int 68,.int 70,.int 72,.int 73,.int 80,.int 83,.int 84,.int 87,.int 104] (match ZI with|.dict _ vs=>vs|_=>[])=some none:=hs;show execs Φ fl [3] W [_] _ _=_;rw[Qm,Z0 (by rw[HI,show(123:Int)=((123:Nat):Int) from rfl,z 123 (by clear hs hs';lia)]),Qm,Z0 (by rw[HH,show(40:Int)=((40:Nat):Int) from rfl,z 40 (by clear hs hs';lia)]),Qm,Z0 (D1:=D),Qm,Z0 (D1:=D),Qm,Z0 (D1:=D)]
 ·dsimp only[execs,exec,run];simp[hf]
 ·dsimp only[truthOf,J8,List.getElem?_cons_zero,List.getElem?_cons_succ,run,ZI,Ga,z0];dsimp only[ZI] at hs';rw[hs'];rfl
 ·have z1:((35:Int) == (sg:Int))=false:=by clear hs hs';rw[beq_eq_false_iff_ne];lia
  have z2:((44:Int) == (sg:Int))=false:=by clear hs hs';rw[beq_eq_false_iff_ne];lia
  have z3:((125:Int) == (sg:Int))=false:=by clear hs hs';rw[beq_eq_false_iff_ne];lia
  dsimp only[truthOf,run,runs,J8,List.getElem?_cons_zero,List.getElem?_cons_succ];rw[if_pos (by decide)];dsimp only[Ga,z8,Yp,OY];rw[z1,z2,z3];rfl
 ·have z1:=z 35 (by clear hs hs';lia);dsimp only[truthOf,J8,List.getElem?_cons_zero,List.getElem?_cons_succ,run,Bv,ED,Bu,EC,EB,Bt,EA,Ez,Ey,Ex,Ga,Ew,DE,CC,DD,CB,DC,DB,OY,DA,Dy];rw[show(35:Int)=((35:Nat):Int) from rfl,z1];rfl
theorem Eg{o f:List Nat}{d k:Int}{r:Nat}{e:LV}(he:Φ .k5 [.bytes o,.int (k+2),.bytes [41]] D=some (.int (r:Nat),D)):
  execs Φ fl [3] W Yl (J8 o d f k (.val (.int 40)) e) D=some (.next,J8 o d f ((r:Nat)+1) (.val (.int 40)) (.val (.int (r:Nat))),D):=by
 show execs Φ fl [3] W [_] _ _=_;rw[Qm,Z0 (by rw[HI];rfl),Qm,Zm (by rw[HH];rfl)];rw[cons_of (Qv (v:=.int (r:Nat)) (D1:=D) rfl (by dsimp only[run,runs];simp[Bc,FG,FF,FE,FD,Fz,Fy,Fx,he]))];rfl
theorem NU{o f:List Nat}{d k:Int}{e:LV}(he:Φ .k5 [.bytes o,.int (k+2),.bytes [41]] D=some (.none,D)):
  execs Φ fl [3] W Yl (J8 o d f k (.val (.int 40)) e) D=some (.exc (.int k),J8 o d f k (.val (.int 40)) (.val .none),D):=by
 show execs Φ fl [3] W [_] _ _=_;rw[Qm,Z0 (by rw[HI];rfl),Qm,Zm (by rw[HH];rfl)];rw[cons_of (Qv (v:=.none) (D1:=D) rfl (by dsimp only[run,runs];simp[Bc,FG,FF,FE,FD,Fz,Fy,Fx,he]))];rfl
theorem Ln{o f inner t:List Nat}{d k:Int}{r:Nat}{e:LV}(he:Φ .k5 [.bytes o,.int (k+2),.bytes [125]] D=some (.int (r:Nat),D))(hd:d < 10)
  (hsl:Ku (.bytes o) (some (k+2).toNat) (some r)=some (.bytes inner)) (hk:0<=k/\k < 1000000) (hr:r < 1000000)
  (hp:Φ .k13 [.bytes inner,Qb,.int (d+1)] D=some (.bytes t,D)) (hf:Qi (f++t)=true):
  execs Φ fl [3] W Yl (J8 o d f k (.val (.int 123)) e) D=some (.next,J8 o d (f++t) ((r:Nat)+1) (.val (.int 123)) (.val (.int (r:Nat))),D):=by
 have p2:Jb (.int (k+2))=some (k+2).toNat:=by unfold Jb;dsimp only;rw[if_pos (by lia)]
 have p3:Jb (.int (r:Nat))=some r:=Zg hr;have hd2:¬(10<=d):=by lia
 show execs Φ fl [3] W [_] _ _=_;rw[Qm,Zm (by rw[HI];rfl)];rw[cons_of (Qv (v:=.int (r:Nat)) (D1:=D) rfl (by dsimp only[run,runs];simp[Bc,FG,FF,FE,FD,Fz,Fy,Fx,he]))];rw[cons_of (ρ1:=J8 o d f k (.val (.int 123)) (.val (.int (r:Nat)))) (D1:=D)]
 ·rw[cons_of (EL (l:=f) (m:=t) (D1:=D) rfl ?_ hf)]
  ·rw[Qm,Qv (v:=.int ((r:Nat)+1)) (D1:=D) rfl (by dsimp only[run,List.set_cons_succ,List.set_cons_zero,List.getElem?_cons_zero,List.getElem?_cons_succ,Bc,FG,FF,FE,FD,Fz,Fy,Fx])];rfl
  ·refine Qd (Q1 (ZQ (Q2 rfl) (Qp (QB (Q2 rfl) Qa rfl) p2) (Qp (Q2 rfl) p3) hsl) (Q1 (Q2 rfl) (Q1 (QB (Q2 rfl) Qa rfl) Q6))) hp
 ·rw[Z0 (D1:=D)]
  ·exact(execs_nil)
  ·dsimp only[truthOf,run,List.set_cons_succ,List.set_cons_zero,List.getElem?_cons_zero,List.getElem?_cons_succ];simp only[truthOf,List.set_cons_succ,List.set_cons_zero,List.getElem?_cons_zero,List.getElem?_cons_succ,Bv,ED,Bu,EC,EB,Bt,EA,Ez,Ey,Ex,Ga,Ew,zR,zQ,zP,zO,zN,zK,Option.map_some,FY,BJ,FX,FW,hd2,decide_false]
theorem XP{o f:List Nat}{d k:Int}{e:LV}(he:Φ .k5 [.bytes o,.int (k+2),.bytes [125]] D=some (.none,D)):
  execs Φ fl [3] W Yl (J8 o d f k (.val (.int 123)) e) D=some (.exc (.int k),J8 o d f k (.val (.int 123)) (.val .none),D):=by
 show execs Φ fl [3] W [_] _ _=_;rw[Qm,Zm (by rw[HI];rfl)];rw[cons_of (Qv (v:=.none) (D1:=D) rfl (by dsimp only[run,runs];simp[Bc,FG,FF,FE,FD,Fz,Fy,Fx,he]))];rfl
end
end
noncomputable abbrev lp(n:Nat):Nat->List LV->Q8->Option (Out×List LV×Q8):=iter (fun ρ D=>truthOf (CF n) JJ ρ D) (fun ρ D=>execs (CF n) true [3] 100000 Zy ρ D)
noncomputable def U1(n:Nat)(d:Int)(x t:List Nat):Prop:=∀(pre post f:List Nat) (D:Q8) (s e:LV),Ud (pre++(x++post))->post.head?≠some 91->f.length+t.length<=20000->
 ∃c s' e',c<=x.length/\∀w,lp n (w+c) (J8 (pre++(x++post)) d f (pre.length:Nat) s e) D=lp n w (J8 (pre++(x++post)) d (f++t) ((pre.length+x.length:Nat)) s' e') D
theorem Tr{Φ:Qj}{D:Q8}{o f:List Nat}{d k:Int}{s e:LV}(h:Qi o=true):truthOf Φ JJ (J8 o d f k s e) D=some (decide (k < (o.length:Nat)),D):=by
 dsimp only[truthOf,run,runs,List.getElem?_cons_zero,List.getElem?_cons_succ];simp only[truthOf,JJ,List.getElem?_cons_zero,List.getElem?_cons_succ,JA h,Bv,ED,Bu,EC,EB,Bt,EA,Ez,Ey,Ex,Ga,Ew,FY,BJ,FX,FW]
theorem U1.nil(n:Nat)(d:Int):U1 n d [] []:=fun pre post f D s e Z Z Z=>⟨0,s,e,Nat.le_refl _,fun w=>by simp⟩
theorem U1.step{n:Nat}{d:Int}{x t:List Nat}(hx:x≠[]) (h:∀(pre post f:List Nat) (D:Q8) (s e:LV),Ud (pre++(x++post))->post.head?≠some 91->f.length+t.length<=20000->
  ∃s' e',execs (CF n) true [3] 100000 Zy (J8 (pre++(x++post)) d f (pre.length:Nat) s e) D=some (.next,J8 (pre++(x++post)) d (f++t) ((pre.length+x.length:Nat)) s' e',D)):U1 n d x t:=fun pre post f D s e ho hp hf=>by
 obtain⟨s',e',k⟩:=h pre post f D s e ho hp hf;refine⟨1,s',e',List.length_pos_iff.mpr hx,fun w=>J3 (D1:=D) ?_ k⟩;have:=List.length_pos_iff.mpr hx;rw[Tr ho.ok,decide_eq_true (by simp;lia)]
theorem U1.app{n:Nat}{d:Int}{x t y u:List Nat}(h1:U1 n d x t)(h2:U1 n d y u)(hy:y=[]\/y.head?≠some 91):U1 n d (x++y) (t++u):=fun pre post f D s e ho hp hf=>by
 replace hf:=List.length_append▸hf;have hp1:(y++post).head?≠some 91:=by
  rcases y with _|⟨a,r⟩
  ·exact hp
  ·exact hy.elim (fun q=>by cases q) fun q=>by simpa using q
 refine cps fun U y0=>?_;obtain⟨c1,s1,e1,l1,k1⟩:=h1 pre (y++post) f D s e (by simpa using ho) hp1 (by lia);obtain⟨c2,s2,e2,l2,k2⟩:=h2 (pre++x) post (f++t) D s1 e1 (by simpa using ho) hp (by rw[List.length_append];lia);refine y0 ?_;refine⟨c2+c1,s2,e2,by rw[List.length_append];lia,fun w=>?_⟩;have a1:=k1 (w+c2);have a2:=k2 w;rw[show pre++(x++y++post)=pre++(x++(y++post)) by simp];rw[show w+(c2+c1)=w+c2+c1 by lia,a1];rw[show pre++x++(y++post)=pre++(x++(y++post)) by simp,show(pre++x).length=pre.length+x.length by simp] at a2;refine Eq.trans a2 ?_;rw[List.append_assoc,List.length_append];rw[show pre.length+x.length+y.length=pre.length+(x.length+y.length) by omega]
theorem Nt{n:Nat}{d:Int}{x t:List Nat}{D:Q8}(h:U1 (n+1) d x t)(ho:Ud x)(ht:t.length<=20000):CF (n+2) .k12 [.bytes x,Qb,.int d] D=some (.bytes t,D):=by
 show ZA QN 100000 (n+1+1) _ _ _=_;rw[QC (by decide) rfl];show Qn (execs _ _ [3] _ Zd _ _)=_;rw[H9];have hb:=ho.ok;obtain⟨c,s',e',hc,k⟩:=h [] [] [] D .u .u (by simpa using ho) (by simp) (by simpa using ht);simp only[List.nil_append,List.append_nil,List.length_nil,Nat.zero_add] at k;have hl:=ho.len;have k:=k (100000 - c - 1+1);rw[show 100000 - c - 1+1+c=100000 by omega] at k;have k2:=k.trans (Ul (D1:=D) (by rw[Tr hb];simp));have k3:exec (CF (n+1)) true [3] 100000 (.whiles JJ Zy) (J8 x d [] 0 .u .u) D=some (.next,J8 x d t (x.length:Nat) s' e',D):=by rw[ZP];exact k2
 have e1:exec (CF (n+1)) true [3] 100000 (SR.setN [3,4,5] [IR.bi (Bi.bytearray) [],IR.lit (AV.int 0),IR.call (Fn.k2) []]) [.val (.bytes x),.val Qb,.val (.int d),.u,.u,.u,.u,.u] D=some (.next,J8 x d [] 0 .u .u,D):=by
  kernel_rfl
 show Qn (execs _ true _ _ _ [.val (.bytes x),.val Qb,.val (.int d),.u,.u,.u,.u,.u] _)=_;rw[cons_of e1];rw[cons_of k3];have ht2:Qi t=true:=UT (Nat.le_trans ht (by decide));rw[Qm];dsimp only[exec];have e2:run (CF (n+1)) (IR.bi (Bi.bytes) [IR.loc 3]) (List.map LV.rel (J8 x d t (x.length:Nat) s' e')) D=some (.bytes t,D):=by
  show(match(if Qi t then some (AV.bytes t) else none) with|some z=>some (z,D)|none=>none)=_;rw[if_pos ht2]
 rw[e2];rfl
theorem Rt{l:List Nat}(h:l.length<=30000):Qi l=true:=UT (Nat.le_trans h (Nat.le_of_ble_eq_true rfl))
theorem Gv{pre:List Nat}{c:Nat}{post:List Nat}(hb:Qi (pre++c::post)=true):∃sg:Int,((((pre.length:Nat):Int)+1 < ((pre++c::post).length:Nat)/\Uu (.bytes (pre++c::post)) (.int ((pre.length:Nat)+1))=some (.int sg))\/(¬(((pre.length:Nat):Int)+1 < ((pre++c::post).length:Nat))/\sg=0)):=by
 rcases post with _|⟨c2,r⟩
 ·exact⟨0,.inr ⟨by simp,rfl⟩⟩
 ·exact⟨c2,.inl ⟨by simp;lia,TO hb⟩⟩
theorem U1.plain{n:Nat}{d:Int}{c:Nat}(hc:c≠35):U1 n d [c] [c]:=U1.step (by exact List.cons_ne_nil _ _) fun pre post f D s e ho hp hf=>by
 have hb:=ho.ok;obtain⟨sg,hs⟩:=Gv (pre:=pre) (c:=c) (post:=post) hb;refine⟨.val (.int sg),e,?_⟩;refine(GW (JA hb) (Lb hb) hs hc (ho.oct c (by simp)) (Rt ?_)).trans ?_
 ·simp at hf ⊢;lia
 ·rfl
theorem U1.plains{n:Nat}{d:Int}:∀{x:List Nat},(∀c∈x,c≠35)->(∀c∈x,c≠91)->U1 n d x x
 | [],_,_=>U1.nil n d
 | c::r,h,h2=>U1.app (x:=[c]) (t:=[c]) (U1.plain (h c (.head _))) (U1.plains (fun c hc=>h c (by simp[hc])) fun c hc=>h2 c (by simp[hc])) (by
  rcases r with _|⟨a,r⟩
  ·exact .inl rfl
  ·right;simp;exact h2 a (.tail _ (.head _)))
theorem Jn{n:Nat}{d:Int}{pre r:List Nat}{c2:Nat}{f:List Nat}{D:Q8}{s e:LV}(hb:Qi (pre++35::c2::r)=true):
  execs (CF n) true [3] 100000 Zy (J8 (pre++35::c2::r) d f (pre.length:Nat) s e) D=execs (CF n) true [3] 100000 Yl (J8 (pre++35::c2::r) d f (pre.length:Nat) (.val (.int (c2:Nat))) e) D:=
 NV (JA hb) (Lb hb) (by simp;lia) (TO hb)
theorem RW{pre r:List Nat}{a b:Nat}(hb:Qi (pre++r)=true)(ha:a<=b):Ku (.bytes (pre++r)) (some (pre.length+a)) (some (pre.length+b))=some (.bytes ((r.drop a).take (b - a))):=by
 unfold Ku Yz;dsimp only;refine Eq.trans (if_pos hb) ?_;simp only[Option.getD_some];rw[List.take_append,List.take_of_length_le (Nat.le_add_right _ _),List.drop_append,List.drop_of_length_le (Nat.le_add_right _ _),List.nil_append];rw[List.drop_take];simp only[Nat.add_sub_cancel_left]
theorem U1.put{n:Nat}{d:Int}{c:Nat}(hc:c=35\/c=44\/c=125):U1 n d [35,c] [c]:=U1.step (by exact List.cons_ne_nil _ _) fun pre post f D s e ho hp hf=>by
 have hb:=ho.ok;have hl:=ho.len;simp at hl;refine⟨.val (.int (c:Nat)),e,?_⟩;refine(Jn (r:=post) hb).trans ((Ef hc (Rt ?_) ?_ hb ?_).trans ?_)
 ·simp at hf ⊢;lia
 ·intro hc2;rw[show(((pre.length:Nat):Int)+2).toNat=pre.length+2 by lia,show(((pre.length:Nat):Int)+3).toNat=pre.length+3 by omega];rw[RW (r:=[35,c]++post) hb (Nat.le_succ _)];intro q;simp at q;rcases post with _|⟨a,r⟩
  ·simp at q
  ·simp at q hp;exact hp q
 ·lia
 ·rfl
theorem U1.letter{n:Nat}{d:Int}{c:Nat}{t:List Nat}(h:(c=83/\t=[115,49])\/(c=73/\t=[51])\/(c=84/\t=[116,111,112])\/(c=87/\t=[])):U1 n d [35,c] t:=U1.step (by simp) fun pre post f D s e ho hp hf=>by
 have hb:=ho.ok;refine⟨.val (.int (c:Nat)),e,?_⟩;refine(Jn (r:=post) hb).trans ?_;have hf2:Qi (f++t)=true:=Rt (by rw[List.length_append];omega);have key:execs (CF n) true [3] 100000 Yl (J8 (pre++35::c::post) d f (pre.length:Nat) (.val (.int (c:Nat))) e) D=some (.next,J8 (pre++35::c::post) d (f++t) ((pre.length:Nat)+2) (.val (.int (c:Nat))) e,D):=by
  rcases h with⟨rfl,rfl⟩|⟨rfl,rfl⟩|⟨rfl,rfl⟩|⟨rfl,rfl⟩
  ·exact Uy (w:=[115,101,115,115,105,111,110,95,110,97,109,101]) (v0:=some (.bytes [115,49])) (by kernel_rfl) (by kernel_rfl) rfl hf2 (by decide)
  ·exact Uy (w:=[119,105,110,100,111,119,95,105,110,100,101,120]) (v0:=some (.bytes [51])) (by kernel_rfl) (by kernel_rfl) rfl hf2 (by decide)
  ·exact Uy (w:=[112,97,110,101,95,116,105,116,108,101]) (v0:=some (.bytes [116,111,112])) (by kernel_rfl) (by kernel_rfl) rfl hf2 (by decide)
  ·exact Uy (w:=[119,105,110,100,111,119,95,110,97,109,101]) (v0:=none) (by kernel_rfl) (by kernel_rfl) rfl hf2 (by decide)
 exact key
theorem U1.style{n:Nat}{d:Int}:U1 n d [35,91,102,103,61,114,101,100,93] [35,91,102,103,61,114,101,100,93]:=fun pre post f D s e ho hp hf=>by
 have hb:=ho.ok;simp at hf;have k1:execs (CF n) true [3] 100000 Zy (J8 (pre++35::91::([102,103,61,114,101,100,93]++post)) d f (pre.length:Nat) s e) D=some (.next,J8 (pre++35::91::([102,103,61,114,101,100,93]++post)) d (f++[35]) ((pre.length:Nat)+1) (.val (.int ((91:Nat):Int))) e,D):=
  (Jn hb).trans (Lo (by kernel_rfl) (Rt (by simp;omega)) (by decide))
 have h2:U1 n d [91,102,103,61,114,101,100,93] [91,102,103,61,114,101,100,93]:=U1.app (x:=[91]) (t:=[91]) (U1.plain (by decide)) (U1.plains (by decide) (by decide)) (.inr (by decide));obtain⟨c,s',e',hc,k⟩:=h2 (pre++[35]) post (f++[35]) D (.val (.int ((91:Nat):Int))) e (by simpa using ho) hp (by simp;omega);simp only[List.length_cons,List.length_nil] at hc;refine⟨c+1,s',e',by simp only[List.length_cons,List.length_nil];omega,fun w=>?_⟩;rw[show w+(c+1)=(w+c)+1 by omega];have hT:truthOf (CF n) JJ (J8 (pre++35::91::([102,103,61,114,101,100,93]++post)) d f (pre.length:Nat) s e) D=some (true,D):=by
  rw[Tr (o:=pre++35::91::([102,103,61,114,101,100,93]++post)) hb,decide_eq_true (by simp;omega)]
 have k2:=k w;have e0:pre++[35]++([91,102,103,61,114,101,100,93]++post)=pre++35::91::([102,103,61,114,101,100,93]++post):=by simp
 rw[e0] at k2;have e2:(((pre++[35]).length:Nat):Int)=((pre.length:Nat):Int)+1:=by simp
 rw[e2] at k2;refine(J3 hT k1).trans (k2.trans ?_);simp only[List.append_assoc,List.length_append,List.length_cons,List.length_nil];rfl
theorem Wb{n:Nat}{pre r ends:List Nat}{D:Q8}(ho:Ud (pre++r)):CF (n+1) .k5 [.bytes (pre++r),.int (pre.length:Nat),.bytes ends] D=some (match Jg ends 0 r with|some e=>.int ((pre.length+e:Nat))|none=>.none,D):=
 s_end ho.ok ho.right.oct (by have:=ho.len;simp at this;lia)
theorem U1.cmd{n:Nat}{d:Int}:U1 (n+1) d [35,40,108,115,32,120,41] []:=U1.step (by exact List.cons_ne_nil _ _) fun pre post f D s e ho hp hf=>by
 have hb:=ho.ok;have h1:=Wb (n:=n) (pre:=pre++[35,40]) (r:=[108,115,32,120,41]++post) (ends:=[41]) (D:=D) (by simpa using ho);have h2:Jg [41] 0 ([108,115,32,120,41]++post)=some 4:=by
  simp[Uw]
 rw[h2] at h1;refine⟨.val (.int ((40:Nat):Int)),.val (.int (((pre++[35,40]).length+4:Nat))),?_⟩;have e0:pre++[35,40]++([108,115,32,120,41]++post)=pre++35::40::([108,115,32,120,41]++post):=by simp
 have e2:(((pre++[35,40]).length:Nat):Int)=((pre.length:Nat):Int)+2:=by simp
 rw[e0,e2] at h1;refine(Jn hb).trans ((Eg (r:=(pre++[35,40]).length+4) h1).trans ?_);have e3:((((pre++[35,40]).length+4:Nat):Int)+1)=((pre.length+[35,40,108,115,32,120,41].length:Nat):Int):=by simp;lia
 rw[e3,List.append_nil];rfl
theorem U1.part{n:Nat}{d:Int}{inner t:List Nat}(hd:d < 10)(hi:pass 125 0 inner=some 0)(hp:∀D,CF (n+1) .k13 [.bytes inner,Qb,.int (d+1)] D=some (.bytes t,D)):U1 (n+1) d (35::123::inner++[125]) t:=U1.step (by exact List.cons_ne_nil _ _) fun pre post f D s e ho hpo hf=>by
 have e0:pre++(35::123::inner++[125]++post)=pre++35::123::(inner++125::post):=by simp
 rw[e0] at ho ⊢;have hb:=ho.ok;have hl:=ho.len;simp at hl;have h1:=Wb (n:=n) (pre:=pre++[35,123]) (r:=inner++125::post) (ends:=[125]) (D:=D) (by simpa using ho);have h2:Jg [125] 0 (inner++125::post)=some inner.length:=by
  rw[Ky Eh hi,Uw (by decide)];simp
 rw[h2] at h1;have e1:pre++[35,123]++(inner++125::post)=pre++35::123::(inner++125::post):=by simp
 have e2:(((pre++[35,123]).length:Nat):Int)=((pre.length:Nat):Int)+2:=by simp
 rw[e1,e2] at h1;refine⟨.val (.int ((123:Nat):Int)),.val (.int (((pre++[35,123]).length+inner.length:Nat))),?_⟩;refine(Jn hb).trans ((Ln (r:=(pre++[35,123]).length+inner.length) (inner:=inner) (t:=t) h1 hd ?_ ?_ ?_ (hp D) (Rt ?_)).trans ?_)
 ·rw[show(((pre.length:Nat):Int)+2).toNat=pre.length+2 by omega];have e4:(pre++[35,123]).length+inner.length=pre.length+(inner.length+2):=by simp;lia
  rw[e4];refine Eq.trans (RW (r:=35::123::(inner++125::post)) hb (Nat.le_add_left _ _)) ?_;simp
 ·lia
 ·simp;lia
 ·simp at hf ⊢;lia
 ·have e3:((((pre++[35,123]).length+inner.length:Nat):Int)+1)=((pre.length+(35::123::inner++[125]).length:Nat):Int):=by simp;lia
  rw[e3];rfl
section
open IR SR
noncomputable def Sv:List SR:=[.set 2 (.slc (.loc 0) (some (.loc 1)) (some (.bin .add (.loc 1) (.lit (.int 1))))),.ifs (.or (.cmp .eq (.loc 2) (.lit (.bytes []))) (.cmp .notIn (.loc 2) (.glob [84,79,76,68,95,77,79,68,73,70,73,69,82,83] (.bytes [109,78,115,116,61,112,101,113,82])))) [.ret (.tup [.lit .none,.loc 1])] [],.aug 1 .add (.lit (.int 1)),.ifs (.cmp .in_ (.slc (.loc 0) (some (.loc 1)) (some (.bin .add (.loc 1) (.lit (.int 1))))) (.tup [.lit (.bytes [58]),.lit (.bytes [59]),.lit (.bytes [])])) [.ret (.tup [.ite (.cmp .ne (.slc (.loc 0) (some (.loc 1)) (some (.bin .add (.loc 1) (.lit (.int 1))))) (.lit (.bytes []))) (.modi (.loc 2) (.lst [])) (.lit .none),.loc 1])] [],.ifs (.or (.and (.cmp .in_ (.loc 2) (.tup [.lit (.bytes [61]),.lit (.bytes [112])])) (.cmp .ne (.idx (.loc 0) (.loc 1)) (.glob [83,76,65,83,72] (.int 47)))) (.cmp .eq (.loc 2) (.lit (.bytes [82])))) [.set 3 (.call .k5 [.loc 0,.loc 1,.lit (.bytes [58,59])]),.ret (.ite (.cmp .isNotNone (.loc 3) (.lit .none)) (.tup [.modi (.loc 2) (.lst [.slc (.loc 0) (some (.loc 1)) (some (.loc 3))]),.loc 3]) (.tup [.lit .none,.loc 1]))] [],.ret (.call .k8 [.loc 2,.loc 0,.loc 1])]
section
variable {Φ:Qj}{n:Nat}{fl:Bool}{own:List Nat}{W:Nat}{D D1 D2:Q8}{ρ:List LV}
noncomputable abbrev Hc(o:List Nat)(k:Nat):AV:=match Jg [44] 0 (o.drop k) with|some e=>.int ((k+e:Nat))|none=>.none
theorem Fo{o:List Nat}{k:Nat}(ho:Ud o)(hk:k<=o.length):CF (n+1) .k5 [.bytes o,.int (k:Nat),.bytes [44]] D=some (Hc o k,D):=by
 have h:=Wb (n:=n) (pre:=o.take k) (r:=o.drop k) (ends:=[44]) (D:=D) (by rw[List.take_append_drop];exact ho);rw[List.take_append_drop,List.length_take,Nat.min_eq_left hk] at h;exact h
theorem RT{o:List Nat}{k e:Nat}{acc:List AV}(ho:Ud o)(hk:k<=e)(he:e < o.length)(ha:acc.length<=65536):
  execs (CF (n+1)) fl own W YU [.val (.bytes o),.own acc,.val (.int (k:Nat)),.val (.int (e:Nat))] D=some (.next,[.val (.bytes o),.own (acc++[.bytes ((o.take e).drop k)]),.val (.int ((e+1:Nat))),.val (Hc o (e+1))],D):=by
 have hl:=ho.len;refine Eq.trans (cons_of (YO (l:=acc) (v:=.bytes ((o.take e).drop k)) (D1:=D) rfl (ZQ (Q2 rfl) (Qp (Q2 rfl) (Zg (by omega))) (Qp (Q2 rfl) (Zg (by omega))) (Ni ho.ok)) ha)) ?_;refine Eq.trans (cons_of (Qv (v:=.int ((e+1:Nat))) (D1:=D) rfl (QB (Q2 rfl) Qa rfl))) ?_;rw[Qm,Qv (v:=Hc o (e+1)) (D1:=D) rfl (Qd (Q1 (Q2 rfl) (Q1 (Q2 rfl) (Q1 Qa Q6))) (Fo ho (by assumption)))];rfl
theorem Xd{o:List Nat}{acc:LV}{k:LV}{v:AV}(hv:v=.none\/∃i,v=.int i):truthOf Φ (.cmp .isNotNone (.loc 3) (.lit .none)) [.val (.bytes o),acc,k,.val v] D=some (match v with|.none=>false|_=>true,D):=by
 rcases hv with rfl|⟨i,rfl⟩
 ·exact Z1 (Q2 rfl) Qa rfl
 ·exact Z1 (Q2 rfl) Qa rfl
noncomputable def Z2:List (List Nat)->List Nat
 | []=>[]
 | [x]=>x
 | x::y::r=>x++44::Z2 (y::r)
theorem Lz{pre x:List Nat}(h:pass 44 0 x=some 0):Hc (pre++x) pre.length=.none:=by
 unfold Hc;have:=Ky (r:=[]) Lw h;rw[List.append_nil,Lj] at this;simp[this]
theorem GY{pre x r:List Nat}(h:pass 44 0 x=some 0):Hc (pre++(x++44::r)) pre.length=.int ((pre.length+x.length:Nat)):=by
 unfold Hc;have:=Ky (r:=44::r) Lw h;rw[Uw (by decide)] at this;simp[this]
theorem RU:∀(xs:List (List Nat)) (x pre:List Nat) (acc:List AV) (w:Nat),(∀y∈x::xs,pass 44 0 y=some 0)->Ud (pre++Z2 (x::xs))->acc.length+xs.length<=65536->
  iter (fun ρ D=>truthOf (CF (n+1)) (IR.cmp (Co.isNotNone) (IR.loc 3) (IR.lit (AV.none))) ρ D) (fun ρ D=>execs (CF (n+1)) fl own W YU ρ D) (w+xs.length+1) [.val (.bytes (pre++Z2 (x::xs))),.own acc,.val (.int (pre.length:Nat)),.val (Hc (pre++Z2 (x::xs)) pre.length)] D=
   some (.next,[.val (.bytes (pre++Z2 (x::xs))),.own (acc++((x::xs).dropLast.map .bytes)),.val (.int (((pre++Z2 (x::xs)).length - ((x::xs).getLast (by simp)).length:Nat))),.val .none],D):=by
 intro zz
 induction zz with
 | nil=>
  intro x pre acc w hp ho ha;have e0:Hc (pre++Z2 [x]) pre.length=.none:=Lz (hp x (.head _));rw[e0];refine(Ul (D1:=D) ?_).trans ?_
  ·exact Xd (.inl rfl)
  ·simp[Z2]
 | cons y ys ih=>
  intro x pre acc w hp ho ha;have e0:Hc (pre++Z2 (x::y::ys)) pre.length=.int ((pre.length+x.length:Nat)):=GY (hp x (.head _));have e1:pre++Z2 (x::y::ys)=(pre++x++[44])++Z2 (y::ys):=by simp[Z2]
  rw[e0];have st:=RT (n:=n) (fl:=fl) (own:=own) (W:=W) (D:=D) (o:=pre++Z2 (x::y::ys)) (k:=pre.length) (e:=pre.length+x.length) (acc:=acc) ho (Nat.le_add_right _ _) (by simp[Z2]) (Nat.le_trans (Nat.le_add_right _ _) (by assumption));refine(J3 (D1:=D) (Xd (.inr ⟨_,rfl⟩)) st).trans ?_;have e2:((pre++Z2 (x::y::ys)).take (pre.length+x.length)).drop pre.length=x:=by
   simp[Z2,List.take_append]
  have e3:pre.length+x.length+1=(pre++x++[44]).length:=by rw[List.length_append,List.length_append];rfl
  rw[e2,e3];have ih:=ih y (pre++x++[44]) (acc++[.bytes x]) w (fun z hz=>hp z (List.mem_cons_of_mem _ hz)) (by rw[<- e1];exact ho) (by simp at ha ⊢;lia);rw[<- e1] at ih;refine ih.trans ?_;simp
theorem s_split{x:List Nat}{xs:List (List Nat)}(hp:∀y∈x::xs,pass 44 0 y=some 0)(ho:Ud (Z2 (x::xs)))(hx:xs.length<=1000):CF (n+2) .k6 [.bytes (Z2 (x::xs))] D=some (.list ((x::xs).map .bytes),D):=by
 refine Eq.trans (QC (by decide) rfl) ?_;show Qn (execs (CF (n+1)) true [1] 100000 [SR.setN [1,2] [IR.lst [],IR.lit (AV.int 0)],SR.set 3 (IR.call (Fn.k5) [IR.loc 0,IR.loc 2,IR.lit (AV.bytes [44])]),SR.whiles (IR.cmp (Co.isNotNone) (IR.loc 3) (IR.lit (AV.none))) YU,SR.ret (IR.bin (Op.add) (IR.loc 1) (IR.lst [IR.slc (IR.loc 0) (some (IR.loc 2)) none]))] [.val (.bytes (Z2 (x::xs))),.u,.u,.u] _)=_;have e1:exec (CF (n+1)) true [1] 100000 (SR.setN [1,2] [IR.lst [],IR.lit (AV.int 0)]) [.val (.bytes (Z2 (x::xs))),.u,.u,.u] D=some (.next,[.val (.bytes (Z2 (x::xs))),.own [],.val (.int 0),.u],D):=rfl;rw[cons_of e1,cons_of (Qv (v:=Hc (Z2 (x::xs)) 0) (D1:=D) rfl (Qd (Q1 (Q2 rfl) (Q1 (Q2 rfl) (Q1 Qa Q6))) (Fo (k:=0) ho (Nat.zero_le _))))];have k:=RU (n:=n) (fl:=true) (own:=[1]) (W:=100000) (D:=D) xs x [] [] (100000 - xs.length - 1) hp (by simpa using ho) (by simp;lia);simp only[List.nil_append,List.length_nil] at k;rw[show 100000 - xs.length - 1+xs.length+1=100000 by omega] at k;rw[show((0:Nat):Int)=0 from rfl] at k;have k3:=(ZP (Φ:=CF (n+1)) (fl:=true) (own:=[1]) (W:=100000) (t:=IR.cmp (Co.isNotNone) (IR.loc 3) (IR.lit (AV.none))) (b:=YU) (D:=D)).trans k;show Qn (execs _ _ _ _ _ [.val (.bytes (Z2 (x::xs))),.own [],.val (.int 0),.val (Hc (Z2 (x::xs)) 0)] _)=_;rw[cons_of k3,Qm,QJ (v:=.list ((x::xs).map .bytes)) (D1:=D)]
 ·rfl
 ·have hl:=ho.len;refine QB (y:=.list [.bytes ((x::xs).getLast (by exact List.cons_ne_nil _ _))]) (Q2 rfl) (U4 (Q1 (ZQ (Q2 rfl) (Qp (Q2 rfl) (Zg (by omega))) ZG ?_) Q6) (by exact Nat.succ_pos _)) ?_
  ·refine Eq.trans (Ni ho.ok) ?_;dsimp only[Yz];dsimp only[Option.getD_some];have:∀(xs:List (List Nat)) (x:List Nat),(Z2 (x::xs)).drop ((Z2 (x::xs)).length - ((x::xs).getLast (by simp)).length)=(x::xs).getLast (by simp):=fun xs=>by
    induction xs with
    | nil=>intro x;simp[Z2]
    | cons y ys ih=>
     intro x;have hle:((y::ys).getLast (by simp)).length<=(Z2 (y::ys)).length:=by
      have:=congrArg List.length (ih y);simp at this;omega
     rw[List.getLast_cons (by simp)];have e:(Z2 (x::y::ys)).length - ((y::ys).getLast (by simp)).length=(x++[44]).length+((Z2 (y::ys)).length - ((y::ys).getLast (by simp)).length):=by
      simp[Z2];lia
     rw[e];have e1:Z2 (x::y::ys)=(x++[44])++Z2 (y::ys):=by simp[Z2]
     rw[e1,List.drop_append,List.drop_of_length_le (Nat.le_add_right _ _),List.nil_append,Nat.add_sub_cancel_left];exact ih y
   rw[this]
  ·unfold Uc;dsimp only;refine Eq.trans (if_pos (by simp;lia)) ?_;congr 2;have:=List.dropLast_concat_getLast (l:=(x::xs).map AV.bytes) (by exact List.cons_ne_nil _ _);rw[<- List.map_dropLast,List.getLast_map] at this;exact this
end
section
variable {Φ:Qj}{n:Nat}{fl:Bool}{own:List Nat}{W:Nat}{D D1 D2:Q8}{ρ:List LV}
noncomputable def K3(o nm:List Nat):Bool:=(o.take nm.length == nm)&&(([58] == (o.take (nm.length+1)).drop nm.length)||(([59] == (o.take (nm.length+1)).drop nm.length)||false))
theorem L9{z:List Nat}:Jh .in_ (.bytes z) (.tuple [.bytes [58],.bytes [59]])=some (([58] == z)||(([59] == z)||false)):=rfl
theorem U2{o z:List Nat}{lo hi:Option Nat}(h:Qi o=true)(hz:Yz o lo hi=z):Ku (.bytes o) lo hi=some (.bytes z):=by rw[Ni h,hz]
theorem UL{r:Nat}(h:r+1 < 1000000):Jb (.int ((r:Nat)+1))=some (r+1):=by
 have:=Zg h;rw[show(((r+1:Nat)):Int)=(r:Int)+1 by omega] at this;exact this
theorem PI:Jb (.int 0)=some 0:=rfl
theorem Rp{a b c:Int}(h:a+b=c):Uc .add (.int a) (.int b)=some (.int c):=by subst h;rfl
theorem PS{o nm:List Nat}{e:LV}(hb:Qi o=true)(hn:nm.length<=10):
  execs Φ fl own W modBody [.val (.bytes o),.val (.int 0),.val (.bytes nm),e] D=
   if K3 o nm then some (.ret (.tuple [.modi nm [],.int (nm.length:Nat)]),[.val (.bytes o),.val (.int 0),.val (.bytes nm),.val (.int (nm.length:Nat))],D)
   else some (.next,[.val (.bytes o),.val (.int 0),.val (.bytes nm),.val (.int (nm.length:Nat))],D):=by
 have hnb:Qi nm=true:=Rt (Nat.le_trans (by assumption) (Nat.le_of_ble_eq_true rfl));have e0:((0:Int)+((nm.length:Nat):Int))=((nm.length:Nat):Int):=by simp
 refine Eq.trans (cons_of (Qv (v:=.int (nm.length:Nat)) (D1:=D) rfl (QB (x:=.int 0) (y:=.int (nm.length:Nat)) (o:=.add) (Q2 rfl) (Jk (Q1 (Q2 rfl) Q6) (JA hnb)) (Rp e0)))) ?_;show execs Φ fl own W _ [.val (.bytes o),.val (.int 0),.val (.bytes nm),.val (.int (nm.length:Nat))] D=_;have h1:run Φ (IR.cmp (Co.eq) (IR.slc (IR.loc 0) (some (IR.loc 1)) (some (IR.loc 3))) (IR.loc 2)) [.val (.bytes o),.val (.int 0),.val (.bytes nm),.val (.int (nm.length:Nat))] D=some (.bool (o.take nm.length == nm),D):=
  QA (ZQ (Q2 rfl) (Qp (Q2 rfl) PI) (Qp (Q2 rfl) (Zg (by omega))) (U2 (z:=o.take nm.length) hb rfl)) (Q2 rfl) Vf
 have h2:run Φ (IR.cmp (Co.in_) (IR.slc (IR.loc 0) (some (IR.loc 3)) (some (IR.bin (Op.add) (IR.loc 3) (IR.lit (AV.int 1))))) (IR.tup [IR.lit (AV.bytes [58]),IR.lit (AV.bytes [59])])) [.val (.bytes o),.val (.int 0),.val (.bytes nm),.val (.int (nm.length:Nat))] D=
   some (.bool (([58] == (o.take (nm.length+1)).drop nm.length)||(([59] == (o.take (nm.length+1)).drop nm.length)||false)),D):=by
  refine QA (ZQ (Q2 rfl) (Qp (Q2 rfl) (Zg (by omega))) (Qp (QB (Q2 rfl) Qa rfl) (UL (by omega))) (U2 hb rfl)) (JG (Q1 Qa (Q1 Qa Q6)) (Nat.le_of_ble_eq_true rfl)) L9
 have h4:truthOf Φ (IR.and (IR.cmp (Co.eq) (IR.slc (IR.loc 0) (some (IR.loc 1)) (some (IR.loc 3))) (IR.loc 2)) (IR.cmp (Co.in_) (IR.slc (IR.loc 0) (some (IR.loc 3)) (some (IR.bin (Op.add) (IR.loc 3) (IR.lit (AV.int 1))))) (IR.tup [IR.lit (AV.bytes [58]),IR.lit (AV.bytes [59])]))) [.val (.bytes o),.val (.int 0),.val (.bytes nm),.val (.int (nm.length:Nat))] D=some (K3 o nm,D):=Y0 h1 h2;refine Eq.trans Qm ?_;rcases q:K3 o nm with _|_
 ·
  rw[q] at h4;rw[Z0 h4,execs_nil];rfl
 ·
  rw[q] at h4;rw[Zm h4,Qm,QJ (v:=.tuple [.modi nm [],.int (nm.length:Nat)]) (D1:=D)]
  ·rfl
  ·rfl
theorem PR{o:List Nat}(hb:Qi o=true):∀(nms:List (List Nat)) (nm:List Nat) (v e:LV),(∀x∈nms,x.length<=10)->nms.find? (K3 o)=some nm->
  JV [2] (fun ρ D=>execs Φ fl own W modBody ρ D) (nms.map .bytes) [.val (.bytes o),.val (.int 0),v,e] D=some (.ret (.tuple [.modi nm [],.int (nm.length:Nat)]),[.val (.bytes o),.val (.int 0),.val (.bytes nm),.val (.int (nm.length:Nat))],D):=by
 intro zz
 induction zz with
 | nil=>
  intro nm v e _ h;exact Qf h
 | cons x xs ih=>
  intro nm v e hx h;have e1:JV [2] (fun ρ D=>execs Φ fl own W modBody ρ D) ((x::xs).map .bytes) [.val (.bytes o),.val (.int 0),v,e] D=
    (match execs Φ fl own W modBody [.val (.bytes o),.val (.int 0),.val (.bytes x),e] D with|some (.next,ρ1,D1)=>JV [2] (fun ρ D=>execs Φ fl own W modBody ρ D) (xs.map .bytes) ρ1 D1|r=>r):=rfl
  rw[e1,PS hb (hx x (.head _))];replace h:=Eq.trans (List.find?_cons).symm h;cases q:K3 o x with
  | true=>rw[q] at h;obtain rfl:=so h;rfl
  | false=>
   rw[q] at h;rw[if_neg Bool.false_ne_true];exact ih nm _ _ (fun y hy=>hx y (by simp[hy])) h
noncomputable def Ui:List (List Nat):=[[108],[69],[84],[98],[100],[110],[119],[97],[83],[87],[80],[33],[33,33],[124,124],[38,38],[61,61],[33,61],[60,61],[62,61],[60],[62]]
theorem Pm{o nm:List Nat}(ho:Ud o)(h:Ui.find? (K3 o)=some nm):CF (n+1) .k7 [.bytes o,.int 0] D=some (.tuple [.modi nm [],.int (nm.length:Nat)],D):=by
 refine Eq.trans (QC (by decide) rfl) ?_;show Qn (execs (CF n) true [] 100000 (SR.fors [2] modIt modBody::Sv) [.val (.bytes o),.val (.int 0),.u,.u] _)=_;have e1:run (CF n) modIt [.val (.bytes o),.val (.int 0),.u,.u] D=some (.tuple (Ui.map .bytes),D):=rfl;have e2:exec (CF n) true [] 100000 (SR.fors [2] modIt modBody) [.val (.bytes o),.val (.int 0),.u,.u] D=some (.ret (.tuple [.modi nm [],.int (nm.length:Nat)]),[.val (.bytes o),.val (.int 0),.val (.bytes nm),.val (.int (nm.length:Nat))],D):=by
  dsimp only[exec];rw[e1];dsimp only[Ut];rw[if_pos ⟨by decide,by rfl⟩];exact PR ho.ok Ui nm _ _ (by decide) h
 rw[Qr e2];rfl
theorem Pl{o nm r:List Nat}(ho:Ud o)(h:Ui.find? (K3 o)=some nm)(hn:nm.length<=10)(h2:(o.take (nm.length+1)).drop nm.length=[58])(h3:o.drop (nm.length+1)=r):CF (n+2) .k9 [.bytes o] D=some (.tuple [.list [.modi nm []],.bytes r],D):=by
 show ZA QN 100000 (n+1+1) _ _ _=_;refine Eq.trans (QC (by decide) rfl) ?_;show Qn (execs (CF (n+1)) true [1] 100000 [SR.setN [1,2] [IR.lst [],IR.lit (AV.int 0)],SR.whiles (IR.lit (AV.bool true)) VK] [.val (.bytes o),.u,.u,.u] _)=_;have e1:exec (CF (n+1)) true [1] 100000 (SR.setN [1,2] [IR.lst [],IR.lit (AV.int 0)]) [.val (.bytes o),.u,.u,.u] D=some (.next,[.val (.bytes o),.own [],.val (.int 0),.u],D):=rfl;rw[cons_of e1,Qm,ZP];have e2:execs (CF (n+1)) true [1] 100000 VK [.val (.bytes o),.own [],.val (.int 0),.u] D=some (.ret (.tuple [.list [.modi nm []],.bytes r]),[.val (.bytes o),.own [.modi nm []],.val (.int (nm.length:Nat)),.val (.modi nm [])],D):=by
  unfold VK;rw[cons_of (WX (vs:=[.modi nm [],.int (nm.length:Nat)]) (D1:=D) (Qd (Q1 (Q2 rfl) (Q1 (Q2 rfl) Q6)) (Pm ho h)) rfl rfl)];show execs _ _ _ _ _ [.val (.bytes o),.own [],.val (.int (nm.length:Nat)),.val (.modi nm [])] _=_;rw[cons_of (ρ1:=[.val (.bytes o),.own [],.val (.int (nm.length:Nat)),.val (.modi nm [])]) (D1:=D) ((Z0 (Z1 (Q2 rfl) Qa rfl)).trans execs_nil)];rw[cons_of (YO (l:=[]) (v:=.modi nm []) (D1:=D) rfl (Q2 rfl) (by simp))];show execs _ _ _ _ _ [.val (.bytes o),.own [.modi nm []],.val (.int (nm.length:Nat)),.val (.modi nm [])] _=_;refine Qr ((Zm (D1:=D) (Z1 (ZQ (Q2 rfl) (Qp (Q2 rfl) (Zg (by omega))) (Qp (QB (Q2 rfl) Qa rfl) (UL (by omega))) (U2 (z:=[58]) ho.ok h2)) Qa Vf)).trans ?_);refine Eq.trans Qm ?_;refine QJ (JG (Q1 (Q2 rfl) (Q1 (ZQ (Q2 rfl) (Qp (QB (Q2 rfl) Qa rfl) (UL (by omega))) ZG (U2 (z:=r) ho.ok h3)) Q6)) (by simp))
 rw[show(100000:Nat)=99999+1 from rfl];rw[HY (D1:=D) rfl e2];rfl
end
theorem Jl{n k:Nat}(h:k<=n):∃m,n=m+k:=⟨n - k,by lia⟩
section
variable {Φ:Qj}{n:Nat}{fl:Bool}{own:List Nat}{W:Nat}{D D1 D2:Q8}{ρ:List LV}{d:Int}
theorem Jm{a b:List SR}{ρ1:List LV}(h:execs Φ fl own W a ρ D=some (.next,ρ1,D1)):execs Φ fl own W (a++b) ρ D=execs Φ fl own W b ρ1 D1:=by
 induction a generalizing ρ D with
 | nil=>rw[execs_nil] at h;cases h;rfl
 | cons s r ih=>
  rw[List.cons_append];dsimp only[execs];dsimp only[execs] at h;rcases q:exec Φ fl own W s ρ D with _|⟨o,ρ2,D2⟩
  ·rw[q] at h;exact Qf h
  ·replace h:=q▸h;rcases o with _|v|v
   ·exact ih h
   ·cases h
   ·cases h
noncomputable def JB(t:List Nat):Bool:=!(t == [])&&!(t == [48])
noncomputable def QG(b:Bool):List Nat:=if b then[49] else[48]
theorem Y1{t:List Nat}:CF (n+1) .k3 [.bytes t] D=some (.bool (JB t),D):=by
 refine Eq.trans (QC (by decide) rfl) ?_;show Qn (execs (CF n) true [] 100000 [SR.ret (IR.and (IR.cmp (Co.ne) (IR.loc 0) (IR.lit (AV.bytes []))) (IR.cmp (Co.ne) (IR.loc 0) (IR.lit (AV.bytes [48]))))] [.val (.bytes t)] D)=_;rw[Qr (QJ (v:=.bool (JB t)) (D1:=D) (JH (QA (Q2 rfl) Qa PQ) rfl ?_))]
 ·rfl
 ·unfold JB;cases q:(t == []) with
  | true=>rfl
  | false=>
   refine Eq.trans (if_pos rfl) ?_;exact QA (Q2 rfl) Qa PQ
theorem Hm{b:Bool}:CF (n+1) .k4 [.bool b] D=some (.bytes (QG b),D):=by
 cases b<;>kernel_rfl
noncomputable def ZX:List (List Nat):=[[61,61],[33,61],[60],[62,61],[38,38],[124,124]]
theorem Xr:Zi=pt0::DU::pt2::([Bo,Bn,Bm,Bl]++(pt7::([Ax]++[Dt,Sa]))):=rfl
theorem ZR{P:List Nat->Prop}{nm:List Nat}{l:List (List Nat)}(h:nm∈l)(hl:∀x∈l,P x):P nm:=hl nm h
theorem Ho{o r nm:List Nat}{t:List (List Nat)}{X:List SR}(ho:Ud o)(h1:o.take 1≠[63])(hm:CF n .k9 [.bytes o] D=some (.tuple [.list [.modi nm t],.bytes r],D)):
  execs (CF n) true [] 100000 (pt0::DU::X) [.val (.bytes o),.val Qb,.val (.int d),.u,.u,.u,.u,.u,.u,.u] D=
   execs (CF n) true [] 100000 X [.val (.bytes o),.val Qb,.val (.int d),.val (.list [.modi nm t]),.val (.bytes r),.u,.u,.u,.u,.u] D:=by
 have e1:(o.take 1 == [63])=false:=by rw[beq_eq_false_iff_ne];exact h1
 rw[cons_of ((Z0 (D1:=D) ?_).trans execs_nil)]
 ·rw[cons_of (WX (vs:=[.list [.modi nm t],.bytes r]) (D1:=D) (Qd (Q1 (Q2 rfl) Q6) hm) rfl rfl)];rfl
 ·have:=Z1 (Φ:=CF n) (D:=D) (ρ:=[.val (.bytes o),.val Qb,.val (.int d),.u,.u,.u,.u,.u,.u,.u]) (ZQ (a:=IR.loc 0) (lo:=none) (hi:=some (IR.lit (AV.int 1))) (Q2 rfl) ZG (Qp (n:=1) Qa (rfl)) (U2 (z:=o.take 1) ho.ok rfl)) (Qa (v:=.bytes [63])) Vf;rw[e1] at this;exact this
theorem Ny{o r nm:List Nat}{X:List SR}:execs (CF n) true [] 100000 (pt2::X) [.val (.bytes o),.val Qb,.val (.int d),.val (.list [.modi nm []]),.val (.bytes r),.u,.u,.u,.u,.u] D=
   execs (CF n) true [] 100000 X [.val (.bytes o),.val Qb,.val (.int d),.val (.list [.modi nm []]),.val (.bytes r),.val (.modi nm []),.u,.u,.u,.u] D:=
 cons_of (by kernel_rfl)
theorem S9{o r nm:List Nat}(h:nm∈ZX):
  execs (CF (n+1)) true [] 100000 [Bo,Bn,Bm,Bl] [.val (.bytes o),.val Qb,.val (.int d),.val (.list [.modi nm []]),.val (.bytes r),.val (.modi nm []),.u,.u,.u,.u] D=
   some (.next,[.val (.bytes o),.val Qb,.val (.int d),.val (.list [.modi nm []]),.val (.bytes r),.val (.modi nm []),.val .none,.val (.modi nm []),.u,.u],D):=by
 refine ZR (P:=fun nm=>execs (CF (n+1)) true [] 100000 [Bo,Bn,Bm,Bl] [.val (.bytes o),.val Qb,.val (.int d),.val (.list [.modi nm []]),.val (.bytes r),.val (.modi nm []),.u,.u,.u,.u] D=
   some (.next,[.val (.bytes o),.val Qb,.val (.int d),.val (.list [.modi nm []]),.val (.bytes r),.val (.modi nm []),.val .none,.val (.modi nm []),.u,.u],D)) h ?_
 unfold ZX;simp only[List.forall_mem_cons];refine⟨?_,?_,?_,?_,?_,?_,fun x hx=>by cases hx⟩<;>kernel_rfl
theorem XI{nm:List Nat}(h:nm∈[33]::ZX)(b:Bool):CF (n+2) .k32 [.bytes (QG b),.list [.modi nm []]] D=some (.bytes (QG b),D):=by
 refine ZR (P:=fun nm=>CF (n+2) .k32 [.bytes (QG b),.list [.modi nm []]] D=some (.bytes (QG b),D)) h ?_;unfold ZX;simp only[List.forall_mem_cons];cases b<;>refine⟨?_,?_,?_,?_,?_,?_,?_,fun x hx=>by cases hx⟩<;>kernel_rfl
theorem Xk{o r nm:List Nat}{b:Bool}(h:nm∈ZX)(ho:Ud o)(h1:o.take 1≠[63])(hm:CF (n+2) .k9 [.bytes o] D=some (.tuple [.list [.modi nm []],.bytes r],D))
  (hp:CF (n+2) .k18 [.modi nm [],.bytes r,Qb,.int d] D=some (.bytes (QG b),D)):CF (n+3) .k13 [.bytes o,Qb,.int d] D=some (.bytes (QG b),D):=by
 refine Eq.trans (QC (by decide) rfl) ?_;show Qn (execs (CF (n+2)) true [] 100000 Zi [.val (.bytes o),.val Qb,.val (.int d),.u,.u,.u,.u,.u,.u,.u] D)=_;rw[Xr,Ho ho h1 hm,Ny,Jm (S9 h)];rw[Qr (ρ1:=[.val (.bytes o),.val Qb,.val (.int d),.val (.list [.modi nm []]),.val (.bytes r),.val (.modi nm []),.val .none,.val (.modi nm []),.u,.u]) (v:=.bytes (QG b)) (D1:=D)]
 ·rfl
 ·refine(Zm (D1:=D) (Z1 (Q2 rfl) Qa rfl)).trans ?_;refine Eq.trans Qm ?_;refine QJ (Qd (Q1 (Qd (Q1 (Q2 rfl) (Q1 (Q2 rfl) (Q1 (Q2 rfl) (Q1 (Q2 rfl) Q6)))) hp) (Q1 (Q2 rfl) Q6)) (XI (by simp[h]) b))
theorem WG{o r t:List Nat}(ho:Ud o)(h1:o.take 1≠[63])(hm:CF (n+2) .k9 [.bytes o] D=some (.tuple [.list [.modi [33] []],.bytes r],D))
  (hp:CF (n+2) .k12 [.bytes r,Qb,.int d] D=some (.bytes t,D)):CF (n+3) .k13 [.bytes o,Qb,.int d] D=some (.bytes (QG (!JB t)),D):=by
 show ZA QN 100000 (n+2+1) _ _ _=_;rw[QC (by decide) rfl];show Qn (execs (CF (n+2)) true [] 100000 Zi [.val (.bytes o),.val Qb,.val (.int d),.u,.u,.u,.u,.u,.u,.u] D)=_;rw[Xr,Ho ho h1 hm,Ny];have e1:execs (CF (n+2)) true [] 100000 [Bo,Bn,Bm,Bl,pt7,Ax] [.val (.bytes o),.val Qb,.val (.int d),.val (.list [.modi [33] []]),.val (.bytes r),.val (.modi [33] []),.u,.u,.u,.u] D=
   some (.next,[.val (.bytes o),.val Qb,.val (.int d),.val (.list [.modi [33] []]),.val (.bytes r),.val (.modi [33] []),.val .none,.val .none,.val (.modi [33] []),.u],D):=by kernel_rfl
 show Qn (execs _ _ _ _ ([Bo,Bn,Bm,Bl,pt7,Ax]++[Dt,Sa]) _ _)=_;rw[Jm e1];rw[Qr (ρ1:=[.val (.bytes o),.val Qb,.val (.int d),.val (.list [.modi [33] []]),.val (.bytes r),.val (.modi [33] []),.val .none,.val .none,.val (.modi [33] []),.val (.bool (JB t))]) (v:=.bytes (QG (!JB t))) (D1:=D)]
 ·rfl
 ·refine(Zm (D1:=D) (Z1 (Q2 rfl) Qa rfl)).trans ?_;rw[cons_of (Qv (v:=.bool (JB t)) (D1:=D) rfl (Qd (Q1 (Qd (Q1 (Q2 rfl) (Q1 (Q2 rfl) (Q1 (Q2 rfl) Q6))) hp) Q6) Y1))];rw[Qm];refine QJ (Qd (Q1 (Qd (Q1 (v:=.bool (!JB t)) ?_ Q6) Hm) (Q1 (Q2 rfl) Q6)) (XI (by simp) _));cases JB t<;>rfl
end
noncomputable def U6(nm t1 t2:List Nat):Bool:=
 if nm=[61,61] then t1 == t2 else if nm=[33,61] then !(t1 == t2) else if nm=[60] then lexLt t1 t2 else if nm=[62,61] then !lexLt t1 t2
 else if nm=[38,38] then JB t1&&JB t2 else JB t1||JB t2
section
variable {Φ:Qj}{n:Nat}{fl:Bool}{own:List Nat}{W:Nat}{D D1 D2:Q8}{ρ:List LV}{d:Int}
theorem BZ{i:Nat}{es:List IR}{v:AV}(hc:own.contains i=false)(h:run Φ (.lst es) ρ D=some (v,D1)):exec Φ fl own W (.set i (.lst es)) ρ D=some (.next,ρ.set i (.val v),D1):=by
 dsimp only[exec];rw[hc];show(match(match run Φ (.lst es) ρ D with|some (v,D1)=>some (LV.val v,D1)|none=>none) with|some (v,D1)=>some (Out.next,ρ.set i v,D1)|none=>none)=_;rw[h]
theorem PH:Zv=pd0::DY::DX::DW::[Mf,Me,OQ,Du]:=rfl
noncomputable abbrev AH(nm:List Nat)(told:List (List Nat))(o x1 x2 t1 t2:List Nat)(d:Int):List LV:=[.val (.modi nm told),.val (.bytes o),.val Qb,.val (.int d),.val (.list [.bytes x1,.bytes x2]),.val (.bytes t1),.val (.bytes t2),.u,.u]
theorem VJ{nm x1 x2 t1 t2:List Nat}{told:List (List Nat)}{X:List SR}(ho:Ud (x1++44::x2))(p1:pass 44 0 x1=some 0)(p2:pass 44 0 x2=some 0)
  (h1:CF (n+2) .k12 [.bytes x1,Qb,.int d] D=some (.bytes t1,D)) (h2:CF (n+2) .k12 [.bytes x2,Qb,.int d] D=some (.bytes t2,D)):
  execs (CF (n+2)) false [] 100000 (pd0::DY::DX::DW::X) [.val (.modi nm told),.val (.bytes (x1++44::x2)),.val Qb,.val (.int d),.u,.u,.u,.u,.u] D=
   execs (CF (n+2)) false [] 100000 X (AH nm told (x1++44::x2) x1 x2 t1 t2 d) D:=by
 have hs:CF (n+2) .k6 [.bytes (x1++44::x2)] D=some (.list [.bytes x1,.bytes x2],D):=s_split (x:=x1) (xs:=[x2]) (by simp[p1,p2]) ho (by exact Nat.succ_pos _);rw[cons_of (Qv (v:=.list [.bytes x1,.bytes x2]) (D1:=D) rfl (Qd (Q1 (Q2 rfl) Q6) hs))];show execs _ _ _ _ _ [.val (.modi nm told),.val (.bytes (x1++44::x2)),.val Qb,.val (.int d),.val (.list [.bytes x1,.bytes x2]),.u,.u,.u,.u] D=_;rw[cons_of (ρ1:=[.val (.modi nm told),.val (.bytes (x1++44::x2)),.val Qb,.val (.int d),.val (.list [.bytes x1,.bytes x2]),.u,.u,.u,.u]) (D1:=D) ((Z0 (D1:=D) rfl).trans execs_nil)];refine Eq.trans (cons_of (Qv (v:=.bytes t1) (D1:=D) rfl (Qd (Q1 (Zt (Q2 rfl) Qa rfl) (Q1 (Q2 rfl) (Q1 (Q2 rfl) Q6))) h1))) ?_;show execs _ _ _ _ _ [.val (.modi nm told),.val (.bytes (x1++44::x2)),.val Qb,.val (.int d),.val (.list [.bytes x1,.bytes x2]),.val (.bytes t1),.u,.u,.u] D=_;have hb2:Qi x2=true:=ho.right.tail.ok;have hj:run (CF (n+2)) (IR.join (IR.lit (AV.bytes [44])) (IR.slc (IR.loc 4) (some (IR.lit (AV.int 1))) none)) [.val (.modi nm told),.val (.bytes (x1++44::x2)),.val Qb,.val (.int d),.val (.list [.bytes x1,.bytes x2]),.val (.bytes t1),.u,.u,.u] D=some (.bytes x2,D):=by
  have a:run (CF (n+2)) (IR.slc (IR.loc 4) (some (IR.lit (AV.int 1))) none) [.val (.modi nm told),.val (.bytes (x1++44::x2)),.val Qb,.val (.int d),.val (.list [.bytes x1,.bytes x2]),.val (.bytes t1),.u,.u,.u] D=some (.list [.bytes x2],D):=
   ZQ (Q2 rfl) (Qp (n:=1) Qa (rfl)) ZG rfl
  exact Pq Qa a rfl hb2
 refine Eq.trans (cons_of (Qv (v:=.bytes t2) (D1:=D) rfl (Qd (Q1 hj (Q1 (Q2 rfl) (Q1 (Q2 rfl) Q6))) h2))) ?_;rfl
theorem Nu{nm t1 t2:List Nat}(h:nm∈[[61,61],[33,61],[60],[62,61]]):CF (n+1) .k19 [.bytes nm,.bytes t1,.bytes t2] D=some (.bool (U6 nm t1 t2),D):=by
 refine ZR (P:=fun nm=>CF (n+1) .k19 [.bytes nm,.bytes t1,.bytes t2] D=some (.bool (U6 nm t1 t2),D)) h ?_;simp only[List.forall_mem_cons];refine⟨?_,?_,?_,?_,fun x hx=>by cases hx⟩<;>kernel_rfl
theorem Pk{nm x1 x2 t1 t2:List Nat}(h:nm∈ZX)(ho:Ud (x1++44::x2))(p1:pass 44 0 x1=some 0)(p2:pass 44 0 x2=some 0)
  (h1:CF (n+2) .k12 [.bytes x1,Qb,.int d] D=some (.bytes t1,D)) (h2:CF (n+2) .k12 [.bytes x2,Qb,.int d] D=some (.bytes t2,D)):
  CF (n+3) .k18 [.modi nm [],.bytes (x1++44::x2),Qb,.int d] D=some (.bytes (QG (U6 nm t1 t2)),D):=by
 show ZA QN 100000 (n+2+1) _ _ _=_;rw[QC (by decide) rfl];show Qn (execs (CF (n+2)) false [] 100000 Zv [.val (.modi nm []),.val (.bytes (x1++44::x2)),.val Qb,.val (.int d),.u,.u,.u,.u,.u] D)=_;rw[PH,VJ ho p1 p2 h1 h2];have hh:nm∈[[61,61],[33,61],[60],[62,61]]\/nm=[38,38]\/nm=[124,124]:=(by decide +kernel:∀n∈ZX,n∈[[61,61],[33,61],[60],[62,61]]\/n=[38,38]\/n=[124,124]) nm h;generalize hS:AH nm [] (x1++44::x2) x1 x2 t1 t2 d=S;rcases hh with hh|rfl|rfl
 ·have e1:execs (CF (n+2)) false [] 100000 [Mf,Me,OQ] S D=some (.next,S,D):=by
   subst hS;refine ZR (P:=fun nm=>execs (CF (n+2)) false [] 100000 [Mf,Me,OQ] (AH nm [] (x1++44::x2) x1 x2 t1 t2 d) D=some (.next,(AH nm [] (x1++44::x2) x1 x2 t1 t2 d),D)) hh ?_;simp only[List.forall_mem_cons];refine⟨?_,?_,?_,?_,fun x hx=>by cases hx⟩<;>kernel_rfl
  show Qn (execs _ _ _ _ ([Mf,Me,OQ]++[Du]) _ _)=_;rw[Jm e1,Qm];subst hS;rw[QJ (v:=.bytes (QG (U6 nm t1 t2))) (D1:=D)]
  ·rfl
  ·refine Qd (Q1 (Qd (Q1 (v:=.bytes nm) ?_ (Q1 (Q2 rfl) (Q1 (Q2 rfl) Q6))) (Nu hh)) Q6) Hm;rfl
 all_goals
  have e1:execs (CF (n+2)) false [] 100000 [Mf,Me] S D=some (.next,S,D):=by
   subst hS;kernel_rfl
  show Qn (execs _ _ _ _ ([Mf,Me]++[OQ,Du]) _ _)=_;rw[Jm e1];subst hS;rw[Qr (ρ1:=_) (v:=.bytes (QG (U6 _ t1 t2))) (D1:=D)]
  ·rfl
  ·refine(Zm (D1:=D) rfl).trans ?_;rw[cons_of (BZ (v:=.list [.bool (JB t1),.bool (JB t2)]) (D1:=D) rfl (U4 (Q1 (Qd (Q1 (Q2 rfl) Q6) Y1) (Q1 (Qd (Q1 (Q2 rfl) Q6) Y1) Q6)) (by simp)))]
   ·rw[Qm];refine QJ (Qd (Q1 (v:=.bool (U6 _ t1 t2)) ?_ Q6) Hm);unfold U6;cases JB t1<;>cases JB t2<;>rfl
end
section
variable {Φ:Qj}{n:Nat}{fl:Bool}{own:List Nat}{W:Nat}{D D1 D2:Q8}{ρ:List LV}{d:Int}
theorem Xl{t:List Nat}:CF (n+1) .k22 [.bytes t,.bool false] D=some (.bytes t,D):=by kernel_rfl
theorem Nq{x1 x2 t1 t2:List Nat}{b:Bool}(ho:Ud (x1++44::x2))(p1:pass 44 0 x1=some 0)(p2:pass 44 0 x2=some 0)
  (h1:CF (n+2) .k12 [.bytes x1,Qb,.int d] D=some (.bytes t1,D)) (h2:CF (n+2) .k12 [.bytes x2,Qb,.int d] D=some (.bytes t2,D))
  (hf:CF (n+2) .k23 [.bytes t1,.bytes t2] D=some (.bool b,D)):
  CF (n+3) .k18 [.modi [109] [],.bytes (x1++44::x2),Qb,.int d] D=some (.bytes (QG b),D):=by
 show ZA QN 100000 (n+2+1) _ _ _=_;rw[QC (by decide) rfl];show Qn (execs (CF (n+2)) false [] 100000 Zv [.val (.modi [109] []),.val (.bytes (x1++44::x2)),.val Qb,.val (.int d),.u,.u,.u,.u,.u] D)=_;rw[PH,VJ ho p1 p2 h1 h2];rw[Qr (ρ1:=_) (v:=.bytes (QG b)) (D1:=D)]
 ·rfl
 ·refine(Zm (D1:=D) (by kernel_rfl)).trans ?_;rw[cons_of (Qv (v:=.bool false) (D1:=D) rfl (by kernel_rfl)),Qm];exact QJ (Qd (Q1 (Qd (Q1 (Qd (Q1 (Q2 rfl) (Q1 (Q2 rfl) Q6)) Xl) (Q1 (Qd (Q1 (Q2 rfl) (Q1 (Q2 rfl) Q6)) Xl) Q6)) hf) Q6) Hm)
theorem Nr{op x1 x2 t1 t2 t:List Nat}(ho:Ud (x1++44::x2))(p1:pass 44 0 x1=some 0)(p2:pass 44 0 x2=some 0)
  (h1:CF (n+2) .k12 [.bytes x1,Qb,.int d] D=some (.bytes t1,D)) (h2:CF (n+2) .k12 [.bytes x2,Qb,.int d] D=some (.bytes t2,D))
  (hf:CF (n+2) .k26 [.bytes op,.bytes t1,.bytes t2] D=some (.bytes t,D)):
  CF (n+3) .k18 [.modi [101] [op],.bytes (x1++44::x2),Qb,.int d] D=some (.bytes t,D):=by
 show ZA QN 100000 (n+2+1) _ _ _=_;rw[QC (by decide) rfl];show Qn (execs (CF (n+2)) false [] 100000 Zv [.val (.modi [101] [op]),.val (.bytes (x1++44::x2)),.val Qb,.val (.int d),.u,.u,.u,.u,.u] D)=_;rw[PH,VJ ho p1 p2 h1 h2];rw[cons_of (ρ1:=AH [101] [op] (x1++44::x2) x1 x2 t1 t2 d) (D1:=D) (by kernel_rfl)];rw[Qr (ρ1:=_) (v:=.bytes t) (D1:=D)]
 ·rfl
 ·refine(Zm (D1:=D) (by kernel_rfl)).trans ?_;rw[Qm];refine QJ (Qd (Q1 (v:=.bytes op) ?_ (Q1 (Q2 rfl) (Q1 (Q2 rfl) Q6))) hf);kernel_rfl
theorem DS{o r:List Nat}:
  execs (CF (n+1)) true [] 100000 [Bo,Bn,Bm,Bl] [.val (.bytes o),.val Qb,.val (.int d),.val (.list [.modi [109] []]),.val (.bytes r),.val (.modi [109] []),.u,.u,.u,.u] D=
   some (.next,[.val (.bytes o),.val Qb,.val (.int d),.val (.list [.modi [109] []]),.val (.bytes r),.val (.modi [109] []),.val .none,.val (.modi [109] []),.u,.u],D):=by kernel_rfl
theorem Ph{o r:List Nat}{b:Bool}(ho:Ud o)(h1:o.take 1≠[63])(hm:CF (n+2) .k9 [.bytes o] D=some (.tuple [.list [.modi [109] []],.bytes r],D))
  (hp:CF (n+2) .k18 [.modi [109] [],.bytes r,Qb,.int d] D=some (.bytes (QG b),D)):CF (n+3) .k13 [.bytes o,Qb,.int d] D=some (.bytes (QG b),D):=by
 show ZA QN 100000 (n+2+1) _ _ _=_;rw[QC (by decide) rfl];show Qn (execs (CF (n+2)) true [] 100000 Zi [.val (.bytes o),.val Qb,.val (.int d),.u,.u,.u,.u,.u,.u,.u] D)=_;rw[Xr,Ho ho h1 hm,Ny,Jm DS];rw[Qr (ρ1:=[.val (.bytes o),.val Qb,.val (.int d),.val (.list [.modi [109] []]),.val (.bytes r),.val (.modi [109] []),.val .none,.val (.modi [109] []),.u,.u]) (v:=.bytes (QG b)) (D1:=D)]
 ·rfl
 ·refine(Zm (D1:=D) (Z1 (Q2 rfl) Qa rfl)).trans ?_;rw[Qm];refine QJ (Qd (Q1 (Qd (Q1 (Q2 rfl) (Q1 (Q2 rfl) (Q1 (Q2 rfl) (Q1 (Q2 rfl) Q6)))) hp) (Q1 (Q2 rfl) Q6)) ?_);cases b<;>kernel_rfl
noncomputable def GZ:List (List Nat):=[[43],[45],[42],[47],[109],[61,61],[60],[62,61]]
theorem DT{o r op:List Nat}(h:op∈GZ):
  execs (CF (n+3)) true [] 100000 [pt2,Bo,Bn,Bm,Bl] [.val (.bytes o),.val Qb,.val (.int d),.val (.list [.modi [101] [op]]),.val (.bytes r),.u,.u,.u,.u,.u] D=
   some (.next,[.val (.bytes o),.val Qb,.val (.int d),.val (.list [.modi [101] [op]]),.val (.bytes r),.val (.modi [101] [op]),.val .none,.val (.modi [101] [op]),.u,.u],D):=by
 refine ZR (P:=fun op=>execs (CF (n+3)) true [] 100000 [pt2,Bo,Bn,Bm,Bl] [.val (.bytes o),.val Qb,.val (.int d),.val (.list [.modi [101] [op]]),.val (.bytes r),.u,.u,.u,.u,.u] D=
   some (.next,[.val (.bytes o),.val Qb,.val (.int d),.val (.list [.modi [101] [op]]),.val (.bytes r),.val (.modi [101] [op]),.val .none,.val (.modi [101] [op]),.u,.u],D)) h ?_
 unfold GZ;simp only[List.forall_mem_cons];refine⟨?_,?_,?_,?_,?_,?_,?_,?_,fun x hx=>by cases hx⟩<;>kernel_rfl
theorem Cq{op t:List Nat}:CF (n+2) .k32 [.bytes t,.list [.modi [101] [op]]] D=some (.bytes t,D):=by kernel_rfl
theorem Pj{o r op t:List Nat}(h:op∈GZ)(ho:Ud o)(h1:o.take 1≠[63])(hm:CF (n+3) .k9 [.bytes o] D=some (.tuple [.list [.modi [101] [op]],.bytes r],D))
  (hp:CF (n+3) .k18 [.modi [101] [op],.bytes r,Qb,.int d] D=some (.bytes t,D)):CF (n+4) .k13 [.bytes o,Qb,.int d] D=some (.bytes t,D):=by
 refine Eq.trans (QC (by decide) rfl) ?_;show Qn (execs (CF (n+3)) true [] 100000 Zi [.val (.bytes o),.val Qb,.val (.int d),.u,.u,.u,.u,.u,.u,.u] D)=_;rw[Xr,Ho ho h1 hm];show Qn (execs _ _ _ _ ([pt2,Bo,Bn,Bm,Bl]++(pt7::[Ax,Dt,Sa])) _ _)=_;rw[Jm (DT h)];rw[Qr (ρ1:=[.val (.bytes o),.val Qb,.val (.int d),.val (.list [.modi [101] [op]]),.val (.bytes r),.val (.modi [101] [op]),.val .none,.val (.modi [101] [op]),.u,.u]) (v:=.bytes t) (D1:=D)]
 ·rfl
 ·refine(Zm (D1:=D) (Z1 (Q2 rfl) Qa rfl)).trans ?_;refine Eq.trans Qm ?_;exact QJ (Qd (Q1 (Qd (Q1 (Q2 rfl) (Q1 (Q2 rfl) (Q1 (Q2 rfl) (Q1 (Q2 rfl) Q6)))) hp) (Q1 (Q2 rfl) Q6)) Cq)
theorem Gw{w:List Nat}{b:Bool}(h:(w=[97]/\b=true)\/(w=[98]/\b=false)\/(w=[99]/\b=false)\/(w=[110,111,110,101]/\b=false)):CF (n+3) .k16 [.bytes w,Qb,.int d] D=some (.bool b,D):=by
 rcases h with⟨rfl,rfl⟩|⟨rfl,rfl⟩|⟨rfl,rfl⟩|⟨rfl,rfl⟩<;>kernel_rfl
theorem S2{q:List Nat}{b:Bool}(h1:CF (n+2) .k12 [.bytes (35::123::q),Qb,.int d] D=some (.bytes (QG b),D)):CF (n+3) .k16 [.bytes (35::123::q),Qb,.int d] D=some (.bool b,D):=by
 show ZA QN 100000 (n+2+1) _ _ _=_;rw[QC (by decide) rfl];show Qn (execs (CF (n+2)) true [] 100000 [SR.ifs (IR.cmp (Co.in_) (IR.loc 0) (IR.loc 1)) [SR.ret (IR.call (Fn.k3) [IR.idx (IR.loc 1) (IR.loc 0)])] [],SR.set 3 (IR.call (Fn.k12) [IR.loc 0,IR.loc 1,IR.loc 2]),SR.ret (IR.and (IR.cmp (Co.ne) (IR.loc 3) (IR.loc 0)) (IR.call (Fn.k3) [IR.loc 3]))] [.val (.bytes (35::123::q)),.val Qb,.val (.int d),.u] D)=_;rw[cons_of (ρ1:=[.val (.bytes (35::123::q)),.val Qb,.val (.int d),.u]) (D1:=D) (by kernel_rfl)];rw[cons_of (Qv (v:=.bytes (QG b)) (D1:=D) rfl (Qd (Q1 (Q2 rfl) (Q1 (Q2 rfl) (Q1 (Q2 rfl) Q6))) h1))];rw[Qm,QJ (v:=.bool b) (D1:=D)]
 ·rfl
 ·cases b
  ·kernel_rfl
  ·kernel_rfl
theorem Pn{q x1 x2 t1 t2:List Nat}{b:Bool}(ho:Ud (q++44::(x1++44::x2)))(p0:pass 44 0 q=some 0)(p1:pass 44 0 x1=some 0)(p2:pass 44 0 x2=some 0)(hs:CF (n+2) .k16 [.bytes q,Qb,.int d] D=some (.bool b,D))
  (h1:CF (n+2) .k12 [.bytes x1,Qb,.int d] D=some (.bytes t1,D)) (h2:CF (n+2) .k12 [.bytes x2,Qb,.int d] D=some (.bytes t2,D)):
  CF (n+3) .k17 [.bytes (q++44::(x1++44::x2)),Qb,.int d] D=some (.bytes (if b then t1 else t2),D):=by
 have hsp:CF (n+2) .k6 [.bytes (q++44::(x1++44::x2))] D=some (.list [.bytes q,.bytes x1,.bytes x2],D):=s_split (x:=q) (xs:=[x1,x2]) (by simp[p0,p1,p2]) ho (by simp);generalize q++44::(x1++44::x2)=o at hsp;show ZA QN 100000 (n+2+1) _ _ _=_;rw[QC (by decide) rfl];show Qn (execs (CF (n+2)) true [] 100000 [SR.set 3 (IR.call (Fn.k6) [IR.loc 0]),SR.set 4 (IR.lit (AV.int 0)),SR.whiles Hu Yh,LQ] [.val (.bytes o),.val Qb,.val (.int d),.u,.u] D)=_;rw[cons_of (Qv (v:=.list [.bytes q,.bytes x1,.bytes x2]) (D1:=D) rfl (Qd (Q1 (Q2 rfl) Q6) hsp)),cons_of Tv];show Qn (execs _ _ _ _ _ [.val (.bytes o),.val Qb,.val (.int d),.val (.list [.bytes q,.bytes x1,.bytes x2]),.val (.int 0)] _)=_;have ht:truthOf (CF (n+2)) (IR.call (Fn.k16) [IR.idx (IR.loc 3) (IR.loc 4),IR.loc 1,IR.loc 2]) [.val (.bytes o),.val Qb,.val (.int d),.val (.list [.bytes q,.bytes x1,.bytes x2]),.val (.int 0)] D=some (b,D):=
  ZE (Qd (Q1 (Zt (Q2 rfl) (Q2 rfl) rfl) (Q1 (Q2 rfl) (Q1 (Q2 rfl) Q6))) hs) rfl
 cases b with
 | true=>
  have k:exec (CF (n+2)) true [] 100000 (SR.whiles Hu Yh) [.val (.bytes o),.val Qb,.val (.int d),.val (.list [.bytes q,.bytes x1,.bytes x2]),.val (.int 0)] D=some (.ret (.bytes t1),[.val (.bytes o),.val Qb,.val (.int d),.val (.list [.bytes q,.bytes x1,.bytes x2]),.val (.int 0)],D):=by
   rw[ZP,show(100000:Nat)=99999+1 from rfl,HY (D1:=D) (by kernel_rfl)];unfold Yh;refine Qr ((Zm ht).trans ?_);rw[Qm];exact QJ (Qd (Q1 (Zt (Q2 rfl) (QB (Q2 rfl) Qa rfl) rfl) (Q1 (Q2 rfl) (Q1 (Q2 rfl) Q6))) h1)
  rw[Qr k];rfl
 | false=>
  have k:exec (CF (n+2)) true [] 100000 (SR.whiles Hu Yh) [.val (.bytes o),.val Qb,.val (.int d),.val (.list [.bytes q,.bytes x1,.bytes x2]),.val (.int 0)] D=some (.next,[.val (.bytes o),.val Qb,.val (.int d),.val (.list [.bytes q,.bytes x1,.bytes x2]),.val (.int 2)],D):=by
   rw[ZP,show(100000:Nat)=99998+1+1 from rfl,J3 (ρ1:=[.val (.bytes o),.val Qb,.val (.int d),.val (.list [.bytes q,.bytes x1,.bytes x2]),.val (.int 2)]) (D1:=D) (D2:=D) (by kernel_rfl)]
   ·exact Ul (by kernel_rfl)
   ·unfold Yh;rw[cons_of ((Z0 ht).trans execs_nil)];rfl
  rw[cons_of k,Qm,QJ (v:=.bytes t2) (D1:=D)]
  ·rfl
  ·refine Y2 (c:=true) (x:=.bool true) (D1:=D) (by kernel_rfl) rfl ?_;rw[if_pos rfl];exact Qd (Q1 (Zt (Q2 rfl) (Q2 rfl) rfl) (Q1 (Q2 rfl) (Q1 (Q2 rfl) Q6))) h2
theorem WH{o t:List Nat}(ho:Ud (63::o))(h:CF (n+1) .k17 [.bytes o,Qb,.int d] D=some (.bytes t,D)):CF (n+2) .k13 [.bytes (63::o),Qb,.int d] D=some (.bytes t,D):=by
 show ZA QN 100000 (n+1+1) _ _ _=_;refine Eq.trans (QC (by decide +kernel) rfl) ?_;show Qn (execs (CF (n+1)) true [] 100000 Zi [.val (.bytes (63::o)),.val Qb,.val (.int d),.u,.u,.u,.u,.u,.u,.u] D)=_;rw[Xr,Qr (ρ1:=_) (v:=.bytes t) (D1:=D)]
 ·rfl
 ·refine(Zm (D1:=D) (Z1 (ZQ (Q2 rfl) ZG (Qp (n:=1) Qa (by decide)) (U2 (z:=[63]) ho.ok rfl)) Qa rfl)).trans ?_;refine Eq.trans Qm ?_;exact QJ (Qd (Q1 (ZQ (Q2 rfl) (Qp (n:=1) Qa (by decide)) ZG (U2 (z:=o) ho.ok rfl)) (Q1 (Q2 rfl) (Q1 (Q2 rfl) Q6))) h)
end
end
structure Good(K N L:Nat)(x t:List Nat):Prop where
 ps:pass 44 0 x=some 0
 ex:∀(n:Nat) (d:Int),N<=n->0<=d->d+K<=10->U1 n d x t
 hd:x.head?≠some 91
 ln:x.length<=L/\t.length<=L
 oc:(∀c∈x,c < 256)/\∀c∈t,c < 128
theorem Good.weak{K N L K' N' L':Nat}{x t:List Nat}(g:Good K N L x t)(hK:K<=K')(hN:N<=N')(hL:L<=L'):Good K' N' L' x t where
 ps:=g.ps
 ex:=fun n d h1 h2 h3=>g.ex n d (Nat.le_trans (by assumption) (by assumption)) h2 (by lia)
 hd:=g.hd
 ln:=⟨Nat.le_trans g.ln.1 hL,Nat.le_trans g.ln.2 hL⟩
 oc:=g.oc
theorem Good.nil(K N L:Nat):Good K N L [] [] where
 ps:=Ja 44 0
 ex:=fun n d Z Z Z=>U1.nil n d
 hd:=by decide
 ln:=⟨Nat.zero_le _,Nat.zero_le _⟩
 oc:=⟨by decide,by decide⟩
theorem Good.app{K N L L':Nat}{x t y u:List Nat}(g:Good K N L x t)(g':Good K N L' y u):Good K N (L+L') (x++y) (t++u) where
 ps:=by rw[Z5 g.ps];exact g'.ps
 ex:=fun n d h1 h2 h3=>(g.ex n d h1 h2 h3).app (g'.ex n d h1 h2 h3) (.inr g'.hd)
 hd:=by
  rcases x with _|⟨a,r⟩
  ·exact g'.hd
  ·exact g.hd
 ln:=by
  have:=g.ln;have:=g'.ln;simp only[List.length_append];lia
 oc:=⟨fun c hc=>(List.mem_append.mp hc).elim (g.oc.1 c) (g'.oc.1 c),fun c hc=>(List.mem_append.mp hc).elim (g.oc.2 c) (g'.oc.2 c)⟩
theorem Good.oks{K N L:Nat}{x t:List Nat}(g:Good K N L x t)(hL:L<=20000):Ud x:=⟨Nat.le_trans g.ln.1 hL,g.oc.1⟩
theorem Good.run{K N L:Nat}{x t:List Nat}(g:Good K N L x t)(hL:L<=20000){n:Nat}{d:Int}(hn:N+1<=n)(hn2:2<=n)(h0:0<=d)(hd:d+K<=10)(D:Q8):CF n .k12 [.bytes x,Qb,.int d] D=some (.bytes t,D):=by
 obtain⟨m,rfl⟩:=Jl hn2;exact Nt (g.ex (m+1) d (Nat.le_of_succ_le_succ (by assumption)) h0 hd) (g.oks hL) (Nat.le_trans g.ln.2 hL)
theorem Good.brace{K N L:Nat}{inner t:List Nat}(hK:1<=K)(hN:1<=N)(h1:pass 44 1 inner=some 1)(h2:pass 125 0 inner=some 0)(ho:∀c∈inner,c < 256)(ht:∀c∈t,c < 128)(hl:inner.length+3<=L/\t.length<=L)
  (hp:∀(n:Nat) (d:Int),N<=n->0<=d->d+K<=10->∀D,CF n .k13 [.bytes inner,Qb,.int (d+1)] D=some (.bytes t,D)):Good K N L (35::123::inner++[125]) t where
 ps:=by
  rw[List.cons_append,List.cons_append,J2,if_pos rfl,Z5 h1];rfl
 ex:=fun n d hn h0 hd=>by
  obtain⟨m,rfl⟩:=Jl (Nat.le_trans hN hn);exact U1.part (by lia) h2 (hp (m+1) d hn h0 hd)
 hd:=by simp
 ln:=by simp;omega
 oc:=⟨fun c hc=>by
  simp at hc;rcases hc with rfl|rfl|hc|rfl
  ·decide
  ·decide
  ·exact ho c hc
  ·decide,ht⟩
theorem Yw{x1 x2 p:List Nat}(hp:∀c∈p,c < 256)(h1:∀c∈x1,c < 256)(h2:∀c∈x2,c < 256):∀c∈p++(x1++44::x2),c < 256:=fun c hc=>by
 simp at hc;rcases hc with hc|hc|rfl|hc
 ·exact hp c hc
 ·exact h1 c hc
 ·decide
 ·exact h2 c hc
theorem UY{x1 x2 p:List Nat}(hp:pass 44 1 p=some 1)(h1:pass 44 0 x1=some 0)(h2:pass 44 0 x2=some 0):pass 44 1 (p++(x1++44::x2))=some 1:=by
 rw[Z5 hp,Z5 (Hp 1 h1),QT (by decide),if_neg (by decide),if_neg (by decide)];exact Hp 1 h2
theorem UZ{x1 x2 p:List Nat}(hp:pass 125 0 p=some 0)(h1:pass 44 0 x1=some 0)(h2:pass 44 0 x2=some 0):pass 125 0 (p++(x1++44::x2))=some 0:=by
 rw[Z5 hp,Z5 (Y3 h1),QT (by decide),if_neg (by decide),if_neg (by decide)];exact Y3 h2
theorem Kr(b:Bool):∀c∈QG b,c < 128:=by cases b<;>decide
theorem Yx(b:Bool):(QG b).length=1:=by cases b<;>rfl
theorem Good.pair{K N L:Nat}{x1 t1 x2 t2 nm:List Nat}(h:nm∈ZX)(g1:Good K N L x1 t1)(g2:Good K N L x2 t2)(hL:L<=5000):Good (K+1) (N+4) (2 * L+10) (35::123::((nm++[58])++(x1++44::x2))++[125]) (QG (U6 nm t1 t2)):=by
 have k:(nm.length<=2/\(∀c∈nm++[58],c < 256))/\pass 44 1 (nm++[58])=some 1/\pass 125 0 (nm++[58])=some 0/\(nm++[58]).take 1≠[63]:=by
  refine ZR (P:=fun nm=>(nm.length<=2/\(∀c∈nm++[58],c < 256))/\pass 44 1 (nm++[58])=some 1/\pass 125 0 (nm++[58])=some 0/\(nm++[58]).take 1≠[63]) h ?_;decide
 refine cps fun U y0=>?_;obtain⟨⟨k1,k2⟩,k3,k4,k5⟩:=k;refine y0 ?_;have l1:=g1.ln;have l2:=g2.ln;refine Good.brace (Nat.le_add_left _ _) (Nat.le_add_left _ _) (UY k3 g1.ps g2.ps) (UZ k4 g1.ps g2.ps) (Yw k2 g1.oc.1 g2.oc.1) (Kr _) ⟨by simp;lia,by rw[Yx];lia⟩ fun n d hn h0 hd D=>?_;obtain⟨m,rfl⟩:=Jl (show 4<=n by lia);have ho2:Ud (x1++44::x2):=⟨by simp;lia,Yw (p:=[]) (by decide) g1.oc.1 g2.oc.1⟩
 have ho:Ud ((nm++[58])++(x1++44::x2)):=⟨by simp;lia,Yw k2 g1.oc.1 g2.oc.1⟩
 have f:Ui.find? (K3 ((nm++[58])++(x1++44::x2)))=some nm/\((((nm++[58])++(x1++44::x2)).take (nm.length+1)).drop nm.length=[58]/\((nm++[58])++(x1++44::x2)).drop (nm.length+1)=x1++44::x2)/\((nm++[58])++(x1++44::x2)).take 1≠[63]:=by
  generalize x1++44::x2=r;refine ZR (P:=fun nm=>Ui.find? (K3 ((nm++[58])++r))=some nm/\((((nm++[58])++r).take (nm.length+1)).drop nm.length=[58]/\((nm++[58])++r).drop (nm.length+1)=r)/\((nm++[58])++r).take 1≠[63]) h ?_;unfold ZX;simp only[List.forall_mem_cons];refine⟨?_,?_,?_,?_,?_,?_,fun x hx=>by exact(nomatch hx)⟩<;>exact⟨rfl,⟨rfl,rfl⟩,by simp⟩
 exact Xk (n:=m+1) h ho f.2.2 (Pl ho f.1 (Nat.le_trans (by assumption) (Nat.le_of_ble_eq_true rfl)) f.2.1.1 f.2.1.2) (Pk h ho2 g1.ps g2.ps (g1.run (by omega) (by omega) (by omega) (by omega) (by omega) D) (g2.run (by omega) (by omega) (by omega) (by omega) (by omega) D))
theorem Good.turned{K N L:Nat}{x1 t1:List Nat}(g1:Good K N L x1 t1)(hL:L<=5000):Good (K+1) (N+4) (2 * L+10) (35::123::([33,58]++x1)++[125]) (QG (!JB t1)):=by
 have l1:=g1.ln;have hoc:∀c∈[33,58]++x1,c < 256:=fun c hc=>by
  rcases List.mem_append.mp hc with q|q
  ·simp at q;rcases q with rfl|rfl<;>decide
  ·exact g1.oc.1 c q
 refine Good.brace (by lia) (by lia) ?_ ?_ hoc (Kr _) ⟨by simp;lia,by rw[Yx];lia⟩ fun n d hn h0 hd D=>?_
 ·exact Eq.trans (Z5 (d1:=1) (rfl)) (Hp 1 g1.ps)
 ·exact Eq.trans (Z5 (d1:=0) (rfl)) (Y3 g1.ps)
 ·obtain⟨m,rfl⟩:=Jl (show 4<=n by lia);have ho:Ud ([33,58]++x1):=⟨by simp;lia,hoc⟩
  exact WG (n:=m+1) ho (by simp) (Pl (nm:=[33]) ho rfl (by exact Nat.succ_pos _) rfl rfl) (g1.run (by lia) (by lia) (Nat.le_add_left _ _) (by lia) (by lia) D)
theorem Good.chosen{K N L Lq:Nat}{q x1 t1 x2 t2:List Nat}{b:Bool}(g1:Good K N L x1 t1)(g2:Good K N L x2 t2)(hL:L<=3000)(hLq:Lq<=5000)(pq:pass 44 0 q=some 0)(oq:∀c∈q,c < 256)(lq:q.length<=Lq)
  (hs:∀(n:Nat) (d:Int) (D:Q8),N+2<=n->0<=d->d+K<=10->CF n .k16 [.bytes q,Qb,.int d] D=some (.bool b,D)):Good (K+1) (N+4) (2 * L+Lq+10) (35::123::(63::(q++44::(x1++44::x2)))++[125]) (if b then t1 else t2):=by
 have l1:=g1.ln;have l2:=g2.ln;have hoc:∀c∈q++44::(x1++44::x2),c < 256:=fun c hc=>by
  simp at hc;rcases hc with hc|rfl|hc|rfl|hc
  ·exact oq c hc
  ·decide
  ·exact g1.oc.1 c hc
  ·decide
  ·exact g2.oc.1 c hc
 have hoc2:∀c∈63::(q++44::(x1++44::x2)),c < 256:=fun c hc=>by
  rcases List.mem_cons.mp hc with rfl|hc
  ·decide
  ·exact hoc c hc
 refine Good.brace (by lia) (by lia) ?_ ?_ hoc2 ?_ ⟨by simp;lia,?_⟩ fun n d hn h0 hd D=>?_
 ·rw[QT (by decide),if_neg (by decide),if_neg (by decide),Z5 (Hp 1 pq),QT (by decide),if_neg (by decide),if_neg (by decide)];exact UY (p:=[]) (Ja _ _) g1.ps g2.ps
 ·rw[QT (by decide),if_neg (by decide),if_neg (by decide),Z5 (Y3 pq),QT (by decide),if_neg (by decide),if_neg (by decide)];exact UZ (p:=[]) (Ja _ _) g1.ps g2.ps
 ·cases b
  ·exact g2.oc.2
  ·exact g1.oc.2
 ·cases b
  ·exact Nat.le_trans l2.2 (by omega)
  ·exact Nat.le_trans l1.2 (by omega)
 ·obtain⟨m,rfl⟩:=Jl (show 4<=n by lia);have ho2:Ud (q++44::(x1++44::x2)):=⟨by simp;omega,hoc⟩
  have ho:Ud (63::(q++44::(x1++44::x2))):=⟨by simp;omega,hoc2⟩
  exact WH (n:=m+2) ho (Pn ho2 pq g1.ps g2.ps (hs (m+2) (d+1) D (by omega) (by omega) (by omega)) (g1.run (by omega) (by omega) (by omega) (by omega) (by omega) D) (g2.run (by omega) (by omega) (by omega) (by omega) (by omega) D))
theorem Ak{K N L:Nat}{q:List Nat}{b:Bool}(g:Good K N L (35::123::q) (QG b))(hL:L<=5000)(n:Nat)(d:Int)(D:Q8)(hn:N+2<=n)(hn3:3<=n)(h0:0<=d)(hd:d+K<=10):CF n .k16 [.bytes (35::123::q),Qb,.int d] D=some (.bool b,D):=by
 obtain⟨m,rfl⟩:=Jl hn3;exact S2 (g.run (by lia) (Nat.le_of_succ_le_succ (by assumption)) (by lia) h0 hd D)
theorem BM{w:List Nat}{b:Bool}(h:(w=[97]/\b=true)\/(w=[98]/\b=false)\/(w=[99]/\b=false)\/(w=[110,111,110,101]/\b=false))(n:Nat)(d:Int)(D:Q8)(hn:3<=n):CF n .k16 [.bytes w,Qb,.int d] D=some (.bool b,D):=by
 obtain⟨m,rfl⟩:=Jl hn;exact Gw h
noncomputable abbrev UG(inner t:List Nat):Prop:=∀(n:Nat) (d:Int) (D:Q8),CF (n+20) .k13 [.bytes inner,Qb,.int d] D=some (.bytes t,D)
theorem Fu:UG [97] [120]:=fun n d D=>by kernel_rfl
theorem Ft:UG [98] []:=fun n d D=>by kernel_rfl
theorem CK:UG [99] [48]:=fun n d D=>by kernel_rfl
theorem Fs:UG [116,105,116,108,101] [97,98,32,99,100,101,102]:=fun n d D=>by kernel_rfl
theorem CJ:UG [110,111,110,101] []:=fun n d D=>by kernel_rfl
theorem Fq:UG [110] [49,50]:=fun n d D=>by kernel_rfl
theorem CI:UG [107] [45,55]:=fun n d D=>by kernel_rfl
theorem CH:UG [108,58,97,32,98] [97,32,98]:=fun n d D=>by kernel_rfl
theorem CG:UG [98,58,112,97,116,104] [121,122]:=fun n d D=>by kernel_rfl
theorem CE:UG [100,58,112,97,116,104] [47,117,47,120]:=fun n d D=>by kernel_rfl
theorem Og:UG [119,58,116,105,116,108,101] [55]:=fun n d D=>by kernel_rfl
theorem Rq{α β:Type}{f g:α->β}:∀{l:List α},l.map f=l.foldr (fun p r=>g p::r) []->∀x∈l,f x=g x
 | a::l,h,x,hx=>by
  have h:=List.cons.inj h;rcases List.mem_cons.mp hx with rfl|hx
  ·exact h.1
  ·exact Rq h.2 x hx
noncomputable def W5:List (List Nat×List Nat):=[([116,105,116,108,101],[97,98,32,99,100,101,102]),([97],[120]),([98],[]),([112,97,116,104],[47,117,47,120,47,121,122])]
noncomputable def Oc(v:List Nat)(m:Nat):List Nat:=v.take m
noncomputable def Ob(v:List Nat)(m:Nat):List Nat:=v.drop (v.length - min m v.length)
noncomputable def Mh(v:List Nat)(m:Nat):List Nat:=v++List.replicate (m - v.length) 32
noncomputable def Mg(v:List Nat)(m:Nat):List Nat:=List.replicate (m - v.length) 32++v
noncomputable def Dx(w:List Nat)(m a:Nat):List Nat:=if m=0 then[110,58]++w else[[61],[61,45],[112],[112,45]].getD a []++(48+m)::58::w
noncomputable def Ds(v:List Nat)(m a:Nat):List Nat:=if m=0 then[48+v.length] else[Oc v m,Ob v m,Mh v m,Mg v m].getD a []
noncomputable def P5:List ((List Nat×List Nat)×Nat):=W5.flatMap fun w=>(List.range 9).map fun m=>(w,m)
noncomputable def L5:List (((List Nat×List Nat)×Nat)×Nat):=P5.flatMap fun w=>(List.range 4).map fun a=>(w,a)
theorem Mm{w v:List Nat}{m:Nat}(h:(w,v)∈W5)(hm:m < 9):((w,v),m)∈P5:=List.mem_flatMap.mpr ⟨_,h,List.mem_map.mpr ⟨m,List.mem_range.mpr hm,rfl⟩⟩
theorem Mn{w v:List Nat}{m a:Nat}(h:((w,v),m)∈P5)(ha:a < 4):(((w,v),m),a)∈L5:=List.mem_flatMap.mpr ⟨_,h,List.mem_map.mpr ⟨a,List.mem_range.mpr ha,rfl⟩⟩
theorem CD(n:Nat)(d:Int)(D:Q8):L5.map (fun p=>CF (n+20) .k13 [.bytes (Dx p.1.1.1 p.1.2 p.2),Qb,.int d] D)=L5.foldr (fun p r=>some (.bytes (Ds p.1.1.2 p.1.2 p.2),D)::r) []:=by kernel_rfl
theorem Eo{w v:List Nat}{m a:Nat}(h:(((w,v),m),a)∈L5):UG (Dx w m a) (Ds v m a):=fun n d D=>Rq (CD n d D) _ h
noncomputable abbrev MM(p w:List Nat):Prop:=∀(n:Nat) (D:Q8),CF (n+4) .k9 [.bytes ([109,58]++(p++44::(35::123::w++[125])))] D=some (.tuple [.list [.modi [109] []],.bytes (p++44::(35::123::w++[125]))],D)
noncomputable abbrev MF(p v:List Nat)(b:Bool):Prop:=∀(n:Nat) (D:Q8),CF (n+10) .k23 [.bytes p,.bytes v] D=some (.bool b,D)
noncomputable abbrev EM(op w dn:List Nat):Prop:=∀(n:Nat) (D:Q8),CF (n+5) .k9 [.bytes (([101,124]++op++[124,58])++((35::123::w++[125])++44::dn))] D=some (.tuple [.list [.modi [101] [op]],.bytes ((35::123::w++[125])++44::dn)],D)
noncomputable abbrev EF(op v dn t:List Nat):Prop:=∀(n:Nat) (D:Q8),CF (n+10) .k26 [.bytes op,.bytes v,.bytes dn] D=some (.bytes t,D)
noncomputable def ER:List (List Nat×List Nat×List Nat×Bool):=[([97,42],[97],[120],false),([97,42],[116,105,116,108,101],[97,98,32,99,100,101,102],true),([97,42],[98],[],false),([42,100,42,102],[97],[120],false),([42,100,42,102],[116,105,116,108,101],[97,98,32,99,100,101,102],true),([42,100,42,102],[98],[],false),([63,63],[97],[120],false),([63,63],[116,105,116,108,101],[97,98,32,99,100,101,102],false),([63,63],[98],[],false),([42],[97],[120],true),([42],[116,105,116,108,101],[97,98,32,99,100,101,102],true),([42],[98],[],true),([120],[97],[120],true),([120],[116,105,116,108,101],[97,98,32,99,100,101,102],false),([120],[98],[],false)]
theorem zY(n:Nat)(D:Q8):ER.map (fun x=>CF (n+4) .k9 [.bytes ([109,58]++(x.1++44::(35::123::x.2.1++[125])))] D)=ER.foldr (fun x r=>some (.tuple [.list [.modi [109] []],.bytes (x.1++44::(35::123::x.2.1++[125]))],D)::r) []:=by kernel_rfl
theorem j1(n:Nat)(D:Q8):ER.map (fun x=>CF (n+10) .k23 [.bytes x.1,.bytes x.2.2.1] D)=ER.foldr (fun x r=>some (.bool x.2.2.2,D)::r) []:=by kernel_rfl
noncomputable def AU:List (List Nat×(Int->Int->Int)):=[([43],fun a b=>a+b),([45],fun a b=>a - b),([42],fun a b=>a * b),([47],Int.tdiv),([109],Int.tmod),([61,61],fun a b=>if a=b then 1 else 0),([60],fun a b=>if a < b then 1 else 0),([62,61],fun a b=>if b<=a then 1 else 0)]
noncomputable def EP:List ((List Nat×(Int->Int->Int))×(List Nat×List Nat×Int)×Int):=AU.flatMap fun o=>[(([110]:List Nat),([49,50]:List Nat),(12:Int)),([107],[45,55],-7)].flatMap fun w=>((List.range 9).flatMap fun m=>[((m+1:Nat):Int),-((m+1:Nat):Int)]).map fun i=>(o,w,i)
noncomputable def S5(x:(List Nat×(Int->Int->Int))×(List Nat×List Nat×Int)×Int):List Nat:=Jr (x.1.2 x.2.1.2.2 x.2.2)
theorem jf(n:Nat)(D:Q8):EP.map (fun x=>CF (n+5) .k9 [.bytes (([101,124]++x.1.1++[124,58])++((35::123::x.2.1.1++[125])++44::Jr x.2.2))] D)=EP.foldr (fun x r=>some (.tuple [.list [.modi [101] [x.1.1]],.bytes ((35::123::x.2.1.1++[125])++44::Jr x.2.2)],D)::r) []:=by kernel_rfl
theorem jg(n:Nat)(D:Q8):EP.map (fun x=>CF (n+10) .k26 [.bytes x.1.1,.bytes x.2.1.2.1,.bytes (Jr x.2.2)] D)=EP.foldr (fun x r=>some (.bytes (S5 x),D)::r) []:=by kernel_rfl
noncomputable def XU(inner t:List Nat):Bool:=pass 44 1 inner == some 1&&pass 125 0 inner == some 0&&inner.all (· < 256)&&t.all (· < 128)&&decide (inner.length<=15)&&decide (t.length<=15)
theorem Good.conc{inner t:List Nat}(h:UG inner t)(hc:XU inner t=true):Good 1 20 20 (35::123::inner++[125]) t:=by
 unfold XU at hc;simp only[Bool.and_eq_true,beq_iff_eq,List.all_eq_true,decide_eq_true_eq] at hc;refine cps fun U y0=>?_;obtain⟨⟨⟨⟨⟨h1,h2⟩,h3⟩,h4⟩,h5⟩,h6⟩:=hc;refine y0 ?_;refine Good.brace (Nat.le_refl _) (Nat.le_add_left _ _) h1 h2 h3 h4 ⟨by lia,Nat.le_trans (by assumption) (Nat.le_of_ble_eq_true rfl)⟩ fun n d hn h0 hd D=>?_;obtain⟨m,rfl⟩:=Jl hn;exact h m (d+1) D
noncomputable def Ta(x:List Nat):Bool:=pass 44 0 x == some 0&&x.all (· < 128)&&x.all (fun c=>!(c == 35)&&!(c == 91))&&decide (x.length<=15)
theorem Good.plains{x:List Nat}(hc:Ta x=true):Good 1 20 20 x x:=by
 unfold Ta at hc;simp only[Bool.and_eq_true,beq_iff_eq,List.all_eq_true,decide_eq_true_eq,Bool.not_eq_true',beq_eq_false_iff_ne] at hc;obtain⟨⟨⟨h1,h2⟩,h3⟩,h4⟩:=hc;refine⟨h1,fun n d Z Z Z=>U1.plains (fun c hc=>(h3 c hc).1) (fun c hc=>(h3 c hc).2),?_,⟨by omega,by omega⟩,⟨fun c hc=>Nat.lt_trans (h2 c hc) (by decide),h2⟩⟩;rcases x with _|⟨a,r⟩
 ·simp
 ·simp;exact(h3 a (.head _)).2
theorem Good.ofExp{x t:List Nat}(h:∀(n:Nat) (d:Int),U1 (n+1) d x t)(h1:pass 44 0 x=some 0)(h2:x.head?≠some 91)(h3:x.length<=20/\t.length<=20)(h4:∀c∈x,c < 256)(h5:∀c∈t,c < 128):Good 1 20 20 x t where
 ps:=h1
 ex:=fun n d hn Z Z=>by obtain⟨m,rfl⟩:=Jl (show 1<=n by lia);exact h m d
 hd:=h2
 ln:=h3
 oc:=⟨h4,h5⟩
theorem Good.put{c:Nat}(hc:c=35\/c=44\/c=125):Good 1 20 20 [35,c] [c]:=
 Good.ofExp (fun n d=>U1.put hc) (by rcases hc with rfl|rfl|rfl<;>decide) (by simp) (by simp) (by rcases hc with rfl|rfl|rfl<;>decide) (by rcases hc with rfl|rfl|rfl<;>decide)
theorem Good.letter{c:Nat}{t:List Nat}(h:(c=83/\t=[115,49])\/(c=73/\t=[51])\/(c=84/\t=[116,111,112])\/(c=87/\t=[])):Good 1 20 20 [35,c] t:=
 Good.ofExp (fun n d=>U1.letter h) (by rcases h with⟨rfl,rfl⟩|⟨rfl,rfl⟩|⟨rfl,rfl⟩|⟨rfl,rfl⟩<;>decide) (by simp) (by rcases h with⟨rfl,rfl⟩|⟨rfl,rfl⟩|⟨rfl,rfl⟩|⟨rfl,rfl⟩<;>decide)
  (by rcases h with⟨rfl,rfl⟩|⟨rfl,rfl⟩|⟨rfl,rfl⟩|⟨rfl,rfl⟩<;>decide) (by rcases h with⟨rfl,rfl⟩|⟨rfl,rfl⟩|⟨rfl,rfl⟩|⟨rfl,rfl⟩<;>decide)
theorem Good.style:Good 1 20 20 [35,91,102,103,61,114,101,100,93] [35,91,102,103,61,114,101,100,93]:=
 Good.ofExp (fun n d=>U1.style) (by rfl) (by decide) (by decide) (by decide) (by decide)
theorem Good.cmd:Good 1 20 20 [35,40,108,115,32,120,41] []:=
 Good.ofExp (fun n d=>U1.cmd) (by rfl) (by decide) (by decide) (by decide) (by decide)
theorem OI(n:Nat)(D:Q8):CF (n+20) .k13 [.bytes [69,58,97,103,97,105,110],Qb,.int 1] D=some (.bytes [120,33,115,49],D):=by kernel_rfl
theorem OH(n:Nat)(D:Q8):CF (n+20) .k13 [.bytes [69,58,97,103,97,105,110],Qb,.int 2] D=some (.bytes [120,33,115,49],D):=by kernel_rfl
theorem OG(n:Nat)(D:Q8):CF (n+20) .k13 [.bytes [69,58,97,103,97,105,110],Qb,.int 3] D=some (.bytes [120,33,115,49],D):=by kernel_rfl
theorem OF(n:Nat)(D:Q8):CF (n+20) .k13 [.bytes [69,58,97,103,97,105,110],Qb,.int 4] D=some (.bytes [120,33,115,49],D):=by kernel_rfl
theorem OE(n:Nat)(D:Q8):CF (n+20) .k13 [.bytes [69,58,97,103,97,105,110],Qb,.int 5] D=some (.bytes [120,33,115,49],D):=by kernel_rfl
theorem OD(n:Nat)(D:Q8):CF (n+20) .k13 [.bytes [69,58,97,103,97,105,110],Qb,.int 6] D=some (.bytes [120,33,115,49],D):=by kernel_rfl
theorem OC(n:Nat)(D:Q8):CF (n+20) .k13 [.bytes [69,58,97,103,97,105,110],Qb,.int 7] D=some (.bytes [120,33,115,49],D):=by kernel_rfl
theorem OB(n:Nat)(D:Q8):CF (n+20) .k13 [.bytes [69,58,97,103,97,105,110],Qb,.int 8] D=some (.bytes [120,33,115,49],D):=by kernel_rfl
theorem Good.again:Good 3 20 20 (35::123::[69,58,97,103,97,105,110]++[125]) [120,33,115,49]:=by
 refine Good.brace (Nat.le_add_left _ _) (by lia) (by rfl) (by rfl) (by decide) (by decide) (by decide) fun n d hn h0 hd D=>?_;obtain⟨m,rfl⟩:=Jl hn;have:d=0\/d=1\/d=2\/d=3\/d=4\/d=5\/d=6\/d=7:=by lia
 rcases this with rfl|rfl|rfl|rfl|rfl|rfl|rfl|rfl
 ·exact OI m D
 ·exact OH m D
 ·exact OG m D
 ·exact OF m D
 ·exact OE m D
 ·exact OD m D
 ·exact OC m D
 ·exact OB m D
theorem Good.fits{p w v:List Nat}{b:Bool}(hp:Good 1 20 20 p p)(gw:Good 1 20 20 (35::123::w++[125]) v)
  (hm:MM p w)
  (hf:MF p v b):Good 2 30 60 (35::123::([109,58]++(p++44::(35::123::w++[125])))++[125]) (QG b):=by
 have l1:=hp.ln;have l2:=gw.ln;have hoc:=Yw (p:=[109,58]) (by decide) hp.oc.1 gw.oc.1;refine Good.brace (Nat.le_succ _) (Nat.le_add_left _ _) (UY (by rfl) hp.ps gw.ps) (UZ (by rfl) hp.ps gw.ps) hoc (Kr b) ⟨by simp only[List.length_append,List.length_cons,List.length_nil] at *;lia,by rw[Yx];lia⟩ fun n d hn h0 hd D=>?_;obtain⟨m,rfl⟩:=Jl (show 30<=n by omega);have ho2:Ud (p++44::(35::123::w++[125])):=⟨by simp only[List.length_append,List.length_cons,List.length_nil] at *;omega,Yw (p:=[]) (by decide) hp.oc.1 gw.oc.1⟩
 have ho:Ud ([109,58]++(p++44::(35::123::w++[125]))):=⟨by simp only[List.length_append,List.length_cons,List.length_nil] at *;lia,hoc⟩
 exact Ph (n:=m+27) ho (by simp) (hm (m+25) D) (Nq (n:=m+26) ho2 hp.ps gw.ps (hp.run (by omega) (by omega) (by omega) (by omega) (by omega) D) (gw.run (by omega) (by omega) (by omega) (by omega) (by omega) D) (hf (m+18) D))
theorem Good.sum{op w v dn t:List Nat}(ho:op∈GZ)(hp:Good 1 20 20 dn dn)(gw:Good 1 20 20 (35::123::w++[125]) v)
  (hm:EM op w dn)
  (hf:EF op v dn t) (ht:t.all (· < 128)=true/\t.length<=20):Good 2 30 60 (35::123::(([101,124]++op++[124,58])++((35::123::w++[125])++44::dn))++[125]) t:=by
 have k:op.length<=2/\(∀c∈[101,124]++op++[124,58],c < 256)/\pass 44 1 ([101,124]++op++[124,58])=some 1/\pass 125 0 ([101,124]++op++[124,58])=some 0:=by
  refine ZR (P:=fun op=>op.length<=2/\(∀c∈[101,124]++op++[124,58],c < 256)/\pass 44 1 ([101,124]++op++[124,58])=some 1/\pass 125 0 ([101,124]++op++[124,58])=some 0) ho ?_;decide
 obtain⟨k1,k2,k3,k4⟩:=k;have l1:=hp.ln;have l2:=gw.ln;have hoc:=Yw (p:=[101,124]++op++[124,58]) k2 gw.oc.1 hp.oc.1;refine Good.brace (by lia) (by lia) (UY k3 gw.ps hp.ps) (UZ k4 gw.ps hp.ps) hoc (by simpa using ht.1) ⟨by simp only[List.length_append,List.length_cons,List.length_nil] at *;lia,by lia⟩ fun n d hn h0 hd D=>?_;obtain⟨m,rfl⟩:=Jl (show 30<=n by omega);have ho2:Ud ((35::123::w++[125])++44::dn):=⟨by simp only[List.length_append,List.length_cons,List.length_nil] at *;lia,Yw (p:=[]) (by decide) gw.oc.1 hp.oc.1⟩
 have hoo:Ud (([101,124]++op++[124,58])++((35::123::w++[125])++44::dn)):=⟨by simp only[List.length_append,List.length_cons,List.length_nil] at *;lia,hoc⟩
 exact Pj (n:=m+26) ho hoo (by simp) (hm (m+24) D) (Nr (n:=m+26) ho2 gw.ps hp.ps (gw.run (by omega) (by omega) (by omega) (by omega) (by omega) D) (hp.run (by omega) (by omega) (by omega) (by omega) (by omega) D) (hf (m+18) D))
section
open IR SR
noncomputable abbrev slots(dp way s4 s5 s6 s7 s8 s9 s10 s11 s12 s13 s14 s15 s16 s17 s18 s19:LV):List LV:=[.val .deck,dp,.val Qb,way,s4,s5,s6,s7,s8,s9,s10,s11,s12,s13,s14,s15,s16,s17,s18,s19]
theorem QY{α:Type}{P:α->Prop}{a:α}{l:List α}(h:P a)(hl:∀x∈l,P x):∀x∈a::l,P x:=fun x hx=>by
 rcases List.mem_cons.mp hx with rfl|hx
 ·exact h
 ·exact hl x hx
theorem WU{α:Type}{P:α->Prop}:∀x∈([]:List α),P x:=fun x hx=>by cases hx
noncomputable abbrev Ti(X:List SR)(ρ:List LV):Prop:=∃x t,(∀n D,Qn (execs (CF (n+20)) true [] 100000 X ρ D)=some (.tuple [.bytes x,.bytes t],D))/\Good 3 30 60 x t
noncomputable abbrev s5(w:List Nat)(many:Int)(dp way v c p a:LV):List LV:=slots dp way (.val (.bytes w)) (.val (.int many)) v c p a .u .u .u .u .u .u .u .u .u .u
theorem UN{inner t:List Nat}(h:UG inner t)(hc:XU inner t=true):Good 3 30 60 (35::123::inner++[125]) t:=(Good.conc h hc).weak (by omega) (by omega) (by omega)
theorem Ck{p w v:List Nat}{b:Bool}(hp:Ta p=true)(gw:UG w v)(hw:XU w v=true)(hm:MM p w)(hf:MF p v b):Good 3 30 60 (35::123::([109,58]++(p++44::(35::123::w++[125])))++[125]) (QG b):=(Good.fits (Good.plains hp) (Good.conc gw hw) hm hf).weak (by omega) (by omega) (by omega)
theorem Ih{op w v dn t:List Nat}(ho:op∈GZ)(hd:Ta dn=true)(gw:UG w v)(hw:XU w v=true)(hm:EM op w dn)(hf:EF op v dn t)(ht:t.all (· < 128)=true/\t.length<=20):Good 3 30 60 (35::123::(([101,124]++op++[124,58])++((35::123::w++[125])++44::dn))++[125]) t:=(Good.sum ho (Good.plains hd) (Good.conc gw hw) hm hf ht).weak (by omega) (by omega) (by omega)
theorem jj(n:Nat)(D:Q8)(dp way:LV):P5.map (fun p=>execs (CF (n+20)) true [] 100000 [RC,RA,Rz] (s5 p.1.1 p.2 dp way .u .u .u .u) D)=P5.foldr (fun p r=>some (.next,s5 p.1.1 p.2 dp way (.val (.bytes p.1.2)) (.val (.list [.bytes (Oc p.1.2 p.2),.bytes (Ob p.1.2 p.2)])) (.val (.list [.bytes (Mh p.1.2 p.2),.bytes (Mg p.1.2 p.2)])) .u,D)::r) []:=by kernel_rfl
theorem ji(n:Nat)(D:Q8)(dp way:LV):L5.map (fun p=>Qn (execs (CF (n+20)) true [] 100000 [Rx,Rw,Rv] (s5 p.1.1.1 p.1.2 dp way (.val (.bytes p.1.1.2)) (.val (.list [.bytes (Oc p.1.1.2 p.1.2),.bytes (Ob p.1.1.2 p.1.2)])) (.val (.list [.bytes (Mh p.1.1.2 p.1.2),.bytes (Mg p.1.1.2 p.1.2)])) (.val (.int p.2))) D))=L5.foldr (fun p r=>some (.tuple [.bytes (35::123::Dx p.1.1.1 p.1.2 p.2++[125]),.bytes (Ds p.1.1.2 p.1.2 p.2)],D)::r) []:=by kernel_rfl
theorem jh:L5.all (fun p=>XU (Dx p.1.1.1 p.1.2 p.2) (Ds p.1.1.2 p.1.2 p.2))=true:=by kernel_rfl
noncomputable def R5(dp way:LV)(w:List Nat)(many:Int):Prop:=∃v c p,(∀n D,execs (CF (n+20)) true [] 100000 [RC,RA,Rz] (slots dp way (.val (.bytes w)) (.val (.int many)) .u .u .u .u .u .u .u .u .u .u .u .u .u .u) D=some (.next,slots dp way (.val (.bytes w)) (.val (.int many)) v c p .u .u .u .u .u .u .u .u .u .u .u,D))/\∀at_∈[(0:Int),1,2,3],Ti [Rx,Rw,Rv] (slots dp way (.val (.bytes w)) (.val (.int many)) v c p (.val (.int at_)) .u .u .u .u .u .u .u .u .u .u)
theorem r5(dp way:LV):∀w∈[[116,105,116,108,101],[97],[98],[112,97,116,104]],∀many∈[(0:Int),1,2,3,4,5,6,7,8],R5 dp way w many:=fun w hw many hm=>by
 obtain⟨⟨w,v⟩,h,rfl⟩:=List.mem_map.mp (show w∈W5.map (·.1) from hw);obtain⟨m,h2,rfl⟩:=List.mem_map.mp (show many∈(List.range 9).map (fun m:Nat=>(m:Int)) from hm);have hp:=Mm h (List.mem_range.mp h2);refine⟨_,_,_,fun n D=>Rq (jj n D dp way) _ hp,fun a ha=>?_⟩;obtain⟨a,h3,rfl⟩:=List.mem_map.mp (show a∈(List.range 4).map (fun m:Nat=>(m:Int)) from ha);have hl:=Mn hp (List.mem_range.mp h3);exact⟨_,_,fun n D=>Rq (ji n D dp way) _ hl,UN (Eo hl) (List.all_eq_true.mp jh _ hl)⟩
theorem qm(dp way s11 s12:LV)(n:Nat)(D:Q8):ER.map (fun x=>Qn (execs (CF (n+20)) true [] 100000 [To] (slots dp way (.val (.bytes x.2.1)) .u .u .u .u .u .u s11 s12 .u .u .u (.val (.bytes x.1)) .u .u .u) D))=ER.foldr (fun x r=>some (.tuple [.bytes (35::123::([109,58]++(x.1++44::(35::123::x.2.1++[125])))++[125]),.bytes (QG x.2.2.2)],D)::r) []:=by kernel_rfl
theorem qi:ER.all (fun x=>Ta x.1&&(XU x.2.1 x.2.2.1&&(((x.2.1,x.2.2.1) == ([97],[120]))||(((x.2.1,x.2.2.1) == ([116,105,116,108,101],[97,98,32,99,100,101,102]))||((x.2.1,x.2.2.1) == ([98],[]))))))=true:=by kernel_rfl
theorem Oe{x:List Nat×List Nat}(h:(x == ([97],[120])||(x == ([116,105,116,108,101],[97,98,32,99,100,101,102])||x == ([98],[])))=true):UG x.1 x.2:=by
 rcases Bool.or_eq_true_iff.mp h with h|h
 ·rw[eq_of_beq h];exact Fu
 ·rcases Bool.or_eq_true_iff.mp h with h|h
  ·rw[eq_of_beq h];exact Fs
  ·rw[eq_of_beq h];exact Ft
theorem zV(dp way s11 s12:LV):∀p∈[[97,42],[42,100,42,102],[63,63],[42],[120]],∀w∈[[97],[116,105,116,108,101],[98]],Ti [To] (slots dp way (.val (.bytes w)) .u .u .u .u .u .u s11 s12 .u .u .u (.val (.bytes p)) .u .u .u):=fun p hp w hw=>by
 have key:∀x∈ER,Ti [To] (slots dp way (.val (.bytes x.2.1)) .u .u .u .u .u .u s11 s12 .u .u .u (.val (.bytes x.1)) .u .u .u):=fun x hx=>by
  obtain⟨h1,h2⟩:=QX (List.all_eq_true.mp qi x hx);obtain⟨h2,h3⟩:=QX h2;exact⟨_,_,fun n D=>Rq (qm dp way s11 s12 n D) x hx,Ck h1 (Oe h3) h2 (fun n D=>Rq (zY n D) x hx) (fun n D=>Rq (j1 n D) x hx)⟩
 have all:([[97,42],[42,100,42,102],[63,63],[42],[120]]:List (List Nat)).all (fun p=>([[97],[116,105,116,108,101],[98]]:List (List Nat)).all fun w=>ER.any fun x=>x.1 == p&&x.2.1 == w)=true:=by kernel_rfl
 obtain⟨x,hx,h⟩:=List.any_eq_true.mp (List.all_eq_true.mp (List.all_eq_true.mp all p hp) w hw);obtain⟨h1,h2⟩:=QX h;obtain rfl:=eq_of_beq h1;obtain rfl:=eq_of_beq h2;exact key x hx
theorem ql(dp way s11 s12:LV)(n:Nat)(D:Q8):EP.map (fun x=>Qn (execs (CF (n+20)) true [] 100000 [YH,YG,YF] (slots dp way (.val (.bytes x.2.1.1)) .u .u .u .u .u .u s11 s12 .u .u .u .u (.val (.str x.1.1)) (.val (.int x.2.2)) .u) D))=EP.foldr (fun x r=>some (.tuple [.bytes (35::123::(([101,124]++x.1.1++[124,58])++((35::123::x.2.1.1++[125])++44::Jr x.2.2))++[125]),.bytes (S5 x)],D)::r) []:=by kernel_rfl
theorem qh:EP.all (fun x=>GZ.contains x.1.1&&(Ta (Jr x.2.2)&&(XU x.2.1.1 x.2.1.2.1&&(((x.2.1.1,x.2.1.2.1) == ([110],[49,50])||(x.2.1.1,x.2.1.2.1) == ([107],[45,55]))&&((S5 x).all (· < 128)&&decide ((S5 x).length<=20))))))=true:=by kernel_rfl
theorem Of{x:List Nat×List Nat}(h:(x == ([110],[49,50])||x == ([107],[45,55]))=true):UG x.1 x.2:=by
 rcases Bool.or_eq_true_iff.mp h with h|h
 ·rw[eq_of_beq h];exact Fq
 ·rw[eq_of_beq h];exact CI
theorem zU(dp way s11 s12:LV):∀op∈[[43],[45],[42],[47],[109],[61,61],[60],[62,61]],∀w∈[[110],[107]],∀num∈[(1:Int),(-1),2,(-2),3,(-3),4,(-4),5,(-5),6,(-6),7,(-7),8,(-8),9,(-9)],Ti [YH,YG,YF] (slots dp way (.val (.bytes w)) .u .u .u .u .u .u s11 s12 .u .u .u .u (.val (.str op)) (.val (.int num)) .u):=fun op hop w hw num hn=>by
 have key:∀x∈EP,Ti [YH,YG,YF] (slots dp way (.val (.bytes x.2.1.1)) .u .u .u .u .u .u s11 s12 .u .u .u .u (.val (.str x.1.1)) (.val (.int x.2.2)) .u):=fun x hx=>by
  obtain⟨h1,h⟩:=QX (List.all_eq_true.mp qh x hx);obtain⟨h2,h⟩:=QX h;obtain⟨h3,h⟩:=QX h;obtain⟨h4,h⟩:=QX h;obtain⟨h5,h6⟩:=QX h;exact⟨_,_,fun n D=>Rq (ql dp way s11 s12 n D) x hx,Ih (List.contains_iff_mem.mp h1) h2 (Of h4) h3 (fun n D=>Rq (jf n D) x hx) (fun n D=>Rq (jg n D) x hx) ⟨h5,of_decide_eq_true h6⟩⟩
 have all:([[43],[45],[42],[47],[109],[61,61],[60],[62,61]]:List (List Nat)).all (fun o=>([[110],[107]]:List (List Nat)).all fun w=>([(1:Int),(-1),2,(-2),3,(-3),4,(-4),5,(-5),6,(-6),7,(-7),8,(-8),9,(-9)]:List Int).all fun i=>EP.any fun x=>x.1.1 == o&&(x.2.1.1 == w&&x.2.2 == i))=true:=by kernel_rfl
 obtain⟨x,hx,h⟩:=List.any_eq_true.mp (List.all_eq_true.mp (List.all_eq_true.mp (List.all_eq_true.mp all op hop) w hw) num hn);obtain⟨h1,h⟩:=QX h;obtain⟨h2,h3⟩:=QX h;obtain rfl:=eq_of_beq h1;obtain rfl:=eq_of_beq h2;obtain rfl:=eq_of_beq h3;exact key x hx
section
variable {Φ:Qj}{n:Nat}{fl:Bool}{own:List Nat}{W:Nat}{D D1 D2:Q8}{ρ:List LV}
theorem Uq{b:Int}(hT:D.turn < 1000000)(h0:0 < b)(h1:b<=1000):∃v D',CF (n+1) .k33 [.deck,.int b] D=some (.int v,D')/\0<=v/\v < b/\D'.turn=D.turn+1:=by
 have e:∀D,CF (n+1) .k33 [.deck,.int b] D=Ka [.deck,.int b] D:=fun D=>by
  show(match Ys QN 100000 (n+1) .k33 [.deck,.int b] D with|some (.ret v,D1)=>some (v,D1)|_=>none)=_;rw[U0,if_pos rfl];rcases Ka [.deck,.int b] D with _|⟨v,D1⟩<;>rfl
 rw[e];unfold Ka;dsimp only;rw[if_neg (by lia)];have k:∀x:Int,0<=x.fmod b/\x.fmod b < b:=fun x=>⟨Int.fmod_nonneg_of_pos _ h0,Int.fmod_lt_of_pos _ h0⟩
 split
 ·split
  ·exact⟨_,_,rfl,(k _).1,(k _).2,rfl⟩
  ·exact⟨_,_,rfl,(k _).1,(k _).2,rfl⟩
 ·exact⟨_,_,rfl,(k _).1,(k _).2,rfl⟩
theorem Kx{vs:List AV}(hT:D.turn < 1000000)(h0:vs≠[])(h1:vs.length<=1000):∃v D',v∈vs/\CF (n+2) .k34 [.deck,.list vs] D=some (v,D')/\D'.turn=D.turn+1:=by
 have hl:=List.length_pos_iff.mpr h0;refine cps fun U y0=>?_;obtain⟨i,D',e,hi0,hi1,ht⟩:=Uq (n:=n) (D:=D) (b:=(vs.length:Nat)) hT (by omega) (by lia);refine y0 ?_;have hlt:i.toNat < vs.length:=by lia
 refine⟨vs[i.toNat],D',List.getElem_mem _,?_,ht⟩;have hfl:(AV.noModis [.deck,.list vs])=AV.noModis [.deck,.list vs]:=rfl;refine Eq.trans (QC (by decide) rfl) ?_;show Qn (execs (CF (n+1)) _ [] 100000 [SR.ret (IR.idx (IR.loc 1) (IR.call (Fn.k33) [IR.loc 0,IR.bi (Bi.len) [IR.loc 1]]))] [.val .deck,.val (.list vs)] D)=_;rw[Qm,QJ (v:=vs[i.toNat]) (D1:=D')]
 ·rfl
 ·refine Zt (x:=.list vs) (y:=.int i) (Q2 rfl) (Qd (Q1 (Q2 rfl) (Q1 (Jk (Q1 (Q2 rfl) Q6) (z:=.int (vs.length:Nat)) ?_) Q6)) e) ?_
  ·exact if_pos (Nat.le_trans (by assumption) (Nat.le_of_ble_eq_true rfl))
  ·unfold Uu;dsimp only;rw[if_pos ⟨hi0,by lia⟩];exact List.getElem?_eq_getElem hlt
theorem QV{o:Bool}{e:IR}{v:AV}(h1:YZ e=true)(h:run Φ e ρ D=some (v,D1)):YX Φ o e ρ D=some (.val v,D1):=by
 rw[JT h1,h]
theorem span{P:Int->Prop}{v:Int}(a:Int)(b:Nat)(h:∀k:Nat,k < b->P (a+k))(h0:a<=v)(h1:v < a+b):P v:=by
 have e:a+((v - a).toNat:Nat)=v:=by lia
 refine Eq.mpr (congrArg _ e.symm) ?_;exact h _ (by lia)
theorem below{P:Int->Prop}{v:Int}(b:Nat)(h:∀k:Nat,k < b->P k)(h0:0<=v)(h1:v < b):P v:=span 0 b (fun k hk=>by rw[Int.zero_add];exact h k hk) h0 (by lia)
theorem Kt{a k T M:Nat}(h:a+(k+1)<=T)(h2:T<=M):a < M:=by lia
theorem Jj{a b k T:Nat}(h:a+(k+1)<=T)(hb:b=a+1):b+k<=T:=by lia
theorem YW{i j:Nat}{a b:IR}{x y:AV}(ha:YX Φ (own.contains i) a ρ D=some (.val x,D1))(hb:YX Φ (own.contains j) b ρ D1=some (.val y,D2))(hij:apart [i,j]=true):
  exec Φ fl own W (.setN [i,j] [a,b]) ρ D=some (.next,(ρ.set i (.val x)).set j (.val y),D2):=by
 dsimp only[exec,UJ];rw[ha];dsimp only;rw[hb];dsimp only;rw[if_pos hij];rfl
theorem YV{i:Nat}{l:List IR}{vs:List AV}(hT:D.turn < 1000000)(hρ:ρ[0]?=some (.val .deck))(hl:∀ρ D,runs (CF (n+2)) l ρ D=some (vs,D))(h0:vs≠[])(h1:vs.length<=1000):
  ∃v D',v∈vs/\exec (CF (n+2)) fl own W (.set i (.call .k34 [.loc 0,.lst l])) ρ D=some (.next,ρ.set i (.val v),D')/\D'.turn=D.turn+1:=by
 refine cps fun U y0=>?_;obtain⟨v,D',hv,e,ht⟩:=Kx (n:=n) (D:=D) hT h0 h1;refine y0 ?_;exact⟨v,D',hv,Qv rfl (Qd (Q1 (Q2 hρ) (Q1 (U4 (hl ρ D) (Nat.le_trans (by assumption) (Nat.le_of_ble_eq_true rfl))) Q6)) e),ht⟩
theorem Px{l:List IR}{vs:List AV}(hT:D.turn < 1000000)(hρ:(ρ.map LV.rel)[0]?=some (.val .deck))(hl:∀ρ D,runs (CF (n+2)) l ρ D=some (vs,D))(h0:vs≠[])(h1:vs.length<=1000):
  ∃v D',v∈vs/\exec (CF (n+2)) fl own W (.ret (.call .k34 [.loc 0,.lst l])) ρ D=some (.ret v,ρ,D')/\D'.turn=D.turn+1:=by
 refine cps fun U y0=>?_;obtain⟨v,D',hv,e,ht⟩:=Kx (n:=n) (D:=D) hT h0 h1;refine y0 ?_;exact⟨v,D',hv,QJ (Qd (Q1 (Q2 hρ) (Q1 (U4 (hl _ D) (Nat.le_trans (by assumption) (by decide))) Q6)) e),ht⟩
noncomputable def Piece(K N L T:Nat)(r:Option (AV×Q8)):Prop:=∃x t D',r=some (.tuple [.bytes x,.bytes t],D')/\Good K N L x t/\D'.turn<=T
theorem Piece.weak{K N L T K' N' L' T':Nat}{r:Option (AV×Q8)}(h:Piece K N L T r)(hK:K<=K')(hN:N<=N')(hL:L<=L')(hT:T<=T'):Piece K' N' L' T' r:=
 let⟨x,t,D',e,g,ht⟩:=h;⟨x,t,D',e,g.weak hK hN hL,Nat.le_trans ht hT⟩
theorem Piece.of_gets{X:List SR}{ρ:List LV}{T:Nat}(h:Ti X ρ)(hT:D.turn<=T):Piece 3 30 60 T (Qn (execs (CF (n+20)) true [] 100000 X ρ D)):=
 let⟨x,t,e,g⟩:=h;⟨x,t,D,e n D,g,hT⟩
end
noncomputable abbrev AE:List AV:=[.tuple [(.bytes [120]),(.bytes [120])],.tuple [(.bytes [104,105,32]),(.bytes [104,105,32])],.tuple [(.bytes [35,35]),(.bytes [35])],.tuple [(.bytes [35,44]),(.bytes [44])],.tuple [(.bytes [35,125]),(.bytes [125])],.tuple [(.bytes [55]),(.bytes [55])],.tuple [(.bytes [48]),(.bytes [48])]]
noncomputable abbrev AD:List AV:=[(.bytes [97]),(.bytes [98]),(.bytes [99]),(.bytes [116,105,116,108,101]),(.bytes [110,111,110,101]),(.bytes [110])]
noncomputable abbrev AB:List AV:=[.tuple [(.bytes [35,83]),(.bytes [115,49])],.tuple [(.bytes [35,73]),(.bytes [51])],.tuple [(.bytes [35,84]),(.bytes [116,111,112])],.tuple [(.bytes [35,87]),(.bytes [])]]
noncomputable abbrev AA:List AV:=[.tuple [(.bytes [35,91,102,103,61,114,101,100,93]),(.bytes [35,91,102,103,61,114,101,100,93])],.tuple [(.bytes [35,40,108,115,32,120,41]),(.bytes [])],.tuple [(.bytes [35,123,108,58,97,32,98,125]),(.bytes [97,32,98])],.tuple [(.bytes [35,123,69,58,97,103,97,105,110,125]),(.bytes [120,33,115,49])]]
noncomputable abbrev Az:List AV:=[(.bytes [116,105,116,108,101]),(.bytes [97]),(.bytes [98]),(.bytes [112,97,116,104])]
noncomputable abbrev Ay:List AV:=[.tuple [(.bytes [35,123,98,58,112,97,116,104,125]),(.bytes [121,122])],.tuple [(.bytes [35,123,100,58,112,97,116,104,125]),(.bytes [47,117,47,120])],.tuple [(.bytes [35,123,119,58,116,105,116,108,101,125]),(.bytes [55])],.tuple [(.bytes [35,123,33,33,58,35,123,99,125,125]),(.bytes [48])]]
noncomputable abbrev DV:List AV:=[(.bytes [97]),(.bytes [98]),(.bytes [99]),(.bytes [110,111,110,101]),(.bytes [])]
noncomputable abbrev Mc:List AV:=[(.bytes [97,42]),(.bytes [42,100,42,102]),(.bytes [63,63]),(.bytes [42]),(.bytes [120])]
noncomputable abbrev Mb:List AV:=[(.bytes [97]),(.bytes [116,105,116,108,101]),(.bytes [98])]
noncomputable abbrev Fc:List AV:=[(.str [43]),(.str [45]),(.str [42]),(.str [47]),(.str [109]),(.str [61,61]),(.str [60]),(.str [62,61])]
noncomputable abbrev Fb:List AV:=[(.bytes [110]),(.bytes [107])]
theorem TC(Φ:Qj)(ρ:List LV)(D:Q8):runs Φ qZ ρ D=some (AE,D):=rfl
theorem Sh(Φ:Qj)(ρ:List LV)(D:Q8):runs Φ qY ρ D=some (AD,D):=rfl
theorem Sg(Φ:Qj)(ρ:List LV)(D:Q8):runs Φ qX ρ D=some (AB,D):=rfl
theorem Sf(Φ:Qj)(ρ:List LV)(D:Q8):runs Φ qW ρ D=some (AA,D):=rfl
theorem Se(Φ:Qj)(ρ:List LV)(D:Q8):runs Φ qV ρ D=some (Az,D):=rfl
theorem Sd(Φ:Qj)(ρ:List LV)(D:Q8):runs Φ qU ρ D=some (Ay,D):=rfl
theorem Sb(Φ:Qj)(ρ:List LV)(D:Q8):runs Φ qT ρ D=some (DV,D):=rfl
theorem GA(Φ:Qj)(ρ:List LV)(D:Q8):runs Φ Fe ρ D=some (Mc,D):=rfl
theorem Gz(Φ:Qj)(ρ:List LV)(D:Q8):runs Φ Fd ρ D=some (Mb,D):=rfl
theorem PA(Φ:Qj)(ρ:List LV)(D:Q8):runs Φ AG ρ D=some (Fc,D):=rfl
theorem Pz(Φ:Qj)(ρ:List LV)(D:Q8):runs Φ AF ρ D=some (Fb,D):=rfl
noncomputable abbrev S0(dp way:Int):List LV:=slots (.val (.int dp)) (.val (.int way)) .u .u .u .u .u .u .u .u .u .u .u .u .u .u .u .u
section
variable {n:Nat}{fl:Bool}{own:List Nat}{W:Nat}{D D1 D2:Q8}{ρ ρ1:List LV}{X Y:List SR}{dp way:Int}
noncomputable abbrev EX(n:Nat)(X:List SR)(ρ:List LV)(D:Q8):Option (Out×List LV×Q8):=execs (CF (n+20)) true [] 100000 X ρ D
theorem Cz(n:Nat)(D:Q8):([0,1,2,3,4,5,6,7]:List Int).map (fun d=>CF (n+20) .k13 [.bytes [33,33,58,35,123,99,125],Qb,.int (d+1)] D)=([0,1,2,3,4,5,6,7]:List Int).foldr (fun Z r=>some (.bytes [48],D)::r) []:=by kernel_rfl
theorem Good.excl:Good 3 20 20 (35::123::[33,33,58,35,123,99,125]++[125]) [48]:=by
 refine Good.brace (Nat.le_add_left _ _) (Nat.le_add_left _ _) (by rfl) (by rfl) (by decide) (by decide) (by decide) fun n d hn h0 hd D=>?_;obtain⟨m,rfl⟩:=Jl hn;exact Rq (Cz m D) d (below 8 (by decide) h0 (by lia))
theorem Yv{K N:Nat}{x t:List Nat}(g:Good K N 20 x t)(h:(Nat.ble K 3&&Nat.ble N 30)=true):Good 3 30 60 x t:=g.weak (Nat.le_of_ble_eq_true (Bool.and_eq_true_iff.mp h).1) (Nat.le_of_ble_eq_true (Bool.and_eq_true_iff.mp h).2) (Nat.le_add_left _ _)
theorem Fi:∀v∈AE,∃x t,v=.tuple [.bytes x,.bytes t]/\Good 3 30 60 x t:=
 QY ⟨_,_,rfl,Yv (Good.plains (by rfl)) rfl⟩ (QY ⟨_,_,rfl,Yv (Good.plains (by rfl)) rfl⟩ (QY ⟨_,_,rfl,Yv (Good.put (by decide)) rfl⟩ (QY ⟨_,_,rfl,Yv (Good.put (by decide)) rfl⟩ (QY ⟨_,_,rfl,Yv (Good.put (by decide)) rfl⟩
  (QY ⟨_,_,rfl,Yv (Good.plains (by rfl)) rfl⟩ (QY ⟨_,_,rfl,Yv (Good.plains (by rfl)) rfl⟩ WU))))))
theorem AZ:∀v∈AB,∃x t,v=.tuple [.bytes x,.bytes t]/\Good 3 30 60 x t:=
 QY ⟨_,_,rfl,Yv (Good.letter (by decide)) rfl⟩ (QY ⟨_,_,rfl,Yv (Good.letter (by decide)) rfl⟩ (QY ⟨_,_,rfl,Yv (Good.letter (by decide)) rfl⟩ (QY ⟨_,_,rfl,Yv (Good.letter (by decide)) rfl⟩ WU)))
theorem AY:∀v∈AA,∃x t,v=.tuple [.bytes x,.bytes t]/\Good 3 30 60 x t:=
 QY ⟨_,_,rfl,Yv Good.style rfl⟩ (QY ⟨_,_,rfl,Yv Good.cmd rfl⟩ (QY ⟨_,_,rfl,UN (inner:=[108,58,97,32,98]) CH (by rfl)⟩ (QY ⟨_,_,rfl,Yv Good.again rfl⟩ WU)))
theorem AX:∀v∈Ay,∃x t,v=.tuple [.bytes x,.bytes t]/\Good 3 30 60 x t:=
 QY ⟨_,_,rfl,UN (inner:=[98,58,112,97,116,104]) CG (by rfl)⟩ (QY ⟨_,_,rfl,UN (inner:=[100,58,112,97,116,104]) CE (by rfl)⟩ (QY ⟨_,_,rfl,UN (inner:=[119,58,116,105,116,108,101]) Og (by rfl)⟩ (QY ⟨_,_,rfl,Yv Good.excl rfl⟩ WU)))
noncomputable abbrev G2(dp way:LV)(w:List Nat):Prop:=Ti [FR] (slots dp way (.val (.bytes w)) .u .u .u .u .u .u .u .u .u .u .u .u .u .u .u)
theorem C0(dp way:LV):∀v∈AD,∃w,v=.bytes w/\G2 dp way w:=
 QY ⟨_,rfl,_,_,fun n D=>by kernel_rfl,UN Fu (by decide)⟩ (QY ⟨_,rfl,_,_,fun n D=>by kernel_rfl,UN Ft (by decide)⟩ (QY ⟨_,rfl,_,_,fun n D=>by kernel_rfl,UN CK (by decide)⟩ (QY ⟨_,rfl,_,_,fun n D=>by kernel_rfl,UN Fs (by decide)⟩
  (QY ⟨_,rfl,_,_,fun n D=>by kernel_rfl,UN CJ (by decide)⟩ (QY ⟨_,rfl,_,_,fun n D=>by kernel_rfl,UN Fq (by decide)⟩ WU)))))
theorem DI{ws:List (List Nat)}{v:AV}(h:v∈ws.map .bytes):∃w∈ws,v=.bytes w:=by
 obtain⟨w,hw,rfl⟩:=List.mem_map.mp h;exact⟨w,hw,rfl⟩
theorem Piece.pre{K N L T:Nat}{r r':Option (Out×List LV×Q8)}(h:Piece K N L T (Qn r'))(e:r=r'):Piece K N L T (Qn r):=by rw[e];exact h
theorem Piece.nxt{K N L T:Nat}{s:SR}{R:List SR}(e:exec (CF (n+20)) true [] 100000 s ρ D=some (.next,ρ1,D1))(h:Piece K N L T (Qn (EX n R ρ1 D1))):Piece K N L T (Qn (EX n (s::R) ρ D)):=h.pre (cons_of e)
theorem Piece.ret{K N L T:Nat}{s:SR}{R:List SR}{x t:List Nat}(e:exec (CF (n+20)) true [] 100000 s ρ D=some (.ret (.tuple [.bytes x,.bytes t]),ρ1,D1))(g:Good K N L x t)(hT:D1.turn<=T):Piece K N L T (Qn (EX n (s::R) ρ D)):=
 ⟨x,t,D1,by show Qn (execs _ _ _ _ _ _ _)=_;rw[Qr e];rfl,g,hT⟩
theorem Piece.ifs{K N L T:Nat}{t:IR}{A B R:List SR}(ht:truthOf (CF (n+20)) t ρ D=some (true,D))(h:Piece K N L T (Qn (EX n A ρ D))):Piece K N L T (Qn (EX n (.ifs t A B::R) ρ D)):=by
 refine cps fun U y0=>?_;obtain⟨x,t',D',e,g,hT⟩:=h;refine y0 ?_;refine⟨x,t',D',?_,g,hT⟩;have e5:exec (CF (n+20)) true [] 100000 (.ifs t A B) ρ D=EX n A ρ D:=Zm ht;show Qn (execs _ _ _ _ _ _ _)=_;rcases q:EX n A ρ D with _|⟨o,ρ2,D2⟩
 ·rw[q] at e;exact Qf e
 ·rw[q] at e5 e;cases o with
  | next=>cases e
  | exc v=>exact Qf e
  | ret v=>rw[Qr e5];exact e
theorem UK{vs:List AV}{l:List IR}{t:IR}{a:List SR}{R:List SR}{T:Nat}(hT:D.turn+1<=T)(hT2:T<=1000000)(hρ2:(ρ.map LV.rel)[0]?=some (.val .deck))(hl:∀Φ ρ D,runs Φ l ρ D=some (vs,D))(h0:vs≠[])(h1:vs.length<=1000)
  (hm:∀v∈vs,∃x t,v=.tuple [.bytes x,.bytes t]/\Good 3 30 60 x t) (ht:truthOf (CF (n+20)) t ρ D=some (true,D)):Piece 3 30 60 T (Qn (EX n (.ifs t [.ret (.call .k34 [.loc 0,.lst l])] a::R) ρ D)):=by
 refine cps fun U y0=>?_;obtain⟨v,D',hv,e,hD⟩:=Px (fl:=true) (own:=[]) (W:=100000) (D:=D) (n:=n+18) (ρ:=ρ) (Nat.lt_of_lt_of_le (by assumption) (by assumption)) hρ2 (fun ρ D=>hl _ ρ D) h0 h1;obtain⟨x,t',rfl,g⟩:=hm v hv;refine y0 ?_;exact Piece.ifs ht (Piece.ret e g (by lia))
theorem Jt{t:IR}{a R:List SR}(ht:truthOf (CF (n+20)) t ρ D=some (false,D)):EX n (.ifs t a []::R) ρ D=EX n R ρ D:=cons_of ((Z0 ht).trans execs_nil)
theorem Ar{way:Int}(h0:0<=way)(h1:way < 7):way∈[(0:Int),1,2,3,4,5,6]:=below 7 (by decide) h0 h1
theorem Si{T:Nat}(hT:D.turn+3<=T)(hT2:T<=1000000):Piece 3 30 60 T (Qn (EX n [FQ,RC,RA,Rz,Ry,Rx,Rw,Rv] (S0 dp 5) D)):=by
 refine cps fun U y0=>?_;obtain⟨many,D1,e1,m0,m1,hD1⟩:=Uq (n:=n+19) (D:=D) (b:=9) (Kt hT hT2) (by decide) (by decide);have hT1:=Jj hT hD1;obtain⟨v,D2,hv,e2,hD2⟩:=Kx (n:=n+18) (D:=D1) (vs:=Az) (Kt hT1 hT2) (fun q=>by exact absurd q (by decide)) (Nat.le_of_ble_eq_true rfl);have hT3:=Jj hT1 hD2;obtain⟨w,hw,rfl⟩:=DI (ws:=[[116,105,116,108,101],[97],[98],[112,97,116,104]]) hv;obtain⟨v,c,p,k1,k2⟩:=r5 (.val (.int dp)) (.val (.int 5)) w hw many (below 9 (by decide) m0 m1);obtain⟨at_,D3,e3,a0,a1,hD3⟩:=Uq (n:=n+19) (D:=D2) (b:=4) (Kt hT3 hT2) (by decide) (by decide);refine y0 ?_;have s1:exec (CF (n+20)) true [] 100000 FQ (S0 dp 5) D=some (.next,s5 w many (.val (.int dp)) (.val (.int 5)) .u .u .u .u,D2):=
  YW (QV rfl (Qd (Q1 (Q2 rfl) (Q1 Qa Q6)) e1)) (QV rfl (Qd (Q1 (Q2 rfl) (Q1 (U4 (Se _ _ _) (Nat.le_of_ble_eq_true rfl)) Q6)) e2)) rfl
 refine Piece.nxt s1 (Piece.pre (r':=EX n [Ry,Rx,Rw,Rv] (s5 w many (.val (.int dp)) (.val (.int 5)) v c p .u) D2) ?_ (Jm (a:=[RC,RA,Rz]) (k1 n D2)));have s2:exec (CF (n+20)) true [] 100000 Ry (s5 w many (.val (.int dp)) (.val (.int 5)) v c p .u) D2=some (.next,s5 w many (.val (.int dp)) (.val (.int 5)) v c p (.val (.int at_)),D3):=
  Qv rfl (Qd (Q1 (Q2 rfl) (Q1 Qa Q6)) e3)
 exact Piece.nxt s2 (Piece.of_gets (k2 at_ (below 4 (by decide) a0 a1)) (Jj hT3 hD3))
theorem Sj{T:Nat}(hT:D.turn+3<=T)(hT2:T<=1000000):Piece 3 30 60 T (Qn (EX n [Ad,FR] (S0 dp 2) D)):=by
 refine cps fun U y0=>?_;obtain⟨v,D',hv,e,hD⟩:=YV (fl:=true) (own:=[]) (W:=100000) (D:=D) (n:=n+18) (ρ:=S0 dp 2) (i:=4) (Kt hT hT2) rfl (fun ρ D=>Sh _ ρ D) (fun q=>by exact absurd q (by decide)) (Nat.le_of_ble_eq_true rfl);obtain⟨w,rfl,hg⟩:=C0 (.val (.int dp)) (.val (.int 2)) v hv;refine y0 ?_;exact Piece.nxt e (Piece.of_gets hg (Nat.le_trans (Nat.le_add_right _ 2) (Jj hT hD)))
theorem PC{R:List SR}{T:Nat}(hT:D.turn+3<=T)(hT2:T<=1000000)(h0:0<=way)(h1:way < 7):Piece 3 30 60 T (Qn (EX n (lp1::OV::OU::OT::OS::OR::R) (S0 dp way) D)):=
 have h1':D.turn+1<=T:=Nat.le_trans (Nat.add_le_add_left (by decide +kernel) _) hT;have ne:∀{a:AV} {l:List AV},a::l≠[]:=fun q=>by cases q
 QY (P:=fun way=>Piece 3 30 60 T (Qn (EX n (lp1::OV::OU::OT::OS::OR::R) (S0 dp way) D)))
  (UK h1' hT2 rfl TC ne (by decide) Fi rfl)
  (QY (UK h1' hT2 rfl TC ne (by decide) Fi rfl)
  (QY (Piece.pre (Piece.ifs rfl (Sj hT hT2)) (Jt rfl))
  (QY (Piece.pre (Piece.pre (UK h1' hT2 rfl Sg ne (Nat.le_of_ble_eq_true rfl) AZ rfl) (Jt rfl)) (Jt rfl))
  (QY (Piece.pre (Piece.pre (Piece.pre (UK h1' hT2 rfl Sf ne (Nat.le_of_ble_eq_true rfl) AY rfl) (Jt rfl)) (Jt rfl)) (Jt rfl))
  (QY (Piece.pre (Piece.pre (Piece.pre (Piece.pre (Piece.ifs rfl (Si hT hT2)) (Jt rfl)) (Jt rfl)) (Jt rfl)) (Jt rfl))
  (QY (Piece.pre (Piece.pre (Piece.pre (Piece.pre (Piece.pre (UK h1' hT2 rfl Sd ne (Nat.le_of_ble_eq_true rfl) AX rfl) (Jt rfl)) (Jt rfl)) (Jt rfl)) (Jt rfl)) (Jt rfl)) WU)))))) way (Ar h0 h1)
end
section
variable {n:Nat}{Φ:Qj}{fl:Bool}{own:List Nat}{W:Nat}{D D1 D2:Q8}{ρ ρ1:List LV}{X Y:List SR}{dp way:Int}{x1 t1 x2 t2:List Nat}
theorem U3{b:Bool}:CF (n+1) .k39 [.bool b] D=some (.bytes (QG b),D):=by cases b<;>kernel_rfl
theorem Jq{t:List Nat}:CF (n+1) .k38 [.bytes t] D=some (.bool (JB t),D):=by
 have e:CF (n+1) .k38 [.bytes t] D=some (.bool (!(([] == t)||(([48] == t)||false))),D):=by kernel_rfl
 rw[e];congr 3;unfold JB;rw[Bool.or_false,Bool.not_or,Bool.beq_comm (a:=t)];have:(([]:List Nat) == t)=(t == []):=by cases t<;>rfl
 rw[this];have:(([48]:List Nat) == t)=(t == [48]):=by
  rw[Bool.eq_iff_iff,beq_iff_eq,beq_iff_eq];exact eq_comm
 rw[this]
theorem Hn{a b:IR}{x y:List Nat}(h1:run Φ a ρ D=some (.bytes x,D))(h2:run Φ b ρ D=some (.bytes y,D))(h:(x++y).length<=30000):run Φ (.bin .add a b) ρ D=some (.bytes (x++y),D):=by
 refine QB h1 h2 ?_;unfold Uc;exact(if_pos (Rt h))
noncomputable def RB(Φ:Qj)(ρ:List LV)(D:Q8)(a:IR)(x:List Nat)(k:Nat):Prop:=run Φ a ρ D=some (.bytes x,D)/\x.length<=k
theorem RB.cat{a b:IR}{x y:List Nat}{k l:Nat}(h1:RB Φ ρ D a x k)(h2:RB Φ ρ D b y l)(h:k+l<=30000):RB Φ ρ D (.bin .add a b) (x++y) (k+l):=
 have e:(x++y).length<=k+l:=List.length_append▸Nat.add_le_add h1.2 h2.2
 ⟨Hn h1.1 h2.1 (Nat.le_trans e h),e⟩
theorem RB.lit{v:List Nat}:RB Φ ρ D (.lit (.bytes v)) v v.length:=⟨Qa,Nat.le_refl _⟩
noncomputable abbrev S1(dp way:Int)(x1 t1 x2 t2:List Nat)(s4 s6 s9 s13 s14 s15:LV):List LV:=slots (.val (.int dp)) (.val (.int way)) s4 .u s6 .u .u s9 .u (.val (.tuple [.bytes x1,.bytes t1])) (.val (.tuple [.bytes x2,.bytes t2])) s13 s14 s15 .u .u .u .u
theorem Xw{s4 s6 s9 s13 s14 s15:LV}:run Φ (.idx (.loc 11) (.lit (.int 0))) (S1 dp way x1 t1 x2 t2 s4 s6 s9 s13 s14 s15) D=some (.bytes x1,D):=Zt (Q2 rfl) Qa rfl
theorem E8{s4 s6 s9 s13 s14 s15:LV}:run Φ (.idx (.loc 12) (.lit (.int 0))) (S1 dp way x1 t1 x2 t2 s4 s6 s9 s13 s14 s15) D=some (.bytes x2,D):=Zt (Q2 rfl) Qa rfl
theorem PO{s4 s6 s9 s13 s14 s15:LV}:run Φ (.idx (.loc 11) (.lit (.int 1))) (S1 dp way x1 t1 x2 t2 s4 s6 s9 s13 s14 s15) D=some (.bytes t1,D):=Zt (Q2 rfl) Qa rfl
theorem O2{s4 s6 s9 s13 s14 s15:LV}:run Φ (.idx (.loc 12) (.lit (.int 1))) (S1 dp way x1 t1 x2 t2 s4 s6 s9 s13 s14 s15) D=some (.bytes t2,D):=Zt (Q2 rfl) Qa rfl
theorem Aq{K N L c:Nat}{R:List SR}(hD:D.turn+2 * c<=1000000)(hp:∀D,D.turn+c<=1000000->Piece K N L (D.turn+c) (CF (n+20) .k42 [.deck,.int dp,.int (dp - 1)] D)):∃x1 t1 x2 t2 D',Good K N L x1 t1/\Good K N L x2 t2/\D'.turn<=D.turn+2 * c/\
  EX n (lp7::R) (S0 dp way) D=EX n R (S1 dp way x1 t1 x2 t2 .u .u .u .u .u .u) D':=by
 refine cps fun U y0=>?_;obtain⟨x1,t1,D1,e1,g1,hT1⟩:=hp D (by lia);obtain⟨x2,t2,D2,e2,g2,hT2⟩:=hp D1 (by lia);refine y0 ?_;refine⟨x1,t1,x2,t2,D2,g1,g2,by lia,?_⟩;have s1:exec (CF (n+20)) true [] 100000 lp7 (S0 dp way) D=some (.next,S1 dp way x1 t1 x2 t2 .u .u .u .u .u .u,D2):=
  YW (QV rfl (Qd (Q1 (Q2 rfl) (Q1 (Q2 rfl) (Q1 (QB (Q2 rfl) Qa rfl) Q6))) e1))
   (QV rfl (Qd (Q1 (Q2 rfl) (Q1 (Q2 rfl) (Q1 (QB (Q2 rfl) Qa rfl) Q6))) e2)) rfl
 exact cons_of s1
theorem qg{nm x1 x2:List Nat}:[35,123]++nm++[58]++x1++[44]++x2++[125]=35::123::((nm++[58])++(x1++44::x2))++[125]:=by simp
theorem RB.pair{ρ:List LV}{a b c:IR}{nm:List Nat}(ha:RB Φ ρ D a nm 2)(hb:RB Φ ρ D b x1 2500)(hc:RB Φ ρ D c x2 2500):
  run Φ (.bin .add (.bin .add (.bin .add (.bin .add (.bin .add (.bin .add (.lit (.bytes [35,123])) a) (.lit (.bytes [58]))) b) (.lit (.bytes [44]))) c) (.lit (.bytes [125]))) ρ D=some (.bytes (35::123::((nm++[58])++(x1++44::x2))++[125]),D):=by
 have k:∀{a b:Nat},Nat.ble a b=true->a<=b:=Nat.le_of_ble_eq_true;rw[<- qg];exact((((((RB.lit.cat ha (k rfl)).cat .lit (k rfl)).cat hb (k rfl)).cat .lit (k rfl)).cat hc (k rfl)).cat .lit (k rfl)).1
theorem four{v:Int}(h0:0<=v)(h1:v < 4):v∈[(0:Int),1,2,3]:=below 4 (by decide) h0 h1
theorem Xc:2<=65536:=Nat.le_of_ble_eq_true rfl
theorem PN{nm:List Nat}(h:nm∈ZX):nm.length<=2:=ZR (P:=fun nm=>nm.length<=2) h (by decide)
theorem DN{K N L T:Nat}{R:List SR}(hT:D.turn+1<=T)(hT2:T<=1000000)(g1:Good K N L x1 t1)(g2:Good K N L x2 t2)(hL:L<=2500)(ht:truthOf (CF (n+20)) (.cmp .lt (.loc 3) (.lit (.int 13))) (S1 dp way x1 t1 x2 t2 .u .u .u .u .u .u) D=some (true,D)):Piece (K+1) (N+4) (2 * L+10) T (Qn (EX n (lp9::R) (S1 dp way x1 t1 x2 t2 .u .u .u .u .u .u) D)):=by
 refine Piece.ifs ht ?_;obtain⟨at_,D1,e,a0,a1,hD1⟩:=Uq (n:=n+19) (D:=D) (b:=4) (Kt hT hT2) (by decide) (by decide);have s1:exec (CF (n+20)) true [] 100000 DP (S1 dp way x1 t1 x2 t2 .u .u .u .u .u .u) D=some (.next,S1 dp way x1 t1 x2 t2 .u .u (.val (.int at_)) .u .u .u,D1):=
  Qv rfl (Qd (Q1 (Q2 rfl) (Q1 Qa Q6)) e)
 refine Piece.nxt s1 ?_;obtain⟨nm,hnm,k1,k2⟩:=QY (P:=fun at_=>∃nm,nm∈ZX/\run (CF (n+20)) (IR.idx (IR.lst [IR.lit (AV.bytes [61,61]),IR.lit (AV.bytes [33,61]),IR.lit (AV.bytes [60]),IR.lit (AV.bytes [62,61])]) (IR.loc 9)) (S1 dp way x1 t1 x2 t2 .u .u (.val (.int at_)) .u (.val (.bool (U6 nm t1 t2))) .u) D1=some (.bytes nm,D1)/\
   exec (CF (n+20)) true [] 100000 Ac (S1 dp way x1 t1 x2 t2 .u .u (.val (.int at_)) .u .u .u) D1=some (.next,S1 dp way x1 t1 x2 t2 .u .u (.val (.int at_)) .u (.val (.bool (U6 nm t1 t2))) .u,D1))
  ⟨[61,61],by decide,by kernel_rfl,by kernel_rfl⟩ (QY ⟨[33,61],by decide,by kernel_rfl,by kernel_rfl⟩ (QY ⟨[60],by decide,by kernel_rfl,by kernel_rfl⟩ (QY ⟨[62,61],by decide,by kernel_rfl,by kernel_rfl⟩ WU))) at_ (four a0 a1)
 refine Piece.nxt k2 (Piece.ret (D1:=D1) (QJ ?_) (Good.pair hnm g1 g2 (Nat.le_trans hL (by decide))) (Jj hT hD1));exact JG (Q1 (RB.pair ⟨k1,PN hnm⟩ ⟨Xw,Nat.le_trans g1.ln.1 hL⟩ ⟨E8,Nat.le_trans g2.ln.1 hL⟩) (Q1 (Qd (Q1 (Q2 rfl) Q6) U3) Q6)) Xc
end
section
variable {n:Nat}{Φ:Qj}{fl:Bool}{own:List Nat}{W:Nat}{D D1 D2:Q8}{ρ ρ1:List LV}{X Y:List SR}{dp way:Int}{x1 t1 x2 t2:List Nat}
theorem qd{x:List Nat}:[35,123,33,58]++x++[125]=35::123::([33,58]++x)++[125]:=by rfl
theorem qe{q x1 x2:List Nat}:[35,123,63]++q++[44]++x1++[44]++x2++[125]=35::123::(63::(q++44::(x1++44::x2)))++[125]:=by simp
theorem qf{x1 x2:List Nat}:[35,123,61,61,58]++x1++[44]++x2++[125]=35::123::(([61,61]++[58])++(x1++44::x2))++[125]:=by simp
theorem kle{a b:Nat}(h:Nat.ble a b=true):a<=b:=Nat.le_of_ble_eq_true h
theorem RB.turned{a:IR}(ha:RB Φ ρ D a x1 2500):run Φ (.bin .add (.bin .add (.lit (.bytes [35,123,33,58])) a) (.lit (.bytes [125]))) ρ D=some (.bytes (35::123::([33,58]++x1)++[125]),D):=by
 rw[<- qd];exact((RB.lit.cat ha (kle rfl)).cat .lit (kle rfl)).1
theorem RB.chosen{a b c:IR}{q:List Nat}(ha:RB Φ ρ D a q 5000)(hb:RB Φ ρ D b x1 2500)(hc:RB Φ ρ D c x2 2500):
  run Φ (.bin .add (.bin .add (.bin .add (.bin .add (.bin .add (.bin .add (.lit (.bytes [35,123,63])) a) (.lit (.bytes [44]))) b) (.lit (.bytes [44]))) c) (.lit (.bytes [125]))) ρ D=some (.bytes (35::123::(63::(q++44::(x1++44::x2)))++[125]),D):=by
 rw[<- qe];exact((((((RB.lit.cat ha (kle rfl)).cat .lit (kle rfl)).cat hb (kle rfl)).cat .lit (kle rfl)).cat hc (kle rfl)).cat .lit (kle rfl)).1
theorem RB.same{b c:IR}(hb:RB Φ ρ D b x1 2500)(hc:RB Φ ρ D c x2 2500):
  run Φ (.bin .add (.bin .add (.bin .add (.bin .add (.lit (.bytes [35,123,61,61,58])) b) (.lit (.bytes [44]))) c) (.lit (.bytes [125]))) ρ D=some (.bytes (35::123::(([61,61]++[58])++(x1++44::x2))++[125]),D):=by
 rw[<- qf];exact((((RB.lit.cat hb (kle rfl)).cat .lit (kle rfl)).cat hc (kle rfl)).cat .lit (kle rfl)).1
theorem Ab{K N L T:Nat}{R:List SR}(hT:D.turn+1<=T)(hT2:T<=1000000)(g1:Good K N L x1 t1)(g2:Good K N L x2 t2)(hL:L<=2500):Piece (K+1) (N+4) (2 * L+10) T (Qn (EX n (lp10::R) (S1 dp 13 x1 t1 x2 t2 .u .u .u .u .u .u) D)):=by
 refine Piece.ifs rfl ?_;obtain⟨at_,D1,e,a0,a1,hD1⟩:=Uq (n:=n+19) (D:=D) (b:=3) (Kt hT hT2) (by decide) (by decide);have hT3:=Jj hT hD1;have hL2:L<=5000:=Nat.le_trans hL (by decide);have s1:exec (CF (n+20)) true [] 100000 EU (S1 dp 13 x1 t1 x2 t2 .u .u .u .u .u .u) D=some (.next,S1 dp 13 x1 t1 x2 t2 .u .u (.val (.int at_)) .u .u (.val (.tuple [.bool (JB t1),.bool (JB t2)])),D1):=
  YW (QV rfl (Qd (Q1 (Q2 rfl) (Q1 Qa Q6)) e))
   (QV rfl (JG (Q1 (Qd (Q1 PO Q6) Jq) (Q1 (Qd (Q1 O2 Q6) Jq) Q6)) Xc)) rfl
 refine Piece.nxt s1 ?_;have pair:∀nm,nm∈ZX->∀at_,truthOf (CF (n+20)) (.cmp .eq (.loc 9) (.lit (.int 2))) (S1 dp 13 x1 t1 x2 t2 .u .u (.val (.int at_)) .u .u (.val (.tuple [.bool (JB t1),.bool (JB t2)]))) D1=some (false,D1)->
   run (CF (n+20)) (IR.idx (IR.lst [IR.lit (AV.bytes [38,38]),IR.lit (AV.bytes [124,124])]) (IR.loc 9)) (S1 dp 13 x1 t1 x2 t2 .u .u (.val (.int at_)) .u (.val (.bool (U6 nm t1 t2))) (.val (.tuple [.bool (JB t1),.bool (JB t2)]))) D1=some (.bytes nm,D1)->
   exec (CF (n+20)) true [] 100000 Tp (S1 dp 13 x1 t1 x2 t2 .u .u (.val (.int at_)) .u .u (.val (.tuple [.bool (JB t1),.bool (JB t2)]))) D1=some (.next,S1 dp 13 x1 t1 x2 t2 .u .u (.val (.int at_)) .u (.val (.bool (U6 nm t1 t2))) (.val (.tuple [.bool (JB t1),.bool (JB t2)])),D1)->
   Piece (K+1) (N+4) (2 * L+10) T (Qn (EX n [RE,Tp,RD] (S1 dp 13 x1 t1 x2 t2 .u .u (.val (.int at_)) .u .u (.val (.tuple [.bool (JB t1),.bool (JB t2)]))) D1)):=fun nm hnm at_ k0 k1 k2=>by
  refine Piece.pre ?_ (Jt k0);refine Piece.nxt k2 (Piece.ret (D1:=D1) (QJ ?_) (Good.pair hnm g1 g2 hL2) hT3);exact JG (Q1 (RB.pair ⟨k1,PN hnm⟩ ⟨Xw,Nat.le_trans g1.ln.1 hL⟩ ⟨E8,Nat.le_trans g2.ln.1 hL⟩) (Q1 (Qd (Q1 (Q2 rfl) Q6) U3) Q6)) Xc
 have m3:at_∈[(0:Int),1,2]:=below 3 (by decide) a0 a1;refine QY (P:=fun at_=>Piece (K+1) (N+4) (2 * L+10) T (Qn (EX n [RE,Tp,RD] (S1 dp 13 x1 t1 x2 t2 .u .u (.val (.int at_)) .u .u (.val (.tuple [.bool (JB t1),.bool (JB t2)]))) D1))) ?_ (QY ?_ (QY ?_ WU)) at_ m3
 ·refine pair [38,38] (by decide) 0 rfl (by kernel_rfl) ?_;have:U6 [38,38] t1 t2=(JB t1&&JB t2):=rfl;rw[this];cases JB t1<;>cases JB t2<;>kernel_rfl
 ·refine pair [124,124] (by decide) 1 rfl (by kernel_rfl) ?_;have:U6 [124,124] t1 t2=(JB t1||JB t2):=rfl;rw[this];cases JB t1<;>cases JB t2<;>kernel_rfl
 ·refine Piece.ifs rfl (Piece.ret (D1:=D1) (QJ ?_) (Good.turned g1 hL2) hT3);refine JG (Q1 (RB.turned ⟨Xw,Nat.le_trans g1.ln.1 hL⟩) (Q1 (Qd (Q1 (v:=.bool (!JB t1)) ?_ Q6) U3) Q6)) Xc;cases JB t1<;>rfl
theorem Xa{K N L T:Nat}{w q val:List Nat}{b:Bool}(hT:D.turn<=T)(hL:L<=2400)(l1:x1.length<=L)(l2:x2.length<=L)(hq:q.length<=5000)(hb:JB val=b)(g:Good (K+2) (N+8) (4 * L+20) (35::123::(63::(q++44::(x1++44::x2)))++[125]) (if b then t1 else t2)):
  Piece (K+2) (N+8) (4 * L+20) T (Qn (EX n [Bw] (S1 dp way x1 t1 x2 t2 (.val (.bytes w)) (.val (.bytes val)) .u (.val (.bytes q)) .u .u) D)):=by
 refine Piece.ret (D1:=D) (QJ ?_) g hT;have hL':L<=2500:=Nat.le_trans hL (Nat.le_of_ble_eq_true rfl);refine JG (Q1 (RB.chosen ⟨Q2 rfl,hq⟩ ⟨Xw,Nat.le_trans l1 hL'⟩ ⟨E8,Nat.le_trans l2 hL'⟩) (Q1 ?_ Q6)) Xc;refine Y2 (c:=b) (x:=.bool (JB val)) (D1:=D) (Qd (Q1 (Q2 rfl) Q6) Jq) (by rw[hb];rfl) ?_;obtain⟨⟩:=b
 ·show run _ _ _ _=some (AV.bytes t2,D);exact O2
 ·show run _ _ _ _=some (AV.bytes t1,D);exact PO
theorem UX{K N L T:Nat}(hT:D.turn<=T)(hK:3<=K)(hN:30<=N)(g1:Good K N L x1 t1)(g2:Good K N L x2 t2)(hL:L<=2400){w val:List Nat}{b:Bool}(hc:Ta w=true)(hb:JB val=b)(hs:(w=[97]/\b=true)\/(w=[98]/\b=false)\/(w=[99]/\b=false)\/(w=[110,111,110,101]/\b=false))(lw:w.length<=10)
  (hx:∀n D,exec (CF (n+20)) true [] 100000 Bx (S1 dp way x1 t1 x2 t2 (.val (.bytes w)) .u .u .u .u .u) D=some (.next,S1 dp way x1 t1 x2 t2 (.val (.bytes w)) (.val (.bytes val)) .u (.val (.bytes w)) .u .u,D)):
  Piece (K+2) (N+8) (4 * L+20) T (Qn (EX n [Bx,Bw] (S1 dp way x1 t1 x2 t2 (.val (.bytes w)) .u .u .u .u .u) D)):=by
 have gw:=Good.plains hc;refine Piece.nxt (hx n D) (Xa hT hL g1.ln.1 g2.ln.1 (Nat.le_trans lw (by decide)) hb ?_);exact(Good.chosen (Lq:=10) g1 g2 (Nat.le_trans hL (Nat.le_of_ble_eq_true rfl)) (by decide) gw.ps gw.oc.1 lw (fun n d D hn h0 hd=>BM hs n d D (Nat.le_trans (Nat.le_of_ble_eq_true rfl) (Nat.le_trans hN (Nat.le_trans (Nat.le_add_right _ 2) hn))))).weak (Nat.le_succ _) (Nat.add_le_add_left (Nat.le_of_ble_eq_true rfl) _) (by lia)
theorem FP{K N L T:Nat}{R:List SR}(hT:D.turn+1<=T)(hT2:T<=1000000)(hK:3<=K)(hN:30<=N)(g1:Good K N L x1 t1)(g2:Good K N L x2 t2)(hL:L<=2400)(ht:truthOf (CF (n+20)) (.cmp .lt (.loc 3) (.lit (.int 10))) (S1 dp way x1 t1 x2 t2 .u .u .u .u .u .u) D=some (true,D)):Piece (K+2) (N+8) (4 * L+20) T (Qn (EX n (lp8::R) (S1 dp way x1 t1 x2 t2 .u .u .u .u .u .u) D)):=by
 refine Piece.ifs ht ?_;obtain⟨v,D1,hv,e,hD1⟩:=YV (fl:=true) (own:=[]) (W:=100000) (D:=D) (n:=n+18) (ρ:=S1 dp way x1 t1 x2 t2 .u .u .u .u .u .u) (i:=4) (Kt hT hT2) rfl (fun ρ D=>Sb _ ρ D) (fun q=>by cases q) (by decide);refine Piece.nxt e ?_;have hT3:=Jj hT hD1;refine QY (P:=fun v=>Piece (K+2) (N+8) (4 * L+20) T (Qn (EX n [Bx,Bw] (S1 dp way x1 t1 x2 t2 (.val v) .u .u .u .u .u) D1)))
  (UX (val:=[120]) (b:=true) hT3 hK hN g1 g2 hL (by decide) (by decide) (.inl ⟨rfl,rfl⟩) (by decide) fun n D=>by kernel_rfl)
  (QY (UX (val:=[]) (b:=false) hT3 hK hN g1 g2 hL (by decide) (by decide) (.inr (.inl ⟨rfl,rfl⟩)) (by decide) fun n D=>by kernel_rfl)
  (QY (UX (val:=[48]) (b:=false) hT3 hK hN g1 g2 hL (by decide) (by decide) (.inr (.inr (.inl ⟨rfl,rfl⟩))) (by decide) fun n D=>by kernel_rfl)
  (QY (UX (val:=[]) (b:=false) hT3 hK hN g1 g2 hL (by decide) (by decide) (.inr (.inr (.inr ⟨rfl,rfl⟩))) (by decide) fun n D=>by kernel_rfl)
  (QY ?_ WU)))) v hv
 have hL':L<=2500:=Nat.le_trans hL (by decide);have hL5:L<=5000:=Nat.le_trans hL (by decide);have hq:2 * L+10<=5000:=by omega
 have gq:=Good.pair (nm:=[61,61]) (by decide) g1 g2 hL5;refine Piece.nxt (ρ1:=S1 dp way x1 t1 x2 t2 (.val (.bytes [])) (.val (.bytes (QG (t1 == t2)))) .u (.val (.bytes (35::123::(([61,61]++[58])++(x1++44::x2))++[125]))) .u .u) (D1:=D1) ((Zm (D1:=D1) rfl).trans ?_) (Xa (b:=t1 == t2) hT3 hL g1.ln.1 g2.ln.1 (Nat.le_trans gq.ln.1 hq) (by cases(t1 == t2)<;>rfl) ?_)
 ·rw[Qm];exact YW (QV rfl (RB.same ⟨Xw,Nat.le_trans g1.ln.1 hL'⟩ ⟨E8,Nat.le_trans g2.ln.1 hL'⟩)) (QV rfl (Qd (Q1 (QA PO O2 Vf) Q6) U3)) rfl
 ·have w1:L<=L:=Nat.le_refl _;have n30:3<=N+4+2:=Nat.le_trans (by decide) (Nat.le_trans hN (Nat.le_add_right _ 6));exact(Good.chosen (K:=K+1) (N:=N+4) (Lq:=2 * L+10) (g1.weak (Nat.le_succ _) (Nat.le_add_right _ 4) w1) (g2.weak (Nat.le_succ _) (Nat.le_add_right _ 4) w1) (Nat.le_trans hL (by decide)) hq gq.ps gq.oc.1 gq.ln.1
   (fun n d D hn h0 hd=>Ak (L:=2 * L+10) (K:=K+1) (N:=N+4) gq hq n d D hn (Nat.le_trans n30 hn) h0 hd)).weak (Nat.le_refl _) (Nat.le_refl _) (by omega)
theorem Aa{R:List SR}{T:Nat}(hT:D.turn+2<=T)(hT2:T<=1000000):Piece 3 30 60 T (Qn (EX n (lp11::R) (S1 dp 14 x1 t1 x2 t2 .u .u .u .u .u .u) D)):=by
 refine Piece.ifs rfl ?_;refine cps fun U y0=>?_;obtain⟨v,D1,hv,e,hD1⟩:=YV (fl:=true) (own:=[]) (W:=100000) (D:=D) (n:=n+18) (ρ:=S1 dp 14 x1 t1 x2 t2 .u .u .u .u .u .u) (i:=16) (Kt hT hT2) rfl (fun ρ D=>GA _ ρ D) (fun q=>by exact absurd q (by decide)) (Nat.le_of_ble_eq_true rfl);have hT3:=Jj hT hD1;obtain⟨p,hp,rfl⟩:=DI (ws:=[[97,42],[42,100,42,102],[63,63],[42],[120]]) hv;refine y0 ?_;refine Piece.nxt e ?_;refine cps fun U y0=>?_;obtain⟨v,D2,hv2,e2,hD2⟩:=YV (fl:=true) (own:=[]) (W:=100000) (D:=D1) (n:=n+18) (ρ:=(S1 dp 14 x1 t1 x2 t2 .u .u .u .u .u .u).set 16 (.val (.bytes p))) (i:=4) (Kt hT3 hT2) rfl (fun ρ D=>Gz _ ρ D) (fun q=>by exact absurd q (by decide)) (Nat.le_of_ble_eq_true rfl);obtain⟨w,hw,rfl⟩:=DI (ws:=[[97],[116,105,116,108,101],[98]]) hv2;refine y0 ?_;exact Piece.nxt e2 (Piece.of_gets (zV (.val (.int dp)) (.val (.int 14)) (.val (.tuple [.bytes x1,.bytes t1])) (.val (.tuple [.bytes x2,.bytes t2])) p hp w hw) (Jj hT3 hD2))
noncomputable abbrev DM(dp way:Int)(x1 t1 x2 t2 op:List Nat)(w:LV)(i:Int):List LV:=slots (.val (.int dp)) (.val (.int way)) w .u .u .u .u .u .u (.val (.tuple [.bytes x1,.bytes t1])) (.val (.tuple [.bytes x2,.bytes t2])) .u .u .u .u (.val (.str op)) (.val (.int i)) .u
noncomputable abbrev Xu:List Int:=[(1:Int),(-1),2,(-2),3,(-3),4,(-4),5,(-5),6,(-6),7,(-7),8,(-8),9,(-9)]
theorem Sq:∀k:Nat,k < 9->(1+(k:Int))∈Xu/\(0 - (1+(k:Int)))∈Xu:=by decide
theorem AW{op:List Nat}{m k:Int}(m0:0<=m)(m1:m < 9)(e4:CF (n+20) .k33 [.deck,.int 3] D=some (.int k,D1)):∃num,num∈Xu/\run (CF (n+20)) (.ite (.cmp .gt (.call .k33 [.loc 0,.lit (.int 3)]) (.lit (.int 0))) (.loc 18) (.bin .sub (.lit (.int 0)) (.loc 18)))
  (DM dp way x1 t1 x2 t2 op .u (1+m)) D=some (.int num,D1):=by
 obtain⟨h1,h2⟩:=below (P:=fun m=>(1+m)∈Xu/\(0 - (1+m))∈Xu) 9 Sq m0 m1;by_cases hk:0 < k
 ·refine⟨1+m,h1,Y2 (c:=true) (x:=.bool (decide (0 < k))) (QA (Qd (Q1 (Q2 rfl) (Q1 Qa Q6)) e4) Qa rfl) (by rw[decide_eq_true hk];rfl) ?_⟩;refine Eq.trans (if_pos rfl) ?_;exact Q2 rfl
 ·refine⟨0 - (1+m),h2,Y2 (c:=false) (x:=.bool (decide (0 < k))) (QA (Qd (Q1 (Q2 rfl) (Q1 Qa Q6)) e4) Qa rfl) (by rw[decide_eq_false hk];rfl) ?_⟩;refine Eq.trans (if_neg Bool.false_ne_true) ?_;exact QB Qa (Q2 rfl) rfl
theorem A9{T:Nat}(hT:D.turn+4<=T)(hT2:T<=1000000):Piece 3 30 60 T (Qn (EX n [KC,KA,YH,YG,YF] (S1 dp way x1 t1 x2 t2 .u .u .u .u .u .u) D)):=by
 refine cps fun U y0=>?_;obtain⟨v,D1,hv,e1,hD1⟩:=Kx (n:=n+18) (D:=D) (vs:=Fc) (Kt hT hT2) (fun q=>by exact absurd q (by decide)) (Nat.le_of_ble_eq_true rfl);have hT1:=Jj hT hD1;obtain⟨m,D2,e2,m0,m1,hD2⟩:=Uq (n:=n+19) (D:=D1) (b:=9) (Kt hT1 hT2) (by decide) (by decide);have hT3:=Jj hT1 hD2;obtain⟨v2,D3,hv2,e3,hD3⟩:=Kx (n:=n+18) (D:=D2) (vs:=Fb) (Kt hT3 hT2) (fun q=>by exact absurd q (by decide)) (Nat.le_of_ble_eq_true rfl);have hT4:=Jj hT3 hD3;obtain⟨k,D4,e4,k0,k1,hD4⟩:=Uq (n:=n+19) (D:=D3) (b:=3) (Kt hT4 hT2) (by decide) (by decide);obtain⟨op,hop,rfl⟩:=List.mem_map.mp (show v∈[[43],[45],[42],[47],[109],[61,61],[60],[62,61]].map AV.str from hv);obtain⟨w,hw2,rfl⟩:=DI (ws:=[[110],[107]]) hv2;refine y0 ?_;have s1:exec (CF (n+20)) true [] 100000 KC (S1 dp way x1 t1 x2 t2 .u .u .u .u .u .u) D=some (.next,DM dp way x1 t1 x2 t2 op .u (1+m),D2):=
  YW (QV rfl (Qd (Q1 (Q2 rfl) (Q1 (U4 (PA _ _ _) (Nat.le_of_ble_eq_true rfl)) Q6)) e1)) (QV rfl (QB Qa (Qd (Q1 (Q2 rfl) (Q1 Qa Q6)) e2) rfl)) rfl
 refine Piece.nxt s1 ?_;obtain⟨num,hn,e5⟩:=AW (dp:=dp) (way:=way) (x1:=x1) (t1:=t1) (x2:=x2) (t2:=t2) (op:=op) m0 m1 e4;have s2:exec (CF (n+20)) true [] 100000 KA (DM dp way x1 t1 x2 t2 op .u (1+m)) D2=some (.next,DM dp way x1 t1 x2 t2 op (.val (.bytes w)) num,D4):=
  YW (QV rfl (Qd (Q1 (Q2 rfl) (Q1 (U4 (Pz _ _ _) (Nat.le_of_ble_eq_true rfl)) Q6)) e3)) (QV rfl e5) rfl
 exact Piece.nxt s2 (Piece.of_gets (zU (.val (.int dp)) (.val (.int way)) (.val (.tuple [.bytes x1,.bytes t1])) (.val (.tuple [.bytes x2,.bytes t2])) op hop w hw2 num hn) (Jj hT4 hD4))
noncomputable abbrev Nb:List Int:=[7,8,9,10,11,12,13,14,15,16]
theorem Al(dp:Int)(R:List SR)(D:Q8):Nb.map (fun way=>EX n (lp1::OV::OU::OT::OS::OR::R) (S0 dp way) D)=Nb.foldr (fun way r=>EX n R (S0 dp way) D::r) []:=by kernel_rfl
theorem Md{K N L c T:Nat}(hT:D.turn+2 * c+4<=T)(hT2:T<=1000000)(hK:3<=K)(hN:30<=N)(hL:60<=L)(hL2:L<=2400)(h0:7<=way)(h1:way < 17)(hp:∀D,D.turn+c<=1000000->Piece K N L (D.turn+c) (CF (n+20) .k42 [.deck,.int dp,.int (dp - 1)] D)):
  Piece (K+2) (N+8) (4 * L+20) T (Qn (EX n [lp1,OV,OU,OT,OS,OR,lp7,lp8,lp9,lp10,lp11,KC,KA,YH,YG,YF] (S0 dp way) D)):=by
 have hw:way∈Nb:=span 7 10 (by decide) h0 h1;refine Piece.pre ?_ (Rq (Al dp _ D) way hw);obtain⟨x1,t1,x2,t2,D',g1,g2,hD,e⟩:=Aq (n:=n) (D:=D) (way:=way) (R:=[lp8,lp9,lp10,lp11,KC,KA,YH,YG,YF]) (by omega) hp;refine Piece.pre ?_ e;have hT4:D'.turn+4<=T:=by omega
 have hT1:D'.turn+1<=T:=Nat.le_trans (Nat.add_le_add_left (by decide) _) hT4;have hT0:D'.turn+2<=T:=Nat.le_trans (Nat.add_le_add_left (by decide) _) hT4;have hL5:L<=2500:=Nat.le_trans hL2 (by decide);have w1:2 * L+10<=4 * L+20:=by omega
 have w2:60<=4 * L+20:=by omega
 have k1:3<=K+2:=Nat.le_trans hK (Nat.le_add_right _ _);have n1:30<=N+8:=Nat.le_trans hN (Nat.le_add_right _ _);have a1:K+1<=K+2:=Nat.le_succ _;have a2:N+4<=N+8:=Nat.add_le_add_left (by decide) _;have rr:T<=T:=Nat.le_refl _;have w9:∀way,truthOf (CF (n+20)) (.cmp .lt (.loc 3) (.lit (.int 13))) (S1 dp way x1 t1 x2 t2 .u .u .u .u .u .u) D'=some (true,D')->truthOf (CF (n+20)) (.cmp .lt (.loc 3) (.lit (.int 10))) (S1 dp way x1 t1 x2 t2 .u .u .u .u .u .u) D'=some (false,D')->
   Piece (K+2) (N+8) (4 * L+20) T (Qn (EX n [lp8,lp9,lp10,lp11,KC,KA,YH,YG,YF] (S1 dp way x1 t1 x2 t2 .u .u .u .u .u .u) D')):=fun way h h'=>Piece.pre ((DN (T:=T) hT1 hT2 g1 g2 hL5 h).weak a1 a2 w1 rr) (Jt h')
 have w15:∀way,EX n [lp8,lp9,lp10,lp11,KC,KA,YH,YG,YF] (S1 dp way x1 t1 x2 t2 .u .u .u .u .u .u) D'=EX n [KC,KA,YH,YG,YF] (S1 dp way x1 t1 x2 t2 .u .u .u .u .u .u) D'->
   Piece (K+2) (N+8) (4 * L+20) T (Qn (EX n [lp8,lp9,lp10,lp11,KC,KA,YH,YG,YF] (S1 dp way x1 t1 x2 t2 .u .u .u .u .u .u) D')):=fun way h=>Piece.pre ((A9 (T:=T) hT4 hT2).weak k1 n1 w2 rr) h
 exact QY (P:=fun way=>Piece (K+2) (N+8) (4 * L+20) T (Qn (EX n [lp8,lp9,lp10,lp11,KC,KA,YH,YG,YF] (S1 dp way x1 t1 x2 t2 .u .u .u .u .u .u) D')))
  (FP hT1 hT2 hK hN g1 g2 hL2 rfl) (QY (FP hT1 hT2 hK hN g1 g2 hL2 rfl) (QY (FP hT1 hT2 hK hN g1 g2 hL2 rfl) (QY (w9 10 rfl rfl) (QY (w9 11 rfl rfl) (QY (w9 12 rfl rfl)
  (QY (Piece.pre (r':=EX n [lp10,lp11,KC,KA,YH,YG,YF] (S1 dp 13 x1 t1 x2 t2 .u .u .u .u .u .u) D') ((Ab (T:=T) hT1 hT2 g1 g2 hL5).weak a1 a2 w1 rr) (by kernel_rfl)) (QY (Piece.pre (r':=EX n [lp11,KC,KA,YH,YG,YF] (S1 dp 14 x1 t1 x2 t2 .u .u .u .u .u .u) D') ((Aa (T:=T) hT0 hT2).weak k1 n1 w2 rr) (by kernel_rfl)) (QY (w15 15 (by kernel_rfl)) (QY (w15 16 (by kernel_rfl)) WU))))))))) way hw
end
section
variable {n:Nat}{Φ:Qj}{fl:Bool}{own:List Nat}{W:Nat}{D D1 D2:Q8}{ρ ρ1:List LV}{X Y:List SR}{dp way:Int}
noncomputable abbrev zg:List SR:=[lp1,OV,OU,OT,OS,OR,lp7,lp8,lp9,lp10,lp11,KC,KA,YH,YG,YF]
theorem Xs{b:Int}(hT:D.turn < 1000000)(hb:0 < b/\b<=1000)(hr:run (CF (n+20)) (.ite (.cmp .gt (.loc 1) (.lit (.int 0))) (.lit (.int 17)) (.lit (.int 7))) [.val .deck,.val (.int dp),.u,.u,.u,.u,.u,.u,.u,.u,.u,.u,.u,.u,.u,.u,.u,.u,.u,.u] D=some (.int b,D)):
  ∃way D',0<=way/\way < b/\D'.turn=D.turn+1/\CF (n+21) .k41 [.deck,.int dp] D=Qn (EX n zg (S0 dp way) D'):=by
 refine cps fun U y0=>?_;obtain⟨way,D',e,h0,h1,hD⟩:=Uq (n:=n+19) (D:=D) (b:=b) hT hb.1 hb.2;refine y0 ?_;refine⟨way,D',h0,h1,hD,?_⟩;refine Eq.trans (QC (by decide) rfl) ?_;show Qn (execs (CF (n+20)) true [] 100000 (lp0::zg) [.val .deck,.val (.int dp),.u,.u,.u,.u,.u,.u,.u,.u,.u,.u,.u,.u,.u,.u,.u,.u,.u,.u] D)=_;have s1:exec (CF (n+20)) true [] 100000 lp0 [.val .deck,.val (.int dp),.u,.u,.u,.u,.u,.u,.u,.u,.u,.u,.u,.u,.u,.u,.u,.u,.u,.u] D=some (.next,S0 dp way,D'):=
  YW (QV rfl (Qd Q6 (VE (n+18) D))) (QV rfl (Qd (Q1 (Q2 rfl) (Q1 hr Q6)) e)) rfl
 rw[cons_of s1]
theorem PD(hT:D.turn+4<=1000000):Piece 3 30 60 (D.turn+4) (CF (n+21) .k41 [.deck,.int 0] D):=by
 refine cps fun U y0=>?_;obtain⟨way,D',h0,h1,hD,e⟩:=Xs (n:=n) (D:=D) (dp:=0) (b:=7) (by lia) (by decide) rfl;refine y0 ?_;refine Eq.mpr (congrArg _ e) ?_;exact PC (by lia) hT h0 h1
theorem PB{K N L c:Nat}(hT:D.turn+(2 * c+5)<=1000000)(hK:3<=K)(hN:30<=N)(hL:60<=L)(hL2:L<=2400)(hd:0 < dp)(hp:∀D,D.turn+c<=1000000->Piece K N L (D.turn+c) (CF (n+20) .k42 [.deck,.int dp,.int (dp - 1)] D)):Piece (K+2) (N+8) (4 * L+20) (D.turn+(2 * c+5)) (CF (n+21) .k41 [.deck,.int dp] D):=by
 refine cps fun U y0=>?_;obtain⟨way,D',h0,h1,hD,e⟩:=Xs (n:=n) (D:=D) (dp:=dp) (b:=17) (by lia) (by decide) (Y2 (c:=true) (x:=.bool (decide (0 < dp))) (QA (Q2 rfl) Qa rfl) (by rw[decide_eq_true hd];rfl) (by rw[if_pos rfl,Qa]));refine y0 ?_;refine Eq.mpr (congrArg _ e) ?_;by_cases h:way < 7
 ·exact(PC (T:=D.turn+(2 * c+5)) (by omega) hT h0 h).weak (by lia) (by lia) (by lia) (Nat.le_refl _)
 ·exact Md (by omega) hT hK hN hL hL2 (by lia) h1 hp
noncomputable abbrev SP(most deep:Int)(x t:List Nat)(g p:LV):List LV:=[.val .deck,.val (.int most),.val (.int deep),.val (.bytes x),.val (.bytes t),g,p]
theorem Sl{K N L M c:Nat}{most deep i:Int}{x t:List Nat}{p:LV}(hT:D.turn+c<=1000000)(hp:∀D,D.turn+c<=1000000->Piece K N L (D.turn+c) (CF n .k41 [.deck,.int deep] D))(g:Good K N M x t)(hM:M+L<=20000):
  ∃x' t' p' D',Good K N (M+L) x' t'/\D'.turn<=D.turn+c/\execs (CF n) true [] 100000 piBody (SP most deep x t (.val (.int i)) p) D=some (.next,SP most deep x' t' (.val (.int i)) p',D'):=by
 refine cps fun U y0=>?_;obtain⟨y,u,D',e,g',hD⟩:=hp D hT;refine y0 ?_;have l1:=g.ln;have l2:=g'.ln;refine⟨x++y,t++u,.val (.tuple [.bytes y,.bytes u]),D',g.app g',hD,?_⟩;rw[cons_of (Qv rfl (Qd (Q1 (Q2 rfl) (Q1 (Q2 rfl) Q6)) e)),Qm];exact YW (QV rfl (Hn (x:=x) (y:=y) (Q2 rfl) (Zt (Q2 rfl) Qa rfl) (by simp;omega))) (QV rfl (Hn (x:=t) (y:=u) (Q2 rfl) (Zt (Q2 rfl) Qa rfl) (by simp;omega))) rfl
theorem Sk{K N L c:Nat}{most deep:Int}(hp:∀D,D.turn+c<=1000000->Piece K N L (D.turn+c) (CF n .k41 [.deck,.int deep] D)):∀(is:List Int) (M:Nat) (x t:List Nat) (g p:LV) (D:Q8),D.turn+is.length * c<=1000000->Good K N M x t->M+is.length * L<=20000->
  ∃x' t' g' p' D',Good K N (M+is.length * L) x' t'/\D'.turn<=D.turn+is.length * c/\JV [5] (fun ρ D=>execs (CF n) true [] 100000 piBody ρ D) (is.map .int) (SP most deep x t g p) D=some (.next,SP most deep x' t' g' p',D'):=by
 intro is
 induction is with
 | nil=>
  intro M x t g p D hT hg hM;exact⟨x,t,g,p,D,by simpa using hg,Nat.le_add_right _ _,rfl⟩
 | cons i is ih=>
  intro M x t g p D hT hg hM;have ec:(i::is).length * c=c+is.length * c:=by rw[List.length_cons,Nat.succ_mul];lia
  rw[ec] at hT;have em:(i::is).length * L=L+is.length * L:=by rw[List.length_cons,Nat.succ_mul];lia
  rw[em] at hM;refine cps fun U y0=>?_;obtain⟨x',t',p',D',hg',hD',e⟩:=Sl (D:=D) (most:=most) (i:=i) (p:=p) (by lia) hp hg (by lia);obtain⟨x2,t2,g2,p2,D2,hg2,hD2,e2⟩:=ih (M+L) x' t' (.val (.int i)) p' D' (by lia) hg' (by lia);refine y0 ?_;refine⟨x2,t2,g2,p2,D2,by rw[em];rw[<- Nat.add_assoc];exact hg2,by rw[ec];lia,?_⟩;have:JV [5] (fun ρ D=>execs (CF n) true [] 100000 piBody ρ D) ((i::is).map .int) (SP most deep x t g p) D=
   (match execs (CF n) true [] 100000 piBody (SP most deep x t (.val (.int i)) p) D with|some (.next,ρ1,D1)=>JV [5] (fun ρ D=>execs (CF n) true [] 100000 piBody ρ D) (is.map .int) ρ1 D1|r=>r):=rfl
  rw[this,e];exact e2
theorem HK{K N L c:Nat}{most:Nat}{deep:Int}(hT:D.turn+(1+most * c)<=1000000)(hm:most<=3)(hp:∀D,D.turn+c<=1000000->Piece K N L (D.turn+c) (CF (n+1) .k41 [.deck,.int deep] D))(hL:most * L<=20000):Piece K N (most * L) (D.turn+(1+most * c)) (CF (n+2) .k42 [.deck,.int (most:Nat),.int deep] D):=by
 refine cps fun U y0=>?_;obtain⟨r,D1,e,r0,r1,hD1⟩:=Uq (n:=n) (D:=D) (b:=(most:Nat)+1) (by omega) (by simp) (by lia);have hr:r=0\/r=1\/r=2\/r=3:=by lia
 obtain⟨is,hi,hl⟩:∃is:List Int,(B9 .range [.int r]).bind Ut=some (is.map .int)/\is.length<=most/\(is.map AV.int).length<=65536/\AV.noStrDs (is.map .int)=true:=by
  rcases hr with rfl|rfl|rfl|rfl
  ·exact⟨[],rfl,Nat.zero_le _,Nat.zero_le _,rfl⟩
  ·exact⟨[0],rfl,by simp;lia,by exact Nat.succ_pos _,rfl⟩
  ·exact⟨[0,1],rfl,by simp;lia,Nat.le_of_ble_eq_true rfl,rfl⟩
  ·exact⟨[0,1,2],rfl,by simp;lia,Nat.le_of_ble_eq_true rfl,rfl⟩
 have hle:is.length * L<=most * L:=Nat.mul_le_mul_right L hl.1;have hlc:is.length * c<=most * c:=Nat.mul_le_mul_right c hl.1;obtain⟨x,t,g,p,D2,hg,hD2,e2⟩:=Sk (most:=(most:Nat)) hp is 0 [] [] .u .u D1 (by lia) (Good.nil K N 0) (by lia);refine y0 ?_;rw[Nat.zero_add] at hg;refine⟨x,t,D2,?_,hg.weak (Nat.le_refl _) (Nat.le_refl _) hle,by lia⟩;refine Eq.trans (QC (by decide) rfl) ?_;show Qn (execs (CF (n+1)) true [] 100000 [NA,SR.fors [5] (IR.bi (Bi.range) [IR.call (Fn.k33) [IR.loc 0,IR.bin (Op.add) (IR.loc 1) (IR.lit (AV.int 1))]]) piBody,Ff] [.val .deck,.val (.int (most:Nat)),.val (.int deep),.u,.u,.u,.u] D)=_;have s1:exec (CF (n+1)) true [] 100000 NA [.val .deck,.val (.int (most:Nat)),.val (.int deep),.u,.u,.u,.u] D=some (.next,SP (most:Nat) deep [] [] .u .u,D):=rfl;rw[cons_of s1];refine cps fun U y0=>?_;obtain⟨v,hv,hi⟩:=Option.bind_eq_some_iff.mp hi;refine y0 ?_;have s2:exec (CF (n+1)) true [] 100000 (SR.fors [5] (IR.bi (Bi.range) [IR.call (Fn.k33) [IR.loc 0,IR.bin (Op.add) (IR.loc 1) (IR.lit (AV.int 1))]]) piBody) (SP (most:Nat) deep [] [] .u .u) D=some (.next,SP (most:Nat) deep x t g p,D2):=by
  dsimp only[exec];rw[Jk (Q1 (Qd (Q1 (Q2 rfl) (Q1 (QB (Q2 rfl) Qa rfl) Q6)) e) Q6) hv];dsimp only;rw[hi];dsimp only;rw[if_pos ⟨hl.2.1,hl.2.2⟩];exact e2
 rw[cons_of s2,Qr (QJ (JG (Q1 (Q2 rfl) (Q1 (Q2 rfl) Q6)) (by simp)))];rfl
theorem Nz(D:Q8)(hT:D.turn+202<=1000000):Piece 7 46 6300 (D.turn+202) (CF (n+27) .k42 [.deck,.int 3,.int 2] D):=by
 have p0:∀D,D.turn+4<=1000000->Piece 3 30 60 (D.turn+4) (CF (n+22) .k41 [.deck,.int 0] D):=fun D h=>PD (n:=n+1) h;have q1:∀D,D.turn+5<=1000000->Piece 3 30 60 (D.turn+5) (CF (n+23) .k42 [.deck,.int 1,.int 0] D):=fun D h=>(HK (n:=n+21) (D:=D) (c:=4) (most:=1) (deep:=0) (by omega) (Nat.le_add_left _ _) p0 (Nat.le_add_left _ _)).weak (Nat.le_refl _) (Nat.le_refl _) (Nat.le_refl _) (Nat.le_refl _);have p1:∀D,D.turn+15<=1000000->Piece 5 38 260 (D.turn+15) (CF (n+24) .k41 [.deck,.int 1] D):=fun D h=>PB (n:=n+3) (K:=3) (N:=30) (L:=60) (c:=5) (by omega) (Nat.le_refl _) (Nat.le_refl _) (Nat.le_refl _) (Nat.le_add_left _ _) (Int.natCast_nonneg _) q1;have q2:∀D,D.turn+31<=1000000->Piece 5 38 520 (D.turn+31) (CF (n+25) .k42 [.deck,.int 2,.int 1] D):=fun D h=>(HK (n:=n+23) (D:=D) (c:=15) (most:=2) (deep:=1) (by omega) (Nat.le_succ _) p1 (Nat.le_add_left _ _)).weak (Nat.le_refl _) (Nat.le_refl _) (Nat.le_refl _) (Nat.le_refl _);have p2:∀D,D.turn+67<=1000000->Piece 7 46 2100 (D.turn+67) (CF (n+26) .k41 [.deck,.int 2] D):=fun D h=>PB (n:=n+5) (K:=5) (N:=38) (L:=520) (c:=31) (by omega) (Nat.le_add_left _ _) (Nat.le_add_left _ _) (Nat.le_add_left _ _) (Nat.le_add_left _ _) (Int.natCast_nonneg _) q2;exact(HK (n:=n+25) (D:=D) (c:=67) (most:=3) (deep:=2) (by omega) (Nat.le_refl _) p2 (Nat.le_add_left _ _)).weak (Nat.le_refl _) (Nat.le_refl _) (Nat.le_refl _) (Nat.le_refl _)
end
section
variable {n:Nat}{Φ:Qj}{fl:Bool}{own:List Nat}{W:Nat}{D D1 D2:Q8}{ρ ρ1:List LV}{X Y:List SR}
theorem Ll{K N L:Nat}{x t:List Nat}(g:Good K N L x t)(hK:K<=10)(hL:L<=20000)(hn:N+1<=n)(hn2:2<=n):CF (n+1) .k11 [.bytes x,Qb] D=some (.bytes t,D):=by
 refine Eq.trans (QC (by decide) rfl) ?_;show Qn (execs (CF n) true [] 100000 [SR.ret (IR.call (Fn.k12) [IR.loc 0,IR.loc 1,IR.lit (AV.int 0)])] [.val (.bytes x),.val Qb] D)=_;refine(congrArg _ (Qr (QJ (Qd (Q1 (Q2 rfl) (Q1 (Q2 rfl) (Q1 Qa Q6))) (g.run hL hn hn2 (by decide) (by lia) D))))).trans ?_;rfl
theorem O6(n:Nat)(D:Q8):CF (n+20) .k11 [.bytes [35,123,63,99,44,120,44,121,125,35,123,63,97,44,49,44,50,125],Qb] D=some (.bytes [121,49],D):=by kernel_rfl
theorem I0:∀{t:List Nat},isInfix [35] t=false->∀c∈t,c≠35:=by
 intro zz
 induction zz with
 | nil=>
  intro _ c hc;refine False.elim ?_;cases hc
 | cons a r ih=>
  intro h c hc;dsimp only[isInfix] at h;rw[Bool.or_eq_false_iff] at h;rcases List.mem_cons.mp hc with rfl|hc
  ·rintro rfl;have:=h.1;cases this
  ·exact ih h.2 c hc
noncomputable abbrev XG(t:List Nat)(acc:List AV)(k:Int)(v:LV):List LV:=[.val (.bytes t),.own acc,.val (.int k),v]
theorem M4{t:List Nat}{k m:Nat}{z:List Nat}(hb:Qi t=true)(hz:(t.take m).drop k=z)(hk:k < 100000)(hm:m < 100000){a b:IR}(ha:run Φ a ρ D=some (.int (k:Nat),D))(hb2:run Φ b ρ D=some (.int (m:Nat),D))(ht:run Φ (.loc 0) ρ D=some (.bytes t,D)):
  run Φ (.slc (.loc 0) (some a) (some b)) ρ D=some (.bytes z,D):=
 ZQ ht (Qp ha (Zg (Nat.lt_of_lt_of_le (by assumption) (by decide)))) (Qp hb2 (Zg (Nat.lt_of_lt_of_le (by assumption) (by decide)))) (U2 hb hz)
theorem VF{a:IR}{k m:Nat}(ha:run Φ a ρ D=some (.int (k:Nat),D)):run Φ (.bin .add a (.lit (.int (m:Nat)))) ρ D=some (.int ((k+m:Nat)),D):=by
 refine QB ha Qa ?_;congr 2
theorem TP{t:List Nat}{k m:Nat}{y:List Nat}(h:∀c∈t,c≠35)(hk:k < t.length)(hm:k < m):((t.take m).drop k == 35::y)=false:=by
 rw[beq_eq_false_iff_ne];intro q;have:(35:Nat)∈(t.take m).drop k:=by rw[q];simp
 exact h 35 (List.mem_of_mem_take (List.mem_of_mem_drop this)) rfl
theorem Nv{Φ:Qj}{ρ:List LV}{D D1 D2:Q8}{o1 o2:Co}{a b c:IR}{x y:AV}(h1:run Φ a ρ D=some (x,D1))(h2:run Φ b ρ D1=some (y,D2))(h3:Jh o1 x y=some false):run Φ (.cmp2 o1 o2 a b c) ρ D=some (.bool false,D2):=by
 dsimp only[run];rw[h1];dsimp only;rw[h2];dsimp only;rw[h3]
theorem E4{t:List Nat}{acc:List AV}{k:Nat}{v:LV}(hb:Qi t=true)(hl:t.length<=20000)(h:∀c∈t,c≠35)(h128:∀c∈t,c < 128)(hk:k < t.length)(ha:acc.length<=20000):
  execs Φ fl own 100000 W7 (XG t acc (k:Nat) v) D=some (.next,XG t (acc++[.tuple [.bool true,.bytes ((t.take (k+1)).drop k)]]) ((k+1:Nat)) (.val (.int ((k+1:Nat)))),D):=by
 have l0:∀v,run Φ (IR.loc 0) (XG t acc (k:Nat) v) D=some (.bytes t,D):=fun v=>Q2 rfl;have l2:∀v,run Φ (IR.loc 2) (XG t acc (k:Nat) v) D=some (.int (k:Nat),D):=fun v=>Q2 rfl;have e1:exec Φ fl own 100000 zl (XG t acc (k:Nat) v) D=some (.next,XG t acc (k:Nat) (.val (.int (-1))),D):=by
  refine Qv rfl (Y2 (D1:=D) (c:=false) (x:=.bool false) ?_ rfl ?_)
  ·refine QA (M4 hb rfl (by omega) (m:=k+2) (by omega) (l2 v) (VF (l2 v)) (l0 v)) Qa ?_;rw[Vf,TP h hk (Nat.le_succ _)]
  ·exact(if_neg Bool.false_ne_true)
 refine((cons_of e1).trans ((Qm ..).trans ((Z0 (D1:=D) rfl).trans ?_)));have e2:exec Φ fl own 100000 (SR.set 3 (IR.bin (Op.add) (IR.loc 2) (IR.lit (AV.int 1)))) (XG t acc (k:Nat) (.val (.int (-1)))) D=some (.next,XG t acc (k:Nat) (.val (.int ((k+1:Nat)))),D):=
  Qv rfl (VF (m:=1) (l2 _))
 have l3:run Φ (IR.loc 3) (XG t acc (k:Nat) (.val (.int ((k+1:Nat))))) D=some (.int ((k+1:Nat)),D):=Q2 rfl;refine Eq.trans (cons_of e2) ?_;rw[cons_of (ρ1:=XG t acc (k:Nat) (.val (.int ((k+1:Nat))))) (D1:=D) ((Z0 (D1:=D) ?_).trans execs_nil)]
 ·have e3:exec Φ fl own 100000 (SR.whiles (IR.and (IR.cmp (Co.lt) (IR.loc 3) (IR.bi (Bi.len) [IR.loc 0])) (IR.and (IR.cmp2 (Co.le) (Co.lt) (IR.lit (AV.int 128)) (IR.idx (IR.loc 0) (IR.loc 3)) (IR.lit (AV.int 192))) (IR.cmp (Co.ge) (IR.idx (IR.loc 0) (IR.loc 2)) (IR.lit (AV.int 192))))) [SR.aug 3 (Op.add) (IR.lit (AV.int 1))]) (XG t acc (k:Nat) (.val (.int ((k+1:Nat))))) D=some (.next,XG t acc (k:Nat) (.val (.int ((k+1:Nat)))),D):=by
   rw[ZP,show(100000:Nat)=99999+1 from rfl];refine Ul ?_;by_cases hk1:k+1 < t.length
   ·have hc:=h128 t[k+1] (List.getElem_mem _);refine ZE (x:=.bool false) (JH (QA (Q2 rfl) (Jk (Q1 (Q2 rfl) Q6) (JA hb)) (z:=true) ?_) rfl ?_) rfl
    ·show some (decide (((k+1:Nat):Int) < ((t.length:Nat):Int)))=_;exact congrArg _ (decide_eq_true (by omega))
    ·refine Eq.trans (if_pos rfl) ?_;refine JH (x:=.bool false) (c:=false) (D1:=D) ?_ rfl (if_neg Bool.false_ne_true);have hi:run Φ (IR.idx (IR.loc 0) (IR.loc 3)) (XG t acc (k:Nat) (.val (.int ((k+1:Nat))))) D=some (.int ((t[k+1]:Nat)),D):=Zt (Q2 rfl) (Q2 rfl) (((K7 hb).trans (congrArg _ (List.getElem?_eq_getElem hk1))));exact Nv Qa hi (congrArg some (decide_eq_false (by lia)))
   ·refine ZE (x:=.bool false) (JH (QA (Q2 rfl) (Jk (Q1 (Q2 rfl) Q6) (JA hb)) (z:=false) ?_) rfl ?_) rfl
    ·show some (decide (((k+1:Nat):Int) < ((t.length:Nat):Int)))=_;exact congrArg _ (decide_eq_false (by omega))
    ·rfl
  refine Eq.trans (cons_of e3) ?_;rw[cons_of (YO (l:=acc) (v:=.tuple [.bool true,.bytes ((t.take (k+1)).drop k)]) (D1:=D) rfl (JG (Q1 Qa (Q1 (M4 hb rfl (by omega) (by omega) (l2 _) l3 (l0 _)) Q6)) (by simp)) (Nat.le_trans (by assumption) (Nat.le_of_ble_eq_true rfl)))];refine((Qm ..).trans ((Qv (v:=.int ((k+1:Nat))) (D1:=D) rfl (Q2 rfl)).trans ?_));rfl
 ·refine Z1 (x:=.bytes ((t.take (k+3)).drop k)) (M4 hb rfl (by omega) (by omega) (l2 _) (VF (l2 _)) (l0 _)) Qa ?_;rw[Vf,TP h hk (by simp)]
theorem E3{t:List Nat}(hb:Qi t=true)(hl:t.length<=20000)(h:∀c∈t,c≠35)(h128:∀c∈t,c < 128):∀(m k w:Nat) (acc:List AV) (v:LV),k+m=t.length->acc.length=k->(∀a∈acc,∃z,a=.tuple [.bool true,.bytes z])->
  ∃acc' v',acc'.length=t.length/\(∀a∈acc',∃z,a=.tuple [.bool true,.bytes z])/\iter (fun ρ D=>truthOf Φ Uv ρ D) (fun ρ D=>execs Φ fl own 100000 W7 ρ D) (w+m+1) (XG t acc (k:Nat) v) D=some (.next,XG t acc' ((t.length:Nat)) v',D):=by
 intro m
 induction m with
 | zero=>
  intro k w acc v hk ha hz;have:k=t.length:=by omega
  subst this;refine⟨acc,v,ha,hz,Ul (D1:=D) ?_⟩;refine Z1 (Q2 rfl) (Jk (Q1 (Q2 rfl) Q6) (JA hb)) ?_;show some (decide (((t.length:Nat):Int) < ((t.length:Nat):Int)))=_;rw[decide_eq_false (by simp)]
 | succ m ih=>
  intro k w acc v hk ha hz;have hT:truthOf Φ Uv (XG t acc (k:Nat) v) D=some (true,D):=by
   refine Z1 (Q2 rfl) (Jk (Q1 (Q2 rfl) Q6) (JA hb)) ?_;show some (decide (((k:Nat):Int) < ((t.length:Nat):Int)))=_;rw[decide_eq_true (by lia)]
  obtain⟨acc',v',i1,i2,i3⟩:=ih (k+1) w (acc++[.tuple [.bool true,.bytes ((t.take (k+1)).drop k)]]) (.val (.int ((k+1:Nat)))) (by lia) (by simp[ha]) (fun a hm=>by
   rcases List.mem_append.mp hm with q|q
   ·exact hz a q
   ·simp at q;exact⟨_,q⟩)
  refine⟨acc',v',i1,i2,?_⟩;rw[show w+(m+1)+1=(w+m+1)+1 by omega];exact(J3 hT (E4 hb hl h h128 (by lia) (by lia))).trans i3
theorem Ri{f:AV->Q8->Option (Option AV×Q8)}:∀{l:List AV} {D:Q8},(∀v∈l,f v D=some (some v,D))->Ua f l D=some (l,D):=by
 intro zz
 induction zz with
 | nil=>
  intro D _;exact rfl
 | cons v r ih=>
  intro D h;dsimp only[Ua];rw[h v (.head _)];dsimp only;rw[ih (fun u hu=>h u (by simp[hu]))];rfl
theorem KZ{Φ:Qj}{ρ:List LV}{D D1:Q8}{fr:List Nat}{e it:IR}{c:Option IR}{x:AV}{l:List AV}(h:run Φ it ρ D=some (x,D1))(hi:Ut x=some l)(hl:l.length<=65536) (hf:∀v∈l,(match U5 Φ c (Ju fr ρ++[.val v]) D1 with
  | some (true,D1)=>(match run Φ e (Ju fr ρ++[.val v]) D1 with|some (y,D2)=>some (some y,D2)|none=>none)
  | some (false,D1)=>some (none,D1)
  | none=>none)=some (some v,D1)):run Φ (.comp fr e it c) ρ D=some (.list l,D1):=by
 dsimp only[run];rw[h];dsimp only;rw[hi];dsimp only;rw[if_pos hl,Ri hf]
theorem GX{Φ:Qj}{fl:Bool}{own:List Nat}{W:Nat}{ρ:List LV}{D D1:Q8}{is:List Nat}{e:IR}{b:List SR}{x:AV}{l:List AV}(h:run Φ e ρ D=some (x,D1))(hi:Ut x=some l)(hl:l.length<=65536/\AV.noStrDs l=true):
  exec Φ fl own W (.fors is e b) ρ D=JV is (fun ρ D=>execs Φ fl own W b ρ D) l ρ D1:=by
 dsimp only[exec];rw[h];dsimp only;rw[hi];exact if_pos hl
theorem E9{t:List Nat}(hl:t.length<=20000)(h:∀c∈t,c≠35)(h128:∀c∈t,c < 128):CF (n+3) .k28 [.bytes t] D=some (.int (t.length:Nat),D):=by
 have hb:Qi t=true:=Rt (Nat.le_trans (by assumption) (Nat.le_of_ble_eq_true rfl));refine cps fun U y0=>?_;obtain⟨acc,v,a1,a2,a3⟩:=E3 (Φ:=CF (n+1)) (fl:=true) (own:=[1]) (D:=D) hb hl h h128 t.length 0 (100000 - t.length - 1) [] .u (by simp) rfl (by simp);refine y0 ?_;rw[show 100000 - t.length - 1+t.length+1=100000 by omega] at a3;have e1:CF (n+2) .k27 [.bytes t] D=some (.list acc,D):=by
  refine Eq.trans (QC (by decide) rfl) ?_;show Qn (execs (CF (n+1)) true [1] 100000 [SR.setN [1,2] [IR.lst [],IR.lit (AV.int 0)],SR.whiles Uv W7,SR.ret (IR.loc 1)] [.val (.bytes t),.u,.u,.u] D)=_;have s1:exec (CF (n+1)) true [1] 100000 (SR.setN [1,2] [IR.lst [],IR.lit (AV.int 0)]) [.val (.bytes t),.u,.u,.u] D=some (.next,XG t [] ((0:Nat)) .u,D):=rfl;have s2:=(ZP (Φ:=CF (n+1)) (fl:=true) (own:=[1]) (W:=100000) (t:=Uv) (b:=W7) (D:=D)).trans a3;rw[cons_of s1,cons_of s2,Qr (QJ (v:=.list acc) (D1:=D) (Q2 rfl))];rfl
 refine Eq.trans (QC (by decide) rfl) ?_;show Qn (execs (CF (n+2)) true [] 100000 [SR.ret (IR.bi (Bi.len) [IR.comp [] (IR.loc 1) (IR.call (Fn.k27) [IR.loc 0]) (some (IR.idx (IR.loc 1) (IR.lit (AV.int 0))))])] [.val (.bytes t)] D)=_;have e2:run (CF (n+2)) (IR.comp [] (IR.loc 1) (IR.call (Fn.k27) [IR.loc 0]) (some (IR.idx (IR.loc 1) (IR.lit (AV.int 0))))) [.val (.bytes t)] D=some (.list acc,D):=by
  exact KZ (Qd (Q1 (Q2 rfl) Q6) e1) rfl (by omega) fun v hv=>by obtain⟨z,rfl⟩:=a2 v hv;rfl
 rw[Qr (QJ (v:=.int (t.length:Nat)) (D1:=D) (Jk (Q1 e2 Q6) ?_))]
 ·rfl
 ·refine(a1 ..)▸?_;exact if_pos (by omega)
noncomputable def KJ(e:List Nat):Prop:=e=[35,123,97]\/e=[35,40,120]\/e=[35,123,63,97,44,120]\/e=[35,123,61,51,58,116,105,116,108,101]
theorem Cw{K N L:Nat}{x t e:List Nat}(g:Good K N L x t)(hK:K<=10)(hL:L<=10000)(hn:N<=n)(he:KJ e):Ys QN 100000 (n+2) .k12 [.bytes (x++e),Qb,.int 0] D=some (.exc (.int (x.length:Nat)),D):=by
 have le:e.length<=10/\(∀c∈e,c < 256)/\e.head?≠some 91:=by rcases he with rfl|rfl|rfl|rfl<;>decide
 have l1:=g.ln;have ho:Ud (x++e):=⟨by simp;omega,fun c hc=>(List.mem_append.mp hc).elim (g.oc.1 c) (le.2.1 c)⟩
 obtain⟨c,s',e',hc,k⟩:=g.ex (n+1) 0 (by omega) (by omega) (by omega) [] e [] D .u .u (by simpa using ho) le.2.2 (by simp;omega);simp only[List.nil_append,List.length_nil,Nat.zero_add] at k;have k:=k (100000 - c - 1+1);rw[show 100000 - c - 1+1+c=100000 by omega] at k;have bad:∃ρ1,execs (CF (n+1)) true [3] 100000 Zy (J8 (x++e) 0 t (x.length:Nat) s' e') D=some (.exc (.int (x.length:Nat)),ρ1,D):=by
  have go:∀(c2:Nat) (r:List Nat),e=35::c2::r->(c2=123/\Jg [125] 0 r=none\/c2=40/\Jg [41] 0 r=none)->∃ρ1,execs (CF (n+1)) true [3] 100000 Zy (J8 (x++e) 0 t (x.length:Nat) s' e') D=some (.exc (.int (x.length:Nat)),ρ1,D):=fun c2 r q hq=>by
   subst q;have hb:=ho.ok;have e0:x++35::c2::r=(x++[35,c2])++r:=by simp
   have e2:(((x++[35,c2]).length:Nat):Int)=((x.length:Nat):Int)+2:=by simp
   rcases hq with⟨rfl,hf⟩|⟨rfl,hf⟩
   ·have h1:=Wb (n:=n) (pre:=x++[35,123]) (r:=r) (ends:=[125]) (D:=D) (by rw[<- e0];exact ho);rw[hf,<-e0,e2] at h1;exact⟨_,(Jn hb).trans (XP h1)⟩
   ·have h1:=Wb (n:=n) (pre:=x++[35,40]) (r:=r) (ends:=[41]) (D:=D) (by rw[<- e0];exact ho);rw[hf,<-e0,e2] at h1;exact⟨_,(Jn hb).trans (NU h1)⟩
  rcases he with rfl|rfl|rfl|rfl
  ·exact go 123 [97] rfl (.inl ⟨rfl,by decide⟩)
  ·exact go 40 [120] rfl (.inr ⟨rfl,by decide⟩)
  ·exact go 123 [63,97,44,120] rfl (.inl ⟨rfl,by decide⟩)
  ·exact go 123 [61,51,58,116,105,116,108,101] rfl (.inl ⟨rfl,by decide⟩)
 obtain⟨ρ1,bad⟩:=bad;have hT:truthOf (CF (n+1)) JJ (J8 (x++e) 0 t (x.length:Nat) s' e') D=some (true,D):=by
  have:0 < e.length:=by rcases he with rfl|rfl|rfl|rfl<;>decide
  rw[Tr ho.ok,decide_eq_true (by simp;omega)]
 have k2:lp (n+1) (100000 - c - 1+1) (J8 (x++e) 0 t (x.length:Nat) s' e') D=some (.exc (.int (x.length:Nat)),ρ1,D):=by
  show iter _ _ _ _ _=_;dsimp only[iter];rw[hT];dsimp only;rw[bad]
 have k3:exec (CF (n+1)) true [3] 100000 (.whiles JJ Zy) (J8 (x++e) 0 [] 0 .u .u) D=some (.exc (.int (x.length:Nat)),ρ1,D):=by rw[ZP];exact k.trans k2
 have e1:exec (CF (n+1)) true [3] 100000 (SR.setN [3,4,5] [IR.bi (Bi.bytearray) [],IR.lit (AV.int 0),IR.call (Fn.k2) []]) [.val (.bytes (x++e)),.val Qb,.val (.int 0),.u,.u,.u,.u,.u] D=some (.next,J8 (x++e) 0 [] 0 .u .u,D):=by
  kernel_rfl
 have key:execs (CF (n+1)) true [3] 100000 Zd [.val (.bytes (x++e)),.val Qb,.val (.int 0),.u,.u,.u,.u,.u] D=some (.exc (.int (x.length:Nat)),ρ1,D):=by
  rw[H9,cons_of e1,LK k3]
 rw[show n+2=n+1+1 from rfl,U0,if_neg (by decide),if_pos (show[AV.bytes (x++e),Qb,AV.int 0].length=(QN .k12).params from rfl)];show(match execs (CF (n+1)) true [3] 100000 Zd [.val (.bytes (x++e)),.val Qb,.val (.int 0),.u,.u,.u,.u,.u] D with
  | some (Out.ret v,_,D1)=>some (Out.ret v,D1)|some (Out.next,_,D1)=>some (Out.ret AV.none,D1)|some (Out.exc v,_,D1)=>some (Out.exc v,D1)|none=>none)=_
 rw[key]
end
section
variable {n:Nat}{Φ:Qj}{fl:Bool}{own:List Nat}{W:Nat}{D D1 D2:Q8}{ρ ρ1:List LV}
theorem Xv:∀(is:List Int),AV.noStrDs (is.map .int)=true:=by
 intro zz
 induction zz with
 | nil=>
  exact rfl
 | cons i is ih=>
  rw[List.map_cons];dsimp only[AV.noStrDs,AV.noStrD];rw[ih];rfl
theorem SD{sc cs:AV}:∀(is:List Int) (c:LV) (m:Int),0<=m->m < 2147483587->∃c' m',JV [1] (fun ρ D=>execs Φ fl own W KD ρ D) (is.map .int) [.val sc,c,.val cs,.val (.int m)] D=some (.next,[.val sc,c',.val cs,.val (.int m')],D):=by
 intro is
 induction is with
 | nil=>
  intro c m _ _;exact⟨c,m,rfl⟩
 | cons i is ih0=>
  intro c m h0 h1;have e:execs Φ fl own W KD [.val sc,.val (.int i),.val cs,.val (.int m)] D=some (.next,[.val sc,.val (.int i),.val cs,.val (.int ((m * 48271+i.fmod 2147483629+4444).fmod 2147483587))],D):=by
   refine Eq.trans Qm ?_;have e1:run Φ (IR.bin (Op.mul) (IR.loc 3) (IR.lit (AV.int 48271))) [.val sc,.val (.int i),.val cs,.val (.int m)] D=some (.int (m * 48271),D):=by
    refine QB (Q2 rfl) Qa ?_;unfold Uc;dsimp only;rw[if_pos];unfold Uo;simp only[Bool.and_eq_true,decide_eq_true_eq];exact⟨by lia,by decide⟩
   have e2:run Φ (IR.bin (Op.mod) (IR.loc 1) (IR.lit (AV.int 2147483629))) [.val sc,.val (.int i),.val cs,.val (.int m)] D=some (.int (i.fmod 2147483629),D):=QB (Q2 rfl) Qa rfl;exact Qv rfl (QB (QB (z:=.int (m * 48271+i.fmod 2147483629+4444)) (QB (z:=.int (m * 48271+i.fmod 2147483629)) e1 e2 rfl) Qa rfl) Qa rfl)
  obtain⟨c',m',ih⟩:=ih0 (.val (.int i)) ((m * 48271+i.fmod 2147483629+4444).fmod 2147483587) (Int.fmod_nonneg_of_pos _ (by decide)) (Int.fmod_lt_of_pos _ (by decide));refine⟨c',m',?_⟩;have:JV [1] (fun ρ D=>execs Φ fl own W KD ρ D) ((i::is).map .int) [.val sc,c,.val cs,.val (.int m)] D=
   (match execs Φ fl own W KD [.val sc,.val (.int i),.val cs,.val (.int m)] D with|some (.next,ρ1,D1)=>JV [1] (fun ρ D=>execs Φ fl own W KD ρ D) (is.map .int) ρ1 D1|r=>r):=rfl
  rw[this,e];exact ih
end
end
section
open PySem PySem.W PySem.Calls PyProof.Rows SeqAt
structure ZO(X:Qu)(D:Q8)(h:Heap)(od oc:Obj):Prop where
 ne:X.da≠X.ca
 sys:(X.da == sysModules)=false
 hd:h.get? X.da=some od
 hc:h.get? X.ca=some oc
 isd:∃t1 t2,od.IsDictOf (strKind pw X.w) [(("cells":Str),Value.ref X.ca),("mixed",.int D.mixed t1),("turn",.int (D.turn:Nat) t2)]
 isl:∃vs n,oc.cls=.type "list"/\oc.data=.seq vs n/\oc.dict=none/\oc.slots=#[]/\IntsAre vs.toList D.cells
 few:D.cells.length<=1000
theorem ZO.of{X:Qu}{D:Q8}{h:Heap}(d:QO X D h)(hne:X.dk≠[]):X.dk=[X.da,X.ca]/\∃od oc,ZO X D h od oc:=by
 rcases d with d|⟨a,b,c,⟨t1,t2,e⟩,o,vs,n,e1,e2,e3,e4,e5,e6,e7⟩
 ·exact absurd d hne
 ·obtain⟨od,ho,hi⟩:=Heap.dictOf_iff.mp e;exact⟨a,od,o,b,c,ho,e1,⟨t1,t2,hi⟩,⟨vs,n,e2,e3,e4,e5,e6⟩,e7⟩
theorem ZO.to{X:Qu}{D:Q8}{h:Heap}{od oc:Obj}(d:ZO X D h od oc)(hdk:X.dk=[X.da,X.ca]):QO X D h:=by
 refine cps fun U y0=>?_;obtain⟨t1,t2,hi⟩:=d.isd;obtain⟨vs,n,e2,e3,e4,e5,e6⟩:=d.isl;refine y0 ?_;exact .inr ⟨hdk,d.ne,d.sys,⟨t1,t2,Heap.dictOf_iff.mpr ⟨od,d.hd,hi⟩⟩,oc,vs,n,d.hc,e2,e3,e4,e5,e6,d.few⟩
theorem L6{X:Qu}{P0 g:PM}:∀{is:List Int} {vs:List Value},Qo X P0 g (is.map .int) vs->IntsAre vs is:=by
 intro zz
 induction zz with
 | nil=>
  intro vs h;skip;subst h;exact .nil
 | cons i is ih=>
  intro vs h;rw[List.map_cons] at h;obtain⟨v,r,rfl,h1,h2⟩:=h;dsimp only[VR] at h1;obtain⟨t,rfl⟩:=h1;exact .cons _ _ (ih h2)
noncomputable def NN:AV->Bool|.deck=>true|_=>false
noncomputable def intD(v:AV)(f:Int->Option (AV×Q8)):Option (AV×Q8):=match v with|.int c=>f c|_=>none
noncomputable def ZC:Qj:=fun f as D=>match f with
 | .k34=>(one as).elim none fun v=>cond (NN v) (some (.int (D.turn:Nat),D)) none
 | .k35=>(one as).elim none fun v=>cond (NN v) (some (.int D.mixed,D)) none
 | .k36=>(one as).elim none fun v=>cond (NN v) (some (.bool (!D.cells.isEmpty),D)) none
 | .k40=>(one as).elim none fun v=>cond (NN v) (D.cells.getLast?.map fun c=>(.int c,{ D with cells:=D.cells.dropLast })) none
 | .k37=>(two as).elim none fun v=>cond (NN v.1) (intD v.2 fun c=>cond (decide (D.cells.length < 1000)) (some (.none,{ D with cells:=D.cells++[c] })) none) none
 | .k38=>(two as).elim none fun v=>cond (NN v.1) (intD v.2 fun c=>cond (decide (0<=c)) (some (.none,{ D with turn:=c.toNat })) none) none
 | _=>none
theorem J5{α:Type}{b:Bool}{x:Option α}{r:α}(h:cond b x none=some r):b=true/\x=some r:=by cases b;exact Qf h;exact⟨rfl,h⟩
theorem Y8{v:AV}(h:NN v=true):v=.deck:=by cases v<;>first|rfl|exact Bool.noConfusion h
theorem V9{v:AV}{f:Int->Option (AV×Q8)}{r:AV×Q8}(h:intD v f=some r):∃c,v=.int c/\f c=some r:=by cases v<;>first|exact Qf h|exact⟨_,rfl,h⟩
section
variable {X:Qu}{n:Nat}{env:Env}{names:List Str}{nk:List (Str×NameKind)}{x:Str}
variable {A:Around}{P0 g g1:PM}{P:PF}{s:Shared}{E:VP}{fl:Bool}{own:Nat->Option Addr}{ρ:List LV}{D D':Q8}{o:List Nat}{W:Nat}
theorem KU{M:Model}{o:Expr}{m:Str}{apos pos:Pos}{es:List Expr}{Q:VP}(hb:∀w,attributeBase o m env w=w)(hline:(apos.endLine == pos.line)=true)(hst:∀e∈es,notStar e=true)(hlen:es.length < 30)
  (h:QD M A (eval o env) (fun ov s₁=>∀pl,wpAny M A (getMethod ov m pl) (fun fx s₂=>QD M A (callWith pos fx.1 fx.2 (backTo pos (starEach es env)) []) Q E s₂) E s₁) E s):
  QD M A (eval (.Call (.Attribute o m apos) es [] pos) env) Q E s:=by
 rw[arm_eval_Call,hb];refine Q0 (Zu h (fun ov s₁ h₁=>?_) fun Z Z x=>x);refine Q0 (Q4 ?_);show QD M A (methodCall o m apos pos env ov (es.length+0) (backTo pos (starEach es env)) []) Q E s₁;dsimp only[methodCall];have hall:∀{l:List Expr},(∀e∈l,notStar e=true)->(backTo pos (starEach l env)).all (!·.1)=true:=fun{l} hl=>by
  induction l with
  | nil=>rfl
  | cons e l ih=>
   rw[Zf (hl e List.mem_cons_self)];refine Eq.trans (ih fun e he=>hl e (List.mem_cons_of_mem _ he)) ?_;rfl
 have few:methodCallForm (es.length+0) (backTo pos (starEach es env)) []=true:=by
  unfold methodCallForm;rw[hall hst];simp;omega
 rw[few];refine Q0 (Q5 (Q3 (wpAny_mono (h₁ _) (fun fx s₂ h₂=>?_) fun Z Z x=>x)));have f:=fx.1;have first:=fx.2
 refine Q9 (wpAny_of_eq (a:=pos) ?_ h₂);unfold methodCallPos;rw[hline];rfl
theorem UR(ok:QS env nk)(hdk:X.dk=[X.da,X.ca])(hi:names[0]?=some x)(hx:(x == ("__classdict__":Str))=false)(hy:(x == ("__debug__":Str))=false){key:Str}{k:Nat}{p1 p2 p3:Pos}{Φ:Qj}
  {pick:Tok->Tok->Value} (hv:∀t1 t2,valueAt [(("cells":Str),Value.ref X.ca),("mixed",.int D.mixed t1),("turn",.int (D.turn:Nat) t2)] key=some (pick t1 t2)) {Q:VP}
  (R:Ze A n) (hρ:ρ[0]?=some (.val .deck)) (F:Z6 X P0 P fl env names own g ρ D s.heap)
  (hQ:∀g' h' tk t1 t2,Qs X.dk g s.heap g' h'->QO X D h'->Q (pick t1 t2) { s with heap:=h',toks:=tk }):QD X.M A (eval (.Subscript (.Name x p1) (.Constant (.str key) k p2) p3) env) Q E s:=by
 refine Qk UQ ?_;have ha:Qg X n Φ env names (.Name x p1) (.loc 0):=JF ok hi hx hy;have hb:Qg X n Φ env names (.Constant (.str key) k p2) (.lit (.str key.cps.toList)):=Hl;refine Q0 (ha A P0 P fl own g ρ D D .deck s _ E R (by dsimp only[run];rw[hρ]) F fun v g1 H1 t1 G1 dk1 r1=>?_);refine Q0 (Q5 (hb A P0 P fl own g1 ρ D D (.str key.cps.toList) _ _ E R (by dsimp only[run]<;>rfl) (F.grow G1 dk1) fun w g2 H2 t2 G2 dk2 r2=>?_));refine Q0 (Q4 (Q3 ?_));dsimp only[VR] at r1 r2;subst r1;obtain⟨y,ty,rfl,hye⟩:=r2;obtain⟨_,od,oc,dd⟩:=ZO.of dk2 (by rw[hdk];simp);obtain⟨u1,u2,hi⟩:=dd.isd;have hD:H2.DictOf (strKind pw X.w) X.da _:=Heap.dictOf_iff.mpr ⟨od,dd.hd,hi⟩;have hkey:(strKind pw X.w).is key (.str y ty)=true:=by
  have:y=key:=by
   obtain⟨y⟩:=y;obtain⟨key⟩:=key;congr 1;exact Array.toList_inj.mp hye
  subst this;exact strKind_is pw X.w y ty
 exact J9 hD.typeIs slot_dict_getitem.lookup (wpAny_getItem_of hkey hD.mapOf (hv u1 u2) (hQ g2 H2 _ u1 u2 (G1.trans G2) dk2))
theorem Un{f:Fn}{ir:List IR}{d:AV}(h:run ZC (.call f ir) ρ D=some (d,D')):∃as D1,runs ZC ir ρ D=some (as,D1)/\ZC f as D1=some (d,D'):=by
 dsimp only[run] at h
 split at h
 ·exact⟨_,_,by assumption,h⟩
 ·exact Qf h
theorem Sz{as:List AV}{D1:Q8}(h:runs ZC [.loc 0] ρ D=some (as,D1)):∃v,ρ[0]?=some (.val v)/\as=[v]/\D1=D:=by
 dsimp only[runs] at h;refine cps fun U y0=>?_;refine Hq h ?_;clear h;intro v D2 h1 h;dsimp only[run] at h1;refine kV h1 ?_;clear h1;intro _ hv h1;replace h1:=sp h1;obtain⟨rfl,rfl⟩:=h1;replace h:=sp h;obtain⟨rfl,rfl⟩:=h;refine y0 ?_;exact⟨_,hv,rfl,rfl⟩
theorem PE{v d:AV}(h:ZC .k34 [v] D=some (d,D')):v=.deck/\d=.int (D.turn:Nat)/\D'=D:=
 have h:=J5 h;⟨Y8 h.1,(sp h.2).1.symm,(sp h.2).2.symm⟩
theorem GB{v d:AV}(h:ZC .k35 [v] D=some (d,D')):v=.deck/\d=.int D.mixed/\D'=D:=
 have h:=J5 h;⟨Y8 h.1,(sp h.2).1.symm,(sp h.2).2.symm⟩
theorem PG{v d:AV}(h:ZC .k36 [v] D=some (d,D')):v=.deck/\d=.bool (!D.cells.isEmpty)/\D'=D:=
 have h:=J5 h;⟨Y8 h.1,(sp h.2).1.symm,(sp h.2).2.symm⟩
theorem Sn{v d:AV}(h:ZC .k40 [v] D=some (d,D')):v=.deck/\∃c,D.cells.getLast?=some c/\d=.int c/\D'={ D with cells:=D.cells.dropLast }:=by
 have h:=J5 h;obtain⟨c,h1,h2⟩:=Option.map_eq_some_iff.mp h.2;exact⟨Y8 h.1,c,h1,(Prod.mk.inj h2).1.symm,(Prod.mk.inj h2).2.symm⟩
theorem So{v u d:AV}(h:ZC .k37 [v,u] D=some (d,D')):v=.deck/\∃c,u=.int c/\D.cells.length < 1000/\d=.none/\D'={ D with cells:=D.cells++[c] }:=by
 have h:=J5 h;obtain⟨c,h1,h2⟩:=V9 h.2;have h2:=J5 h2;exact⟨Y8 h.1,c,h1,of_decide_eq_true h2.1,(sp h2.2).1.symm,(sp h2.2).2.symm⟩
theorem Sm{v u d:AV}(h:ZC .k38 [v,u] D=some (d,D')):v=.deck/\∃c,u=.int c/\0<=c/\d=.none/\D'={ D with turn:=c.toNat }:=by
 have h:=J5 h;obtain⟨c,h1,h2⟩:=V9 h.2;have h2:=J5 h2;exact⟨Y8 h.1,c,h1,of_decide_eq_true h2.1,(sp h2.2).1.symm,(sp h2.2).2.symm⟩
theorem RY(ok:QS env nk)(hdk:X.dk=[X.da,X.ca])(hi:names[0]?=some x)(hx:(x == ("__classdict__":Str))=false)(hy:(x == ("__debug__":Str))=false){k:Nat}{p1 p2 p3:Pos}:
  Qg X n ZC env names (.Subscript (.Name x p1) (.Constant (.str "turn") k p2) p3) (.call .k34 [.loc 0]):=fun A P0 P fl own g ρ D D' d s Q E R h F hQ=>by
 obtain⟨as,D1,h1,h2⟩:=Un h;obtain⟨v,hv,rfl,rfl⟩:=Sz h1;obtain⟨rfl,rfl,rfl⟩:=PE h2;refine UR (Φ:=ZC) ok hdk hi hx hy (pick:=fun Z t2=>.int (D'.turn:Nat) t2) (fun Z Z=>by kernel_rfl) R hv F fun g' h' tk t1 t2 G dk=>?_;exact hQ _ g' h' tk G dk (by dsimp only[VR];exact⟨_,rfl⟩)
theorem Gq(ok:QS env nk)(hdk:X.dk=[X.da,X.ca])(hi:names[0]?=some x)(hx:(x == ("__classdict__":Str))=false)(hy:(x == ("__debug__":Str))=false){k:Nat}{p1 p2 p3:Pos}:
  Qg X n ZC env names (.Subscript (.Name x p1) (.Constant (.str "mixed") k p2) p3) (.call .k35 [.loc 0]):=fun A P0 P fl own g ρ D D' d s Q E R h F hQ=>by
 obtain⟨as,D1,h1,h2⟩:=Un h;obtain⟨v,hv,rfl,rfl⟩:=Sz h1;obtain⟨rfl,rfl,rfl⟩:=GB h2;refine UR (Φ:=ZC) ok hdk hi hx hy (pick:=fun t1 Z=>.int D'.mixed t1) (fun Z Z=>by kernel_rfl) R hv F fun g' h' tk t1 t2 G dk=>?_;exact hQ _ g' h' tk G dk (by dsimp only[VR];exact⟨_,rfl⟩)
end
theorem K5:∀{vs:List Value} {is:List Int},IntsAre vs is->vs.length=is.length:=by
 intro vs is h
 induction h with
 | nil=>rfl
 | cons=>simp;assumption
theorem GK{vs:List Value}{is:List Int}(h:IntsAre vs is):∀{c:Int},is.getLast?=some c->∃t,vs[vs.length - 1]?=some (.int c t)/\IntsAre (vs.take (vs.length - 1)) is.dropLast:=by
 induction h with
 | nil=>intro c h;exact Qf h
 | @cons n t vs ns h ih=>
  intro c hc;rcases ns with _|⟨m,ns⟩
  ·
   cases h;simp at hc;subst hc;exact⟨t,by rfl,by simp;exact .nil⟩
  ·
   have hl:=K5 h;have:(m::ns).getLast?=some c:=by simpa[List.getLast?_cons_cons] using hc
   obtain⟨t',e1,e2⟩:=ih this;have hv:0 < vs.length:=by rw[hl];simp
   refine⟨t',?_,?_⟩
   ·rw[List.length_cons,Nat.add_sub_cancel];obtain⟨k,hk⟩:∃k,vs.length=k+1:=⟨vs.length - 1,by omega⟩
    rw[hk] at e1 ⊢;simpa using e1
   ·rw[List.length_cons,Nat.add_sub_cancel];obtain⟨k,hk⟩:∃k,vs.length=k+1:=⟨vs.length - 1,by omega⟩
    rw[hk] at e2 ⊢;rw[List.take_succ_cons,List.dropLast_cons₂];exact .cons _ _ (by simpa using e2)
theorem ints_app{vs:List Value}{is:List Int}(h:IntsAre vs is)(c:Int)(t:Tok):IntsAre (vs++[.int c t]) (is++[c]):=by
 induction h with
 | nil=>exact .cons _ _ .nil
 | cons=>exact .cons _ _ (by assumption)
section
variable {X:Qu}{n:Nat}{env:Env}{names:List Str}{nk:List (Str×NameKind)}{x:Str}
variable {A:Around}{P0 g g1:PM}{P:PF}{s:Shared}{E:VP}{fl:Bool}{own:Nat->Option Addr}{ρ:List LV}{D D':Q8}{o:List Nat}{W:Nat}
theorem TQ(hdk:X.dk=[X.da,X.ca]){h h':Heap}(hs:PM.le g h.get?)(hg:g X.ca=none)(same:∀b,b≠X.ca->h'.get? b=h.get? b)(live:(h'.get? X.ca).isSome):Qs X.dk g h g h':=by
 refine⟨fun b ob e=>?_,PM.le.refl _,fun b ob e=>.inl e,fun b ob e=>?_⟩
 ·by_cases q:b=X.ca
  ·subst q;obtain⟨o',ho⟩:=Option.isSome_iff_exists.mp live;exact⟨o',ho,fun z=>absurd (by rw[hdk];simp) z⟩
  ·exact⟨ob,by rw[same b q];exact e,fun Z=>rfl⟩
 ·have q:b≠X.ca:=fun q=>by subst q;rw[hg] at e;exact Qf e
  exact Eq.trans (same b q) (hs b ob e)
theorem E1(hdk:X.dk=[X.da,X.ca]){h h':Heap}(hs:PM.le g h.get?)(hg:g X.da=none)(same:∀b,b≠X.da->h'.get? b=h.get? b)(live:(h'.get? X.da).isSome):Qs X.dk g h g h':=by
 refine⟨fun b ob e=>?_,PM.le.refl _,fun b ob e=>.inl e,fun b ob e=>?_⟩
 ·by_cases q:b=X.da
  ·subst q;obtain⟨o',ho⟩:=Option.isSome_iff_exists.mp live;exact⟨o',ho,fun z=>absurd (by rw[hdk];simp) z⟩
  ·exact⟨ob,by rw[same b q];exact e,fun Z=>rfl⟩
 ·have q:b≠X.da:=fun q=>by subst q;rw[hg] at e;exact Qf e
  exact Eq.trans (same b q) (hs b ob e)
theorem Ye(hdk:X.dk=[X.da,X.ca]){h:Heap}(d:QO X D h):∃od oc vs n,ZO X D h od oc/\h.get? X.ca=some { cls:=.type "list",dict:=none,data:=.seq vs n,slots:=#[] }/\IntsAre vs.toList D.cells:=by
 refine cps fun U y0=>?_;obtain⟨_,od,oc,dd⟩:=ZO.of d (by rw[hdk];simp);obtain⟨vs,m,e2,e3,e4,e5,e6⟩:=dd.isl;refine y0 ?_;refine⟨od,oc,vs,m,dd,?_,e6⟩;rw[dd.hc,Us e2 e3,e4,e5]
theorem ZO.recell{h h':Heap}{od oc:Obj}(d:ZO X D h od oc){cs:List Int}{vs:Array Value}{m:Nat}(same:∀b,b≠X.ca->h'.get? b=h.get? b)(e:h'.get? X.ca=some { cls:=.type "list",dict:=none,data:=.seq vs m,slots:=#[] })(hv:IntsAre vs.toList cs)(hl:cs.length<=1000):
  ZO X { D with cells:=cs } h' od { cls:=.type "list",dict:=none,data:=.seq vs m,slots:=#[] }:=
 ⟨d.ne,d.sys,by rw[same _ d.ne];exact d.hd,e,d.isd,⟨vs,m,rfl,rfl,rfl,rfl,hv⟩,hl⟩
theorem BR(ok:QS env nk)(hdk:X.dk=[X.da,X.ca])(hi:names[0]?=some x)(hx:(x == ("__classdict__":Str))=false)(hy:(x == ("__debug__":Str))=false){k:Nat}{p1 p2 p3 p4 p5:Pos}(hline:(p4.endLine == p5.line)=true):
  Qg X n ZC env names (.Call (.Attribute (.Subscript (.Name x p1) (.Constant (.str "cells") k p2) p3) "pop" p4) [] [] p5) (.call .k40 [.loc 0]):=fun A P0 P fl own g ρ D D' d s Q E R h F hQ=>by
 refine cps fun U y0=>?_;obtain⟨as,D1,h1,h2⟩:=Un h;obtain⟨v,hv,rfl,rfl⟩:=Sz h1;obtain⟨rfl,c,hc,rfl,rfl⟩:=Sn h2;refine y0 ?_;refine KU (fun w=>rfl) hline (by simp) (by simp) ?_;refine UR (Φ:=ZC) ok hdk hi hx hy (pick:=fun Z Z=>.ref X.ca) (fun Z Z=>by kernel_rfl) R hv F fun g1 H1 tk1 t1 t2 G1 dk1=>fun pl=>?_;refine cps fun U y0=>?_;obtain⟨od,oc,vs,m,dd,e,hvs⟩:=Ye hdk dk1;refine y0 ?_;refine getMethod_builtin (s:={ s with heap:=H1,toks:=tk1 }) ⟨_,e,rfl⟩ PySem.F.plainAttrs_list PySem.F.slot_list_pop PySem.F.type_list_pop (fun b q=>by cases q;exact⟨_,e,rfl⟩) ?_;refine Qy (es:=[]) (by simp) (Q7 ⟨QW,?_⟩);have hl:=K5 hvs;have hfew:=dd.few;obtain⟨t,l1,l2⟩:=GK hvs hc;rw[Array.length_toList] at l1 l2 hl;have hsz:vs.size<=sizeLine:=by rw[sizeLine_eq];omega
 refine Q3 (call_meets PySem.F.slot_list_pop ⟨_,e,rfl⟩ PySem.F.entry_list_pop (PySem.F.args_list_pop_1 _) (MeetsSeq.list_pop_last X.ca vs m (.int c t) (by rw[<- Array.getElem?_toList];exact l1) hsz) ⟨e,?_⟩);obtain⟨m',e2⟩:∃m',(H1.update X.ca (Obj.mapSeq fun xs=>xs.eraseIdxIfInBounds (vs.size - 1))).get? X.ca=some { cls:=.type "list",dict:=none,data:=.seq (vs.eraseIdxIfInBounds (vs.size - 1)) m',slots:=#[] }:=⟨_,Heap.get?_update_self _ e rfl⟩
 have sb:=Heap.SameBut.update H1 X.ca (Obj.mapSeq fun xs=>xs.eraseIdxIfInBounds (vs.size - 1));have hpos:0 < vs.size:=by
  rcases Nat.eq_zero_or_pos vs.size with z|z
  ·rw[z] at hl;have:D1.cells=[]:=List.length_eq_zero_iff.mp hl.symm;rw[this] at hc;cases hc
  ·exact z
 have hto:(vs.eraseIdxIfInBounds (vs.size - 1)).toList=vs.toList.take (vs.size - 1):=by
  unfold Array.eraseIdxIfInBounds;rw[dif_pos (by omega),Array.toList_eraseIdx];have:vs.size - 1+1=vs.toList.length:=by rw[Array.length_toList];omega
  rw[List.eraseIdx_eq_take_drop_succ,this,List.drop_length,List.append_nil]
 have dd2:=dd.recell (cs:=D1.cells.dropLast) (fun b hb=>sb.2 b hb) e2 (by rw[hto];exact l2) (by rw[List.length_dropLast];omega);have gn:g1 X.ca=none:=by
  have:=(F.grow G1 dk1).dg X.ca (by rw[hdk];simp);exact this.1
 refine hQ (.int c t) g1 _ _ (G1.trans (TQ hdk G1.sub gn (fun b hb=>sb.2 b hb) (by rw[e2];rfl))) (dd2.to hdk) (by dsimp only[VR];exact⟨_,rfl⟩)
theorem RK(ok:QS env nk)(hdk:X.dk=[X.da,X.ca])(hi:names[0]?=some x)(hx:(x == ("__classdict__":Str))=false)(hy:(x == ("__debug__":Str))=false){k:Nat}{p1 p2 p3 p4 pos:Pos}:
  ZN X n ZC env names (.Compare (.Subscript (.Name x p1) (.Constant (.str "cells") k p2) p3) [.NotEq] [.List [] p4] pos) (.call .k36 [.loc 0]):=fun A P0 P fl own g ρ D D' d b s Q E R h hb' F hQ=>by
 refine cps fun U y0=>?_;obtain⟨as,D1,h1,h2⟩:=Un h;obtain⟨v,hv,rfl,rfl⟩:=Sz h1;obtain⟨rfl,rfl,rfl⟩:=PG h2;refine y0 ?_;have hb2:b=!D'.cells.isEmpty:=by unfold AV.truth at hb';cases hb';rfl
 rw[arm_isTrue_Compare];show QD _ _ (eval _ env >>= fun v=>testChain pos v [.NotEq] [markedBehindIn .NotEq (.List [] p4) (eval (.List [] p4) env)]) _ _ _;rw[markedBehindIn_of_false rfl];refine Q0 (UR (Φ:=ZC) ok hdk hi hx hy (pick:=fun Z Z=>.ref X.ca) (fun Z Z=>by kernel_rfl) R hv F fun g1 H1 tk1 t1 t2 G1 dk1=>?_);have hl0:Qg X n ZC env names (.List [] p4) (.lst []):=Vx (Xj rfl (by simp) (by simp));refine Q0 (Q5 (hl0 A P0 P fl own g1 ρ D' D' (.list []) { s with heap:=H1,toks:=tk1 } _ E R rfl (F.grow G1 dk1) fun w g2 H2 t2 G2 dk2 r2=>?_));refine Q0 (Q4 (Q0 (Zr (Q3 ?_))));refine cps fun U y0=>?_;obtain⟨od,oc,vs,m,dd,e,hvs⟩:=Ye hdk dk2;obtain⟨a2,v2,rfl,k1,k2⟩:=r2.list_at (s:={ s with heap:=H2,toks:=t2 }) G2.sub;refine y0 ?_;have l2:=k2.len;have k1':H2.IsList X.ca vs:=⟨_,e,rfl,m,rfl⟩
 have hl:=K5 hvs;rw[Array.length_toList] at hl l2;have fin:∀c:Bool,c=(!D'.cells.isEmpty)->QD X.M A (holding [.bool c] (truthy (.bool c))) Q E { s with heap:=H2,toks:=t2 }:=fun c hc=>by
  subst hc;rw[<- hb2];exact Q5 (Q3 (wpAny_truthy_bool (hQ g2 H2 t2 (G1.trans G2) dk2)))
 by_cases q:vs.size=v2.size
 ·have z:vs.size=0:=by rw[q];exact l2
  have he:D'.cells=[]:=List.length_eq_zero_iff.mp (by rw[<- hl];exact z);have r2:=RcNeAt.lists (A:=A) (s:={ s with heap:=H2,toks:=t2 }) (e:=fun Z=>true) k1' k1 q R.un1 (fun j hj=>by omega);rw[z] at r2;exact r2 _ _ _ _ (fin false (by rw[he];rfl))
 ·have hne:(vs.size != v2.size)=true:=by simpa using q
  have he:D'.cells.isEmpty=false:=by
   cases hz:D'.cells with
   | nil=>rw[hz] at hl;exact absurd (hl.trans l2.symm) q
   | cons _ _=>rfl
  exact RcNeAt.lists_lengths (A:=A) (s:={ s with heap:=H2,toks:=t2 }) k1' k1 hne R.un1 _ _ _ _ (fin true (by rw[he];rfl))
end
section
variable {X:Qu}{n:Nat}{env:Env}{names:List Str}{nk:List (Str×NameKind)}{x:Str}
variable {A:Around}{P0 g g1:PM}{P:PF}{s:Shared}{E:VP}{fl:Bool}{own:Nat->Option Addr}{ρ:List LV}{D D':Q8}{o:List Nat}{W:Nat}
set_option tactic.hygienic true in
theorem Vg{f:Fn}{ir:IR}{ρ':List LV}{out:Out}(h:exec ZC fl o W (.drop (.call f [.loc 0,ir])) ρ D=some (out,ρ',D')):
  out=.next/\ρ=ρ'/\∃v u d D1,ρ[0]?=some (.val v)/\run ZC ir ρ D=some (u,D1)/\ZC f [v,u] D1=some (d,D'):=by
 dsimp only[exec] at h;refine cps fun U y0=>?_;refine Hq h ?_;clear h;intro d Dz h1 h;replace h:=V2 h;obtain⟨rfl,rfl,rfl⟩:=h;obtain⟨as,D1,h2,h3⟩:=Un h1;dsimp only[runs] at h2;refine Hq h2 ?_;clear h2;intro v D2 h4 h2;dsimp only[run] at h4;refine kV h4 ?_;clear h4;intro _ hv h4;cases h4;refine Bq h2 ?_;clear h2;intro us D3 h5 h2
 split at h5<;>try first|exact Qf h5|(cases h5;done)
 rename_i u D4 h6;replace h5:=sp h5;obtain⟨rfl,rfl⟩:=h5;cases h2;refine y0 ?_;exact⟨rfl,rfl,v,u,d,D1,hv,h6,h3⟩
theorem Nn(ok:QS env nk)(hdk:X.dk=[X.da,X.ca])(hi:names[0]?=some x)(hx:(x == ("__classdict__":Str))=false)(hy:(x == ("__debug__":Str))=false){k:Nat}{p1 p2 p3 p4 p5 pos:Pos}{e:Expr}{ir:IR}(hline:(p4.endLine == p5.line)=true)
  (hst:notStar e=true) (h0:Qg X n ZC env names e ir):
  Qq X n ZC env names fl (PySem.exec (.Expr (.Call (.Attribute (.Subscript (.Name x p1) (.Constant (.str "cells") k p2) p3) "append" p4) [e] [] p5) pos) env) (exec ZC fl o W (.drop (.call .k37 [.loc 0,ir]))):=fun A P0 P own g ρ ρ' D D' out s Q E R h hne F hQ=>by
 obtain⟨rfl,rfl,v,u,d,D1,hv,h1,h2⟩:=Vg h;obtain⟨rfl,c,rfl,hlen,rfl,rfl⟩:=So h2;refine YR ok rfl ?_;have hst':∀q∈[e],notStar q=true:=by simp[hst]
 refine KU (fun w=>rfl) hline hst' (by simp) ?_;refine UR (Φ:=ZC) ok hdk hi hx hy (pick:=fun Z Z=>.ref X.ca) (fun Z Z=>by kernel_rfl) R hv F fun g1 H1 tk1 t1 t2 G1 dk1=>fun pl=>?_;obtain⟨od,oc,vs,m,dd,e1,hvs⟩:=Ye hdk dk1;refine getMethod_builtin (s:={ s with heap:=H1,toks:=tk1 }) ⟨_,e1,rfl⟩ PySem.F.plainAttrs_list PySem.F.slot_list_append PySem.F.type_list_append (fun b q=>by cases q;exact⟨_,e1,rfl⟩) ?_;have h5:runs ZC [ir] ρ D=some ([.int c],D1):=HL h1;have hL:J7 X n ZC env names [e] [ir]:=Xj rfl hst' (by simp;exact h0);refine Qy hst' (hL A P0 P fl own g1 ρ D D1 [.int c] p5 { s with heap:=H1,toks:=tk1 } _ E R h5 (F.grow G1 dk1) fun us g2 H2 tk2 G2 dk2 r2=>⟨QW,?_⟩);dsimp only[Qo] at r2;obtain⟨u1,us1,rfl,r3,r4⟩:=r2;subst r4;obtain⟨t,rfl⟩:=r3.int_is;obtain⟨od,oc,vs,m,dd,e2,hvs⟩:=Ye hdk dk2;have F2:=(F.grow G1 dk1).grow G2 dk2;have hl:=K5 hvs;rw[Array.length_toList] at hl;have ls:X5 H2 X.ca vs.toList:=⟨_,vs,m,e2,rfl,rfl,rfl,rfl,rfl⟩
 refine Q3 (append_list (s:={ s with heap:=H2,toks:=tk2 }) ls (by rw[Array.length_toList];omega) fun h3 e3 e4=>⟨rfl,?_⟩);obtain⟨ob,xs,m3,q1,q2,q3,q4,q5,q6⟩:=e3.is;have q7:h3.get? X.ca=some { cls:=.type "list",dict:=none,data:=.seq xs m3,slots:=#[] }:=by rw[q1,Us q2 q3,q4,q5]
 have dd2:=dd.recell (cs:=D1.cells++[c]) (fun b hb=>e4.2 b hb) q7 (by rw[q6];exact ints_app hvs c t) (by simp;omega);have gn:g2 X.ca=none:=(F2.dg X.ca (by rw[hdk];simp)).1;exact hQ .next h3 tk2 ⟨rfl,g2,own,F2.grow (TQ hdk G2.sub gn (fun b hb=>e4.2 b hb) (by rw[q1];rfl)) (dd2.to hdk)⟩
theorem Gl{e ob i:Expr}{p:Pos}{l:Nat}{env:Env}:swapsWith e (some (.Subscript ob i p)) l env=pure false:=by
 rcases e with _|_<;>rfl
theorem Nm(ok:QS env nk)(hdk:X.dk=[X.da,X.ca])(hi:names[0]?=some x)(hx:(x == ("__classdict__":Str))=false)(hy:(x == ("__debug__":Str))=false){k:Nat}{p1 p2 p3 pos:Pos}{e:Expr}{ir:IR}
  (h0:Qg X n ZC env names e ir):
  Qq X n ZC env names fl (PySem.exec (.Assign [.Subscript (.Name x p1) (.Constant (.str "turn") k p2) p3] e pos) env) (exec ZC fl o W (.drop (.call .k38 [.loc 0,ir]))):=fun A P0 P own g ρ ρ' D D' out s Q E R h hne F hQ=>by
 obtain⟨rfl,rfl,v,u,d,D1,hv,h1,h2⟩:=Vg h;obtain⟨rfl,c,rfl,hc,rfl,rfl⟩:=Sm h2;rw[exec_Assign_Subscript _ _ _ _ _ Gl];refine Q0 (Q4 (Q0 (h0 A P0 P fl own g ρ D D1 _ s _ E R h1 F fun v1 g1 H1 t1 G1 dk1 r1=>?_)));have F1:=F.grow G1 dk1;rw[assign_Subscript];have ha:Qg X n ZC env names (.Name x p1) (.loc 0):=JF ok hi hx hy;have hb:Qg X n ZC env names (.Constant (.str "turn") k p2) (.lit (.str ("turn":Str).cps.toList)):=Hl;refine Q0 (Q0 (Q5 (ha A P0 P fl own g1 ρ D1 D1 .deck _ _ E R (by dsimp only[run];rw[hv]) F1 fun v2 g2 H2 t2 G2 dk2 r2=>?_)));refine Q0 (Q5 (hb A P0 P fl own g2 ρ D1 D1 (.str ("turn":Str).cps.toList) _ _ E R rfl (F1.grow G2 dk2) fun v3 g3 H3 t3 G3 dk3 r3=>?_));have F3:=(F1.grow G2 dk2).grow G3 dk3;obtain⟨tv,rfl⟩:=r1.int_is;dsimp only[VR] at r2 r3;subst r2;obtain⟨y,ty,rfl,hye⟩:=r3;have hy2:y=("turn":Str):=by
  obtain⟨y⟩:=y;exact congrArg Str.mk (Array.toList_inj.mp hye)
 subst hy2;obtain⟨_,od,oc,dd⟩:=ZO.of dk3 (by rw[hdk];simp);obtain⟨u1,u2,hi3⟩:=dd.isd;have hD:H3.DictOf (strKind pw X.w) X.da _:=Heap.dictOf_iff.mpr ⟨od,dd.hd,hi3⟩;refine Q0 (Q4 (Q0 (Q5 (Q3 (wpAny_setItem_pairs (strKind_is pw X.w _ ty) hD (fun h4 e4 sb=>?_) (by simp[sizeLine_eq]))))));refine J1 (Q7 ?_);have est:stored [(("cells":Str),Value.ref X.ca),("mixed",.int D1.mixed u1),("turn",.int (D1.turn:Nat) u2)] ("turn":Str) (.int c tv)=[(("cells":Str),Value.ref X.ca),("mixed",.int D1.mixed u1),("turn",.int c tv)]:=by kernel_rfl
 rw[est] at e4;obtain⟨od4,ho4,hi4⟩:=Heap.dictOf_iff.mp e4;have hcn:((c.toNat:Nat):Int)=c:=by omega
 have dd4:ZO X { D1 with turn:=c.toNat } h4 od4 oc:=⟨dd.ne,dd.sys,ho4,by rw[sb.2 _ (Ne.symm dd.ne)];exact dd.hc,⟨u1,tv,by show od4.IsDictOf _ [_,_,(_,.int ((c.toNat:Nat):Int) tv)];rw[hcn];exact hi4⟩,dd.isl,dd.few⟩
 have gn:g3 X.da=none:=(F3.dg X.da (by rw[hdk];simp)).1;exact hQ .next h4 _ ⟨rfl,g3,own,F3.grow (E1 hdk G3.sub gn (fun b hb=>sb.2 b hb) (by rw[ho4];rfl)) (dd4.to hdk)⟩
end
noncomputable def VV:List Nat:=[95,108,97,119,95,100,114,97,119]
noncomputable def QM:Arguments×List Stmt×Scope:=(Jx VV pw.main.body).getD (⟨[],[],none,[],[],none,[]⟩,[],⟨.function,[],false,false,[]⟩)
theorem R6:Jx VV pw.main.body=some QM:=by kernel_rfl
theorem R4:UE QM=true:=by kernel_rfl
theorem JX:(Qc QM).slots=[("deck":Str),"below","figure","cell"]:=by kernel_rfl
noncomputable def pD(i:Nat):Pos:=let p:=([(412,4,412,8),(412,9,412,15),(412,4,412,16),(412,19,412,23),(412,24,412,30),(412,19,412,31),(412,34,412,35),(412,19,412,35),(412,4,412,35),(413,13,413,17),(413,18,413,25),(413,13,413,26),(413,29,413,35),(413,38,413,42),(413,43,413,49),(413,38,413,50),(413,29,413,50),(413,53,413,57),(413,58,413,64),(413,53,413,65),(413,29,413,65),(413,13,413,65),(413,4,413,10),(413,4,413,65),(415,15,415,19),(415,20,415,27),(415,15,415,28),(415,15,415,32),(415,15,415,34),(415,8,415,12),(415,8,415,34),(417,12,417,16),(417,17,417,24),(417,12,417,25),(417,12,417,32),(417,12,417,47),(417,33,417,37),(417,41,417,46),(417,33,417,46),(417,12,417,47),(418,19,418,23),(418,26,418,31),(418,19,418,31),(418,12,418,31),(416,11,416,15),(416,19,416,26),(416,11,416,26),(416,8,418,31),(419,17,419,23),(419,26,419,30),(419,33,419,43),(419,26,419,43),(419,17,419,43),(419,8,419,14),(419,8,419,43),(414,7,414,11),(414,12,414,19),(414,7,414,20),(414,24,414,26),(414,7,414,26),(414,4,419,43),(420,13,420,19),(420,22,420,32),(420,13,420,32),(420,35,420,40),(420,13,420,40),(420,43,420,53),(420,13,420,53),(420,4,420,10),(420,4,420,53),(421,14,421,20),(421,23,421,29),(421,14,421,29),(421,32,421,36),(421,14,421,36),(421,40,421,50),(421,13,421,50),(421,4,421,10),(421,4,421,50),(422,11,422,17),(422,20,422,25),(422,11,422,25),(422,28,422,38),(422,11,422,38),(422,42,422,44),(422,11,422,44),(422,47,422,52),(422,11,422,52),(422,4,422,52)]:List (Nat×Nat×Nat×Nat)).getD (i - 1) (0,0,0,0);⟨p.1,p.2.1,p.2.2.1,p.2.2.2⟩
noncomputable def Fp:List Stmt:=[.Assign [(.Subscript (.Name "deck" (pD 1)) (.Constant (.str "turn") 0 (pD 2)) (pD 3))] (.BinOp (.Subscript (.Name "deck" (pD 4)) (.Constant (.str "turn") 0 (pD 5)) (pD 6)) .Add (.Constant (.int 1) 0 (pD 7)) (pD 8)) (pD 9),.Assign [(.Name "figure" (pD 23))] (.BinOp (.Subscript (.Name "deck" (pD 10)) (.Constant (.str "mixed") 0 (pD 11)) (pD 12)) .Add (.BinOp (.BinOp (.Constant (.int 604444) 0 (pD 13)) .Mult (.Subscript (.Name "deck" (pD 14)) (.Constant (.str "turn") 0 (pD 15)) (pD 16)) (pD 17)) .Mult (.Subscript (.Name "deck" (pD 18)) (.Constant (.str "turn") 0 (pD 19)) (pD 20)) (pD 21)) (pD 22)) (pD 24),.If (.Compare (.Subscript (.Name "deck" (pD 56)) (.Constant (.str "cells") 0 (pD 57)) (pD 58)) [.NotEq] [.List [] (pD 59)] (pD 60)) [.Assign [(.Name "cell" (pD 30))] (.Call (.Attribute (.Subscript (.Name "deck" (pD 25)) (.Constant (.str "cells") 0 (pD 26)) (pD 27)) "pop" (pD 28)) [] [] (pD 29)) (pD 31),.If (.Compare (.Name "cell" (pD 45)) [.GtE] [(.Constant (.int 1000000) 0 (pD 46))] (pD 47)) [.Expr (.Call (.Attribute (.Subscript (.Name "deck" (pD 32)) (.Constant (.str "cells") 0 (pD 33)) (pD 34)) "append" (pD 35)) [(.BinOp (.Name "cell" (pD 37)) .FloorDiv (.Name "below" (pD 38)) (pD 39))] [] (pD 36)) (pD 40),.Return (some (.BinOp (.Name "cell" (pD 41)) .Mod (.Name "below" (pD 42)) (pD 43))) (pD 44)] [] (pD 48),.Assign [(.Name "figure" (pD 54))] (.BinOp (.Name "figure" (pD 49)) .Add (.BinOp (.Name "cell" (pD 50)) .Mod (.Constant (.int 2147483563) 0 (pD 51)) (pD 52)) (pD 53)) (pD 55)] [] (pD 61),.Assign [(.Name "figure" (pD 69))] (.BinOp (.BinOp (.BinOp (.Name "figure" (pD 62)) .Mod (.Constant (.int 2147483629) 0 (pD 63)) (pD 64)) .Mult (.Constant (.int 40692) 0 (pD 65)) (pD 66)) .Mod (.Constant (.int 2147483647) 0 (pD 67)) (pD 68)) (pD 70),.Assign [(.Name "figure" (pD 78))] (.BinOp (.BinOp (.BinOp (.Name "figure" (pD 71)) .Mult (.Name "figure" (pD 72)) (pD 73)) .Add (.Constant (.int 4444) 0 (pD 74)) (pD 75)) .Mod (.Constant (.int 2147483587) 0 (pD 76)) (pD 77)) (pD 79),.Return (some (.BinOp (.BinOp (.BinOp (.BinOp (.Name "figure" (pD 80)) .Mult (.Constant (.int 39373) 0 (pD 81)) (pD 82)) .Mod (.Constant (.int 2147483579) 0 (pD 83)) (pD 84)) .FloorDiv (.Constant (.int 64) 0 (pD 85)) (pD 86)) .Mod (.Name "below" (pD 87)) (pD 88))) (pD 89)]
theorem R2:QM.2.1=Fp:=by kernel_rfl
theorem LD:((pD 28).endLine == (pD 29).line)=true:=by kernel_rfl
theorem LC:((pD 35).endLine == (pD 36).line)=true:=by kernel_rfl
noncomputable def TV:List SR:=[
 .drop (.call .k38 [.loc 0,.bin .add (.call .k34 [.loc 0]) (.lit (.int 1))]),
 .set 2 (.bin .add (.call .k35 [.loc 0]) (.bin .mul (.bin .mul (.lit (.int 604444)) (.call .k34 [.loc 0])) (.call .k34 [.loc 0]))),
 .ifs (.call .k36 [.loc 0]) [.set 3 (.call .k40 [.loc 0]),.ifs (.cmp .ge (.loc 3) (.lit (.int 1000000))) [.drop (.call .k37 [.loc 0,.bin .fdiv (.loc 3) (.loc 1)]),.ret (.bin .mod (.loc 3) (.loc 1))] [],.set 2 (.bin .add (.loc 2) (.bin .mod (.loc 3) (.lit (.int 2147483563))))] [],
 .set 2 (.bin .mod (.bin .mul (.bin .mod (.loc 2) (.lit (.int 2147483629))) (.lit (.int 40692))) (.lit (.int 2147483647))),
 .set 2 (.bin .mod (.bin .add (.bin .mul (.loc 2) (.loc 2)) (.lit (.int 4444))) (.lit (.int 2147483587))),
 .ret (.bin .mod (.bin .fdiv (.bin .mod (.bin .mul (.loc 2) (.lit (.int 39373))) (.lit (.int 2147483579))) (.lit (.int 64))) (.loc 1))]
section
variable {X:Qu}{n:Nat}{env:Env}{fl:Bool}
theorem JR{names:List Str}{Φ:Qj}{b:Bool}{e:Expr}{ir:IR}(h0:Qg X n Φ env names e ir)(h:YZ ir=true):J6 X n Φ env names b e ir:=UI h0 fun ρ D=>JT h ρ D
theorem LA(ok:ZT env (Qc QM))(hdk:X.dk=[X.da,X.ca]):Qq X n ZC env (Qc QM).slots fl (PySem.execs QM.2.1 env) (execs ZC fl [] 1 TV):=by
 rw[R2];have hl1:=LD;have hl2:=LC;have at0:(Qc QM).slots[0]?=some ("deck":Str):=by rw[JX];rfl
 have at1:(Qc QM).slots[1]?=some ("below":Str):=by rw[JX];rfl
 have at2:(Qc QM).slots[2]?=some ("figure":Str):=by rw[JX];rfl
 have at3:(Qc QM).slots[3]?=some ("cell":Str):=by rw[JX];rfl
 have n0:∀p,Qg X n ZC env (Qc QM).slots (.Name "deck" p) (.loc 0):=fun p=>JF ok.e at0 (by decide) (by decide);have n1:∀p,Qg X n ZC env (Qc QM).slots (.Name "below" p) (.loc 1):=fun p=>JF ok.e at1 (by decide) (by decide);have n2:∀p,Qg X n ZC env (Qc QM).slots (.Name "figure" p) (.loc 2):=fun p=>JF ok.e at2 (by decide) (by decide);have n3:∀p,Qg X n ZC env (Qc QM).slots (.Name "cell" p) (.loc 3):=fun p=>JF ok.e at3 (by decide) (by decide);have ii:∀(i:Int) k p,Qg X n ZC env (Qc QM).slots (.Constant (.int i) k p) (.lit (.int i)):=fun i k p=>Vy;have tt:∀a b c,Qg X n ZC env (Qc QM).slots (.Subscript (.Name "deck" a) (.Constant (.str "turn") 0 b) c) (.call .k34 [.loc 0]):=fun a b c=>RY ok.e hdk at0 (by decide) (by decide);have mm:∀a b c,Qg X n ZC env (Qc QM).slots (.Subscript (.Name "deck" a) (.Constant (.str "mixed") 0 b) c) (.call .k35 [.loc 0]):=fun a b c=>Gq ok.e hdk at0 (by decide) (by decide);have bb:∀{o:Op} {op:Operator} {l r:Expr} {a b:IR} {p},PK op=some o->Qg X n ZC env (Qc QM).slots l a->Qg X n ZC env (Qc QM).slots r b->Qg X n ZC env (Qc QM).slots (.BinOp l op r p) (.bin o a b):=fun ho ha hb=>Tu ho ha hb;have nd:(Qc QM).slots.Nodup:=by rw[JX];decide
 have sl2:Z4 env (Qc QM).slots 2 "figure":=by
  obtain⟨x,p,e,sa,_⟩:=Z9 (cx:=Qc QM) (e:=.Name "figure" (pD 1)) (i:=2) ok nd (by kernel_rfl);cases e;exact sa
 have sl3:Z4 env (Qc QM).slots 3 "cell":=by
  obtain⟨x,p,e,sa,_⟩:=Z9 (cx:=Qc QM) (e:=.Name "cell" (pD 1)) (i:=3) ok nd (by kernel_rfl);cases e;exact sa
 unfold TV Fp;refine Za (Nm ok.e hdk at0 (by decide) (by decide) (bb rfl (tt _ _ _) (ii _ _ _))) ?_;refine Za (JL ok.e sl2 rfl (JR (bb rfl (mm _ _ _) (bb rfl (bb rfl (ii _ _ _) (tt _ _ _)) (tt _ _ _))) rfl)) ?_;refine Za (HG (RK ok.e hdk at0 (by decide) (by decide)) ?_ JM) ?_
 ·refine Za (JL ok.e sl3 rfl (JR (BR ok.e hdk at0 (by decide) (by decide) hl1) rfl)) ?_;refine Za (HG (Vu rfl rfl (n3 _) (ii _ _ _)) ?_ JM) ?_
  ·refine Za (Nn ok.e hdk at0 (by decide) (by decide) hl2 rfl (bb rfl (n3 _) (n1 _))) ?_;exact Za (Kw (bb rfl (n3 _) (n1 _))) JM
  ·exact Za (JL ok.e sl2 rfl (JR (bb rfl (n2 _) (bb rfl (n3 _) (ii _ _ _))) rfl)) JM
 refine Za (JL ok.e sl2 rfl (JR (bb rfl (bb rfl (bb rfl (n2 _) (ii _ _ _)) (ii _ _ _)) (ii _ _ _)) rfl)) ?_;refine Za (JL ok.e sl2 rfl (JR (bb rfl (bb rfl (bb rfl (n2 _) (n2 _)) (ii _ _ _)) (ii _ _ _)) rfl)) ?_;exact Za (Kw (bb rfl (bb rfl (bb rfl (bb rfl (n2 _) (ii _ _ _)) (ii _ _ _)) (ii _ _ _)) (n1 _))) JM
end
section
variable {fl:Bool}{D D':Q8}{d:AV}{b:Int}
noncomputable abbrev We(b:Int)(s2 s3:LV):List LV:=[.val .deck,.val (.int b),s2,s3]
theorem YY{f:Fn}{ρ:List LV}{v d:AV}(h0:ρ[0]?=some (.val v))(h:ZC f [v] D=some (d,D')):run ZC (.call f [.loc 0]) ρ D=some (d,D'):=
 Qd (Q1 (Q2 h0) Q6) h
theorem Xp{ir1 ir2:IR}{ρ:List LV}{x y:Int}(h1:run ZC ir1 ρ D=some (.int x,D))(h2:run ZC ir2 ρ D=some (.int y,D))(hx:x.natAbs < 9223372036854775808)(hy:y.natAbs < 9223372036854775808):run ZC (.bin .mul ir1 ir2) ρ D=some (.int (x * y),D):=by
 refine QB h1 h2 ?_;unfold Uc Uo;dsimp only;rw[decide_eq_true hx,decide_eq_true hy];rfl
theorem HO{ir1 ir2:IR}{ρ:List LV}{x y:Int}(h1:run ZC ir1 ρ D=some (.int x,D))(h2:run ZC ir2 ρ D=some (.int y,D))(hy:y≠0):run ZC (.bin .mod ir1 ir2) ρ D=some (.int (x.fmod y),D):=by
 refine QB h1 h2 ?_;unfold Uc;exact(if_pos (by simpa using hy))
theorem F9{ir1 ir2:IR}{ρ:List LV}{x y:Int}(h1:run ZC ir1 ρ D=some (.int x,D))(h2:run ZC ir2 ρ D=some (.int y,D))(hy:y≠0)(hy2:y.natAbs < 1000000):run ZC (.bin .fdiv ir1 ir2) ρ D=some (.int (x.fdiv y),D):=by
 refine QB h1 h2 ?_;unfold Uc;dsimp only;rw[if_pos (by simp[hy2,hy])]
theorem TB{ir1 ir2:IR}{ρ:List LV}{x y:Int}(h1:run ZC ir1 ρ D=some (.int x,D))(h2:run ZC ir2 ρ D=some (.int y,D)):run ZC (.bin .add ir1 ir2) ρ D=some (.int (x+y),D):=QB h1 h2 rfl
theorem VO{x y:Int}(h:0 < y)(hy:y < 9223372036854775808):(x.fmod y).natAbs < 9223372036854775808:=by
 have:=Int.fmod_nonneg_of_pos x h;have:=Int.fmod_lt_of_pos x h;omega
theorem XS{s3:LV}{fig:Int}(hb:0 < b)(hb2:b<=1000):∃ρ',execs ZC fl [] 1 [
 .set 2 (.bin .mod (.bin .mul (.bin .mod (.loc 2) (.lit (.int 2147483629))) (.lit (.int 40692))) (.lit (.int 2147483647))),
 .set 2 (.bin .mod (.bin .add (.bin .mul (.loc 2) (.loc 2)) (.lit (.int 4444))) (.lit (.int 2147483587))),
 .ret (.bin .mod (.bin .fdiv (.bin .mod (.bin .mul (.loc 2) (.lit (.int 39373))) (.lit (.int 2147483579))) (.lit (.int 64))) (.loc 1))] (We b (.val (.int fig)) s3) D=
  some (.ret (.int (((((((fig.fmod 2147483629 * 40692).fmod 2147483647) * ((fig.fmod 2147483629 * 40692).fmod 2147483647)+4444).fmod 2147483587) * 39373).fmod 2147483579).fdiv 64 |>.fmod b)),ρ',D):=by
 have hf1:=VO (x:=fig) (y:=2147483629) (by decide) (by decide);have hf2:=VO (x:=fig.fmod 2147483629 * 40692) (y:=2147483647) (by decide) (by decide);have k1:exec ZC fl [] 1 (.set 2 (.bin .mod (.bin .mul (.bin .mod (.loc 2) (.lit (.int 2147483629))) (.lit (.int 40692))) (.lit (.int 2147483647)))) (We b (.val (.int fig)) s3) D=some (.next,We b (.val (.int ((fig.fmod 2147483629 * 40692).fmod 2147483647))) s3,D):=
  Qv rfl (HO (Xp (HO (x:=fig) (Q2 rfl) Qa (by decide)) Qa hf1 (Nat.le_of_ble_eq_true rfl)) Qa (by decide))
 generalize(fig.fmod 2147483629 * 40692).fmod 2147483647=f2 at *;have k2:exec ZC fl [] 1 (.set 2 (.bin .mod (.bin .add (.bin .mul (.loc 2) (.loc 2)) (.lit (.int 4444))) (.lit (.int 2147483587)))) (We b (.val (.int f2)) s3) D=some (.next,We b (.val (.int ((f2 * f2+4444).fmod 2147483587))) s3,D):=
  Qv rfl (HO (TB (Xp (x:=f2) (y:=f2) (Q2 rfl) (Q2 rfl) hf2 hf2) Qa) Qa (by decide))
 have hf3:=VO (x:=f2 * f2+4444) (y:=2147483587) (by decide) (by decide);generalize(f2 * f2+4444).fmod 2147483587=f3 at *;exact⟨_,(cons_of k1).trans ((cons_of k2).trans (Qr (QJ (HO (F9 (HO (Xp (x:=f3) (Q2 rfl) Qa hf3 (Nat.le_of_ble_eq_true rfl)) Qa (by decide)) Qa (by decide) (Nat.le_of_ble_eq_true rfl)) (Q2 rfl) (by lia)))))⟩
set_option tactic.hygienic true in
theorem LB(h:Ka [.deck,.int b] D=some (d,D'))(hc:D.cells.length<=1000):∃ρ',execs ZC fl [] 1 TV (We b .u .u) D=some (.ret d,ρ',D'):=by
 unfold Ka at h;dsimp only at h
 split at h
 ·refine False.elim ?_;exact Qf h
 rename_i hg;have hT:D.turn < 1000000:=by omega
 have hb:0 < b:=by omega
 have hb2:b<=1000:=by omega
 unfold TV
 -- the turn
 have s1:exec ZC fl [] 1 (.drop (.call .k38 [.loc 0,.bin .add (.call .k34 [.loc 0]) (.lit (.int 1))])) (We b .u .u) D=some (.next,We b .u .u,{ D with turn:=D.turn+1 }):=by
  dsimp only[exec];rw[Qd (Q1 (Q2 (v:=.deck) rfl) (Q1 (TB (YY (v:=.deck) (d:=.int (D.turn:Nat)) rfl rfl) Qa) Q6)) (r:=some (.none,{ D with turn:=D.turn+1 }))];show(if(0:Int)<=(D.turn:Nat)+1 then some (AV.none,{ D with turn:=(((D.turn:Nat):Int)+1).toNat }) else none)=_;refine Eq.trans (if_pos (Int.natCast_nonneg _)) ?_;have:(((D.turn:Nat):Int)+1).toNat=D.turn+1:=rfl;rw[this]
 rw[cons_of s1];generalize hD1:({ D with turn:=D.turn+1 }:Q8)=D1;have e1:D1.turn=D.turn+1:=by rw[<- hD1]
 have e2:D1.mixed=D.mixed:=by rw[<- hD1]
 have e3:D1.cells=D.cells:=by rw[<- hD1]
 have q1:run ZC (.call .k34 [.loc 0]) (We b .u .u) D1=some (.int (D1.turn:Nat),D1):=YY (v:=.deck) rfl rfl;have q2:run ZC (.call .k35 [.loc 0]) (We b .u .u) D1=some (.int D1.mixed,D1):=YY (v:=.deck) rfl rfl;have s2:exec ZC fl [] 1 (.set 2 (.bin .add (.call .k35 [.loc 0]) (.bin .mul (.bin .mul (.lit (.int 604444)) (.call .k34 [.loc 0])) (.call .k34 [.loc 0])))) (We b .u .u) D1=
   some (.next,We b (.val (.int (D1.mixed+604444 * (D1.turn:Nat) * (D1.turn:Nat)))) .u,D1):=
  Qv rfl (TB q2 (Xp (Xp Qa q1 (Nat.le_of_ble_eq_true rfl) (by omega)) q1 (by omega) (by omega)))
 rw[cons_of s2];have hfig:∀c,VW D c=((((((D1.mixed+604444 * (D1.turn:Nat) * (D1.turn:Nat)+c).fmod 2147483629 * 40692).fmod 2147483647) * (((D1.mixed+604444 * (D1.turn:Nat) * (D1.turn:Nat)+c).fmod 2147483629 * 40692).fmod 2147483647)+4444).fmod 2147483587) * 39373).fmod 2147483579:=fun c=>by
  rw[e1,e2];rfl
 generalize hF:D1.mixed+604444 * (D1.turn:Nat) * (D1.turn:Nat)=fig at hfig;have q3:run ZC (.call .k36 [.loc 0]) (We b (.val (.int fig)) .u) D1=some (.bool (!D1.cells.isEmpty),D1):=YY (v:=.deck) rfl rfl;rcases hl:D.cells.getLast? with _|c
 ·
  replace h:=hl▸h;replace h:=sp h;obtain⟨rfl,rfl⟩:=h;have he:D1.cells.isEmpty=true:=by rw[e3];simpa using hl
  rw[cons_of ((Z0 (ZE (b:=false) q3 (by rw[he];rfl))).trans execs_nil)];obtain⟨ρ',k⟩:=XS (fl:=fl) (D:=D1) (s3:=.u) (fig:=fig) hb hb2;have h0:=hfig 0;rw[Int.add_zero] at h0;rw[h0,hD1];exact⟨ρ',k⟩
 ·
  replace h:=hl▸h;dsimp only at h;have he:D1.cells.isEmpty=false:=by
   rw[e3];rcases hz:D.cells with _|⟨_,_⟩
   ·rw[hz] at hl;exact Qf hl
   ·rfl
  have q4:run ZC (.call .k40 [.loc 0]) (We b (.val (.int fig)) .u) D1=some (.int c,{ D1 with cells:=D1.cells.dropLast }):=by
   refine YY (v:=.deck) rfl ?_;show(D1.cells.getLast?.map fun c=>(AV.int c,({ D1 with cells:=D1.cells.dropLast }:Q8)))=_;rw[e3,hl];rfl
  generalize hD2:({ D1 with cells:=D1.cells.dropLast }:Q8)=D2 at q4;have e4:D2.cells=D.cells.dropLast:=by rw[<- hD2,<-e3]
  have s3:exec ZC fl [] 1 (.set 3 (.call .k40 [.loc 0])) (We b (.val (.int fig)) .u) D1=some (.next,We b (.val (.int fig)) (.val (.int c)),D2):=Qv rfl q4;by_cases hbig:1000000<=c
  ·rw[if_pos hbig] at h;replace h:=sp h;obtain⟨rfl,rfl⟩:=h;refine⟨We b (.val (.int fig)) (.val (.int c)),Qr ((Zm (ZE (b:=true) q3 (by rw[he];rfl))).trans ?_)⟩
   ·refine Eq.trans (cons_of s3) ?_;refine Qr ((Zm (D1:=D2) (ZE (x:=.bool (decide ((1000000:Int)<=c))) (QA (Q2 rfl) Qa rfl) (by rw[decide_eq_true hbig];rfl))).trans ?_);have s4:exec ZC fl [] 1 (.drop (.call .k37 [.loc 0,.bin .fdiv (.loc 3) (.loc 1)])) (We b (.val (.int fig)) (.val (.int c))) D2=some (.next,We b (.val (.int fig)) (.val (.int c)),{ D2 with cells:=D2.cells++[c.fdiv b] }):=by
     dsimp only[exec];rw[Qd (Q1 (Q2 (v:=.deck) rfl) (Q1 (F9 (x:=c) (y:=b) (Q2 rfl) (Q2 rfl) (by omega) (by omega)) Q6)) (r:=some (.none,{ D2 with cells:=D2.cells++[c.fdiv b] }))];show cond (decide (D2.cells.length < 1000)) (some (AV.none,{ D2 with cells:=D2.cells++[c.fdiv b] })) none=_;rw[decide_eq_true];rfl;rw[e4,List.length_dropLast];have:0 < D.cells.length:=by
      rcases hz:D.cells with _|⟨_,_⟩
      ·rw[hz] at hl;exact Qf hl
      ·simp
     omega
    refine Eq.trans (cons_of s4) ?_;have e5:({ D2 with cells:=D2.cells++[c.fdiv b] }:Q8)={ D with cells:=D.cells.dropLast++[c.fdiv b],turn:=D.turn+1 }:=by
     rw[e4,<-hD2,<-hD1]
    rw[e5];exact Qr (QJ (HO (x:=c) (y:=b) (Q2 rfl) (Q2 rfl) (by omega)))
  ·rw[if_neg hbig] at h;replace h:=sp h;obtain⟨rfl,rfl⟩:=h;have s5:exec ZC fl [] 1 (.set 2 (.bin .add (.loc 2) (.bin .mod (.loc 3) (.lit (.int 2147483563))))) (We b (.val (.int fig)) (.val (.int c))) D2=some (.next,We b (.val (.int (fig+c.fmod 2147483563))) (.val (.int c)),D2):=
    Qv rfl (TB (Q2 rfl) (HO (Q2 rfl) Qa (by decide)))
   obtain⟨ρ',k⟩:=XS (fl:=fl) (D:=D2) (s3:=.val (.int c)) (fig:=fig+c.fmod 2147483563) hb hb2;have e5:({ D with cells:=D.cells.dropLast,turn:=D.turn+1 }:Q8)=D2:=by
    rw[<- hD2,<-hD1]
   refine⟨ρ',?_⟩;rw[cons_of (ρ1:=We b (.val (.int (fig+c.fmod 2147483563))) (.val (.int c))) (D1:=D2) ((Zm (ZE (b:=true) q3 (by rw[he];rfl))).trans ?_)]
   ·rw[hfig,e5];exact k
   ·rw[cons_of s3,cons_of (ρ1:=We b (.val (.int fig)) (.val (.int c))) (D1:=D2) ((Z0 (D1:=D2) (ZE (x:=.bool (decide ((1000000:Int)<=c))) (QA (Q2 rfl) Qa rfl) (by rw[decide_eq_false hbig];rfl))).trans execs_nil),cons_of s5,execs_nil]
end
theorem R3{as:List AV}{D D':Q8}{d:AV}(h:Ka as D=some (d,D')):∃b,as=[.deck,.int b]:=by
 rcases as with _|⟨x,r⟩
 ·exact Qf h
 rcases x with _|_|_|_|_|_|_|_|_|_|_|_<;>try exact Qf h
 rcases r with _|⟨y,r⟩
 ·exact Qf h
 rcases y with _|_|_|_|_|_|_|_|_|_|_|_<;>try exact Qf h
 rcases r with _|_
 ·exact⟨_,rfl⟩
 ·exact Qf h
theorem K9:(QI QM).length=4/\QM.1.args.length=2:=by and_intros<;>kernel_rfl
theorem Em{X:Qu}(hX:X.dk=[X.da,X.ca]):Bj X:=fun as D d D' h x hx n A P0 g vs a s Q E R st hs dk hdk hp0 rel hmg hQ=>by
 refine cps fun U y0=>?_;obtain⟨b,rfl⟩:=R3 h;obtain⟨_,od,oc,dd⟩:=ZO.of dk (by rw[hX];simp);obtain⟨ρ',hrun⟩:=LB (fl:=true) h dd.few;obtain⟨df,a',hdf,hat⟩:=st.fn x .k33 hx;have ex:x=VV:=by
  exact(by decide +kernel:∀p∈Jd,p.2=.k33->p.1=VV) _ hx rfl
 subst ex;replace hdf:=Eq.trans R6.symm hdf;obtain rfl:=so hdf;have ea:a'=a:=by
  have:=hat.name;replace this:=Eq.trans hmg.symm this;cases this;rfl
 subst ea;refine y0 ?_;have hok:=R4;have hpl:plainDef QM=true:=by
  have:=hok;unfold UE at this;simp only[Bool.and_eq_true] at this;exact this.1.1.1
 have hvl:=rel.len;have hdp:=R.dp;refine ZD (Wh hat.obj' hpl hs (by lia) (st.noLimit hs) (by rw[hvl,K9.2];rfl) fun env s₁ EE IC=>?_);have okc:=JW EE hok;obtain⟨h1,t1,rfl⟩:=IC.toInCall.same;have rel2:Qo X s.heap.get? g [.deck,.int b] vs:=Qo.anyP (by rfl) rel;have F0:=J4 (P0:=s.heap.get?) (fl:=true) EE IC hok st hs dk hdk (fun b o e=>by rw[e];rfl) (fun Z=>rfl) rel2 (by rw[K9.2];rfl);rw[K9.1,K9.2] at F0;refine LA okc hX (A.deeper env) s.heap.get? (Qw X s.heap g) (fun Z=>none) g _ ρ' D D' (.ret d) _ _ _ (R.deeper env) hrun (fun v q=>by cases q) F0 fun fw h2 t2 hr=>?_;obtain⟨v,g2,rfl,rv,F2⟩:=hr;exact hQ v g2 h2 t2 (KL hs hdk F2) F2.deck (rv.mono (PM.le.refl _) fun b e=>by
  rcases z:P0 b with _|o
  ·rfl
  ·have:=hp0 b o z;rw[e] at this;exact Bool.noConfusion this)
theorem G7:Tj QN where
 fc:=by
  have:∀p∈Jd,p.2≠.k33->fc p.1=some (QN p.2):=by
   unfold Jd;simp only[List.forall_mem_append,List.forall_mem_cons];refine⟨⟨⟨⟨⟨⟨?_,?_,?_,?_,?_,?_,?_,?_,fun x hx=>by cases hx⟩,⟨?_,?_,?_,?_,?_,?_,?_,?_,fun x hx=>by cases hx⟩⟩,⟨?_,?_,?_,?_,?_,?_,?_,?_,fun x hx=>by cases hx⟩⟩,⟨?_,?_,?_,?_,?_,?_,?_,?_,fun x hx=>by cases hx⟩⟩,⟨?_,?_,?_,?_,?_,?_,?_,?_,fun x hx=>by cases hx⟩⟩,⟨?_,?_,?_,?_,fun x hx=>by cases hx⟩⟩<;>first|exact fun q=>absurd rfl q|exact fun Z=>by kernel_rfl
  exact fun x f hx hf=>this (x,f) hx hf
 ok:=by
  have:∀p∈Jd,((Jx p.1 pw.main.body).all UE)=true:=by
   unfold Jd;simp only[List.forall_mem_append,List.forall_mem_cons];refine⟨⟨⟨⟨⟨⟨?_,?_,?_,?_,?_,?_,?_,?_,fun x hx=>by cases hx⟩,⟨?_,?_,?_,?_,?_,?_,?_,?_,fun x hx=>by cases hx⟩⟩,⟨?_,?_,?_,?_,?_,?_,?_,?_,fun x hx=>by cases hx⟩⟩,⟨?_,?_,?_,?_,?_,?_,?_,?_,fun x hx=>by cases hx⟩⟩,⟨?_,?_,?_,?_,?_,?_,?_,?_,fun x hx=>by cases hx⟩⟩,⟨?_,?_,?_,?_,fun x hx=>by cases hx⟩⟩<;>kernel_rfl
  intro x f d hx hf hd;have:=this (x,f) hx;rw[show(x,f).1=x from rfl,hd] at this;exact this
theorem Kd{X:Qu}(hX:X.dk=[X.da,X.ca])(n:Nat):JD X n (CF n):=LS G7 100000 (Em hX) n
noncomputable def Wf:List Nat:=[95,108,97,119,95,100,101,99,107]
noncomputable def ZW:Arguments×List Stmt×Scope:=(Jx Wf pw.main.body).getD (⟨[],[],none,[],[],none,[]⟩,[],⟨.function,[],false,false,[]⟩)
theorem Rc:Jx Wf pw.main.body=some ZW:=by kernel_rfl
theorem Rb:UE ZW=true:=by kernel_rfl
theorem YL:(Qc ZW).slots=[("script":Str),"cell","cells","mixed"]:=by kernel_rfl
inductive D8:Prop
 | mk (s1 s2:Stmt) (p1 p2 p3 p4 p5 p6 p7 p8 p9 p10 p11 p12 p13:Pos) (h0:ZW.2.1=[s1,s2,.Return (some (.Dict ([.Constant (.str "cells") 0 p1,.Constant (.str "mixed") 0 p2,.Constant (.str "turn") 0 p3].map some) [.Subscript (.Name "cells" p4) (.Slice none none (some (.UnaryOp .USub (.Constant (.int 1) 0 p5) p6)) p7) p8,.Name "mixed" p9,.Constant (.int 0) 0 p10] p11)) p12]) (h1:Zz 20 (Qc ZW) s1=C3) (h2:Zz 20 (Qc ZW) s2=C2)
theorem Ra:D8:=⟨_,_,_,_,_,_,_,_,_,_,_,_,_,_,default,rfl,by kernel_rfl,by kernel_rfl⟩
theorem Mp{Φ:Qj}{fl:Bool}{D:Q8}{is:List Int}(hl:is.length<=65536):∃(c':LV) (m':Int),execs Φ fl [] 100000 [C3,C2] [.val (.list (is.map .int)),.u,.u,.u] D=some (.next,[.val (.list (is.map .int)),c',.val (.list ((is.take 12).map .int)),.val (.int m')],D):=by
 have hl2:(is.take 12).length<=65536:=by rw[List.length_take];lia
 obtain⟨c',m',k⟩:=SD (Φ:=Φ) (fl:=fl) (own:=[]) (W:=100000) (D:=D) (sc:=.list (is.map .int)) (cs:=.list ((is.take 12).map .int)) (is.take 12) .u 4444 (by decide) (by decide);refine⟨c',m',?_⟩;have e0:run Φ (IR.comp [] (IR.bi (Bi.int) [IR.loc 4]) (IR.slc (IR.loc 0) none (some (IR.lit (AV.int 12)))) none) [.val (.list (is.map .int)),.u,.u,.u] D=some (.list ((is.take 12).map .int),D):=by
  refine KZ (ZQ (z:=.list ((is.take 12).map .int)) (Q2 rfl) ZG (Qp (n:=12) Qa (rfl)) ?_) rfl (by rw[List.length_map];exact hl2) fun v hv=>?_
  rotate_left
  ·obtain⟨i,_,rfl⟩:=List.mem_map.mp hv;rfl
  ·unfold Ku;dsimp only;rw[if_pos (by rw[List.length_map];exact hl)];dsimp only[Yz];dsimp only[Option.getD_none];rw[List.drop_zero,List.map_take]
 have s0:exec Φ fl [] 100000 C3 [.val (.list (is.map .int)),.u,.u,.u] D=some (.next,[.val (.list (is.map .int)),.u,.val (.list ((is.take 12).map .int)),.val (.int 4444)],D):=
  YW (QV rfl e0) (QV rfl Qa) rfl
 refine Eq.trans (cons_of s0) ?_;have s1:exec Φ fl [] 100000 C2 [.val (.list (is.map .int)),.u,.val (.list ((is.take 12).map .int)),.val (.int 4444)] D=some (.next,[.val (.list (is.map .int)),c',.val (.list ((is.take 12).map .int)),.val (.int m')],D):=by
  exact(GX (Q2 (v:=.list ((is.take 12).map .int)) rfl) rfl ⟨by rw[List.length_map];exact hl2,Xv _⟩).trans k
 exact((cons_of s1).trans (execs_nil ..))
section
variable {X:Qu}{n:Nat}{Φ:Qj}{env:Env}{names:List Str}
variable {A:Around}{P0 g g1:PM}{P:PF}{s:Shared}{E:VP}{fl:Bool}{own:Nat->Option Addr}{ρ:List LV}{D D':Q8}
theorem S3{v:Expr}{a:IR}{k:Nat}{p2 p3 p pos:Pos}{is:List Int}{Q:VP}(ha:Qg X n Φ env names v a)(R:Ze A n)(h1:run Φ a ρ D=some (.list (is.map .int),D'))(hz:is.length<=65536)(F:Z6 X P0 P fl env names own g ρ D s.heap)
  (hQ:∀c vs m g1 h' tk,Qs X.dk g s.heap g1 h'->QO X D' h'->s.heap.get? c=none->g1 c=none->h'.get? c=some { cls:=.type "list",dict:=none,data:=.seq vs m,slots:=#[] }->IntsAre vs.toList is.reverse->Q (.ref c) { s with heap:=h',toks:=tk }):
  QD X.M A (eval (.Subscript v (.Slice none none (some (.UnaryOp .USub (.Constant (.int 1) k p2) p3)) p) pos) env) Q E s:=by
 refine Qk UQ ?_;refine Q0 (ha A P0 P fl own g ρ D D' (.list (is.map .int)) s _ E R h1 F fun v g1 H1 t1 G1 dk1 r1=>?_);rw[arm_eval_Slice];refine Q0 (Q5 (Q0 (Q3 (wpAny_of_eq (a:=Value.none) rfl (Q0 (Q5 (Q3 (wpAny_of_eq (a:=Value.none) rfl ?_))))))));refine Q0 (Q5 ?_);show QD _ _ (eval (.UnaryOp .USub (.Constant (.int 1) k p2) p3) env) _ _ _;refine(arm_eval_UnaryOp ..).symm▸?_;refine Q0 (Q3 (wpAny_Constant_int (Q0 (Q4 (Q5 (Q3 (PyProof.Rows.neg_int ?_)))))));refine Q3 (wpAny_newObj_type ?_);refine Q0 (Q4 (Q3 ?_));refine cps fun U y0=>?_;obtain⟨al,vs,rfl,h2,h3⟩:=r1.list_at (s:={ s with heap:=H1,toks:=t1 }) G1.sub;refine y0 ?_;have e1:=h3.len;rw[Array.length_toList,List.length_map] at e1;refine J9 (h2.push _).typeIs slot_list_getitem.lookup ?_;refine wpAny_getItem_list_slice (st:=some (-1)) (h2.push _) (Heap.IsSliceOf.new ..) .none .none (.int _ _) (by decide) ?_ (by rw[sizeLine_eq];lia);have keep1:∀(h:Heap) (o b:_) (ob:Obj),h.get? b=some ob->(h.push o).get? b=some ob:=fun h o b ob e=>Heap.get?_push_of_some _ e;have keep:∀b o,H1.get? b=some o->((H1.push { cls:=.type "slice",data:=.fields #[.none,.none,.int (-1) (t1+1)] }).push { cls:=.type "list",data:=.seq (slicePick vs none none (some (-1))) }).get? b=some o:=fun b o e=>keep1 _ _ _ _ (keep1 _ _ _ _ e);have Kn:∀b,H1.get? b=none->s.heap.get? b=none:=fun b e=>by
  rcases q:s.heap.get? b with _|o
  ·rfl
  ·
   obtain⟨o',e',_⟩:=G1.keep b o q;exact Qf (e.symm.trans e')
 have hne:H1.get? (H1.push { cls:=.type "slice",data:=.fields #[.none,.none,.int (-1) (t1+1)] }).objs.size=none:=by
  rcases q:H1.get? (H1.push { cls:=.type "slice",data:=.fields #[.none,.none,.int (-1) (t1+1)] }).objs.size with _|o
  ·rfl
  ·
   have:=keep1 H1 { cls:=.type "slice",data:=.fields #[.none,.none,.int (-1) (t1+1)] } _ o q;rw[Zj] at this;exact Qf this
 refine hQ _ (slicePick vs none none (some (-1))) 0 g1 _ _ (G1.trans (Qs.same G1.sub keep)) (dk1.keeps keep) (Kn _ hne) ?_ (Heap.get?_push_size _ rfl) ?_
 ·rcases q:g1 (H1.push { cls:=.type "slice",data:=.fields #[.none,.none,.int (-1) (t1+1)] }).objs.size with _|o
  ·rfl
  ·have:=G1.sub _ _ q;rw[hne] at this;exact Qf this
 ·refine(krv_pick ..).symm▸?_;have:=h3.rev;rw[<- List.map_reverse] at this;exact L6 this
end
section
variable {X:Qu}{n:Nat}{Φ:Qj}{env:Env}{names:List Str}
variable {A:Around}{P0 g g1:PM}{P:PF}{s:Shared}{E:VP}{fl:Bool}{own:Nat->Option Addr}{ρ:List LV}{D D':Q8}
theorem keepsAll{h h':Heap}{g g':PM}(G:Qs [] g h g' h'):∀b o,h.get? b=some o->h'.get? b=some o:=fun b o e=>by
 obtain⟨o',e',k⟩:=G.keep b o e;rw[e',k (by exact List.not_mem_nil)]
theorem R9(hX:X.dk=[]){v e2:Expr}{a b:IR}{p1 p2 p3 p5 p6 p7 p8 p10 p11:Pos}{is:List Int}{m:Int}{Q:VP}(ha:Qg X n Φ env names v a)(hb:Qg X n Φ env names e2 b)(R:Ze A n)
  (h1:∀D,run Φ a ρ D=some (.list (is.map .int),D)) (h2:∀D,run Φ b ρ D=some (.int m,D)) (hz:is.length<=1000) (F:Z6 X P0 P fl env names own g ρ D s.heap)
  (hQ:∀ad c h' tk od oc,(∀b o,s.heap.get? b=some o->h'.get? b=some o)->s.heap.get? ad=none->s.heap.get? c=none->ZO { X with da:=ad,ca:=c } ⟨is.reverse,m,0⟩ h' od oc->Q (.ref ad) { s with heap:=h',toks:=tk }):
  QD X.M A (eval (.Dict ([.Constant (.str "cells") 0 p1,.Constant (.str "mixed") 0 p2,.Constant (.str "turn") 0 p3].map some) [.Subscript v (.Slice none none (some (.UnaryOp .USub (.Constant (.int 1) 0 p5) p6)) p7) p8,e2,.Constant (.int 0) 0 p10] p11) env) Q E s:=by
 rw[arm_eval_Dict,YK,dictDisplay_pairs (pairsOf env p11 (List.zip _ _)) (by unfold pairsOf;simp) (by unfold pairsOf;simp)];refine Q0 (Q4 (Q0 ?_));unfold subDict;refine Q9 (wpAny_alloc ?_);refine Q0 (Q5 ?_);rw[if_pos (by unfold pairsOf;simp)];have keep:∀b o,s.heap.get? b=some o->(s.heap.push { cls:=.type "dict",data:=.dict #[] }).get? b=some o:=fun b o e=>Heap.get?_push_of_some _ e;have G0:Qs X.dk g s.heap g (s.heap.push { cls:=.type "dict",data:=.dict #[] }):=Qs.same F.sub keep;have F0:=F.grow G0 (F.deck.keeps keep);refine Q0 ?_;show QD _ _ (evalPairs ((eval (.Constant (.str "cells") 0 p1) env,do let x <-eval (.Subscript v (.Slice none none (some (.UnaryOp .USub (.Constant (.int 1) 0 p5) p6)) p7) p8) env;standAt p11;pure x)::pairsOf env p11 [(.Constant (.str "mixed") 0 p2,e2),(.Constant (.str "turn") 0 p3,.Constant (.int 0) 0 p10)])) _ _ _;rw[evalPairs];have hs:∀(x:Str) p,Qg X n Φ env names (.Constant (.str x) 0 p) (.lit (.str x.cps.toList)):=fun x p=>Hl;refine Q0 (hs "cells" p1 A P0 P fl own g ρ D D (.str ("cells":Str).cps.toList) _ _ E R (by dsimp only[run]<;>rfl) F0 fun w1 g1 H1 t1 G1 dk1 r1=>?_);have F1:=F0.grow G1 dk1;refine Q0 (Q5 (Q0 (S3 (P0:=P0) (P:=P) (fl:=fl) (own:=own) (ρ:=ρ) (D:=D) (D':=D) ha R (h1 D) (by omega) F1 fun c vs m2 g2 H2 t2 G2 dk2 hc hgc hH2 hvs=>Q0 (Q4 (Q7 ?_)))));have F2:=F1.grow G2 dk2;have hi:∀q∈[((Expr.Constant (.str "mixed") 0 p2,e2):Expr×Expr),(.Constant (.str "turn") 0 p3,.Constant (.int 0) 0 p10)].zip [(IR.lit (.str ("mixed":Str).cps.toList),b),(IR.lit (.str ("turn":Str).cps.toList),IR.lit (.int 0))],Qg X n Φ env names q.1.1 q.2.1/\Qg X n Φ env names q.1.2 q.2.2:=by
  intro q hq;simp at hq;rcases hq with rfl|rfl
  ·exact⟨hs "mixed" p2,hb⟩
  ·exact⟨hs "turn" p3,Vy⟩
 have hruns:runs Φ (UD [(IR.lit (.str ("mixed":Str).cps.toList),b),(IR.lit (.str ("turn":Str).cps.toList),IR.lit (.int 0))]) ρ D=some ([.str ("mixed":Str).cps.toList,.int m,.str ("turn":Str).cps.toList,.int 0],D):=
  Q1 Qa (Q1 (h2 D) (Q1 Qa (Q1 Qa Q6)))
 refine Q0 (Q5 (Xi (pos:=p11) rfl hi A P0 P fl own g2 ρ D D _ _ _ E R hruns F2 fun vks vvs g3 H3 t3 G3 dk3 r3 r4 l3 l4=>?_));refine Q7 ?_
 -- the values
 dsimp only[UP] at r3;dsimp only[Xt] at r4;dsimp only[Qo] at r3 r4;obtain⟨k2,r5,rfl,r6,k3,r7,rfl,r8,rfl⟩:=r3;obtain⟨v2,q5,rfl,q6,v3,q7,rfl,q8,rfl⟩:=r4;dsimp only[VR] at r1 r6 r8 q6 q8;obtain⟨x1,y1,rfl,z1⟩:=r1;obtain⟨x2,y2,rfl,z2⟩:=r6;obtain⟨x3,y3,rfl,z3⟩:=r8;obtain⟨t6,rfl⟩:=q6;obtain⟨t8,rfl⟩:=q8;have strEq:∀{x y:Str},x.cps.toList=y.cps.toList->x=y:=fun{x y} h=>by
  obtain⟨x⟩:=x;obtain⟨y⟩:=y;exact congrArg Str.mk (Array.toList_inj.mp h)
 have z1:=strEq z1;have z2:=strEq z2;have z3:=strEq z3;subst z1 z2 z3;rw[hX] at G0 G1 G2 G3;have kk:∀b o,(s.heap.push { cls:=.type "dict",data:=.dict #[] }).get? b=some o->H3.get? b=some o:=fun b o e=>keepsAll G3 b o (keepsAll G2 b o (keepsAll G1 b o e));have hnew:=kk _ _ (Heap.get?_push_size (h:=s.heap) (o:={ cls:=.type "dict",data:=.dict #[] }) rfl);have hc3:H3.get? c=some { cls:=.type "list",dict:=none,data:=.seq vs m2,slots:=#[] }:=keepsAll G3 _ _ hH2;have hcs:s.heap.get? c=none:=by
  cases q:s.heap.get? c with
  | none=>rfl
  | some o=>
   have:=keepsAll G1 _ _ (keep _ _ q);rw[hc] at this;cases this
 have hac:c≠s.heap.objs.size:=fun q=>by
  rw[q,hnew] at hc3;simp at hc3
 refine Q5 (Q9 (wpAny_storeAll (knd:=strKind pw X.w) [(.str "cells" y1,.ref c),(.str "mixed" y2,.int m t6),(.str "turn" y3,.int 0 t8)] [(("cells":Str),.ref c),("mixed",.int m t6),("turn",.int 0 t8)] [] { s with heap:=H3,toks:=t3 } _
  ⟨strKind_is pw X.w _ _,rfl,strKind_is pw X.w _ _,rfl,strKind_is pw X.w _ _,rfl,trivial⟩ ⟨_,#[],0,hnew,⟨rfl,rfl,rfl⟩,rfl,fun Z he=>by simp at he,Pairs.nil,List.nodup_nil⟩ (by simp[sizeLine_eq]) fun h' hm' hs'=>?_))
 refine Q7 (Q7 (Q7 ?_));have em:merged ([]:List (Str×Value)) [(("cells":Str),Value.ref c),("mixed",.int m t6),("turn",.int 0 t8)]=[(("cells":Str),Value.ref c),("mixed",.int m t6),("turn",.int 0 t8)]:=by kernel_rfl
 rw[em] at hm';obtain⟨od,ho,hod⟩:=Heap.dictOf_iff.mp hm';refine hQ s.heap.objs.size c h' _ od _ (fun b o e=>?_) (Zj _) hcs ⟨Ne.symm hac,WY F.st F.sub,ho,by show h'.get? c=_;rw[hs'.2 _ hac];exact hc3,⟨t6,t8,hod⟩,⟨vs,m2,rfl,rfl,rfl,rfl,hvs⟩,by simp;omega⟩;have hb:b≠s.heap.objs.size:=Nat.ne_of_lt (Heap.lt_size e);rw[hs'.2 b hb];exact kk b o (keep b o e)
end
noncomputable abbrev EO:Qj:=fun Z Z Z=>none
theorem Tb{X:Qu}{n:Nat}:JD X n EO:=fun f as D d D' h=>by exact Qf h
theorem O8{Φ:Qj}{fl:Bool}{own:List Nat}{W:Nat}{a b:SR}{ρ ρ2:List LV}{D D2:Q8}(h:execs Φ fl own W [a,b] ρ D=some (.next,ρ2,D2)):∃ρ1 D1,exec Φ fl own W a ρ D=some (.next,ρ1,D1)/\exec Φ fl own W b ρ1 D1=some (.next,ρ2,D2):=by
 dsimp only[execs] at h;rcases q:exec Φ fl own W a ρ D with _|⟨o,ρ1,D1⟩
 ·rw[q] at h;exact Qf h
 ·replace h:=q▸h;rcases o with _|v|v
  ·exact⟨ρ1,D1,rfl,by rw[<- Qm];exact h⟩
  ·cases h
  ·cases h
theorem Kb:(QI ZW).length=4/\ZW.1.args.length=1:=by and_intros<;>kernel_rfl
theorem Ze.low{A:Around}{n m:Nat}(R:Ze A n)(h:m<=n):Ze A m:=⟨R.hd,by have:=R.dp;lia,by have:=R.un;lia⟩
section
variable {X:Qu}{A:Around}{P0 g:PM}{s:Shared}{E:VP}
theorem R8(hX:X.dk=[])(R:Ze A 1)(st:St X g)(hs:PM.le g s.heap.get?){scr:Value}{is:List Int}(hscr:VR X P0 g (.list (is.map .int)) scr)(hl:is.length<=65536){a:Addr}(hmg:X.mg (Zc Wf)=some (.ref a)){Q:VP}
  (hQ:∀ad c cs m h' tk od oc,(∀b o,s.heap.get? b=some o->h'.get? b=some o)->s.heap.get? ad=none->s.heap.get? c=none->ZO { X with da:=ad,ca:=c } ⟨cs,m,0⟩ h' od oc->Q (.ref ad) { s with heap:=h',toks:=tk }):
  QD X.M A (call (.ref a) [scr]) Q E s:=by
 obtain⟨df,a',hdf,hat⟩:=st.fn Wf .k43 (mem_of_lookup (by kernel_rfl));rw[Rc] at hdf;cases hdf;have ea:a'=a:=by
  have:=hat.name;rw[hmg] at this;cases this;rfl
 subst ea;have hok:=Rb;have hpl:plainDef ZW=true:=by
  have:=hok;unfold UE at this;simp only[Bool.and_eq_true] at this;exact this.1.1.1
 have hdp:=R.dp;refine ZD (Wh hat.obj' hpl hs (by omega) (st.noLimit hs) (by rw[Kb.2];rfl) fun env s₁ EE IC=>?_);have okc:=JW EE hok;obtain⟨h1,t1,rfl⟩:=IC.toInCall.same;have rel:Qo X s.heap.get? g [.list (is.map .int)] [scr]:=by
  dsimp only[Qo];refine⟨_,_,rfl,VR.anyP ?_ hscr,by dsimp only[Qo]<;>rfl⟩;dsimp only[AV.noModi];have:∀l:List Int,AV.noModis (l.map .int)=true:=fun l=>by
   induction l with
   | nil=>rfl
   | cons i l ih=>rw[List.map_cons];dsimp only[AV.noModis,AV.noModi];rw[ih];rfl
  exact this is
 have F0:=J4 (P0:=s.heap.get?) (fl:=false) (D:=⟨[],0,0⟩) EE IC hok st hs (.inl hX) (fun b hb=>by rw[hX] at hb;cases hb) (fun b o e=>by rw[e];rfl) (fun q=>by cases q) rel (by rw[Kb.2];rfl);rw[Kb.1,Kb.2] at F0;obtain⟨c',m',k⟩:=Mp (Φ:=EO) (fl:=false) (D:=⟨[],0,0⟩) hl;obtain⟨ρ1,D1,k1,k2⟩:=O8 k;obtain⟨s1,s2,p1,p2,p3,p4,p5,p6,p7,p8,p9,p10,p11,p12,p13,hb,c1,c2⟩:=Ra;have nd:(Qc ZW).slots.Nodup:=by rw[YL];decide
 have R0:Ze (A.deeper env) 0:=R.deeper env;have i1:Qq X 0 EO env (Qc ZW).slots false (PySem.exec s1 env) (exec EO false [] 100000 C3):=by rw[<- c1];exact JY Tb 20 _ s1 env okc nd
 have i2:Qq X 0 EO env (Qc ZW).slots false (PySem.exec s2 env) (exec EO false [] 100000 C2):=by rw[<- c2];exact JY Tb 20 _ s2 env okc nd
 rw[hb,execs_cons];refine Q0 (i1 _ _ (Qw X s.heap g) (fun Z=>none) g _ ρ1 _ D1 .next _ _ _ R0 k1 (fun v q=>by cases q) F0 fun f h2 t2 hr=>?_);obtain⟨rfl,g2,own2,F2⟩:=hr;show QD _ _ (PySem.execs (s2::_) env) _ _ _;rw[execs_cons];refine Q0 (i2 _ _ (Qw X s.heap g) own2 g2 ρ1 _ D1 _ .next _ _ _ R0 k2 (fun v q=>by cases q) F2 fun f h3 t3 hr=>?_);obtain⟨rfl,g3,own3,F3⟩:=hr;show QD _ _ (PySem.execs [_] env) _ _ _;rw[execs_cons];refine Q0 ?_;rw[exec_Return_some];have at2:(Qc ZW).slots[2]?=some ("cells":Str):=by rw[YL];rfl
 have at3:(Qc ZW).slots[3]?=some ("mixed":Str):=by rw[YL];rfl
 have n2:Qg X 0 EO env (Qc ZW).slots (.Name "cells" p4) (.loc 2):=JF okc.e at2 (by decide) (by decide);have n3:Qg X 0 EO env (Qc ZW).slots (.Name "mixed" p9) (.loc 3):=JF okc.e at3 (by decide) (by decide);refine Q0 (Q4 (Q0 (R9 (D:=⟨[],0,0⟩) hX n2 n3 R0 (fun D=>Q2 rfl) (fun D=>Q2 rfl) (by rw[List.length_take];omega) F3 fun ad c h4 t4 od oc kp f1 f2 dd=>?_)));refine Q7 (Q7 ?_);have back:∀b o,s.heap.get? b=some o->h3.get? b=some o:=fun b o e=>F3.prot b o (by show(if b∈X.dk then none else s.heap.get? b)=_;rw[hX,if_neg (by simp)];exact e);have fr:∀b,h3.get? b=none->s.heap.get? b=none:=fun b e=>by
  cases q:s.heap.get? b with
  | none=>rfl
  | some o=>rw[back b o q] at e;cases e
 exact hQ ad c _ m' h4 t4 od oc (fun b o e=>kp b o (back b o e)) (fr _ f1) (fr _ f2) dd
end
noncomputable def oF(P:Params)(a:Addr):Obj:=((QE P).get? a).getD { cls:=.none,data:=.fields #[] }
noncomputable def W8(P:Params)(a:Addr):FuncData:=match(oF P a).data with|.func fd=>fd|_=>docDef (Str.mk #[]) ⟨[],[],none,[],[],none,[]⟩ [] ⟨.function,[],false,false,[]⟩ .none .none .none
noncomputable def Br(P:Params)(a:Addr):Array Value:=match(oF P a).data with|.fields vs=>vs|_=>#[]
noncomputable def qR(P:Params)(a:Addr):Array Value:=match(oF P a).data with|.seq vs _=>vs|_=>#[]
noncomputable def zJ(P:Params)(a:Addr):Nat:=match(oF P a).data with|.seq _ n=>n|_=>0
noncomputable def RI:Value->Tok|.str _ t=>t|.int _ t=>t|.bytes _ t=>t|_=>0
noncomputable def Xn:Value->Addr|.ref a=>a|_=>0
noncomputable def CP:Value->Array UInt8|.bytes b _=>b|_=>#[]
noncomputable def LH(x:List Nat):Arguments×List Stmt×Scope:=(Jx x pw.main.body).getD (⟨[],[],none,[],[],none,[]⟩,[],⟨.function,[],false,false,[]⟩)
noncomputable def Xx(P:Params):Str->Option Value:=(QE P).nsMap mainGlobals
noncomputable def Dw(P:Params):Str->Option Value:=(QE P).nsMap builtinsNs
noncomputable abbrev FA(P:Params)(x:List Nat)(F C:Addr):Prop:=Xx P (Zc x)=some (.ref F)/\(QE P).get? F=some (oF P F)/\(oF P F).data=.func (docDef (Zc x) (LH x).1 (LH x).2.1 (LH x).2.2 (W8 P F).pyModule (.ref C) (W8 P F).doc)/\
 (QE P).get? C=some (oF P C)/\(oF P C).data=.fields (Br P C)/\(Br P C)[1]?=some (.str (Zc x) (RI ((Br P C)[1]?.getD .none)))/\Jx x pw.main.body=some (LH x)
theorem je(P:Params):FA P [100,101,99,105,109,97,108,95,111,99,116,101,116,115] 54 53:=by and_intros<;>kernel_rfl
theorem jd(P:Params):FA P [110,117,109,98,101,114,95,111,102] 61 60:=by and_intros<;>kernel_rfl
theorem jc(P:Params):FA P [102,111,114,109,97,116,95,108,101,116,116,101,114,115] 80 79:=by and_intros<;>kernel_rfl
theorem jb(P:Params):FA P [105,115,95,116,114,117,101] 87 86:=by and_intros<;>kernel_rfl
theorem ja(P:Params):FA P [102,111,114,109,97,116,95,116,114,117,116,104] 94 93:=by and_intros<;>kernel_rfl
theorem j9(P:Params):FA P [102,111,114,109,97,116,95,101,110,100] 101 100:=by and_intros<;>kernel_rfl
theorem j8(P:Params):FA P [102,111,114,109,97,116,95,115,112,108,105,116] 108 107:=by and_intros<;>kernel_rfl
theorem j7(P:Params):FA P [102,111,114,109,97,116,95,109,111,100,105,102,105,101,114,95,97,116] 136 135:=by and_intros<;>kernel_rfl
theorem j6(P:Params):FA P [102,111,114,109,97,116,95,116,111,108,100,95,97,116] 143 142:=by and_intros<;>kernel_rfl
theorem j5(P:Params):FA P [102,111,114,109,97,116,95,109,111,100,105,102,105,101,114,115] 150 149:=by and_intros<;>kernel_rfl
theorem IZ(P:Params):FA P [102,111,114,109,97,116,95,109,111,100,105,102,105,101,114] 157 156:=by and_intros<;>kernel_rfl
theorem IY(P:Params):FA P [101,120,112,97,110,100,95,102,111,114,109,97,116] 164 163:=by and_intros<;>kernel_rfl
theorem IX(P:Params):FA P [102,111,114,109,97,116,95,101,120,112,97,110,100,101,100] 171 170:=by and_intros<;>kernel_rfl
theorem IW(P:Params):FA P [102,111,114,109,97,116,95,112,97,114,116] 176 175:=by and_intros<;>kernel_rfl
theorem IV(P:Params):FA P [102,111,114,109,97,116,95,116,111,108,100] 183 182:=by and_intros<;>kernel_rfl
theorem IU(P:Params):FA P [102,111,114,109,97,116,95,118,97,108,117,101] 190 189:=by and_intros<;>kernel_rfl
theorem IT(P:Params):FA P [102,111,114,109,97,116,95,105,115,95,115,111] 197 196:=by and_intros<;>kernel_rfl
theorem IS(P:Params):FA P [102,111,114,109,97,116,95,99,104,111,115,101,110] 204 203:=by and_intros<;>kernel_rfl
theorem IQ(P:Params):FA P [102,111,114,109,97,116,95,112,97,105,114,101,100] 211 210:=by and_intros<;>kernel_rfl
theorem IP(P:Params):FA P [102,111,114,109,97,116,95,99,111,109,112,97,114,101,100] 218 217:=by and_intros<;>kernel_rfl
theorem IM(P:Params):FA P [102,111,114,109,97,116,95,117,110,109,97,114,107,101,100] 242 241:=by and_intros<;>kernel_rfl
theorem IL(P:Params):FA P [102,111,114,109,97,116,95,102,111,108,100,101,114] 249 248:=by and_intros<;>kernel_rfl
theorem IK(P:Params):FA P [102,111,114,109,97,116,95,102,111,108,100,101,100] 275 274:=by and_intros<;>kernel_rfl
theorem IJ(P:Params):FA P [102,111,114,109,97,116,95,102,105,116,115] 282 281:=by and_intros<;>kernel_rfl
theorem II(P:Params):FA P [102,111,114,109,97,116,95,119,104,111,108,101] 289 288:=by and_intros<;>kernel_rfl
theorem IH(P:Params):FA P [102,111,114,109,97,116,95,113,117,111,116,105,101,110,116] 296 295:=by and_intros<;>kernel_rfl
theorem IG(P:Params):FA P [102,111,114,109,97,116,95,114,101,99,107,111,110,101,100] 303 302:=by and_intros<;>kernel_rfl
theorem IF(P:Params):FA P [102,111,114,109,97,116,95,112,105,101,99,101,115] 317 316:=by and_intros<;>kernel_rfl
theorem IE(P:Params):FA P [102,111,114,109,97,116,95,119,105,100,116,104] 322 321:=by and_intros<;>kernel_rfl
theorem ID(P:Params):FA P [102,111,114,109,97,116,95,99,117,116] 327 326:=by and_intros<;>kernel_rfl
theorem IB(P:Params):FA P [102,111,114,109,97,116,95,108,105,109,105,116,101,100] 334 333:=by and_intros<;>kernel_rfl
theorem IA(P:Params):FA P [102,111,114,109,97,116,95,102,105,108,108,101,100] 341 340:=by and_intros<;>kernel_rfl
theorem Iz(P:Params):FA P [102,111,114,109,97,116,95,102,105,110,105,115,104,101,100] 348 347:=by and_intros<;>kernel_rfl
theorem Iy(P:Params):FA P [95,108,97,119,95,100,114,97,119] 360 359:=by and_intros<;>kernel_rfl
theorem Iw(P:Params):FA P [95,108,97,119,95,112,105,99,107] 367 366:=by and_intros<;>kernel_rfl
theorem Iv(P:Params):FA P [95,108,97,119,95,102,97,99,116,115] 374 373:=by and_intros<;>kernel_rfl
theorem Iu(P:Params):FA P [95,108,97,119,95,100,101,99,105,109,97,108] 379 378:=by and_intros<;>kernel_rfl
theorem It(P:Params):FA P [95,108,97,119,95,102,105,116,115] 384 383:=by and_intros<;>kernel_rfl
theorem Ir(P:Params):FA P [95,108,97,119,95,105,115,95,116,114,117,101] 391 390:=by and_intros<;>kernel_rfl
theorem Iq(P:Params):FA P [95,108,97,119,95,116,114,117,116,104] 398 397:=by and_intros<;>kernel_rfl
theorem Ip(P:Params):FA P [95,108,97,119,95,115,117,109] 405 404:=by and_intros<;>kernel_rfl
theorem Io(P:Params):FA P [95,108,97,119,95,112,105,101,99,101] 410 409:=by and_intros<;>kernel_rfl
theorem Im(P:Params):FA P [95,108,97,119,95,112,105,101,99,101,115] 417 416:=by and_intros<;>kernel_rfl
theorem Il(P:Params):FA P [95,108,97,119,95,100,101,99,107] 353 352:=by and_intros<;>kernel_rfl
theorem VU(P:Params):FA P [108,97,119] 424 423:=by and_intros<;>kernel_rfl
theorem O3(P:Params):∀p∈Jd,∃F C,FA P p.1 F C:=by
 unfold Jd;simp only[List.forall_mem_append,List.forall_mem_cons];exact⟨⟨⟨⟨⟨⟨⟨_,_,je P⟩,⟨_,_,jd P⟩,⟨_,_,jc P⟩,⟨_,_,jb P⟩,⟨_,_,ja P⟩,⟨_,_,j9 P⟩,⟨_,_,j8 P⟩,⟨_,_,j7 P⟩,fun x hx=>by cases hx⟩,⟨⟨_,_,j6 P⟩,⟨_,_,j5 P⟩,⟨_,_,IZ P⟩,⟨_,_,IY P⟩,⟨_,_,IX P⟩,⟨_,_,IW P⟩,⟨_,_,IV P⟩,⟨_,_,IU P⟩,fun x hx=>by cases hx⟩⟩,⟨⟨_,_,IT P⟩,⟨_,_,IS P⟩,⟨_,_,IQ P⟩,⟨_,_,IP P⟩,⟨_,_,IM P⟩,⟨_,_,IL P⟩,⟨_,_,IK P⟩,⟨_,_,IJ P⟩,fun x hx=>by cases hx⟩⟩,⟨⟨_,_,II P⟩,⟨_,_,IH P⟩,⟨_,_,IG P⟩,⟨_,_,IF P⟩,⟨_,_,IE P⟩,⟨_,_,ID P⟩,⟨_,_,IB P⟩,⟨_,_,IA P⟩,fun x hx=>by cases hx⟩⟩,⟨⟨_,_,Iz P⟩,⟨_,_,Iy P⟩,⟨_,_,Iw P⟩,⟨_,_,Iv P⟩,⟨_,_,Iu P⟩,⟨_,_,It P⟩,⟨_,_,Ir P⟩,⟨_,_,Iq P⟩,fun x hx=>by cases hx⟩⟩,⟨⟨_,_,Ip P⟩,⟨_,_,Io P⟩,⟨_,_,Im P⟩,⟨_,_,Il P⟩,fun x hx=>by cases hx⟩⟩
@[irreducible] noncomputable def KF (P:Params):Frag:=[122,123,124,125,126].filterMap fun a=>((QE P).get? a).map fun o=>(a,o)
theorem Y7(f:Addr->Option Obj):∀(l:List Addr) (a:Addr) (o:Obj),(l.filterMap fun a=>(f a).map fun o=>(a,o)).lookup a=some o->f a=some o
 | [],a,o,h=>by exact Qf h
 | b::l,a,o,h=>by
  rw[List.filterMap_cons] at h;rcases q:f b with _|ob
  ·rw[q] at h;exact Y7 f l a o h
  ·
   rw[q] at h;simp only[Option.map_some] at h;rw[List.lookup_cons] at h;by_cases e:a == b
   ·rw[e] at h;obtain rfl:=so h;exact(eq_of_beq e)▸q
   ·rw[Bool.not_eq_true] at e;rw[e] at h;exact Y7 f l a o h
theorem D7(P:Params):∀a o,(KF P).lookup a=some o->(QE P).get? a=some o:=fun a o h=>by unfold KF at h;exact Y7 _ _ a o h
noncomputable def Xf(w:World):Qu:=⟨w,[],0,0,Xx w.params,Dw w.params,KF w.params⟩
theorem SO(P:Params):makesIn (KF P) modC=true:=by kernel_rfl
theorem MB(P:Params):findIn (KF P) (.ref modC) "__init__"=some (some (.ref 122)):=by kernel_rfl
theorem I3(P:Params):typeIn (KF P) (.ref 122)=some (.type "function"):=by kernel_rfl
theorem SM(P:Params):plainGet (KF P) modC "name"=true:=by kernel_rfl
theorem C7(P:Params):hasDictIn (KF P) modC=true:=by kernel_rfl
theorem MA(P:Params):findIn (KF P) (.ref modC) "name"=some none:=by kernel_rfl
theorem My(P:Params):findIn (KF P) (.ref modC) "told"=some none:=by kernel_rfl
theorem C6(P:Params):findIn (KF P) (.ref modC) "__setattr__"=some (some (.builtin "object.__setattr__")):=by kernel_rfl
theorem Mz(P:Params):plainOver (KF P) modC=true:=by kernel_rfl
theorem SN(P:Params):takerIn (KF P) modC "name"=some none:=by kernel_rfl
theorem SK(P:Params):takerIn (KF P) modC "told"=some none:=by kernel_rfl
theorem Cs(P:Params):(QE P).isNs cStatics=true:=by kernel_rfl
theorem Ct(P:Params):(QE P).nsMap cStatics "sys.recursionlimit"=none:=by kernel_rfl
theorem O5(P:Params):Xx P "Modifier"=some (.ref modC):=by kernel_rfl
theorem Cu(P:Params):Xx P "BadFormat"=some (.ref excC):=by kernel_rfl
noncomputable def G9:List AV->List Value->Bool
 | [],[]=>true
 | .bytes l::ds,.bytes b _::vs=>(b.toList.map UInt8.toNat == l)&&G9 ds vs
 | _,_=>false
theorem Vj{X:Qu}{P g:PM}:∀{ds:List AV} {vs:List Value},G9 ds vs=true->Qo X P g ds vs
 | [],[],_=>by dsimp only[Qo]<;>rfl
 | [],_::_,h=>by exact Bool.noConfusion h
 | d::ds,[],h=>by cases d<;>exact Bool.noConfusion h
 | d::ds,v::vs,h=>by
  rcases d with _|_<;>try exact Bool.noConfusion h
  rcases v with _|_<;>try exact Bool.noConfusion h
  obtain⟨h1,h2⟩:=Bool.and_eq_true_iff.mp (show(_&&G9 ds vs)=true from h);exact show Bk _ _ _ from⟨_,_,rfl,show ON _ _ from⟨_,_,rfl,eq_of_beq h1⟩,Vj h2⟩
noncomputable def vF(P:Params)(x:List Nat):Value:=(Xx P (Zc x)).getD .none
noncomputable abbrev VI(P:Params)(x:List Nat)(i:Int):Prop:=Xx P (Zc x)=some (.int i (RI (vF P x)))
noncomputable abbrev VT(P:Params)(x:List Nat)(ds:List AV):Prop:=Xx P (Zc x)=some (.ref (Xn (vF P x)))/\(QE P).get? (Xn (vF P x))=some (oF P (Xn (vF P x)))/\(oF P (Xn (vF P x))).cls=.type "tuple"/\(oF P (Xn (vF P x))).data=.seq (qR P (Xn (vF P x))) (zJ P (Xn (vF P x)))/\G9 ds (qR P (Xn (vF P x))).toList=true
theorem VI.ok{P:Params}{x:List Nat}{i:Int}(h:VI P x i)(w:World):∃u,Xx P (Zc x)=some u/\∀P',VR (Xf w) P' (QE P).get? (.int i) u:=⟨_,h,fun P'=>by dsimp only[VR];exact⟨_,rfl⟩⟩
theorem VT.ok{P:Params}{x:List Nat}{ds:List AV}(h:VT P x ds)(w:World):∃u,Xx P (Zc x)=some u/\∀P',VR (Xf w) P' (QE P).get? (.tuple ds) u:=by
 refine cps fun U y0=>?_;obtain⟨h1,h2,h3,h4,h5⟩:=h;refine y0 ?_;exact⟨_,h1,fun P'=>by dsimp only[VR];exact⟨_,_,_,_,rfl,h2,h3,h4,Vj h5⟩⟩
theorem v1(P:Params):VI P [83,73,71,78] 35:=by kernel_rfl
theorem v2(P:Params):VI P [79,80,69,78] 123:=by kernel_rfl
theorem v3(P:Params):VI P [67,76,79,83,69] 125:=by kernel_rfl
theorem v4(P:Params):VI P [67,79,77,77,65] 44:=by kernel_rfl
theorem v5(P:Params):VI P [83,76,65,83,72] 47:=by kernel_rfl
theorem v6(P:Params):VI P [66,65,67,75,83,76,65,83,72] 92:=by kernel_rfl
theorem v7(P:Params):VI P [77,79,83,84,95,68,69,69,80] 10:=by kernel_rfl
theorem v8(P:Params):VI P [77,79,83,84,95,87,73,68,69] 10000:=by kernel_rfl
theorem v9(P:Params):VT P [80,76,65,73,78,95,77,79,68,73,70,73,69,82,83] [.bytes [108],.bytes [69],.bytes [84],.bytes [98],.bytes [100],.bytes [110],.bytes [119],.bytes [97],.bytes [83],.bytes [87],.bytes [80],.bytes [33],.bytes [33,33]]:=by and_intros<;>kernel_rfl
theorem v10(P:Params):VT P [80,65,73,82,95,77,79,68,73,70,73,69,82,83] [.bytes [124,124],.bytes [38,38],.bytes [61,61],.bytes [33,61],.bytes [60,61],.bytes [62,61],.bytes [60],.bytes [62]]:=by and_intros<;>kernel_rfl
theorem v11(P:Params):Xx P (Zc [84,79,76,68,95,77,79,68,73,70,73,69,82,83])=some (.bytes (CP (vF P [84,79,76,68,95,77,79,68,73,70,73,69,82,83])) (RI (vF P [84,79,76,68,95,77,79,68,73,70,73,69,82,83])))/\(CP (vF P [84,79,76,68,95,77,79,68,73,70,73,69,82,83])).toList.map UInt8.toNat=[109,78,115,116,61,112,101,113,82]:=by and_intros<;>kernel_rfl
theorem By(w:World):∀p∈Kp,∃u,Xx w.params (Zc p.1)=some u/\∀P',VR (Xf w) P' (QE w.params).get? p.2 u:=by
 unfold Kp;simp only[List.forall_mem_append,List.forall_mem_cons];refine⟨⟨(v1 _).ok w,(v2 _).ok w,(v3 _).ok w,(v4 _).ok w,(v5 _).ok w,(v6 _).ok w,(v7 _).ok w,(v8 _).ok w,fun x hx=>by cases hx⟩,(v9 _).ok w,(v10 _).ok w,⟨_,(v11 _).1,fun P'=>by dsimp only[VR];exact⟨_,_,rfl,(v11 _).2⟩⟩,fun x hx=>by cases hx⟩
theorem Ov(P:Params):∀p∈Wt,Xx P (Zc p.1)=none/\Dw P (Zc p.1)=some (B8 p.2):=by
 unfold Wt;simp only[List.forall_mem_append,List.forall_mem_cons];refine⟨⟨?_,?_,?_,?_,?_,?_,?_,?_,fun x hx=>by cases hx⟩,?_,?_,?_,fun x hx=>by cases hx⟩<;>exact⟨by kernel_rfl,by kernel_rfl⟩
noncomputable def GN:Arguments×List Stmt×Scope:=Y9.getD (⟨[],[],none,[],[],none,[]⟩,[],⟨.function,[],false,false,[]⟩)
theorem SY:Y9=some GN:=by kernel_rfl
theorem Ig(P:Params):(QE P).get? 122=some (oF P 122):=by kernel_rfl
theorem Ie(P:Params):(oF P 122).data=.func (W8 P 122):=by kernel_rfl
theorem Ic(P:Params):(W8 P 122).params=GN.1:=by kernel_rfl
theorem Ib(P:Params):(W8 P 122).body=.stmts GN.2.1:=by kernel_rfl
theorem Ia(P:Params):(W8 P 122).scope=GN.2.2:=by kernel_rfl
theorem I9(P:Params):(W8 P 122).code=.ref 121:=by kernel_rfl
theorem I8(P:Params):(QE P).get? 121=some (oF P 121):=by kernel_rfl
theorem I7(P:Params):(oF P 121).data=.fields (Br P 121):=by kernel_rfl
theorem I6(P:Params):(Br P 121)[1]?=some (.str (W8 P 122).qualname (RI ((Br P 121)[1]?.getD .none))):=by kernel_rfl
theorem Ca(P:Params):(W8 P 122).globals=mainGlobals/\(W8 P 122).closure=[]/\(W8 P 122).defaults=.none/\(W8 P 122).kwdefaults=.none/\(W8 P 122).builtins=builtinsNs:=by and_intros<;>kernel_rfl
theorem XH{X:Qu}{g:PM}{x:List Nat}{F C:Addr}{d:Arguments×List Stmt×Scope}{o oc:Obj}{vs:Array Value}{t:Tok}{pm doc:Value}(h1:X.mg (Zc x)=some (.ref F))(h2:g F=some o)(h3:o.data=.func (docDef (Zc x) d.1 d.2.1 d.2.2 pm (.ref C) doc))(h4:g C=some oc)(h5:oc.data=.fields vs)(h6:vs[1]?=some (.str (Zc x) t)):FnAt X g x F d:=⟨h1,o,pm,.ref C,doc,h2,h3,C,oc,vs,t,rfl,h4,h5,h6⟩
theorem Wv(w:World):(Xf w).mg=Xx w.params:=by unfold Xf;dsimp only
theorem E5{w:World}{x:List Nat}{F C:Addr}(h:FA w.params x F C):∃d a,Jx x pw.main.body=some d/\FnAt (Xf w) (QE w.params).get? x a d:=by
 refine cps fun U y0=>?_;obtain⟨h1,h2,h3,h4,h5,h6,h7⟩:=h;refine y0 ?_;refine⟨LH x,F,h7,?_⟩;rw[<- Wv w] at h1;generalize Xf w=X at h1 ⊢;generalize LH x=d at h3 ⊢;generalize oF w.params F=o at h2 h3;generalize oF w.params C=oc at h4 h5;generalize W8 w.params F=fd at h3;generalize(QE w.params).get?=g at h2 h4 ⊢;exact XH h1 h2 h3 h4 h5 h6
theorem FJ(w:World):(Xf w).mb=Dw w.params:=by unfold Xf;dsimp only
theorem CU(w:World):(Xf w).K=KF w.params:=by unfold Xf;dsimp only
theorem SJ(w:World):qM (Xf w):=by
 refine⟨?_,?_,?_,?_,?_,?_,?_,?_,?_,?_,?_⟩<;>rw[CU]
 ·exact SO _
 ·exact MB _
 ·exact I3 _
 ·exact SM _
 ·exact C7 _
 ·exact MA _
 ·exact My _
 ·exact C6 _
 ·exact Mz _
 ·exact SN _
 ·exact SK _
theorem SX(P:Params):∃d,Y9=some d/\Yt (QE P).get? 122 d:=by
 have h10:=Ca P;have h1:=Ig P;have h2:=Ie P;have h3:=Ic P;have h4:=Ib P;have h5:=Ia P;have h6:=I9 P;have h7:=I8 P;have h8:=I7 P;have h9:=I6 P;refine⟨GN,SY,?_⟩;generalize W8 P 122=fd at *;generalize Br P 121=fs at *;generalize oF P 122=o at *;generalize oF P 121=oc at *;generalize(QE P).get?=g at *;generalize GN=d at *;exact⟨o,fd,h1,h2,h3,h4,h5,h10.1,h10.2.1,h10.2.2.1,h10.2.2.2.1,h10.2.2.2.2,121,oc,fs,_,h6,h7,h8,h9⟩
theorem XF(P:Params):Bf (QE P).get? mainGlobals (Xx P):=Heap.Ns.of_isNs (Lk P)
theorem EH(P:Params):Bf (QE P).get? builtinsNs (Dw P):=Heap.Ns.of_isNs (Fm P)
theorem SA(P:Params):∃mc,Bf (QE P).get? cStatics mc/\mc "sys.recursionlimit"=none:=⟨_,Heap.Ns.of_isNs (Cs P),Ct P⟩
theorem M0(w:World):St (Xf w) (QE w.params).get?:=by
 refine⟨SJ w,?_,?_,SA _,?_,?_,?_,?_,?_,?_,SX _⟩
 ·rw[Wv];exact XF _
 ·rw[FJ];exact EH _
 ·exact fun x f hx=>let⟨_,_,h⟩:=O3 w.params (x,f) hx;E5 h
 ·exact fun x v hx=>by rw[Wv];exact By w (x,v) hx
 ·exact fun x b hx=>by rw[Wv,FJ];exact Ov w.params (x,b) hx
 ·rw[Wv];exact O5 _
 ·rw[Wv];exact Cu _
 ·rw[CU];exact D7 _
end
section
open PySem PySem.W PySem.Calls PyProof.Rows
noncomputable def FK:Prop:=∀(w:World) (s:Shared) (a:Addr) (is:List Int),PM.le (QE w.params).get? s.heap.get?->VR (Xf w) (fun Z=>none) s.heap.get? (.list (is.map .int)) (.ref a)->is.length<=63->
 QD (model pw w) callerA (call (.ref 424) [.ref a]) (fun v s'=>v=.bool true/\(∀b o,s.heap.get? b=some o->s'.heap.get? b=some o)/\s'.os=s.os/\s'.gens=s.gens) (fun Z Z=>False) s
theorem Hy{M:Model}{A:Around}{Γ:Ctx}{t:Sem Fin}{R:Result->Shared->Prop}{s:Shared}(hin:Γ.In A)(hc:Clean Γ)
  (h:QD M A t (fun fin s'=>∃f,fin=.done f/\R (.ok f) s') (fun e s'=>R (.error e) s') s) (p:Pos):
  Sem.wp M Γ t (Sem.finPost M Γ R) (fun e Z s'=>R (.error e) s') p s:=by
 refine Sem.wp_mono M Γ t (fun fin p' s' h'=>?_) (fun Z Z Z h'=>h') p s (h Γ p hin hc);obtain⟨f,rfl,hf⟩:=h';exact hf
theorem VZ:Clean (⟨.builtin "claim.caller" {},none,none,[],none⟩:Ctx):=⟨by rfl,fun x hx=>by cases hx⟩
inductive TE(prog:Program)(w:World)(t:Sem Fin)(s:Shared)(R:Result->Shared->Prop):Prop
 | mk (n:Nat) (r:Result) (s' s'':Shared) (h1:runN (denote table) prog w n s ⟨t,.builtin "claim.caller" {},default,[]⟩=.halted (outcomeOf r) s')
   (h2:schedN (denote table) prog w n (.single s ⟨t,.builtin "claim.caller" {},default,[]⟩)=.halted (outcomeOf r) s') (h3:s'.forget=s''.forget) (h4:R r s'')
theorem WB{prog:Program}{w:World}{t:Sem Fin}{s:Shared}{R:Result->Shared->Prop}(hreg:s.asleep)
  (h:QD (model prog w) callerA t (fun fin s'=>∃f,fin=.done f/\(R (.ok f) s'/\leftWithCleanup s'.gens=false)) (fun e s'=>R (.error e) s'/\leftWithCleanup s'.gens=false) s):
  TE prog w t s R:=by
 refine cps fun U y0=>?_;obtain⟨n,r,s₁,s₂,hs,hn,hfo,hR⟩:=wp_halts_full (M:=model prog w) (R:=R) hreg (Hy (R:=fun r s'=>R r s'/\leftWithCleanup s'.gens=false) caller_in VZ h default);refine y0 ?_;exact⟨n,r,s₂,s₁,hn,hs,hfo,hR⟩
theorem Ke{c:ClaimW}{tree:List Value->Sem Fin}{w:World}{s:Shared}{free:Addr->Prop}{gens:Prop}{kept:Heap->Prop}(hz:s.asleep)(hgens:s.gens=#[])
  (hspec:∀args,c.pre args=true->WData.layableAll args=true->
   ∀ord:List DictEntry->List DictEntry,(∀l,(ord l).Perm l)->
   ∃vs s₁,layAllW c.records (classAt s.heap) w.params ord args s=some (vs,s₁)/\
    QD (model c.prog w) callerA (tree vs) (fun fin s'=>∃f,fin=.done f/\(c.Ends s args vs s₁ (.ok f) s'/\s'.os=s.os/\AllBare s'.gens/\kept s'.heap))
     (fun e s'=>c.Ends s args vs s₁ (.error e) s'/\s'.os=s.os/\AllBare s'.gens/\kept s'.heap) s₁):
  c.CallFrom (fun vs=>⟨tree vs,.builtin "claim.caller" {},default,[]⟩) w free gens kept s:=by
 intro args hpre hlay ord hord;refine cps fun U y0=>?_;obtain⟨vs,s₁,hlaid,hcode⟩:=hspec args hpre hlay ord hord;have hal:=layAllW_rest _ _ _ hlaid;obtain⟨k,r,s',s'',hrun,hsched,hfo,hall⟩:=WB (prog:=c.prog) (w:=w) (t:=tree vs) (s:=s₁)
  (R:=fun r s'=>c.Ends s args vs s₁ r s'/\s'.os=s.os/\kept s'.heap)
  (Shared.asleep_of_life hal.2.2.2 hz)
  (Zu hcode (by
   exact fun fin s'=>Exists.imp fun f x=>⟨x.1,⟨x.2.1,x.2.2.1,x.2.2.2.2⟩,leftWithCleanup_false_of_bare x.2.2.2.1⟩) (by
   exact fun e s' x=>⟨⟨x.1,x.2.1,x.2.2.2⟩,leftWithCleanup_false_of_bare x.2.2.1⟩))
 have eh:=(Shared.forget_eq hfo).1;refine y0 ?_;have hcase:=hall.1.congr eh;have hkp:kept s'.heap:=eh▸hall.2.2;have hos:=Eq.trans (Shared.forget_eq hfo).2.2.2.1 hall.2.1;have hlife:s'.heap.life=s.heap.life:=(runN_life _ _ _ hrun).trans hal.2.2.2;refine⟨vs,s₁,hlaid,k,_,s',hsched,?_,(fun Z i x hx=>by rw[hgens] at hx;simp at hx),hkp,by rw[hlife],Shared.rest_eq hos⟩;exact hcase.imp (Exists.imp fun v x=>⟨congrArg outcomeOf x.1,x.2.1,x.2.2.1,x.2.2.2.1,fun b o y Z=>x.2.2.2.2.1 b o y,x.2.2.2.2.2⟩)
  (Exists.imp fun e=>Exists.imp fun ob=>Exists.imp fun cls x=>⟨congrArg outcomeOf x.1,x.2.1,x.2.2.1,x.2.2.2.1,x.2.2.2.2.1,fun b o y Z=>x.2.2.2.2.2 b o y⟩)
theorem SW{X:Qu}{P:Params}{h:Heap}:∀{xs:List WData} {vs:List Value},WShape.hasItems [] xs .int=true->WellAll P h vs xs->∃is:List Int,vs.length=is.length/\xs.length=is.length/\∀Q g,Qo X Q g (is.map .int) vs:=by
 intro xs
 induction xs with
 | nil=>
  intro vs _ W;cases W;exact⟨[],rfl,rfl,fun Q g=>by skip;rfl⟩
 | cons x xs ih=>
  intro vs H W;dsimp only[WShape.hasItems] at H;rw[Bool.and_eq_true] at H;cases W with
  | cons w1 w2=>
   obtain⟨is,e1,e2,r⟩:=ih H.2 w2;obtain⟨i,rfl⟩:=hasW_int H.1;cases w1;exact⟨i::is,congrArg (·+1) e1,congrArg (·+1) e2,fun Q g=>by exact show Bk _ _ _ from⟨_,_,rfl,show ES _ _ from⟨_,rfl⟩,r Q g⟩⟩
theorem BH{X:Qu}{P:Params}{h:Heap}{args:List WData}{vs:List Value}(H:WShape.hasAll [] args Zs.row.args=true)(W:WellAll P h vs args):∃a xs,args=[.list xs]/\vs=[.ref a]/\
  ∃is:List Int,xs.length=is.length/\∀Q,VR X Q h.get? (.list (is.map .int)) (.ref a):=by
 obtain⟨d,r,rfl,h1,h2⟩:=hasAllW_cons H;obtain⟨xs,rfl,h3⟩:=hasW_list h1;cases r with
 | cons x y=>unfold WShape.hasAll at h2;exact Bool.noConfusion h2
 | nil=>
  cases W with
  | cons w1 w2=>
   cases w2;cases w1 with
   | list e w=>
    obtain⟨is,e1,e2,q⟩:=SW (X:=X) h3 w;exact⟨_,xs,rfl,rfl,is,e2,fun Q=>by dsimp only[VR];exact⟨_,_,_,_,rfl,e,rfl,rfl,rfl,rfl,q Q _⟩⟩
theorem I2{xs:List WData}(h:Zs.pre.holds [] { args:=[.list xs] }=true):xs.length<=63:=by
 have e:Zs.pre=.and (.not (.lt (.lit (.int 63)) (.len (.arg 0)))) (.lit (.bool true)):=rfl;rw[e] at h;by_cases q:xs.length<=63
 ·exact q
 ·exfalso;have:((63:Int) < (xs.length:Int)):=by lia
  simp[WTm.holds,WTm.value,less?,Num.less?,this] at h
theorem RO{xs:List WData}:Zs.row.toRowW.claim.post [.list xs] (.bool true) [.list xs]=true:=by kernel_rfl
theorem Nd(args:List WData)(cls:ExcName):Zs.row.toRowW.claim.raises args cls=false:=by kernel_rfl
theorem SG:PySem.Challenge.pw_og0273_01.theDef "law"=some (LH [108,97,119]):=by kernel_rfl
theorem V8:(LH [108,97,119]).1.defaults=[]/\kwWritten? (LH [108,97,119]).1.kwonlyargs (LH [108,97,119]).1.kw_defaults=some []:=by and_intros<;>kernel_rfl
theorem VM:Zc [108,97,119]=("law":Str):=by kernel_rfl
theorem L0(P:Params):globalOf (QE P) "law"=some (.ref 424):=by
 have h:=(VU P).1;rw[VM] at h;exact(Pin.globalOf_eq (Lk P) _).trans h
theorem NI(P:Params):isTheDefsW PySem.Challenge.pw_og0273_01 (QE P) "law":=by
 have hg:=L0 P;refine cps fun U y0=>?_;obtain⟨h1,h2,h3,h4,h5,h6,h7⟩:=VU P;refine y0 ?_;rw[VM] at h3;refine⟨424,oF P 424,_,_,_,_,hg,h2,h3,SG,rfl,rfl,rfl,rfl,rfl,rfl,rfl,rfl,.inl ⟨V8.1,rfl⟩,[],V8.2,.inl ⟨rfl,rfl⟩⟩
theorem Sw(w:World):Xx w.params "law"=some (.ref 424):=by
 have h:=(VU w.params).1;replace h:=VM▸h;exact h
theorem Ai{w:World}{s:Shared}(hle:PM.le (QE w.params).get? s.heap.get?):St (Xf w) s.heap.get?:=(M0 w).up hle
theorem BG(L:FK):Zs.Holds:=by
 have hfr:=El;obtain⟨k5,k6⟩:=Bool.and_eq_true_iff.mp hfr;obtain⟨hsame,hu,ha,hap,hm⟩:=frees_parts k5;have hi:=ident_freeW hu ha hap;refine⟨O9,CA,Wd,⟨Oa,Ek,by rfl⟩,Wd.witness,fun w=>⟨(XE w).1,fun s hs=>?_⟩⟩;refine cps fun U y0=>?_;obtain⟨s₀,hf,hg0,os,T,hz⟩:=(XE w).2 s hs;refine y0 ?_;have eH:=XJ w os;have eG:=XM w os;generalize(XN w os).abs=Fn at T hz eH eG;refine⟨s₀,hf,hg0,_,T,fun n hn=>?_,(fun x hx=>by cases hx),(fun x hx=>by cases hx),?_⟩
 ·have:n="law":=by
   have:n∈[("law":Str)]:=hn;simpa using this
  subst this;exact eH▸NI w.params
 refine Ke (c:=Zs.row.toRowW.claim) hz eG fun args hpre hlay ord hord=>?_;refine cps fun U y0=>?_;obtain⟨⟨vs,s₁⟩,hlaid⟩:=Option.isSome_iff_exists.mp (layAllW_isSome (P:=w.params) (ord:=ord) (R:=[]) (cl:=classAt Fn.heap) (fun c hc=>by exact Bool.noConfusion hc) args Zs.row.args Fn (pre_splitW hpre).1);have keeps:=layAllW_keeps _ _ _ hlaid;have hal:=layAllW_rest _ _ _ hlaid;obtain⟨as,hrd,hin,hold⟩:=reads_layAllW hord _ _ _ hlaid hlay s₁.heap (fun Z Z e=>e);have Ld:Laid [] w Fn s₁ args vs as:=⟨⟨ord,hord,hlaid⟩,hrd,hin,hold,keeps,hal.1.trans eG,hal.2.2.1⟩
 have W:=well_layAllW hord _ _ _ hlaid s₁.heap (fun Z Z e=>e);obtain⟨a,xs,rfl,rfl,is,e2,rel⟩:=BH (X:=Xf w) (pre_splitW hpre).1 W;refine y0 ?_;refine⟨_,s₁,hlaid,?_⟩;have hle:PM.le (QE w.params).get? s₁.heap.get?:=by rw[<- eH];exact keeps
 have hns:s₁.heap.Ns mainNs (Xx w.params):=(XF w.params).at hle;have hcall:=L w s₁ a is hle (rel _) (by rw[<- e2];exact I2 (pre_splitW hpre).2);refine Q0 (Q3 (wpAny_nsGet hns ?_));have hl:Xx w.params Zs.row.name=some (.ref 424):=Sw w;rw[hl];refine Q0 (Zu hcall (fun v s' g=>?_) (fun Z Z g=>g.elim));obtain⟨rfl,kp,ho,hgn⟩:=g;have good:GoodWG Zs.row.toRowW.claim (classAt Fn.heap) (ExcName.means Fn.heap) [.list xs] s₁ (.ok (.ret (.bool true))) s':=
  ⟨.inl ⟨_,_,[],rfl,Nd _,.bool true,RO,fun Z=>⟨List.nodup_nil,fun a h=>by cases h⟩⟩,.of_keep kp,ho,.of_eq (hgn.trans (hal.1.trans eG))⟩
 refine Q7 ⟨_,rfl,?_⟩;have z:=good.laid (c:=Zs.row.toRowW.claim) hsame (List.isEmpty_iff.mp k6) hi Ld;exact⟨z.1,z.2.1,z.2.2,fun q=>by exact Bool.noConfusion q⟩
end
section
open PySem PySem.W PySem.Calls PyProof.Rows SeqAt
theorem R7(f:Array Value->Array Value)(o:Obj):(o.mapFields f).dict=o.dict:=by
 obtain⟨_,_,d,_⟩:=o;cases d<;>rfl
inductive qN(base:Heap)(e dx:Addr)(fl:Value)(h:Heap):Prop
 | mk (oe:Obj) (vs:Array Value) (T:Addr) (oT:Obj) (ts:Array Value) (h1:h.get? e=some oe) (h2:oe.cls=.ref excC) (h3:oe.dict=some dx) (h4:oe.data=.fields vs) (h5:vs[1]?=some (.ref T)) (h6:base.get? T=none) (h7:T≠e) (h8:h.get? T=some oT) (h9:oT.data=.fields ts) (h10:ts[3]?=some fl)
structure X6(base:Heap)(l:List Env)(e dx:Addr)(fl:Value)(h:Heap):Prop where
 stays:base.StaysIn h
 fr:h.FunFrames base l
 no:base.get? e=none
 exc:qN base e dx fl h
section
variable {M:Model}{A:Around}{E:VP}{s:Shared}{base:Heap}{env:Env}{outer l:List Env}{L e dx:Addr}
theorem Lv{oe:Obj}{vs:Array Value}{head:Value}{hadNext:Bool}{Q:Unit->Shared->Prop}(hfr:A.frames=some (env::outer))(hl:s.heap.FunFrames base (env::outer))(hf:env.frame=some L)
  (he:s.heap.get? e=some oe) (hkb:base.StaysIn s.heap) (hen:base.get? e=none) (hc:oe.cls=.ref excC) (hdx:oe.dict=some dx) (hd:oe.data=.fields vs) (hsz:1 < vs.size)
  (h:∀h',X6 base (env::outer) e dx (rawInt L) h'->s.heap.UpToSlots h'->Q () { s with heap:=h' }):
  wpAny M A (do let a <-frameOf env;let pl <-entryPlaceOf L hadNext;let b <-EntryCells.newEntry head a .none (rawInt L) .none pl;setField (.ref e) 1 b) Q E s:=by
 have hene:e∉(env::outer).filterMap (·.frame):=fun hm=>by
  obtain⟨_,o,ho,hnf⟩:=hl.mem hm;rw[he] at ho;obtain rfl:=so ho;exact hnf vs hd
 refine wpAny_bind (wpAny_frameOf_fun hfr hl hf fun h₁ hs₁=>wpAny_bind (wpAny_entryPlaceOf fun pl hpl=>?_));refine wpAny_bind (wpAny_newObj_type ?_ (hpl.sizeOk5 _ _ _ _ _));have he₁:h₁.get? e=some oe:=(hs₁.2.1 e hene).trans he;have kb₁:base.StaysIn h₁:=fun b o q=>(hs₁.2.1 b fun hm=>by rw[(hl.mem hm).1] at q;exact Qf q).trans (hkb b o q);generalize hT:({ cls:=.type "traceback",dict:=none,data:=.fields ([head,.ref L,.none,rawInt L,.none]++(if pl.isEmpty then List.replicate 6 Value.none else pl)).toArray }:Obj)=oT;have he₂:=Heap.get?_push_of_some (h:=h₁) oT he₁;refine wpAny_setField he₂ hd hsz (h _ ?_ ?_)
 all_goals
  have hTe:h₁.objs.size≠e:=Nat.ne_of_gt (Heap.lt_size he₁);have hd₃:=Obj.data_mapFields hd (·.setIfInBounds 1 (Value.ref h₁.objs.size));have he₃:=Heap.get?_update_self (Obj.mapFields (·.setIfInBounds 1 (Value.ref h₁.objs.size))) he₂ (Obj.isFreed_of_fields hd₃);have hT₃:=(Heap.get?_update_other (h₁.push oT) (Obj.mapFields (·.setIfInBounds 1 (Value.ref h₁.objs.size))) (Ne.symm hTe)).trans (Heap.get?_push_size h₁ (by rw[<- hT];rfl));have keep:∀b o,b≠e->h₁.get? b=some o->((h₁.push oT).update e (Obj.mapFields (·.setIfInBounds 1 (Value.ref h₁.objs.size)))).get? b=some o:=fun b o hbe hb=>by
   refine Eq.trans (Heap.get?_update_other _ _ (Ne.symm hbe)) ?_;exact Heap.get?_push_of_some _ hb
  have apart:∀b o,s.heap.get? b=some o->(∀vs,o.data≠.fields vs)->b≠e:=fun b o hb hnf q=>by
   rw[q,he] at hb;obtain rfl:=so hb;exact hnf vs hd
 ·refine⟨fun b o q=>keep b o (fun z=>by rw[z,hen] at q;exact Qf q) (kb₁ b o q),hl.of_keeps fun b o hb hnf=>?_,hen,?_⟩
  ·obtain⟨sl,hs⟩:=hs₁.2.2 b o hb;exact⟨_,keep b _ (apart b o hb hnf) hs,rfl⟩
  ·refine⟨_,_,h₁.objs.size,_,_,he₃,(Obj.cls_mapFields _ _).trans hc,(R7 _ _).trans hdx,hd₃,by simp[hsz],kb₁.fresh,hTe,hT₃,by rw[<- hT],by first|(simp;done)|(rcases hpl with rfl|⟨_,_,_,_,_,_,_,rfl⟩<;>simp)⟩
 ·intro b o hb hnf;obtain⟨sl,hs⟩:=hs₁.2.2 b o hb;exact⟨sl,keep b _ (apart b o hb hnf) hs⟩
theorem NC{oe:Obj}{vs:Array Value}{Q:Unit->Shared->Prop}(hfr:A.frames=some (env::outer))(hl:s.heap.FunFrames base (env::outer))(hf:env.frame=some L)
  (he:s.heap.get? e=some oe) (hkb:base.StaysIn s.heap) (hen:base.get? e=none) (hc:oe.cls=.ref excC) (hdx:oe.dict=some dx) (hd:oe.data=.fields vs) (h1:vs[1]?=some .none)
  (h:∀h',X6 base (env::outer) e dx (rawInt L) h'->s.heap.UpToSlots h'->Q () { s with heap:=h' }):wpAny M A (noteFrame (.ref e) env) Q E s:=by
 unfold noteFrame;rw[hf];refine wpAny_bind (wpAny_field he hd h1 ?_);rw[if_neg (by decide)];exact Lv hfr hl hf he hkb hen hc hdx hd (Array.getElem?_eq_some_iff.mp h1).1 h
theorem V7{Q:Unit->Shared->Prop}(hfr:A.frames=some (env::outer))(hf:env.frame=some L)(F:X6 base (env::outer) e dx .none s.heap)
  (h:∀h',X6 base (env::outer) e dx (rawInt L) h'->s.heap.UpToSlots h'->Q () { s with heap:=h' }):wpAny M A (noteFrame (.ref e) env) Q E s:=by
 refine cps fun U y0=>?_;obtain⟨hkb,hl,hen,oe,vs,T,oT,ts,he,hc,hdx,hd,h1,hnT,hTe,hT,hdT,h3⟩:=F;refine y0 ?_;dsimp only[noteFrame];rw[hf];refine wpAny_bind (wpAny_field he hd h1 ?_);rw[if_pos (show(Value.ref T != Value.none)=true from by rfl)];refine wpAny_bind (wpAny_field hT hdT h3 ?_);rw[if_neg (show ¬((Value.none == rawInt L)=true) from by simp[rawInt])];refine wpAny_bind (wpAny_setField hT hdT (Array.getElem?_eq_some_iff.mp h3).1 ?_);have other:∀b,b≠T->(s.heap.update T (Obj.mapFields (·.setIfInBounds 3 Value.none))).get? b=s.heap.get? b:=fun b hb=>Heap.get?_update_other _ _ (Ne.symm hb);have apart:∀b o,s.heap.get? b=some o->(∀vs,o.data≠.fields vs)->b≠T:=fun b o hb hnf q=>by
  rw[q,hT] at hb;obtain rfl:=so hb;exact hnf ts hdT
 refine Lv hfr (hl.of_keeps fun b o hb hnf=>⟨o,(other b (apart b o hb hnf)).trans hb,rfl⟩) hf ((other e (Ne.symm hTe)).trans he)
  (fun b o q=>(other b fun z=>by rw[z,hnT] at q;exact Qf q).trans (hkb b o q)) hen hc hdx hd (Array.getElem?_eq_some_iff.mp h1).1 fun h' F' u=>h h' F' fun b o hb hnf=>u b o ((other b (apart b o hb hnf)).trans hb) hnf
theorem land{fl:Value}{Q:Unit->Shared->Prop}(F:X6 base l e dx fl s.heap)(h:∀h',X6 base l e dx .none h'->s.heap.UpToSlots h'->Q () { s with heap:=h' }):wpAny M A (setFlight (.ref e) none) Q E s:=by
 refine cps fun U y0=>?_;obtain⟨hkb,hl,hen,oe,vs,T,oT,ts,he,hc,hdx,hd,h1,hnT,hTe,hT,hdT,h3⟩:=F;refine y0 ?_;have hsz3:3 < ts.size:=(Array.getElem?_eq_some_iff.mp h3).1;refine wpAny_bind (wpAny_field he hd h1 ?_);rw[if_pos (show(Value.ref T != Value.none)=true from by rfl)];have other:∀b,b≠T->(s.heap.update T (Obj.mapFields (·.setIfInBounds 3 ((none:Option Addr).elim Value.none fun f=>rawInt f)))).get? b=s.heap.get? b:=fun b hb=>Heap.get?_update_other _ _ (Ne.symm hb);have apart:∀b o,s.heap.get? b=some o->(∀vs,o.data≠.fields vs)->b≠T:=fun b o hb hnf q=>by
  rw[q,hT] at hb;obtain rfl:=so hb;exact hnf ts hdT
 refine wpAny_setField hT hdT hsz3 (h _ ⟨fun b o q=>(other b fun z=>by rw[z,hnT] at q;exact Qf q).trans (hkb b o q),hl.of_keeps fun b o hb hnf=>⟨o,(other b (apart b o hb hnf)).trans hb,rfl⟩,hen,?_⟩ fun b o hb hn=>⟨o.slots,(other b (apart b o hb hn)).trans hb⟩);exact⟨oe,vs,T,_,_,(other e (Ne.symm hTe)).trans he,hc,hdx,hd,h1,hnT,hTe,Heap.get?_update_self _ hT (Obj.isFreed_of_fields (Obj.data_mapFields hdT _)),Obj.data_mapFields hdT _,by simp[hsz3]⟩
theorem X6.tail{fl:Value}{h:Heap}(F:X6 base (env::outer) e dx fl h):X6 base outer e dx fl h:=⟨F.stays,F.fr.2.2,F.no,F.exc⟩
theorem NH{Q:Unit->Shared->Prop}(hfr:A.frames=some (env::outer))(hf:env.frame=some L)(F:X6 base (env::outer) e dx .none s.heap)
  (h:∀h',X6 base outer e dx .none h'->s.heap.UpToSlots h'->Q () { s with heap:=h' }):wpAny M A («leaving» env (.ref e)) Q E s:=by
 unfold «leaving»;exact wpAny_bind (V7 hfr hf F fun h₁ F u=>land F fun h₂ F₂ u₂=>h h₂ F₂.tail (u.trans u₂))
end
@[irreducible] noncomputable def KB (P:Params):Frag:=[22,28,29,31,32,44,45].filterMap fun a=>((QE P).get? a).map fun o=>(a,o)
theorem Vm(P:Params):∀a o,(KB P).lookup a=some o->(QE P).get? a=some o:=fun a o h=>by unfold KB at h;exact Y7 _ _ a o h
noncomputable abbrev Jf:List Value:=[.ref 32,.type "Exception",.type "BaseException",.type "object"]
noncomputable def CN:Data->Option ClassData|.cls cd=>some cd|_=>none
noncomputable def excShape(K:Frag):Bool:=(K.lookup excC).elim false fun o=>(o.cls == .type "type"&&(o.slots.size == 6&&o.slots[4]? == some (some (.builtin "Exception.__new__"))))&&
 (CN o.data).elim false fun cd=>((cd.mro == .ref excC::Jf&&cd.hasDict)&&!cd.hasDel)&&cd.ns == 44
theorem JK(P:Params):excShape (KB P)=true:=by kernel_rfl
theorem Ox(P:Params):findIn (KB P) (.ref excC) "__init__"=some (some (.ref 29)):=by kernel_rfl
theorem qk(P:Params):typeIn (KB P) (.ref 29)=some (.type "function"):=by kernel_rfl
theorem CR(P:Params):findIn (KB P) (.ref excC) "__setattr__"=some (some (.builtin "object.__setattr__")):=by kernel_rfl
theorem Gb(P:Params):findIn (KB P) (.ref excC) "told"=some none:=by kernel_rfl
inductive qO(h:Heap):Prop
 | mk (nm q:Str) (bs:List Value) (sn:List Str) (sub:List Value) (ab:Bool) (col:Option Bool) (dd:Option Addr) (k0 k1 k2 k3 k5:Option Value) (e:h.get? excC=some (excClassObj nm q excC 44 bs Jf true sn sub ab col dd k0 k1 k2 k3 k5 "Exception.__new__"))
structure Bh(h:Heap):Prop where
 is:qO h
theorem Es{d:Data}{cd:ClassData}(h:CN d=some cd):d=.cls cd:=by
 rcases d with _|_<;>first|exact Qf h|exact congrArg Data.cls (so h)
theorem Uk{α:Type}{l:List α}{n:Nat}(h:l.length=n+1):∃a r,l=a::r/\r.length=n:=by
 rcases l with _|⟨a,r⟩
 ·cases h
 ·exact⟨a,r,rfl,Nat.succ.inj h⟩
theorem PL{o:Obj}{c:Value}{d:Data}{l:List (Option Value)}(h1:o.cls=c)(h2:o.data=d)(h3:o.slots.toList=l):o=⟨c,o.dict,d,⟨l⟩⟩:=by
 subst h1 h2 h3;rfl
theorem Oi{x:ClassData}{m:List Value}{n:Addr}(h1:x.mro=m)(h2:x.ns=n)(h3:x.hasDict=true)(h4:(!x.hasDel)=true):x={ x with mro:=m,ns:=n,hasDict:=true,hasDel:=false }:=by
 have h4:x.hasDel=false:=(Bool.not_eq_true' _).mp h4;subst h1 h2;rw[<- h3,<-h4]
theorem Uz{K:Frag}{h:Heap}(X:K.In h)(e:excShape K=true):Bh h:=by
 refine cps fun U y0=>?_;obtain⟨o,ho,e0⟩:=UB e;clear e;have a0:=(QX e0).1;obtain⟨cd,hd,d0⟩:=UB (QX e0).2;obtain⟨k0,r0,q,q0⟩:=Uk (eq_of_beq (QX (QX a0).2).1:o.slots.toList.length=6);obtain⟨k1,r1,rfl,q1⟩:=Uk q0;obtain⟨k2,r2,rfl,q2⟩:=Uk q1;obtain⟨k3,r3,rfl,q3⟩:=Uk q2;obtain⟨k4,r4,rfl,q4⟩:=Uk q3;obtain⟨k5,r5,rfl,q5⟩:=Uk q4;obtain rfl:=List.length_eq_zero_iff.mp q5;have e4:o.slots[4]?=_:=eq_of_beq (QX (QX a0).2).2;rw[<- Array.getElem?_toList,q] at e4;obtain rfl:=so e4;have d1:=(QX d0).1;have r:=PL (eq_of_beq (QX a0).1) ((Es hd).trans (congrArg Data.cls (Oi (eq_of_beq (QX (QX d1).1).1) (eq_of_beq (QX d0).2) (QX (QX d1).1).2 (QX d1).2))) q;exact y0 ⟨_,_,_,_,_,_,_,_,_,_,_,_,_,(X _ _ ho).trans (congrArg some r)⟩
section
variable {prog:Program}{w:World}{A:Around}{E:VP}{h:Heap}{g:Array GenState}{d:Drawn}{t:Nat}{os:OsState}{R:Result->Shared->Prop}
variable {nm q:Str}{N:Addr}{bs:List Value}{hdct:Bool}{sn:List Str}{sub:List Value}{ab:Bool}{col:Option Bool}{dd:Option Addr}{k0 k1 k2 k3 k5:Option Value}
theorem X7{M:Model}{rest:List Value}{Q:Unit->Shared->Prop}(hC:h.get? excC=some (excClassObj nm q excC N bs Jf hdct sn sub ab col dd k0 k1 k2 k3 k5 "Exception.__new__"))
  (hq:Q () ⟨h,g,d,t,os⟩):wpAny M A (checkBuiltinCall "Exception.__new__" ⟨.ref excC::rest,[]⟩) Q E ⟨h,g,d,t,os⟩:=by
 have F:=PySem.F.excBase_Exception;have hcont:(Value.ref excC::Jf).contains (.type "Exception")=true:=by decide +kernel
 have hstar:=F.noStar;rw[checkBuiltinCall,F.newKind,F.newSplit,F.newRow]
 repeat (first|refine wpAny_loadPart_at hC ?_|(refine wpAny_isSubtype_exc hC ?_;rw[hcont])|refine wpAny_staticBase_exc hC ?_|refine wpAny_madeBy_exc hC ?_|simp only[bne_self_eq_false,Bool.false_eq_true,if_false]|wp_step)
 exact hq
theorem A8{rest:List Value}(hC:h.get? excC=some (excClassObj nm q excC N bs Jf hdct sn sub ab col dd k0 k1 k2 k3 k5 "Exception.__new__"))
  (hq:R (.ok (.ret (.ref (h.objs.size+1)))) ⟨(h.push { cls:=.type "tuple",data:=.seq rest.toArray }).push
   {cls:=.ref excC,data:=.fields #[.ref h.objs.size,.none,.none,.none,.bool false,.none] },g,d,t,os⟩) (hrest:rest.length<=sizeLine):
  codeAny (model prog w) A (.builtin "Exception.__new__" ⟨.ref excC::rest,[]⟩) R ⟨h,g,d,t,os⟩:=by
 have F:=PySem.F.excBase_Exception;have hends:=F.ends;have hcB:(Value.ref excC::Jf).contains (.type "Exception")=true:=by decide +kernel
 have hcA:(Value.ref excC::Jf).contains (.type "AttributeError")=false:=by decide +kernel
 have hcN:(Value.ref excC::Jf).contains (.type "NameError")=false:=by decide +kernel
 refine codeAny_builtinAt F.entry ?_;unfold Builtin.«BaseException.__new__»;refine PySem.wpAt_bind ?_;refine PySem.wpAt_bind (PySem.wpAt_stack fun p below=>PySem.wpAt_of_wpAny ?_)
 wp_walk
 refine PySem.wpAt_of_wpAny ?_;rw[F.owner]
 repeat (first|with_reducible refine wpAny_madeHere_exc F.canon hC ?_|with_reducible refine wpAny_loadPart_at hC ?_|(with_reducible refine wpAny_isSubtype_exc hC ?_;first|rw[hcB]|rw[hcA]|rw[hcN])|wp_step)
 show R _ _;rw[Heap.size_push];exact hq
end
end
section
open PySem PySem.W PySem.Calls PyProof.Rows SeqAt Builtin Builtin.ObjectAttr
section
variable {w:World}{A:Around}{E:VP}{h:Heap}{g:Array GenState}{d:Drawn}{t:Nat}{os:OsState}
theorem Nw(self:Value):refuseLoop self "__setattr__" (.ref excC::Jf)=pure ():=by
 rw[refuseLoop_ref];rw[refuseLoop_ref];exact PySem.F.store_Exception.passes self
theorem EJ{e:Addr}{vs:Array Value}{v:Value}{Q:Unit->Shared->Prop}(XK:(KB w.params).In h)(he:h.get? e=some { cls:=.ref excC,data:=.fields vs })
  (hQ:∀h' tk dx,(∀b o,b≠e->h.get? b=some o->h'.get? b=some o)->h.get? dx=none->h'.get? e=some { cls:=.ref excC,dict:=some dx,data:=.fields vs }->h'.Ns dx (fun y=>if y="told" then some v else none)->Q () ⟨h',g,d,tk,os⟩):
  wpAny (model pw w) A (setAttr (.ref e) "told" v) Q E ⟨h,g,d,t,os⟩:=by
 have SF:=PySem.F.store_Exception;have y1:=JK w.params;have y2:=CR w.params;have y3:=Gb w.params;generalize KB w.params=K at XK y1 y2 y3;refine cps fun U y0=>?_;obtain⟨nm,q,bs,sn,sub,ab,col,dd,k0,k1,k2,k3,k5,hC⟩:=(Uz XK y1).is;refine y0 ?_;have I:InstAt h e { cls:=.ref excC,data:=.fields vs } excC none:=⟨he,rfl,rfl,trivial⟩
 have hm:Looks (model pw w) h (mroOf (.ref excC)) (.ref excC::Jf):=(Looks.ld (part:=none) hC).andThen .now;have sub:Looks (model pw w) h (isInstance (.ref e) (.type "object")) true:=by
  refine I.type.andThen ?_;intro A Q E s k hq;obtain⟨hp,g,d,tk,os⟩:=s;refine wpAny_isSubtype_exc (k _ _ hC) ?_;exact hq
 refine set_plain (s:=⟨h,g,d,t,os⟩) XK I y2 ?_;refine codeAny_call_builtin SF.slot.plain SF.entry (@check_slot (model pw w) _ _ _ "object.__setattr__" "object" "__setattr__" (.ref e) [.str "told" t,v] [] _ SF.kind SF.split sub (SF.args (.ref e) (.str "told" t) v) ?_);have ha:findIn K (.ref excC) "told"=some none:=y3;have L3:Looks (model pw w) h (storeTaker? none) none:=.now;rw[osa_eq,refuse_eq];refine wpAny_bind (wpAny_bind (I.type.here (wpAny_bind (hm.here ?_))));rw[Nw];refine wpAny_pure (wpAny_bind (I.type.here (wpAny_bind ((looks_findIn XK ha).here (wpAny_bind (L3.here ?_))))));dsimp only;have hx₁:(h.push { cls:=.type "dict",data:=.dict #[] }).get? e=some { cls:=.ref excC,data:=.fields vs }:=Heap.get?_push_of_some _ he;have hxs:e≠h.objs.size:=Nat.ne_of_lt (Heap.lt_size he);refine wpAny_bind (wpAny_pure (wpAny_bind ?_));obtain⟨od,hod⟩:∃od:Option Addr,od=none:=⟨_,rfl⟩
 have he':h.get? e=some { cls:=.ref excC,dict:=od,data:=.fields vs }:=by rw[hod];exact he
 dsimp only[ownDictForStores,instanceDict]
 repeat (first|(with_reducible refine wpAny_loadPart_at he' ?_)|with_reducible refine wpAny_loadPart_at hC ?_|wp_step)
 subst hod;rw[if_neg (by simp[typeHasDict])];refine wpAny_bind (wpAny_alloc' ?_);refine wpAny_bind (wpAny_update' hx₁ ?_);refine wpAny_pure ?_;have hgd:((h.push { cls:=.type "dict",data:=.dict #[] }).update e fun o=>{ cls:=o.cls,dict:=some h.objs.size,data:=o.data,slots:=o.slots }).get? h.objs.size
   = some { cls:=.type "dict",data:=.dict #[] }:=(Heap.get?_update_ne _ _ _ _ hxs.symm).trans (Heap.get?_push_at rfl rfl)
 have hnd:((h.push { cls:=.type "dict",data:=.dict #[] }).update e fun o=>{ cls:=o.cls,dict:=some h.objs.size,data:=o.data,slots:=o.slots }).Ns h.objs.size (fun Z=>none):=
  ⟨_,#[],_,hgd,rfl,fun e he=>absurd he (by simp),fun Z=>rfl⟩
 refine wpAny_bind (wpAny_pure (wpAny_bind (wpAny_nsSet1 (Heap.Ns1.of_empty hnd) fun h' hn' hs=>?_)));refine cps fun U y0=>?_;obtain⟨oD,esD,epD,hoD,hdD,hcD⟩:=hn'.count (Within.cons "told" v Within.nil);refine y0 ?_;refine wpAny_bind (wpAny_lookBehind hoD (by rw[hdD];exact pastItsLine_dict (Nat.le_trans hcD (by rw[List.length_cons,List.length_nil,sizeLine_eq];decide))) ?_);refine wpAny_pure ?_;refine hQ h' _ h.objs.size (fun b o hb hbo=>?_) (Heap.get?_none_of_le (Nat.le_refl _)) ?_ ?_
 ·exact(hs.2 b (Nat.ne_of_lt (Heap.lt_size hbo))).trans ((Heap.get?_update_ne _ _ _ _ hb).trans (Heap.get?_push_of_some _ hbo))
 ·exact(hs.2 e hxs).trans (Heap.get?_update_self _ hx₁ rfl)
 ·refine cps fun U y0=>?_;obtain⟨o',es,ep,e1,e2,e3,eu,e4⟩:=hn';refine y0 ?_;exact⟨o',es,ep,e1,e2,e3,e4⟩
end
end
section
open PySem PySem.W PySem.Calls PyProof.Rows SeqAt
noncomputable def RN:Arguments×List Stmt×Scope:=RJ.getD (⟨[],[],none,[],[],none,[]⟩,[],⟨.function,[],false,false,[]⟩)
theorem zH(P:Params):(QE P).get? 29=some (oF P 29):=by kernel_rfl
theorem zG(P:Params):(oF P 29).data=.func (W8 P 29):=by kernel_rfl
theorem zF(P:Params):(W8 P 29).body=.stmts RN.2.1:=by kernel_rfl
theorem zC(P:Params):(W8 P 29).scope=RN.2.2:=by kernel_rfl
theorem zB(P:Params):(W8 P 29).code=.ref 28:=by kernel_rfl
theorem zA(P:Params):(QE P).get? 28=some (oF P 28):=by kernel_rfl
theorem zx(P:Params):(oF P 28).data=.fields (Br P 28):=by kernel_rfl
theorem zw(P:Params):(Br P 28)[1]?=some (.str (W8 P 29).qualname (RI ((Br P 28)[1]?.getD .none))):=by kernel_rfl
theorem DR(P:Params)(S:Setting)(a b:Value):peek (KB P) S (bindArgs (W8 P 29) ⟨[a,b],[]⟩)=some [(sN,a),(tN,b)]:=by kernel_rfl
theorem BE:∃p1 p2 p3 p4,RN.2.1=[.Assign [.Attribute (.Name sN p1) tN p2] (.Name tN p3) p4]:=⟨_,_,_,_,rfl⟩
theorem RM:RN.2.2.kind=.function/\RN.2.2.isCoroutine=false/\RN.2.2.isGenerator=false/\RN.2.2.names.lookup sN=some .local/\RN.2.2.names.lookup tN=some .local/\(RN.2.2.names.all fun y=>!(y.2 == .cell))=true:=by and_intros<;>kernel_rfl
section
variable {w:World}{A:Around}{E:VP}{h:Heap}{g:Array GenState}{d:Drawn}{t:Nat}{os:OsState}
theorem Ba{e:Addr}{vs:Array Value}{v:Value}{Q:VP}(FH:PM.le (QE w.params).get? h.get?)(hlim:h.NoLimit)(hroom:A.depth < recursionLimit)(he:h.get? e=some { cls:=.ref excC,data:=.fields vs })
  (hQ:∀h' tk dx,(∀b o,b≠e->h.get? b=some o->h'.get? b=some o)->h.get? dx=none->h'.get? e=some { cls:=.ref excC,dict:=some dx,data:=.fields vs }->h'.Ns dx (fun y=>if y="told" then some v else none)->Q .none ⟨h',g,d,tk,os⟩):
  wpAny (model pw w) A (call (.ref 29) [.ref e,v]) Q E ⟨h,g,d,t,os⟩:=by
 have XK:(KB w.params).In h:=fun a o q=>FH _ _ (Vm _ _ _ q);refine cps fun U y0=>?_;obtain⟨p1,p2,p3,p4,hb⟩:=BE;obtain⟨z1,z2,z3,z4,z5,z6⟩:=RM;refine y0 ?_;have e5:=zC w.params;refine wpAny_call (codeAny_call_def (fd:=W8 w.params 29) (body:=RN.2.1) (o:=oF w.params 29) hroom (FH _ _ (zH _)) (zG _) hlim ?_ (zF _) (kp_binds (s:=⟨h,g,d,t,os⟩) XK fun S=>DR _ S _ _) ?_ ?_ (fun H2 hns hk2=>?_) (by rw[e5];exact z2) (by rw[e5];exact z3) (by rw[e5];exact z1))
 ·exact⟨28,_,_,_,zB _,FH _ _ (zA _),zx _,zw _⟩
 ·rw[e5];intro y hy q;have:=List.all_eq_true.mp z6 y hy;rw[q] at this;exact Bool.false_ne_true this
 ·intro y hy;rw[e5];simp only[List.mem_cons,List.not_mem_nil,or_false] at hy;rcases hy with rfl|rfl
  ·exact z4
  ·exact z5
 ·generalize hE:callEnv (W8 w.params 29) h.objs.size 29=env';have esc:env'.scope=RN.2.2:=by rw[<- hE];exact e5
  have eloc:env'.locals=h.objs.size:=by rw[<- hE];rfl
  have ekd:env'.scope.kind=.function:=by rw[esc];exact z1
  have kS:env'.kindOf sN=some .local:=by unfold Env.kindOf;rw[esc];exact z4
  have kT:env'.kindOf tN=some .local:=by unfold Env.kindOf;rw[esc];exact z5
  rw[hb];have hns':H2.Ns env'.locals (fun x=>List.lookup x ([(sN,Value.ref e),(tN,v)]:List (Str×Value)).reverse):=by rw[eloc];exact hns
  have mS:(fun x=>List.lookup x ([(sN,Value.ref e),(tN,v)]:List (Str×Value)).reverse) sN=some (.ref e):=by
   show List.lookup sN [(tN,v),(sN,Value.ref e)]=_;rw[List.lookup_cons,show(sN == tN)=false from by decide +kernel,List.lookup_cons,show(sN == sN)=true from by decide +kernel]
  have mT:(fun x=>List.lookup x ([(sN,Value.ref e),(tN,v)]:List (Str×Value)).reverse) tN=some v:=by
   show List.lookup tN [(tN,v),(sN,Value.ref e)]=_;rw[List.lookup_cons,show(tN == tN)=true from by decide +kernel]
  generalize(fun x=>List.lookup x ([(sN,Value.ref e),(tN,v)]:List (Str×Value)).reverse)=mm at *;have XK2:(KB w.params).In H2:=fun a o q=>hk2 _ _ (XK _ _ q);refine wpAny_execs_cons (plainObj_wpAny_Assign_Attribute (wpAny_Name (wpAny_loadName_local ekd kT hns' mT (wpAny_Name (wpAny_loadName_local ekd kS hns' mS ?_) (by decide +kernel))) (by decide +kernel)));refine EJ XK2 (hk2 _ _ he) fun h' tk dx k1 k2 k3 k4=>?_;refine wpAny_execs_nil (hQ h' tk dx (fun b o hb q=>k1 b o hb (hk2 _ _ q)) ?_ k3 k4);rcases q:h.get? dx with _|o
  ·rfl
  ·rw[hk2 _ _ q] at k2;exact Qf k2.symm
end
structure A7(h h':Heap)(e dx:Addr)(v:Value):Prop where
 keeps:∀b o,h.get? b=some o->h'.get? b=some o
 new:h.get? e=none
 newd:h.get? dx=none
 ne:dx≠e
 at_:∃t,h'.get? e=some { cls:=.ref excC,dict:=some dx,data:=.fields #[.ref t,.none,.none,.none,.bool false,.none] }
 told:h'.Ns dx (fun y=>if y="told" then some v else none)
section
variable {w:World}{A:Around}{E:VP}{h:Heap}{g:Array GenState}{d:Drawn}{t:Nat}{os:OsState}
theorem WT{v:Value}{Q:Fin->Shared->Prop}(FH:PM.le (QE w.params).get? h.get?)(hlim:h.NoLimit)(hroom:A.depth < recursionLimit)
  (hq:∀h' tk e dx,A7 h h' e dx v->Q (.done (.ret (.ref e))) ⟨h',g,d,tk,os⟩):
  wpAny (model pw w) A (Builtin.«type.__call__» ⟨.ref excC::[v],[]⟩) Q E ⟨h,g,d,t,os⟩:=by
 have F:=PySem.F.excBase_Exception;have XK:(KB w.params).In h:=fun a o q=>FH _ _ (Vm _ _ _ q);refine cps fun U y0=>?_;obtain⟨nm,q,bs,sn,sub,ab,col,dd,k0,k1,k2,k3,k5,hC⟩:=(Uz XK (JK _)).is;refine y0 ?_
 repeat (first|with_reducible refine wpAny_loadPart_at hC ?_|with_reducible refine wpAny_madeBy_exc hC ?_|wp_step)
 refine codeAny_call_builtin_code (Code.quiet_builtin _ F.quiet) (X7 hC ?_);refine A8 hC ?_ (by show(1:Nat)<=sizeLine;rw[sizeLine_eq];lia);have kp:∀b o,h.get? b=some o->((h.push { cls:=.type "tuple",data:=.seq [v].toArray }).push { cls:=.ref excC,data:=.fields #[.ref h.objs.size,.none,.none,.none,.bool false,.none] }).get? b=some o:=fun b o e=>Heap.get?_push_of_some _ (Heap.get?_push_of_some _ e);have hC₁:=kp _ _ hC;have hget:((h.push { cls:=.type "tuple",data:=.seq [v].toArray }).push
   {cls:=.ref excC,data:=.fields #[.ref h.objs.size,.none,.none,.none,.bool false,.none] }).get? (h.objs.size+1)=some
   {cls:=.ref excC,data:=.fields #[.ref h.objs.size,.none,.none,.none,.bool false,.none] }:=by heap_get
 have hcC:(Value.ref excC::Jf).contains (.ref excC)=true:=by decide +kernel
 have FH₁:PM.le (QE w.params).get? ((h.push { cls:=.type "tuple",data:=.seq [v].toArray }).push { cls:=.ref excC,data:=.fields #[.ref h.objs.size,.none,.none,.none,.bool false,.none] }).get?:=fun b o e=>kp b o (FH b o e);have XK₁:(KB w.params).In ((h.push { cls:=.type "tuple",data:=.seq [v].toArray }).push { cls:=.ref excC,data:=.fields #[.ref h.objs.size,.none,.none,.none,.bool false,.none] }):=fun a o q=>kp _ _ (XK _ _ q);have hlim₁:=hlim.keeps kp;have nw:h.get? (h.objs.size+1)=none:=Heap.get?_none_of_le (Nat.le_succ _)
 repeat (first|with_reducible refine wpAny_loadPart_at hget ?_|(with_reducible refine wpAny_isSubtype_exc hC₁ ?_;rw[hcC])|wp_step)
 refine(looks_findIn XK₁ (Ox _)).here ?_;refine wpAny_holding (wpAny_bind ?_);refine(bind_fn XK₁ _ (qk _)).here ?_;refine wpAny_bind (Ba FH₁ hlim₁ hroom hget fun h' tk dx k1 k2 k3 k4=>?_);have hne:dx≠h.objs.size+1:=fun z=>by
  replace k2:=z▸k2;exact Qf (k2.symm.trans hget)
 have hq':=hq h' tk (h.objs.size+1) dx ⟨fun b o q=>k1 b o (fun z=>by rw[z,nw] at q;exact Qf q) (kp _ _ q),nw,?_,hne,⟨_,k3⟩,k4⟩
 ·wp_walk
  exact hq'
 ·rcases q:h.get? dx with _|o
  ·rfl
  ·rw[kp _ _ q] at k2;exact Qf k2.symm
theorem Bb{v:Value}{Q:VP}(FH:PM.le (QE w.params).get? h.get?)(hlim:h.NoLimit)(hroom:A.depth+3 < recursionLimit)
  (hq:∀h' tk e dx,A7 h h' e dx v->Q (.ref e) ⟨h',g,d,tk,os⟩):
  wpAny (model pw w) A (call (.ref excC) [v]) Q E ⟨h,g,d,t,os⟩:=by
 have XK:(KB w.params).In h:=fun a o q=>FH _ _ (Vm _ _ _ q);obtain⟨nm,q,bs,sn,sub,ab,col,dd,k0,k1,k2,k3,k5,hC⟩:=(Uz XK (JK _)).is;have f1:=tc_lookup;have f2:=tc_bind (.ref excC);have hT:(⟨h,g,d,t,os⟩:Shared).TypeIs (.ref excC) "type":=⟨_,hC,rfl⟩
 refine wpAny_call (codeAny_of_tree ?_);show wpAny _ _ (callAny (.ref excC) _) _ _ _
 repeat (any_goals (first|assumption|with_reducible refine wpAny_loadPart_at hC ?_|wp_step))
 refine⟨rfl,?_⟩;refine codeAny_call_builtin_at (Code.quiet_builtin _ (by decide +kernel)) entry_typeCall (wpAny_check_type_call_sub hC (WT FH hlim ?_ fun h' tk e dx hm=>?_))
 ·have e:Code.weight (.builtin "type.__call__" ⟨.ref excC::[v],[]⟩)=1:=by kernel_rfl
  show A.depth+Code.weight (.builtin "type.__call__" ⟨.ref excC::[v],[]⟩) < _;omega
 ·exact hq h' tk e dx hm
end
section
variable {X:Qu}{A:Around}{g:PM}{s:Shared}
end
noncomputable abbrev KW(u:Value):Str->Option Value:=fun y=>if y="told" then some u else none
noncomputable def Kn(l:List Env):List Addr:=l.filterMap (·.frame)
noncomputable def ZM(p:PM)(l:List Env):Prop:=∀env∈l,env.scope.kind≠.module/\∃L o,env.frame=some L/\p L=some o/\∀vs,o.data≠.fields vs
theorem ZM.up{p p':PM}{l:List Env}(x:ZM p l)(h:PM.le p p'):ZM p' l:=fun env he=>let⟨a,L,o,b,c,d⟩:=x env he;⟨a,L,o,b,h _ _ c,d⟩
theorem ZM.mem{p:PM}{l:List Env}(x:ZM p l){b:Addr}(hb:b∈Kn l):∃o,p b=some o/\∀vs,o.data≠.fields vs:=by
 unfold Kn at hb;refine cps fun U y0=>?_;obtain⟨env,he,hf⟩:=List.mem_filterMap.mp hb;obtain⟨_,L,o,h1,h2,h3⟩:=x env he;refine y0 ?_;obtain rfl:=so (hf.symm.trans h1);exact⟨o,h2,h3⟩
theorem ZM.fun{h base:Heap}:∀{l:List Env},ZM h.get? l->(∀b∈Kn l,base.get? b=none)->h.FunFrames base l:=by
 intro zz
 induction zz with
 | nil=>
  intro _ _;exact trivial
 | cons env l ih=>
  intro x hb;refine cps fun U y0=>?_;obtain⟨a,L,o,e1,e2,e3⟩:=x env (.head _);refine y0 ?_;refine⟨a,⟨L,o,e1,hb L ?_,e2,e3⟩,ih (fun e he=>x e (.tail _ he)) fun b hm=>hb b ?_⟩
  ·unfold Kn;rw[List.filterMap_cons,e1];exact .head _
  ·unfold Kn at hm ⊢;rw[List.filterMap_cons,e1];exact .tail _ hm
structure Over(l:List Env)(H base h2:Heap)(e dx:Addr)(u:Value):Prop where
 keep:∀b o,H.get? b=some o->b∉Kn l->base.get? b=some o
 new:H.get? e=none
 told:base.Ns dx (KW u)
 slots:∀b o,H.get? b=some o->b∈Kn l->∃sl,h2.get? b=some { o with slots:=sl }
noncomputable def ET(l:List Env)(L:Addr)(H:Heap)(e dx:Addr)(u:Value)(h2:Heap):Prop:=∃base,X6 base l e dx (rawInt L) h2/\Over l H base h2 e dx u/\ZM H.get? l
theorem Over.up{l:List Env}{H base h2 h3:Heap}{e dx:Addr}{u:Value}(x:Over l H base h2 e dx u)(o:ZM H.get? l)(k:h2.UpToSlots h3):Over l H base h3 e dx u:=by
 refine⟨x.keep,x.new,x.told,fun b ob hb hm=>?_⟩;refine cps fun U y0=>?_;obtain⟨sl,e1⟩:=x.slots b ob hb hm;obtain⟨o',h1,h2'⟩:=o.mem hm;refine y0 ?_;obtain rfl:=so (hb.symm.trans h1);obtain⟨sl',e2⟩:=k b _ e1 h2';exact⟨sl',e2⟩
section
variable {M:Model}{A:Around}{E:VP}{s:Shared}{base H:Heap}{env:Env}{outer l:List Env}{L e dx:Addr}{u:Value}
theorem HQ{Q:Unit->Shared->Prop}(hf:env.frame=some L)(F:X6 base l e dx (rawInt L) s.heap)(h:Q () s):wpAny M A (noteFrame (.ref e) env) Q E s:=by
 refine cps fun U y0=>?_;obtain⟨hkb,hl,hen,oe,vs,T,oT,ts,he,hc,hdx,hd,h1,hnT,hTe,hT,hdT,h3⟩:=F;refine y0 ?_;dsimp only[noteFrame];rw[hf];refine wpAny_bind (wpAny_field he hd h1 ?_);rw[if_pos (show(Value.ref T != Value.none)=true from by rfl)];refine wpAny_bind (wpAny_field hT hdT h3 ?_);rw[if_pos (show(rawInt L == rawInt L)=true from by simp)];exact wpAny_pure h
theorem Rj{fl:Value}{Q:Unit->Shared->Prop}(hf:env.frame=some L)(F:X6 base l e dx fl s.heap)(h:∀h',X6 base l e dx (rawInt L) h'->s.heap.UpToSlots h'->Q () { s with heap:=h' }):
  wpAny M A (do
   if(<- field (.ref e) 1) == .none then unsupported "frame.own-activation:exception-without-traceback"
   setFlight (.ref e) env.frame) Q E s:=by
 refine cps fun U y0=>?_;obtain⟨hkb,hl,hen,oe,vs,T,oT,ts,he,hc,hdx,hd,h1,hnT,hTe,hT,hdT,h3⟩:=F;refine y0 ?_;have hsz3:3 < ts.size:=(Array.getElem?_eq_some_iff.mp h3).1;refine wpAny_bind (wpAny_field he hd h1 ?_);rw[if_neg (show ¬((Value.ref T == Value.none)=true) from Bool.false_ne_true)];refine wpAny_bind (wpAny_field he hd h1 ?_);rw[if_pos (show(Value.ref T != Value.none)=true from by rfl),hf];have other:∀b,b≠T->(s.heap.update T (Obj.mapFields (·.setIfInBounds 3 ((some L:Option Addr).elim Value.none fun f=>rawInt f)))).get? b=s.heap.get? b:=fun b hb=>Heap.get?_update_other _ _ (Ne.symm hb);have apart:∀b o,s.heap.get? b=some o->(∀vs,o.data≠.fields vs)->b≠T:=fun b o hb hnf q=>by
  rw[q,hT] at hb;obtain rfl:=so hb;exact hnf ts hdT
 refine wpAny_setField hT hdT hsz3 (h _ ⟨fun b o q=>(other b fun z=>by rw[z,hnT] at q;exact Qf q).trans (hkb b o q),hl.of_keeps fun b o hb hnf=>⟨o,(other b (apart b o hb hnf)).trans hb,rfl⟩,hen,?_⟩ fun b o hb hn=>⟨o.slots,(other b (apart b o hb hn)).trans hb⟩);exact⟨oe,vs,T,_,_,(other e (Ne.symm hTe)).trans he,hc,hdx,hd,h1,hnT,hTe,Heap.get?_update_self _ hT (Obj.isFreed_of_fields (Obj.data_mapFields hdT _)),Obj.data_mapFields hdT _,by simp[hsz3]⟩
theorem NQ{h2:Heap}(B:A7 H h2 e dx u)(o:ZM H.get? l):h2.FunFrames (hideAll h2 (e::Kn l)) l/\(hideAll h2 (e::Kn l)).StaysIn h2/\(hideAll h2 (e::Kn l)).get? e=none/\
  (∀b ob,H.get? b=some ob->b∉Kn l->(hideAll h2 (e::Kn l)).get? b=some ob)/\(hideAll h2 (e::Kn l)).Ns dx (KW u):=by
 refine⟨(o.up fun b ob q=>B.keeps b ob q).fun fun b hb=>hideAll_none _ (.tail _ hb),fun b ob q=>of_hideAll _ q,hideAll_none _ (.head _),fun b ob q hn=>hideAll_get _ (B.keeps _ _ q) fun hm=>?_,?_⟩
 ·rcases List.mem_cons.mp hm with z|z
  ·rw[z,B.new] at q;exact Qf q
  ·exact hn z
 ·refine cps fun U y0=>?_;obtain⟨od,es,ep,e1,r⟩:=B.told;refine y0 ?_;refine⟨od,es,ep,hideAll_get _ e1 fun hm=>?_,r⟩;rcases List.mem_cons.mp hm with z|z
  ·exact B.ne z
  ·obtain⟨o',q,_⟩:=o.mem z;exact Qf (B.newd.symm.trans q)
theorem N3{Q:Unit->Shared->Prop}(hfr:A.frames=some (env::outer))(hf:env.frame=some L)(o:ZM H.get? (env::outer))(B:A7 H s.heap e dx u)
  (h:∀h',ET (env::outer) L H e dx u h'->Q () { s with heap:=h' }):wpAny M A (noteFrame (.ref e) env) Q E s:=by
 refine cps fun U y0=>?_;obtain⟨f1,f2,f3,f4,f5⟩:=NQ B o;obtain⟨t,ht⟩:=B.at_;refine y0 ?_;refine NC hfr f1 hf ht f2 f3 rfl rfl rfl rfl fun h' F k=>h h' ⟨_,F,⟨f4,B.new,f5,fun b ob hb hm=>?_⟩,o⟩;refine cps fun U y0=>?_;obtain⟨o',q,nf⟩:=o.mem hm;obtain rfl:=so (hb.symm.trans q);refine y0 ?_;exact k b _ (B.keeps _ _ hb) nf
noncomputable def OM(env:Env)(outer:List Env)(H:Heap)(e dx:Addr)(u:Value)(h2:Heap):Prop:=∃base,X6 base outer e dx .none h2/\Over (env::outer) H base h2 e dx u/\ZM H.get? (env::outer)
theorem XD{Q:Unit->Shared->Prop}(hf:env.frame=some L)(K:ET (env::outer) L H e dx u s.heap)(h:∀h',OM env outer H e dx u h'->Q () { s with heap:=h' }):wpAny M A («leaving» env (.ref e)) Q E s:=by
 refine cps fun U y0=>?_;obtain⟨base,F,O,o⟩:=K;refine y0 ?_;unfold «leaving»;exact wpAny_bind (HQ hf F (land F fun h' F' k=>h h' ⟨base,F'.tail,O.up o k,o⟩))
theorem Tg{Q:Unit->Shared->Prop}(hfr:A.frames=some (env::outer))(hf:env.frame=some L)(o:ZM H.get? (env::outer))(B:A7 H s.heap e dx u)(h:∀h',OM env outer H e dx u h'->Q () { s with heap:=h' }):
  wpAny M A («leaving» env (.ref e)) Q E s:=by
 unfold «leaving»;refine wpAny_bind (N3 hfr hf o B fun h1 K=>?_);refine cps fun U y0=>?_;obtain⟨base,F,O,o⟩:=K;refine y0 ?_;exact land F fun h' F' k=>h h' ⟨base,F'.tail,O.up o k,o⟩
end
noncomputable def Jy(X:Qu)(n:Nat)(env:Env)(names:List Str)(fl:Bool)(outer:List Env)(m:Sem Flow)(run1:List LV->Q8->Option (Out×List LV×Q8)):Prop:=
 ∀(A:Around) (P0:PM) (P:PF) (own:Nat->Option Addr) (g:PM) (ρ ρ':List LV) (D D':Q8) (v:AV) (s:Shared) (Q:Flow->Shared->Prop) (E:VP),
  Ze A (n+1)->A.frames=some (env::outer)->ZM P.pr outer->PM.le (QE X.w.params).get? P.pr->run1 ρ D=some (.exc v,ρ',D')->Z6 X P0 P fl env names own g ρ D s.heap->
  (∀g' own' H e dx u h2 tk,Z6 X P0 P fl env names own' g' ρ' D' H->VR X P0 g' v u->(A7 H h2 e dx u\/ET (env::outer) env.locals H e dx u h2)->E (.ref e) { s with heap:=h2,toks:=tk })->QD X.M A m Q E s
theorem Ze.less{A:Around}{n:Nat}(R:Ze A (n+1)):Ze A n:=R.low (Nat.le_succ n)
theorem GI{w:World}{h:Heap}(FH:PM.le (QE w.params).get? h.get?):Yi (model pw w) h (.ref excC):=by
 have XK:(KB w.params).In h:=fun a o q=>FH _ _ (Vm _ _ _ q);refine cps fun U y0=>?_;obtain⟨nm,q,bs,sn,sub,ab,col,dd,k0,k1,k2,k3,k5,hC⟩:=(Uz XK (JK _)).is;refine y0 ?_;refine⟨.machine,.inr (.inl rfl),?_⟩;intro A Q E s k hq;obtain⟨hp,g,d,tk,os⟩:=s;exact wpAny_keeperOf_exc (k _ _ hC) hq
section
variable {w:World}{A:Around}{E:VP}{s:Shared}{env:Env}
theorem Nx{x:Sem Value}{Q:Flow->Shared->Prop}(hh:A.handled=none)
  (h:QD (model pw w) A x (fun v s₁=>∃e dx t,v=.ref e/\PM.le (QE w.params).get? s₁.heap.get?/\s₁.heap.get? e=some { cls:=.ref excC,dict:=some dx,data:=.fields #[.ref t,.none,.none,.none,.bool false,.none] }/\E (.ref e) s₁) E s):
  QD (model pw w) A (raiseStmt env (some x) none) Q E s:=by
 have hcB:(Value.ref excC::Jf).contains (.type "BaseException")=true:=by decide +kernel
 refine Q0 (Zu h (fun v s₁ h₁=>Q3 ?_) fun Z Z x=>x);refine cps fun U y0=>?_;obtain⟨e,dx,t,rfl,FH,he,hE⟩:=h₁;have XK:(KB w.params).In s₁.heap:=fun a o q=>FH _ _ (Vm _ _ _ q);obtain⟨nm,q,bs,sn,sub,ab,col,dd,k0,k1,k2,k3,k5,hC⟩:=(Uz XK (JK _)).is;obtain⟨hp,g,d,tk,os⟩:=s₁;refine y0 ?_
 repeat (first|with_reducible refine wpAny_loadPart_at he ?_|with_reducible refine wpAny_loadPart_at hC ?_|(with_reducible refine wpAny_isSubtype_exc hC ?_;rw[hcB])|wp_step)
 exact wpAny_raiseNew_none hh hE
end
section
variable {X:Qu}{n:Nat}{Φ:Qj}{env:Env}{names:List Str}{fl:Bool}{o:List Nat}{W:Nat}{outer:List Env}
theorem Nk{x:Str}{a:Expr}{ia:IR}{p cp pos:Pos}{nk:List (Str×NameKind)}(ok:QS env nk)(hk:nk.lookup x=some .globalImplicit)(hx:x.cps.toList=[66,97,100,70,111,114,109,97,116])
  (hy:(x == ("__debug__":Str))=false) (hst:notStar a=true) (h0:J7 X n Φ env names [a] [ia]):Jy X n env names fl outer (PySem.exec (.Raise (some (.Call (.Name x p) [a] [] cp)) none pos) env) (exec Φ fl o W (.raise ia)):=fun A P0 P own g ρ ρ' D D' v s Q E R hfr ho hfin h F hE=>by
 dsimp only[exec] at h;refine cps fun U y0=>?_;refine Hq h ?_;clear h;intro _ _ h1 h;cases h;refine y0 ?_;have h5:runs Φ [ia] ρ D=some ([v],D'):=HL h1;have hx':x="BadFormat":=by
  rw[<- Zh x,hx];rfl
 have hk':env.kindOf x=some .globalImplicit:=by unfold Env.kindOf;rw[ok.nm];exact hk
 rw[arm_exec_Raise];refine Q0 (Q4 (Nx R.hd ?_));refine Q0 ?_;rw[arm_eval_Call_Name'];refine Q9 (Calls.Name_function_global ok.kd hk' (Calls.loadGlobal_global (by rw[ok.gl];exact F.st.glob.at F.sub) (by rw[hx'];exact F.st.exc) ?_) hy);refine Qy (by simpa using hst) (h0 A P0 P fl own g ρ D D' [v] cp s _ E R.less h5 F fun vs g1 H1 t1 G1 dk1 r1=>?_);have F1:=F.grow G1 dk1;have FH:PM.le (QE X.w.params).get? H1.get?:=hfin.trans F1.prot;refine⟨GI FH,?_⟩;rw[List.nil_append];obtain⟨va,r,rfl,r2,r3⟩:=r1;dsimp only[Qo] at r3;subst r3;have hd:=R.dp;refine Q3 (Bb (h:=H1) FH (F1.st.noLimit F1.sub) (by lia) fun h' tk e dx B=>?_);obtain⟨t,ht⟩:=B.at_;refine Q0 (Q4 (Q7 ?_));exact⟨e,dx,t,rfl,FH.trans B.keeps,ht,hE g1 own H1 e dx va h' tk F1 r2 (.inl B)⟩
end
section
variable {X:Qu}{n:Nat}{Φ:Qj}{env:Env}{names:List Str}{fl:Bool}{o:List Nat}{W:Nat}{outer:List Env}
theorem Pc{st:Stmt}{rest:List Stmt}{sr:SR}{srs:List SR}(h1:Qq X n Φ env names fl (PySem.exec st env) (exec Φ fl o W sr))(x1:Jy X n env names fl outer (PySem.exec st env) (exec Φ fl o W sr))(x2:Jy X n env names fl outer (PySem.execs rest env) (execs Φ fl o W srs)):
  Jy X n env names fl outer (PySem.execs (st::rest) env) (execs Φ fl o W (sr::srs)):=fun A P0 P own g ρ ρ' D D' v s Q E R hfr ho hfin h F hE=>by
 dsimp only[execs] at h;rw[execs_cons];rcases e1:exec Φ fl o W sr ρ D with _|r
 ·rw[e1] at h;exact Qf h
 ·
  refine cps fun U y0=>?_;obtain⟨o1,ρ1,D1⟩:=r;refine y0 ?_;rw[e1] at h;rcases o1 with _|d|u
  ·
   refine Q0 (h1 A P0 P own g ρ ρ1 D D1 .next s _ E R.less e1 (fun v q=>by cases q) F fun f h' tk hr=>?_);obtain⟨rfl,g',own',F'⟩:=hr;exact x2 A P0 P own' g' ρ1 ρ' D1 D' v _ Q E R hfr ho hfin h F' hE
  ·cases h
  ·
   refine cps fun U y0=>?_;cases h;refine y0 ?_;exact Q0 (x1 A P0 P own g ρ _ D _ _ s _ E R hfr ho hfin e1 F hE)
theorem Pd:Jy X n env names fl outer (PySem.execs [] env) (execs Φ fl o W []):=fun A P0 P own g ρ ρ' D D' v s Q E R hfr ho hfin h F hE=>by
 dsimp only[execs] at h;refine False.elim ?_;cases h
theorem BY{t:Expr}{a b:List Stmt}{pos:Pos}{it:IR}{sa sb:List SR}(ht:ZN X n Φ env names t it)(ha:Jy X n env names fl outer (PySem.execs a env) (execs Φ fl o W sa))(hb:Jy X n env names fl outer (PySem.execs b env) (execs Φ fl o W sb)):
  Jy X n env names fl outer (PySem.exec (.If t a b pos) env) (exec Φ fl o W (.ifs it sa sb)):=fun A P0 P own g ρ ρ' D D' v s Q E R hfr ho hfin h F hE=>by
 dsimp only[exec] at h;rw[exec_If];refine Q0 (Q4 ?_);unfold truthOf at h;cases e1:run Φ it ρ D with
 | none=>rw[e1] at h;exact Qf h
 | some r=>
  refine cps fun U y0=>?_;obtain⟨x,D1⟩:=r;refine y0 ?_;replace h:=e1▸h;dsimp only at h;cases e2:x.truth with
  | none=>rw[e2] at h;exact Qf h
  | some c=>
   replace h:=e2▸h;refine Q0 (ht A P0 P fl own g ρ D D1 x c s _ E R.less e1 e2 F fun g1 H1 t1 G1 dk1=>?_);cases c with
   | true=>exact Qk (if_pos rfl) (ha A P0 P own g1 ρ ρ' D1 D' v _ Q E R hfr ho hfin h (F.grow G1 dk1) hE)
   | false=>exact Qk (if_neg Bool.false_ne_true) (hb A P0 P own g1 ρ ρ' D1 D' v _ Q E R hfr ho hfin h (F.grow G1 dk1) hE)
theorem Z6.outFr{P0 g:PM}{P:PF}{own:Nat->Option Addr}{ρ:List LV}{D:Q8}{H:Heap}(F:Z6 X P0 P fl env names own g ρ D H)(hf:env.frame=some env.locals/\env.scope.kind≠.module)(ho:ZM P.pr outer):ZM H.get? (env::outer):=fun env' he=>by
 rcases List.mem_cons.mp he with rfl|he
 ·refine cps fun U y0=>?_;obtain⟨m,ob,es,ep,e,hd,_⟩:=F.ns;refine y0 ?_;exact⟨hf.2,_,ob,hf.1,e,fun vs q=>by rw[hd] at q;cases q⟩
 ·exact(ho.up F.prot) env' he
theorem FN{A:Around}{P0:PM}{P:PF}{t:Expr}{b:List Stmt}{it:IR}{sb:List SR}(hf:env.frame=some env.locals/\env.scope.kind≠.module)(ht:ZN X n Φ env names t it)(hb:Qq X n Φ env names fl (PySem.execs b env) (execs Φ fl o W sb))
  (xb:Jy X n env names fl outer (PySem.execs b env) (execs Φ fl o W sb)) (R:Ze A (n+1)) (hfr:A.frames=some (env::outer)) (ho:ZM P.pr outer) (hfin:PM.le (QE X.w.params).get? P.pr):
  ∀(w:Nat) (own:Nat->Option Addr) (g:PM) (ρ ρ':List LV) (D D':Q8) (v:AV) (s:Shared) (Rr:Result->Shared->Prop),
   iter (fun ρ D=>truthOf Φ it ρ D) (fun ρ D=>execs Φ fl o W sb ρ D) w ρ D=some (.exc v,ρ',D')->Z6 X P0 P fl env names own g ρ D s.heap->
   (∀g' own' H e dx u h2 tk,Z6 X P0 P fl env names own' g' ρ' D' H->VR X P0 g' v u->ET (env::outer) env.locals H e dx u h2->Rr (.error (.ref e)) { s with heap:=h2,toks:=tk })->ZU X.M A (.whileLoop t b [] env) Rr s:=by
 intro w
 induction w with
 | zero=>
  intro own g ρ ρ' D D' v s Rr h F hE;dsimp only[iter] at h;exact Qf h
 | succ w ih=>
  intro own g ρ ρ' D D' v s Rr h F hE;dsimp only[iter] at h;refine Qx rfl ?_;rw[Around.under_of_weight rfl rfl];refine QP ?_;unfold truthOf at h;cases e1:run Φ it ρ D with
  | none=>rw[e1] at h;exact Qf h
  | some r=>
   refine cps fun U y0=>?_;obtain⟨x,D1⟩:=r;refine y0 ?_;replace h:=e1▸h;dsimp only at h;cases e2:x.truth with
   | none=>rw[e2] at h;exact Qf h
   | some c=>
    replace h:=e2▸h;dsimp only at h;refine Q0 (ht A P0 P fl own g ρ D D1 x c s _ _ R.less e1 e2 F fun g1 H1 t1 G1 dk1=>?_);have F1:=F.grow G1 dk1;cases c with
    | false=>cases h
    | true=>
     dsimp only at h;refine Qk (if_pos rfl) ?_;cases e3:execs Φ fl o W sb ρ D1 with
     | none=>rw[e3] at h;exact Qf h
     | some r=>
      refine cps fun U y0=>?_;obtain⟨o1,ρ1,D2⟩:=r;refine y0 ?_;rw[e3] at h;cases o1 with
      | next=>
       refine Q0 (hb A P0 P own g1 ρ ρ1 D1 D2 .next { s with heap:=H1,toks:=t1 } _ _ R.less e3 (fun v q=>by exact(nomatch q)) F1 fun f h2 tk2 hr=>?_);obtain⟨rfl,g2,own2,F2⟩:=hr;refine Q7 ⟨rfl,?_⟩;exact ih own2 g2 ρ1 ρ' D2 D' v _ Rr h F2 hE
      | ret d=>cases h
      | exc u=>
       refine cps fun U y0=>?_;cases h;refine y0 ?_;refine Q0 (xb A P0 P own g1 ρ _ D1 _ _ { s with heap:=H1,toks:=t1 } _ _ R hfr ho hfin e3 F1 fun g' own' H e dx u h2 tk F2 rv hx=>Q3 ?_);rcases hx with B|K
       ·exact wpAny_bind (N3 hfr hf.1 (F2.outFr hf ho) B fun h3 K=>wpAny_theTreesLotGoes (hE g' own' H e dx u h3 tk F2 rv K))
       ·refine cps fun U y0=>?_;obtain⟨base,Fl,rest⟩:=K;refine y0 ?_;exact wpAny_bind (HQ hf.1 Fl (wpAny_theTreesLotGoes (hE g' own' H e dx u h2 tk F2 rv ⟨base,Fl,rest⟩)))
theorem Nj{t:Expr}{b:List Stmt}{it:IR}{sb:List SR}{pos:Pos}(hf:env.frame=some env.locals/\env.scope.kind≠.module)(ht:ZN X n Φ env names t it)(hb:Qq X n Φ env names fl (PySem.execs b env) (execs Φ fl o W sb))
  (xb:Jy X n env names fl outer (PySem.execs b env) (execs Φ fl o W sb)):Jy X n env names fl outer (PySem.exec (.While t b [] pos) env) (exec Φ fl o W (.whiles it sb)):=fun A P0 P own g ρ ρ' D D' v s Q E R hfr ho hfin h F hE=>by
 dsimp only[exec] at h;rw[exec_While];refine Q0 (Q4 ?_);refine QP (Vp ?_ nofun);have e:A.mark none=A:=rfl;rw[e];refine FN hf ht hb xb R hfr ho hfin W own g ρ ρ' D D' v s _ h F fun g' own' H e dx u h2 tk F2 rv K=>?_;refine cps fun U y0=>?_;obtain⟨base,Fl,O,oo⟩:=K;refine y0 ?_;exact Q3 (Rj (s:={ s with heap:=h2,toks:=tk }) hf.1 Fl fun h' F' k=>hE g' own' H e dx u h' tk F2 rv (.inr ⟨base,F',O.up oo k,oo⟩))
end
mutual
noncomputable def Hs:SR->Bool
 | .fors _ _ _=>false
 | .ifs _ a b=>ZJ a&&ZJ b
 | .whiles _ b=>ZJ b
 | _=>true
noncomputable def ZJ:List SR->Bool
 | []=>true
 | s::r=>Hs s&&ZJ r
end
noncomputable def QR:SR->Bool
 | .fors _ _ _=>false
 | .ifs _ _ _=>false
 | .whiles _ _=>false
 | .raise _=>false
 | _=>true
section
variable {X:Qu}{n:Nat}{Φ:Qj}{env:Env}{names:List Str}{fl:Bool}{o:List Nat}{W:Nat}{outer:List Env}
theorem Bp{a c:List LV}{b d:Q8}{v:AV}{P:Prop}(h:some (Out.next,a,b)=some (.exc v,c,d)):P:=by cases h
theorem zW{ρ ρ':List LV}{D D':Q8}{v:AV}(sr:SR)(hp:QR sr=true)(h:exec Φ fl o W sr ρ D=some (.exc v,ρ',D')):False:=by
 rcases sr with _|e|⟨i,e⟩|⟨is,es⟩|⟨is,e⟩|⟨i,op,e⟩|⟨i,e⟩|⟨i,e⟩|_|_|_|e|_|⟨i,e⟩<;>try exact Bool.false_ne_true hp
 ·exact Qf h
 ·exact Hq h fun Z Z Z h=>Bp h
 ·exact za h fun Z Z Z h=>Bp h
 ·exact z9 h fun Z Z Z h=>Ha h fun Z h=>Bp h
 ·exact kT h fun Z Z Z h=>Ha h fun Z h=>Bp h
 ·exact kA h (fun Z Z h=>kI h fun Z Z Z h=>by rcases op with _|_<;>first|exact Qf h|exact Bp h) fun Z Z h=>kO h fun Z Z Z Z h=>Ha h fun Z h=>Bp h
 ·exact kU h (fun Z Z h=>Hq h fun Z Z Z h=>Ha h fun Z h=>Bp h) fun Z Z h=>kI h fun Z Z Z h=>Ha h fun Z h=>Bp h
 ·exact kW h fun ks vs Z h=>kD h fun xs ys Z Z h=>Ha h fun Z h=>by revert h;rcases JI xs ys (ks,vs) with _|_<;>intro h<;>first|exact Qf h|exact Bp h
 ·exact Hq h fun Z Z Z h=>by cases h
 ·exact kN h fun Z Z Z Z h=>kL h fun l Z Z h=>by revert h;rcases Je l with _|_<;>intro h<;>first|exact Qf h|exact Ha h fun Z h=>Bp h
theorem Vz{m:Sem Flow}(sr:SR)(hp:QR sr=true):Jy X n env names fl outer m (exec Φ fl o W sr):=fun A P0 P own g ρ ρ' D D' v s Q E R hfr ho hfin h F hE=>(zW sr hp h).elim
theorem Kv{cx:Cx}{k:Nat}(h:∀st,Qq X n Φ env cx.slots fl (PySem.exec st env) (exec Φ fl o W (Zz k cx st)))(x:∀st,Hs (Zz k cx st)=true->Jy X n env cx.slots fl outer (PySem.exec st env) (exec Φ fl o W (Zz k cx st))):
  ∀(l:List Stmt),ZJ (l.map (Zz k cx))=true->Jy X n env cx.slots fl outer (PySem.execs l env) (execs Φ fl o W (l.map (Zz k cx)))
 | [],_=>Pd
 | st::l,hf=>by
  rw[List.map_cons] at hf ⊢;dsimp only[ZJ] at hf;rw[Bool.and_eq_true] at hf;exact Pc (h st) (x st hf.1) (Kv h x l hf.2)
noncomputable def XX(X:Qu)(n:Nat)(Φ:Qj)(env:Env)(names:List Str)(fl:Bool)(o:List Nat)(W:Nat)(outer:List Env)(st:Stmt)(sr:SR):Prop:=Hs sr=true->Jy X n env names fl outer (PySem.exec st env) (exec Φ fl o W sr)
theorem ZF{st:Stmt}:XX X n Φ env names fl o W outer st .stuck:=fun Z=>Vz _ rfl
theorem VH{st:Stmt}{sr:SR}(h:QR sr=true):XX X n Φ env names fl o W outer st sr:=fun Z=>Vz _ h
section
variable {cx:Cx}{r:Expr->IR}{rs:Stmt->SR}
theorem Oy{t e:Expr}:QR (OA r cx t e)=true:=
 Qe (P:=(QR ·=true)) (Qe (P:=(QR ·=true)) (Qe (P:=(QR ·=true)) rfl fun Z Z=>Ql (P:=(QR ·=true)) rfl fun Z=>Qe (P:=(QR ·=true)) rfl fun Z Z=>rfl)
  fun Z Z=>Qe (P:=(QR ·=true)) rfl fun Z Z=>Qe (P:=(QR ·=true)) (Ql (P:=(QR ·=true)) rfl fun Z=>rfl) fun Z Z=>Ql (P:=(QR ·=true)) rfl fun Z=>rfl) fun Z Z=>Ql (P:=(QR ·=true)) rfl fun Z=>rfl
theorem Ed{e:Expr}:QR (Lm r cx e)=true:=
 Qe (P:=(QR ·=true)) rfl fun Z Z=>Qe (P:=(QR ·=true)) rfl fun Z Z=>Qe (P:=(QR ·=true)) rfl fun Z Z=>Ql (P:=(QR ·=true)) rfl fun Z=>
  Qe (P:=(QR ·=true)) rfl fun Z Z=>Ql (P:=(QR ·=true)) (Ql (P:=(QR ·=true)) rfl fun Z=>rfl) fun Z=>rfl
theorem Cn{st:Stmt}{t it:Expr}{b:List Stmt}:XX X n Φ env names fl o W outer st (O0 r cx rs t it b):=
 Qe (P:=XX X n Φ env names fl o W outer st) (Qe (P:=XX X n Φ env names fl o W outer st) ZF fun Z Z=>Qe (P:=XX X n Φ env names fl o W outer st) ZF fun Z Z=>Qe (P:=XX X n Φ env names fl o W outer st) ZF fun Z Z=>Qe (P:=XX X n Φ env names fl o W outer st) ZF fun Z Z h=>Bool.noConfusion (h:false=true)) fun Z Z h=>Bool.noConfusion (h:false=true)
theorem Av(ok:ZT env cx)(hE:∀e,Qz X n Φ env cx.slots e (r e)){e:Expr}{p:Pos}:XX X n Φ env cx.slots fl o W outer (.Raise (some e) none p) (M8 r cx e):=by
 refine Qe (P:=XX X n Φ env cx.slots fl o W outer _) ZF fun c hc=>Qe (P:=XX X n Φ env cx.slots fl o W outer _) ZF fun x hx=>Qe (P:=XX X n Φ env cx.slots fl o W outer _) ZF fun a ha=>Ql (P:=XX X n Φ env cx.slots fl o W outer _) ZF fun h Z=>?_;refine cps fun U y0=>?_;obtain⟨f,as,ks,cp⟩:=c;obtain rfl:as=[a]:=U8 ha;obtain⟨h,h3⟩:=QX h;obtain⟨h,h2⟩:=QX h;obtain⟨h0,h1⟩:=QX h;obtain rfl:ks=[]:=nil_of h0;obtain⟨q,e1⟩:=Uh hx;obtain rfl:f=.Name x q:=e1;obtain rfl:=Wj hc;refine y0 ?_;have h1:=eq_of_beq h1;have hx':x="BadFormat":=by
  rw[<- Zh x,h1];rfl
 have hst:∀e∈[a],notStar e=true:=fun e he=>List.mem_singleton.mp he▸h3;exact Nk ok.e (eq_of_beq h2) h1 (by rw[hx'];decide +kernel) h3 (Xj (irs:=[r a]) rfl hst fun p hp=>List.mem_singleton.mp hp▸(hE a).1)
theorem LN(hfm:env.frame=some env.locals/\env.scope.kind≠.module)(ok:ZT env cx)(hE:∀e,Qz X n Φ env cx.slots e (r e))(hS:∀l:List Stmt,Qq X n Φ env cx.slots fl (PySem.execs l env) (execs Φ fl o W (l.map rs)))
  (hX:∀l:List Stmt,ZJ (l.map rs)=true->Jy X n env cx.slots fl outer (PySem.execs l env) (execs Φ fl o W (l.map rs))):∀(v:SV) (st:Stmt),v.of st->XX X n Φ env cx.slots fl o W outer st (NY r cx rs v):=by
 intro v st q;rcases v with e|⟨ts,e⟩|⟨t,op,e⟩|e|⟨t,a,b⟩|⟨t,b,e⟩|⟨t,it,b,e⟩|⟨e,c⟩|_
 ·exact Qe (P:=XX X n Φ env cx.slots fl o W outer _) ZF fun Z Z=>VH rfl
 ·exact Qe (P:=XX X n Φ env cx.slots fl o W outer _) ZF fun t ht=>VH Oy
 ·exact Qe (P:=XX X n Φ env cx.slots fl o W outer _) ZF fun i hi=>Qe (P:=XX X n Φ env cx.slots fl o W outer _) ZF fun o' ho=>VH rfl
 ·exact VH Ed
 ·
  obtain⟨p,rfl⟩:=q;intro hf;have hf:=QX (show(ZJ (a.map rs)&&ZJ (b.map rs))=true from hf);exact BY (hE _).2 (hX _ hf.1) (hX _ hf.2)
 ·
  obtain⟨p,rfl⟩:=q;exact Ql (P:=XX X n Φ env cx.slots fl o W outer _) ZF fun h=>nil_of h▸fun hf=>Nj hfm (hE _).2 (hS _) (hX _ hf)
 ·exact Ql (P:=XX X n Φ env cx.slots fl o W outer _) ZF fun h=>Cn
 ·
  obtain⟨p,rfl⟩:=q;refine Ql (P:=XX X n Φ env cx.slots fl o W outer _) ZF fun h=>Yc (P:=XX X n Φ env cx.slots fl o W outer _) (fun Z=>ZF) fun e' he=>?_;obtain rfl:=Option.isNone_iff_eq_none.mp h;exact he▸Av ok hE
 ·exact ZF
end
theorem LL(hc:JD X n Φ)(hfm:env.frame=some env.locals/\env.scope.kind≠.module):∀(k:Nat) (cx:Cx) (st:Stmt),ZT env cx->cx.slots.Nodup->Hs (Zz k cx st)=true->Jy X n env cx.slots fl outer (PySem.exec st env) (exec Φ fl o W (Zz k cx st)):=by
 intro zz
 induction zz with
 | zero=>
  intro cx st ok nd hf;exact Vz _ rfl
 | succ k ih=>
  intro cx st ok nd hf;exact LN hfm ok (fun e=>Yf hc (k+1) cx e env ok) (Up fun st=>JY hc k cx st env ok nd)
    (Kv (fun st=>JY hc k cx st env ok nd) fun st hf=>ih cx st ok nd hf) (sv st) st (EY st) hf
end
noncomputable def N7(X:Qu)(outer:List Env)(h0:Heap)(D':Q8)(i:Int)(e dx:Addr)(h2:Heap):Prop:=∃base t,X6 base outer e dx .none h2/\
 (∀b o,h0.get? b=some o->b∉X.dk->b∉Kn outer->base.get? b=some o)/\QO X D' base/\(∀b∈X.dk,(base.get? b).isSome)/\h0.get? e=none/\base.Ns dx (KW (.int i t))/\
 ∀b o,h0.get? b=some o->b∉X.dk->b∈Kn outer->∃sl,h2.get? b=some { o with slots:=sl }
theorem QO.on{X:Qu}{D:Q8}{h h':Heap}(x:QO X D h)(hk:∀b∈X.dk,∀o,h.get? b=some o->h'.get? b=some o):QO X D h':=by
 rcases x with x|⟨a,b,c,⟨t1,t2,d⟩,o,vs,n,e,r⟩
 ·exact .inl x
 ·refine .inr ⟨a,b,c,⟨t1,t2,?_⟩,o,vs,n,hk _ (by rw[a];simp) _ e,r⟩;obtain⟨o',es,ep,q1,q2⟩:=d;exact⟨o',es,ep,hk _ (by rw[a];simp) _ q1,q2⟩
theorem Jc{env:Env}{outer:List Env}{L:Addr}(hf:env.frame=some L){b:Addr}:b∈Kn (env::outer) ↔ b=L\/b∈Kn outer:=by
 unfold Kn;rw[List.filterMap_cons,hf];exact List.mem_cons
section
variable {X:Qu}{n:Nat}{Φ:Qj}{env:Env}{names:List Str}{fl:Bool}{o:List Nat}{W:Nat}{outer:List Env}{A:Around}{P0 g ge:PM}{P:PF}{ρ:List LV}{D D':Q8}{own:Nat->Option Addr}{s:Shared}{E:VP}
theorem W0{h0 H h2:Heap}{e dx:Addr}{i:Int}{t:Tok}(hf:env.frame=some env.locals)(F:Z6 X P0 (Qw X h0 ge) fl env names own g ρ D' H)(hn:h0.get? env.locals=none)(hd:∀b∈Kn outer,b∉X.dk)
  (K:OM env outer H e dx (.int i t) h2):N7 X outer h0 D' i e dx h2:=by
 refine cps fun U y0=>?_;obtain⟨base,Fl,O,oo⟩:=K;refine y0 ?_;have back:∀b ob,h0.get? b=some ob->b∉X.dk->H.get? b=some ob:=fun b ob q hb=>F.prot b ob (by show(if b∈X.dk then none else h0.get? b)=_;rw[if_neg hb];exact q);have dk:∀b∈X.dk,b∉Kn (env::outer):=fun b hb hm=>by
  rcases(Jc hf).mp hm with q|q
  ·rw[q] at hb;exact F.ld hb
  ·exact hd b q hb
 refine⟨base,t,Fl,fun b ob q hb hm=>O.keep b ob (back b ob q hb) fun z=>?_,F.deck.on fun b hb ob q=>O.keep b ob q (dk b hb),fun b hb=>?_,?_,O.told,fun b ob q hb hm=>O.slots b ob (back b ob q hb) ((Jc hf).mpr (.inr hm))⟩
 ·rcases(Jc hf).mp z with y|y
  ·rw[y,hn] at q;exact Qf q
  ·exact hm y
 ·obtain⟨ob,q⟩:=Option.isSome_iff_exists.mp (F.dg b hb).2.2;rw[O.keep b ob q (dk b hb)];rfl
 ·rcases q:h0.get? e with _|ob
  ·rfl
  ·
   by_cases hb:e∈X.dk
   ·have:=(F.dg e hb).2.2;rw[O.new] at this;exact Bool.noConfusion this
   ·have:=back e ob q hb;exact Qf (O.new.symm.trans this)
theorem VQ{h0 H h2:Heap}{e dx:Addr}{i:Int}{Q:Unit->Shared->Prop}(hfr:A.frames=some (env::outer))(hf:env.frame=some env.locals)(F:Z6 X P0 (Qw X h0 ge) fl env names own g ρ D H)(hn:h0.get? env.locals=none)(K:N7 X (env::outer) H D' i e dx h2)
  (he:s.heap=h2) (hd:∀b∈Kn outer,b∉X.dk) (ho:ZM h0.get? outer) (hQ:∀h',N7 X outer h0 D' i e dx h'->Q () { s with heap:=h' }):wpAny X.M A («leaving» env (.ref e)) Q E s:=by
 refine cps fun U y0=>?_;subst he;obtain⟨base,t,Fl,k1,k2,k3,k4,k5,k6⟩:=K;refine y0 ?_;have back:∀b ob,h0.get? b=some ob->b∉X.dk->H.get? b=some ob:=fun b ob q hb=>F.prot b ob (by show(if b∈X.dk then none else h0.get? b)=_;rw[if_neg hb];exact q);refine NH hfr hf Fl fun h' Fl' k=>hQ h' ⟨base,t,Fl',fun b ob q hb hm=>k1 b ob (back b ob q hb) hb fun z=>?_,k2,k3,?_,k5,fun b ob q hb hm=>?_⟩
 ·rcases(Jc hf).mp z with y|y
  ·rw[y,hn] at q;exact Qf q
  ·exact hm y
 ·rcases q:h0.get? e with _|ob
  ·rfl
  ·
   by_cases hb:e∈X.dk
   ·have:=(F.dg e hb).2.2;rw[k4] at this;exact Bool.noConfusion this
   ·have:=back e ob q hb;exact Qf (k4.symm.trans this)
 ·refine cps fun U y0=>?_;obtain⟨sl,e1⟩:=k6 b ob (back b ob q hb) hb ((Jc hf).mpr (.inr hm));obtain⟨o',e2,nf⟩:=ho.mem hm;obtain rfl:=so (q.symm.trans e2);obtain⟨sl',e3⟩:=k b _ e1 nf;refine y0 ?_;exact⟨sl',e3⟩
theorem YJ{x:Str}{f:Fn}{es:List Expr}{irs:List IR}{p pos:Pos}{nk:List (Str×NameKind)}{ds:List AV}{D1:Q8}{Q:VP}(ok:QS env nk)(hk:nk.lookup x=some .globalImplicit)(hf:Jd.lookup x.cps.toList=some f)
  (hy:(x == ("__debug__":Str))=false) (hst:∀e∈es,notStar e=true) (h0:J7 X n Φ env names es irs) (R:Ze A n) (h1:runs Φ irs ρ D=some (ds,D1)) (F:Z6 X P0 P fl env names own g ρ D s.heap)
  (hcall:∀g1 H1 t1 vs a,Z6 X P0 P fl env names own g1 ρ D1 H1->Qs X.dk g s.heap g1 H1->Qo X P0 g1 ds vs->X.mg (Zc x.cps.toList)=some (.ref a)->QD X.M A (call (.ref a) vs) Q E { s with heap:=H1,toks:=t1 }):
  QD X.M A (eval (.Call (.Name x p) es [] pos) env) Q E s:=by
 refine cps fun U y0=>?_;obtain⟨df,a,hdf,hat⟩:=F.st.fn _ _ (mem_of_lookup hf);refine y0 ?_;have hk':env.kindOf x=some .globalImplicit:=by unfold Env.kindOf;rw[ok.nm];exact hk
 have hg:=hat.name;rw[Zh] at hg;rw[arm_eval_Call_Name'];refine Q9 (Calls.Name_function_global ok.kd hk' (Calls.loadGlobal_global (by rw[ok.gl];exact F.st.glob.at F.sub) hg ?_) hy);refine Qy hst (h0 A P0 P fl own g ρ D D1 ds pos s _ E R h1 F fun vs g1 H1 t1 G1 dk1 r1=>⟨?_,?_⟩)
 ·refine cps fun U y0=>?_;obtain⟨o,pm,code,doc,e1,e2,_⟩:=hat.obj;refine y0 ?_;exact Xy (G1.sub _ _ (G1.up _ _ e1)) e2
 ·exact hcall g1 H1 t1 vs a (F.grow G1 dk1) G1 r1 hat.name
end
section
variable {X:Qu}{n:Nat}{P0 g:PM}{s:Shared}{D D':Q8}
theorem CO{code:Fn->FC}(hcode:Tj code){W m:Nat}(ih:JD X m (ZA code W m)){f:Fn}{as:List AV}{i:Int}(h:Ys code W (m+1) f as D=some (.exc (.int i),D'))(hf:f≠.k33)(hff:ZJ (code f).body=true)
  {x:List Nat} (hx:(x,f)∈Jd) {A:Around} {outer:List Env} {vs:List Value} {a:Addr} {Q:VP} {E:VP} (R:Ze A (m+2)) (hfr:A.frames=some outer) (ho:ZM s.heap.get? outer) (hd:∀b∈Kn outer,b∉X.dk)
  (hfin:PM.le (QE X.w.params).get? s.heap.get?) (hfd:∀b∈X.dk,(QE X.w.params).get? b=none) (st:St X g) (hs:PM.le g s.heap.get?) (dk:QO X D s.heap) (hdk:∀b∈X.dk,g b=none/\(s.heap.get? b).isSome) (hp0:∀b o,P0 b=some o->(s.heap.get? b).isSome)
  (rel:Qo X P0 g as vs) (hmg:X.mg (Zc x)=some (.ref a)) (hE:∀h2 tk e dx,N7 X outer s.heap D' i e dx h2->E (.ref e) { s with heap:=h2,toks:=tk }):QD X.M A (call (.ref a) vs) Q E s:=by
 rw[U0,if_neg hf] at h;refine cps fun U y0=>?_;obtain⟨df,a',hdf,hat⟩:=st.fn x f hx;have ea:a'=a:=by
  have:=hat.name;replace this:=Eq.trans hmg.symm this;cases this;rfl
 subst ea;have hok:=hcode.ok x f df hx hf hdf;have hfc:=hcode.fc x f hx hf;dsimp only[fc] at hfc;have hdf':Jx x PySem.Challenge.pw_og0273_01.main.body=some df:=hdf;rw[hdf'] at hfc;have hfc:=Option.some.inj hfc;refine Ha h ?_;clear h;intro hlen h;refine y0 ?_;have elen:(code f).params=df.1.args.length:=by rw[<- hfc]
 have eslots:(code f).slots=(QI df).length:=by rw[<- hfc];rfl
 have ebody:(code f).body=df.2.1.map (Zz 20 (Qc df)):=by rw[<- hfc];rfl
 rw[ebody] at hff;rw[ebody,elen,eslots] at h;replace hlen:=Eq.trans hlen elen;generalize hown:(code f).own=own at h;have hpl:plainDef df=true:=by
  have:=hok;unfold UE at this;simp only[Bool.and_eq_true] at this;exact this.1.1.1
 have hvl:=rel.len;have hdp:=R.dp;refine ZD (Yg hat.obj' hpl hs (by clear h;lia) (st.noLimit hs) (by rw[hvl,hlen]) fun env s₁ EE hfm IC=>?_);have okc:=JW EE hok;have nd:(Qc df).slots.Nodup:=by
  have:=hok;unfold UE at this;simp only[Bool.and_eq_true,decide_eq_true_eq] at this;exact this.1.2
 refine cps fun U y0=>?_;obtain⟨h1,t1,rfl⟩:=IC.toInCall.same;obtain⟨P1,hp1,hpf,hrel,hpn⟩:∃P1:PM,(∀b o,P1 b=some o->(s.heap.get? b).isSome)/\(AV.noModis as=true->P1=s.heap.get?)/\Qo X P1 g as vs/\(∀b,P1 b=none->P0 b=none):=by
  cases q:AV.noModis as with
  | false=>exact⟨P0,hp0,(fun z=>by exact Bool.noConfusion z),rel,fun b e=>e⟩
  | true=>
   refine⟨s.heap.get?,fun b o e=>by rw[e];rfl,fun Z=>rfl,Qo.anyP q rel,fun b e=>?_⟩;cases z:P0 b with
   | none=>rfl
   | some o=>have:=hp0 b o z;rw[e] at this;exact Bool.noConfusion this
 refine y0 ?_;have F0:=J4 (P0:=P1) (fl:=AV.noModis as) EE IC hok st hs dk hdk hp1 hpf hrel hlen;have hn:s.heap.get? env.locals=none:=by rw[EE.loc];exact Heap.get?_none_of_le (Nat.le_refl _)
 have hpr:∀b o,b∉X.dk->s.heap.get? b=some o->(Qw X s.heap g).pr b=some o:=fun b o hb e=>by
  exact Eq.trans (if_neg hb) (e)
 have ho':ZM (Qw X s.heap g).pr outer:=fun env' he=>by
  refine cps fun U y0=>?_;obtain⟨z1,L,o,z2,z3,z4⟩:=ho env' he;refine y0 ?_;exact⟨z1,L,o,z2,hpr L o (hd L (List.mem_filterMap.mpr ⟨env',he,z2⟩)) z3,z4⟩
 have hfin':PM.le (QE X.w.params).get? (Qw X s.heap g).pr:=fun b o e=>hpr b o (fun hb=>by rw[hfd b hb] at e;exact Qf e) (hfin b o e);have hfr':(A.deeper env).frames=some (env::outer):=Around.frames_deeper hfr;cases e1:execs (ZA code W m) (AV.noModis as) own W (df.2.1.map (Zz 20 (Qc df))) (as.map .val++List.replicate ((QI df).length - df.1.args.length) .u) D with
 | none=>rw[e1] at h;exact Qf h
 | some r=>
  refine cps fun U y0=>?_;obtain⟨out,ρ',D1⟩:=r;refine y0 ?_;replace h:=e1▸h;cases out with
  | next=>cases h
  | ret d=>cases h
  | exc v=>
   refine cps fun U y0=>?_;cases h;refine y0 ?_;refine Kv (outer:=outer) (fun st=>JY ih 20 (Qc df) st env okc nd) (fun st hfs=>LL ih hfm 20 (Qc df) st okc nd hfs) df.2.1 hff (A.deeper env) P1 (Qw X s.heap g) (fun Z=>none) g _ ρ' D _ _ _ _ _ (R.deeper env) hfr' ho' hfin' e1 F0 fun g' own' H e dx u h2 tk F2 rv hx2=>?_;dsimp only[VR] at rv;obtain⟨t,rfl⟩:=rv;have oo:=F2.outFr hfm ho';refine Or.elim hx2 (fun B=>?_) fun K=>?_
   ·exact Q3 (Tg (s:={ s with heap:=h2,toks:=tk }) hfr' hfm.1 oo B fun h' G=>hE h' tk e dx (W0 hfm.1 F2 hn hd G))
   ·exact Q3 (XD (s:={ s with heap:=h2,toks:=tk }) hfm.1 K fun h' G=>hE h' tk e dx (W0 hfm.1 F2 hn hd G))
end
noncomputable abbrev XQ:List Nat:=[101,120,112,97,110,100,95,102,111,114,109,97,116]
noncomputable abbrev Ik:List Nat:=[102,111,114,109,97,116,95,101,120,112,97,110,100,101,100]
noncomputable def Yq:Arguments×List Stmt×Scope:=(Jx XQ pw.main.body).getD (⟨[],[],none,[],[],none,[]⟩,[],⟨.function,[],false,false,[]⟩)
theorem Lu:Jx XQ pw.main.body=some Yq:=by kernel_rfl
theorem Ls:UE Yq=true:=by kernel_rfl
theorem Ht:(QI Yq).length=2/\Yq.1.args.length=2:=by and_intros<;>kernel_rfl
theorem Lr:∃p es cp pos,Yq.2.1=[.Return (some (.Call (.Name "format_expanded" p) es [] cp)) pos]/\es.map (comp 20 (Qc Yq))=[.loc 0,.loc 1,.lit (.int 0)]/\es.all notStar=true:=⟨_,_,_,_,rfl,by kernel_rfl,by kernel_rfl⟩
theorem Lp:(Qc Yq).names.lookup ("format_expanded":Str)=some NameKind.globalImplicit/\Jd.lookup ("format_expanded":Str).cps.toList=some Fn.k12/\("format_expanded":Str).cps.toList=Ik:=by and_intros<;>kernel_rfl
theorem E7:ZJ (QN .k12).body=true:=by kernel_rfl
section
variable {X:Qu}{P0 g:PM}{s:Shared}{D D':Q8}
theorem qa{m:Nat}(ih:JD X m (CF m)){v0 v1:AV}{i:Int}(h:Ys QN 100000 (m+1) .k12 [v0,v1,.int 0] D=some (.exc (.int i),D'))
  {A:Around} {outer:List Env} {vs:List Value} {a:Addr} {Q:VP} {E:VP} (R:Ze A (m+3)) (hfr:A.frames=some outer) (ho:ZM s.heap.get? outer) (hd:∀b∈Kn outer,b∉X.dk)
  (hfin:PM.le (QE X.w.params).get? s.heap.get?) (hfd:∀b∈X.dk,(QE X.w.params).get? b=none) (st:St X g) (hs:PM.le g s.heap.get?) (dk:QO X D s.heap) (hdk:∀b∈X.dk,g b=none/\(s.heap.get? b).isSome) (hp0:∀b o,P0 b=some o->(s.heap.get? b).isSome)
  (rel:Qo X P0 g [v0,v1] vs) (hmg:X.mg (Zc XQ)=some (.ref a)) (hE:∀h2 tk e dx,N7 X outer s.heap D' i e dx h2->E (.ref e) { s with heap:=h2,toks:=tk }):QD X.M A (call (.ref a) vs) Q E s:=by
 obtain⟨df,a',hdf,hat⟩:=st.fn XQ .k11 (mem_of_lookup (by kernel_rfl));rw[Lu] at hdf;cases hdf;have ea:a'=a:=by
  have:=hat.name;rw[hmg] at this;cases this;rfl
 subst ea;have hok:=Ls;have hpl:plainDef Yq=true:=by
  have:=hok;unfold UE at this;simp only[Bool.and_eq_true] at this;exact this.1.1.1
 have hvl:=rel.len;have hdp:=R.dp;refine ZD (Yg hat.obj' hpl hs (by omega) (st.noLimit hs) (by rw[hvl,Ht.2];rfl) fun env s₁ EE hfm IC=>?_);have okc:=JW EE hok;obtain⟨h1,t1,rfl⟩:=IC.toInCall.same;have F0:=J4 (P0:=P0) (fl:=false) EE IC hok st hs dk hdk hp0 (fun z=>by cases z) rel (by rw[Ht.2];rfl);rw[Ht.1,Ht.2] at F0;have hn:s.heap.get? env.locals=none:=by rw[EE.loc];exact Heap.get?_none_of_le (Nat.le_refl _)
 have hpr:∀b o,b∉X.dk->s.heap.get? b=some o->(Qw X s.heap g).pr b=some o:=fun b o hb e=>by
  show(if b∈X.dk then none else s.heap.get? b)=_;rw[if_neg hb];exact e
 have ho':ZM (Qw X s.heap g).pr outer:=fun env' he=>by
  obtain⟨z1,L,o,z2,z3,z4⟩:=ho env' he;exact⟨z1,L,o,z2,hpr L o (hd L (List.mem_filterMap.mpr ⟨env',he,z2⟩)) z3,z4⟩
 have hfin':PM.le (QE X.w.params).get? (Qw X s.heap g).pr:=fun b o e=>hpr b o (fun hb=>by rw[hfd b hb] at e;cases e) (hfin b o e);have hfr':(A.deeper env).frames=some (env::outer):=Around.frames_deeper hfr;obtain⟨p,es,cp,pos,hb,hes,hst⟩:=Lr;obtain⟨g1,g2,g3⟩:=Lp;have hst':∀e∈es,notStar e=true:=List.all_eq_true.mp hst;have hL:J7 X m (CF m) env (Qc Yq).slots es [.loc 0,.loc 1,.lit (.int 0)]:=by
  rw[<- hes];exact Xj (List.length_map ..).symm hst' fun p hp=>by rw[(Zq hp).2];exact(Yf ih 20 (Qc Yq) _ env okc).1
 rw[hb,execs_cons];refine Q0 ?_;rw[exec_Return_some];refine Q0 (Q4 (Q0 ?_));have R1:Ze (A.deeper env) (m+2):=R.deeper env;have hr:runs (CF m) [.loc 0,.loc 1,.lit (.int 0)] [.val v0,.val v1] D=some ([v0,v1,.int 0],D):=rfl;refine YJ okc.e g1 g2 (by decide +kernel) hst' hL (R1.low (by omega)) hr F0 fun g' H1 t1 vs' b F1 G1 r1 hm=>?_;rw[g3] at hm;have hd':∀c∈Kn (env::outer),c∉X.dk:=fun c hc=>by
  rcases(Jc hfm.1).mp hc with y|y
  ·rw[y];exact F1.ld
  ·exact hd c y
 refine CO G7 (s:={ s with heap:=H1,toks:=t1 }) ih h (by decide) E7 (mem_of_lookup (by kernel_rfl)) R1 hfr' (F1.outFr hfm ho') hd' (hfin'.trans F1.prot) hfd F1.st F1.sub F1.deck (fun b hb=>⟨(F1.dg b hb).1,(F1.dg b hb).2.2⟩) F1.p0 r1 hm fun h2 tk e dx K=>?_;exact Q3 (VQ (s:={ s with heap:=h2,toks:=tk }) hfr' hfm.1 F1 hn K rfl hd ho fun h' K'=>hE h' tk e dx K')
end
noncomputable abbrev zf:SR:=.unpack [3,4] (.call .k42 [.loc 1,.lit (.int 3),.lit (.int 2)])
noncomputable abbrev ze:SR:=.ifs (.or (.cmp .ne (.call .k11 [.loc 3,.loc 2]) (.loc 4)) (.cmp .ne (.loc 2) (.call .k35 []))) [.ret (.lit (.bool false))] []
noncomputable abbrev zd:SR:=.ifs (.or (.cmp .ne (.bi .repr [.call .k3 [.loc 4]]) (.bi .repr [.call .k38 [.loc 4]])) (.and (.cmp .notIn (.lit (.bytes [35])) (.loc 4)) (.cmp .ne (.call .k28 [.loc 4]) (.bi .len [.loc 4])))) [.ret (.lit (.bool false))] []
noncomputable abbrev PU:List AV:=[.bytes [35,123,97],.bytes [35,40,120],.bytes [35,123,63,97,44,120],.bytes [35,123,61,51,58,116,105,116,108,101]]
noncomputable abbrev zc:SR:=.setN [3,5,6] [.idx (.call .k41 [.loc 1,.lit (.int 0)]) (.lit (.int 0)),.call .k34 [.loc 1,.lst [.lit (.bytes [35,123,97]),.lit (.bytes [35,40,120]),.lit (.bytes [35,123,63,97,44,120]),.lit (.bytes [35,123,61,51,58,116,105,116,108,101])]],.lit .none]
noncomputable abbrev zb:SR:=.ret (.and (.cmp .eq (.loc 6) (.bi .len [.loc 3])) (.cmp .eq (.call .k11 [.lit (.bytes [35,123,63,99,44,120,44,121,125,35,123,63,97,44,49,44,50,125]),.loc 2]) (.lit (.bytes [121,49]))))
noncomputable abbrev qS:List LV:=[.u,.val .deck,.val Qb,.u,.u,.u,.u,.u]
noncomputable abbrev Pu(x t:List Nat):List LV:=[.u,.val .deck,.val Qb,.val (.bytes x),.val (.bytes t),.u,.u,.u]
noncomputable abbrev F7(x t e:List Nat)(p:AV):List LV:=[.u,.val .deck,.val Qb,.val (.bytes x),.val (.bytes t),.val (.bytes e),.val p,.u]
noncomputable abbrev N8:Qj:=CF 60
section
variable {D:Q8}{x t e:List Nat}{own:List Nat}
theorem Mx(hT:D.turn=0):∃x t D',exec N8 false [] 100000 zf qS D=some (.next,Pu x t,D')/\Good 7 46 6300 x t/\D'.turn<=202:=by
 refine cps fun U y0=>?_;obtain⟨x,t,D',e,g,ht⟩:=Nz (n:=33) D (by lia);refine y0 ?_;refine⟨x,t,D',?_,g,by lia⟩;dsimp only[exec];rw[Qd (Q1 (Q2 rfl) (Q1 Qa (Q1 Qa Q6))) e];rfl
theorem Mw(g:Good 7 46 6300 x t):exec N8 false [] 100000 ze (Pu x t) D=some (.next,Pu x t,D):=by
 have k:CF (59+1) .k11 [.bytes x,Qb] D=some (.bytes t,D):=Ll g (by omega) (by omega) (by omega) (by omega);have c1:run N8 (.cmp .ne (.call .k11 [.loc 3,.loc 2]) (.loc 4)) (Pu x t) D=some (.bool false,D):=by
  refine QA (Qd (Q1 (Q2 rfl) (Q1 (Q2 rfl) Q6)) k) (Q2 rfl) ?_;rw[PQ];simp
 have c2:run N8 (.cmp .ne (.loc 2) (.call .k35 [])) (Pu x t) D=some (.bool false,D):=
  QA (Q2 rfl) (Qd Q6 (VE 58 D)) (by kernel_rfl)
 rw[Z0 (D1:=D) ?_,execs_nil];unfold truthOf;rw[Po (r:=some (.bool false,D)) c1 rfl (by rw[if_neg Bool.false_ne_true];exact c2)];rfl
theorem Mv(g:Good 7 46 6300 x t):exec N8 false [] 100000 zd (Pu x t) D=some (.next,Pu x t,D):=by
 have k1:CF (59+1) .k3 [.bytes t] D=some (.bool (JB t),D):=Y1;have k2:CF (59+1) .k38 [.bytes t] D=some (.bool (JB t),D):=Jq;have c1:run N8 (.cmp .ne (.bi .repr [.call .k3 [.loc 4]]) (.bi .repr [.call .k38 [.loc 4]])) (Pu x t) D=some (.bool false,D):=by
  obtain⟨z,e1,e2⟩:∃z,B9 .repr [.bool (JB t)]=some z/\Jh .ne z z=some false:=by
   cases JB t
   ·exact⟨_,rfl,by kernel_rfl⟩
   ·exact⟨_,rfl,by kernel_rfl⟩
  exact QA (Jk (Q1 (Qd (Q1 (Q2 rfl) Q6) k1) Q6) e1) (Jk (Q1 (Qd (Q1 (Q2 rfl) Q6) k2) Q6) e1) e2
 have c2:run N8 (.and (.cmp .notIn (.lit (.bytes [35])) (.loc 4)) (.cmp .ne (.call .k28 [.loc 4]) (.bi .len [.loc 4]))) (Pu x t) D=some (.bool false,D):=by
  have e0:run N8 (.cmp .notIn (.lit (.bytes [35])) (.loc 4)) (Pu x t) D=some (.bool (!(isInfix [35] t)),D):=by
   refine QA Qa (Q2 rfl) ?_;show(NP (.bytes [35]) (.bytes t)).map (!·)=_;unfold NP;dsimp only;rw[Rt (l:=t) (by have:=g.ln.2;omega),Rt (l:=[35]) (by decide)];rfl
  cases q:isInfix [35] t with
  | true=>rw[q] at e0;exact JH e0 rfl rfl
  | false=>
   rw[q] at e0;have k3:CF (57+3) .k28 [.bytes t] D=some (.int (t.length:Nat),D):=E9 (by have:=g.ln.2;omega) (I0 q) g.oc.2;refine JH e0 rfl ?_;refine QA (Qd (Q1 (Q2 rfl) Q6) k3) (Jk (z:=.int (t.length:Nat)) (Q1 (Q2 rfl) Q6) (JA (Rt (by have:=g.ln.2;omega)))) ?_;have:Jh .ne (.int (t.length:Nat)) (.int (t.length:Nat))=some (!(((t.length:Nat):Int) == ((t.length:Nat):Int))):=rfl;rw[this];simp
 rw[Z0 (D1:=D) ?_,execs_nil];unfold truthOf;rw[Po (r:=some (.bool false,D)) c1 rfl (by rw[if_neg Bool.false_ne_true];exact c2)];rfl
theorem As{Φ:Qj}{fl:Bool}{W:Nat}{ρ:List LV}{D1 D2 D3:Q8}{i j k:Nat}{a b c:IR}{u v w:AV}(ha:YX Φ (own.contains i) a ρ D=some (.val u,D1))(hb:YX Φ (own.contains j) b ρ D1=some (.val v,D2))(hc:YX Φ (own.contains k) c ρ D2=some (.val w,D3))(hij:apart [i,j,k]=true):
  exec Φ fl own W (.setN [i,j,k] [a,b,c]) ρ D=some (.next,((ρ.set i (.val u)).set j (.val v)).set k (.val w),D3):=by
 dsimp only[exec];have:UJ Φ own [i,j,k] [a,b,c] ρ D=some ([.val u,.val v,.val w],D3):=by
  dsimp only[UJ];rw[ha];dsimp only;rw[hb];dsimp only;rw[hc]
 rw[this];dsimp only;exact(if_pos hij)
theorem Mu{x0 t0:List Nat}(hT:D.turn<=202):∃x e D',exec N8 false [] 100000 zc (Pu x0 t0) D=some (.next,F7 x t0 e .none,D')/\(∃t,Good 3 30 60 x t)/\KJ e:=by
 refine cps fun U y0=>?_;obtain⟨x,t,D1,e1,g,ht⟩:=PD (n:=39) (D:=D) (by lia);obtain⟨v,D2,hv,e2,_⟩:=Kx (n:=58) (D:=D1) (vs:=PU) (by lia) (by exact List.cons_ne_nil _ _) (Nat.le_of_ble_eq_true rfl);have he:∃e,v=.bytes e/\KJ e:=by
  simp only[List.mem_cons,List.not_mem_nil,or_false] at hv;rcases hv with rfl|rfl|rfl|rfl
  ·exact⟨_,rfl,.inl rfl⟩
  ·exact⟨_,rfl,.inr (.inl rfl)⟩
  ·exact⟨_,rfl,.inr (.inr (.inl rfl))⟩
  ·exact⟨_,rfl,.inr (.inr (.inr rfl))⟩
 obtain⟨e,rfl,he⟩:=he;refine y0 ?_;refine⟨x,e,D2,?_,⟨t,g⟩,he⟩;refine As (D1:=D1) (D2:=D2) (u:=.bytes x) (v:=.bytes e) (w:=.none) (QV rfl ?_) (QV rfl ?_) (QV rfl Qa) rfl
 ·exact Zt (Qd (Q1 (Q2 rfl) (Q1 Qa Q6)) e1) Qa rfl
 ·exact Qd (Q1 (Q2 rfl) (Q1 (U4 (vs:=PU) (Q1 Qa (Q1 Qa (Q1 Qa (Q1 Qa Q6)))) (Nat.le_of_ble_eq_true rfl)) Q6)) e2
theorem SI{p:AV}{t1:List Nat}(g:Good 3 30 60 x t1)(he:KJ e):run N8 (.bin .add (.loc 3) (.loc 5)) (F7 x t e p) D=some (.bytes (x++e),D):=
 Hn (Q2 rfl) (Q2 rfl) (by
  have:=g.ln.1;have:e.length<=10:=by rcases he with rfl|rfl|rfl|rfl<;>decide
  rw[List.length_append];lia)
theorem Mt{t1:List Nat}(g:Good 3 30 60 x t1)(he:KJ e):Ys QN 100000 (50+1) .k12 [.bytes (x++e),Qb,.int 0] D=some (.exc (.int (x.length:Nat)),D):=
 Cw (n:=49) g (Nat.le_add_left _ _) (Nat.le_add_left _ _) (Nat.le_add_left _ _) he
theorem Ms(hx:x.length<=30000):exec N8 false [] 100000 zb (F7 x t e (.int (x.length:Nat))) D=some (.ret (.bool true),F7 x t e (.int (x.length:Nat)),D):=by
 refine QJ ?_;refine JH (x:=.bool true) (c:=true) (D1:=D) ?_ rfl ?_
 ·refine QA (Q2 rfl) (Jk (z:=.int (x.length:Nat)) (Q1 (Q2 rfl) Q6) (JA (Rt hx))) ?_;have:Jh .eq (.int (x.length:Nat)) (.int (x.length:Nat))=some ((((x.length:Nat):Int) == ((x.length:Nat):Int))):=rfl;rw[this];simp
 ·refine Eq.trans (if_pos rfl) ?_;exact QA (Qd (Q1 Qa (Q1 (Q2 rfl) Q6)) (O6 40 D)) Qa rfl
end
noncomputable abbrev QZ:Arguments×List Stmt×Scope:=LH [108,97,119]
theorem SH:UE QZ=true:=by kernel_rfl
theorem JU:(Qc QZ).slots=[("script":Str),"deck","facts","octets","due","end","place","e"]:=by kernel_rfl
theorem K4:(QI QZ).length=8/\QZ.1.args.length=1:=by and_intros<;>kernel_rfl
inductive D6:Prop
 | mk (s2 s3 s4 s5 s7:Stmt) (p1 p2 p3 p4 p5 p6 p7 p8 p9 p10 q1 q2 q3 q4 q5 q6 q7 q8 q9 q10:Pos) (es:List Expr) (h0:QZ.2.1=[.Assign [.Tuple [.Name "deck" p1,.Name "facts" p2] 0 p3] (.Tuple [.Call (.Name "_law_deck" p4) [.Name "script" p5] [] p6,.Call (.Name "_law_facts" p7) [] [] p8] 0 p9) p10,s2,s3,s4,s5,
   .Try [.Expr (.Call (.Name "expand_format" q1) es [] q2) q3] [.ExceptHandler (some (.Name "BadFormat" q4)) (some "e") [.Assign [.Name "place" q5] (.Attribute (.Name "e" q6) "told" q7) q8] q9] [] [] q10,s7]) (h1:Zz 20 (Qc QZ) s2=zf) (h2:Zz 20 (Qc QZ) s3=ze) (h3:Zz 20 (Qc QZ) s4=zd) (h4:Zz 20 (Qc QZ) s5=zc) (h5:Zz 20 (Qc QZ) s7=zb) (h6:es.map (comp 20 (Qc QZ))=[.bin .add (.loc 3) (.loc 5),.loc 2]) (h7:es.all notStar=true)
theorem NK:D6:=
 ⟨_,_,_,_,_,_,_,_,_,_,_,_,_,_,_,_,_,_,_,_,_,_,_,_,_,_,rfl,by kernel_rfl,by kernel_rfl,by kernel_rfl,by kernel_rfl,by kernel_rfl,by kernel_rfl,by kernel_rfl⟩
mutual
noncomputable def AV.noDeck:AV->Bool
 | .deck=>false
 | .list l=>AV.noDecks l
 | .tuple l=>AV.noDecks l
 | .dict _ l=>AV.noDecks l
 | _=>true
noncomputable def AV.noDecks:List AV->Bool
 | []=>true
 | d::r=>d.noDeck&&AV.noDecks r
end
noncomputable abbrev Yo(X:Qu)(a c:Addr):Qu:={ X with dk:=[a,c],da:=a,ca:=c }
mutual
theorem VR.re{X:Qu}{a c:Addr}{P0 g:PM}:∀{d:AV} {v:Value},d.noDeck=true->VR X P0 g d v->VR (Yo X a c) P0 g d v
 | .none,_,_,h=>by dsimp only[VR] at *;exact h
 | .bool _,_,_,h=>by dsimp only[VR] at *;exact h
 | .int _,_,_,h=>by dsimp only[VR] at *;exact h
 | .str _,_,_,h=>by dsimp only[VR] at *;exact h
 | .bytes _,_,_,h=>by dsimp only[VR] at *;exact h
 | .list ds,v,hn,h=>by
  dsimp only[VR] at *;dsimp only[AV.noDeck] at hn;obtain⟨a,o,vs,n,h1,h2,h3,h4,h5,h6,h7⟩:=h;exact⟨a,o,vs,n,h1,h2,h3,h4,h5,h6,Qo.re hn h7⟩
 | .tuple ds,v,hn,h=>by
  dsimp only[VR] at *;dsimp only[AV.noDeck] at hn;obtain⟨a,o,vs,n,h1,h2,h3,h4,h7⟩:=h;exact⟨a,o,vs,n,h1,h2,h3,h4,Qo.re hn h7⟩
 | .modi _ _,_,_,h=>by dsimp only[VR] at *;exact h
 | .dict ks vs,v,hn,h=>by
  dsimp only[VR] at *;dsimp only[AV.noDeck] at hn;obtain⟨a,o,vals,h1,h2,h3,h4,h5⟩:=h;exact⟨a,o,vals,h1,h2,h3,Qo.re hn h4,h5⟩
 | .rng _,_,_,h=>by dsimp only[VR] at *;exact h
 | .barr _,_,_,h=>by dsimp only[VR] at *;exact h
 | .deck,_,hn,_=>by dsimp only[AV.noDeck] at hn;cases hn
theorem Qo.re{X:Qu}{a c:Addr}{P0 g:PM}:∀{ds:List AV} {vs:List Value},AV.noDecks ds=true->Qo X P0 g ds vs->Qo (Yo X a c) P0 g ds vs
 | [],_,_,h=>by dsimp only[Qo] at *;exact h
 | d::ds,vs,hn,h=>by
  dsimp only[Qo] at *;dsimp only[AV.noDecks] at hn;rw[Bool.and_eq_true] at hn;obtain⟨v,r,h1,h2,h3⟩:=h;exact⟨v,r,h1,VR.re hn.1 h2,Qo.re hn.2 h3⟩
end
theorem WA:(Kp.all fun p=>p.2.noDeck)=true:=by decide +kernel
theorem St.re{X:Qu}{a c:Addr}{g:PM}(y:St X g):St (Yo X a c) g where
 kok:=⟨y.kok.makes,y.kok.init,y.kok.fn,y.kok.plain,y.kok.has,y.kok.nameA,y.kok.toldA,y.kok.setA,y.kok.over,y.kok.nameT,y.kok.toldT⟩
 glob:=y.glob
 blt:=y.blt
 lim:=y.lim
 fn:=fun x f hx=>let⟨d,a,h1,h2⟩:=y.fn x f hx;⟨d,a,h1,⟨h2.name,h2.obj⟩⟩
 val:=fun x v hx=>let⟨u,h1,h2⟩:=y.val x v hx;⟨u,h1,fun P=>(h2 P).re (List.all_eq_true.mp WA (x,v) hx)⟩
 bi:=y.bi
 modi:=y.modi
 exc:=y.exc
 K:=y.K
 ini:=y.ini
section
variable {X:Qu}{P0 g g1:PM}{env:Env}{names:List Str}{ρ:List LV}{D D':Q8}{h0 H h':Heap}{ad c:Addr}
theorem Gx{n i:Nat}{lv:LV}(h:(List.replicate n LV.u)[i]?=some lv):lv=.u:=List.eq_of_mem_replicate (List.mem_of_getElem? h)
theorem Z6.re(hX:X.dk=[])(F:Z6 X P0 (Qw X h0 g) false env names (fun Z=>none) g1 ρ D H)(keep:∀b o,H.get? b=some o->h'.get? b=some o)(na:H.get? ad=none)(nc:H.get? c=none){od oc:Obj}(dd:ZO { X with da:=ad,ca:=c } D' h' od oc):
  Z6 (Yo X ad c) P0 (Qw (Yo X ad c) h0 g) false env names (fun Z=>none) g1 (List.replicate names.length .u) D' h':=by
 have dd':ZO (Yo X ad c) D' h' od oc:=⟨dd.ne,dd.sys,dd.hd,dd.hc,dd.isd,dd.isl,dd.few⟩
 have pr0:(Qw X h0 g).pr=h0.get?:=funext fun b=>by show(if b∈X.dk then none else h0.get? b)=_;rw[hX,if_neg (by exact List.not_mem_nil)]
 have live:∀b o,H.get? b=some o->b≠ad/\b≠c:=fun b o e=>⟨(fun q=>by rw[q,na] at e;exact Qf e),(fun q=>by rw[q,nc] at e;exact Qf e)⟩
 have gno:∀b,H.get? b=none->g1 b=none:=fun b e=>by
  rcases q:g1 b with _|o
  ·rfl
  ·have:=F.sub b o q;rw[e] at this;exact Qf this
 have hno:∀b,H.get? b=none->h0.get? b=none:=fun b e=>by
  rcases q:h0.get? b with _|o
  ·rfl
  ·have:=F.prot b o (by rw[pr0];exact q);rw[e] at this;exact Qf this
 have prle:∀b o,(Qw (Yo X ad c) h0 g).pr b=some o->h0.get? b=some o:=fun b o e=>by
  have e:(if b∈[ad,c] then none else h0.get? b)=some o:=e
  split at e
  ·exact Qf e
  ·exact e
 have prn:∀b,h0.get? b=none->(Qw (Yo X ad c) h0 g).pr b=none:=fun b e=>by
  rcases q:(Qw (Yo X ad c) h0 g).pr b with _|o
  ·rfl
  ·have:=prle b o q;rw[e] at this;exact Qf this
 obtain⟨ol,hol⟩:=Option.isSome_iff_exists.mp F.ll;exact
  {sub:=fun b o e=>keep b o (F.sub b o e)
   st:=F.st.re
   prot:=fun b o e=>keep b o (F.prot b o (by rw[pr0];exact prle b o e))
   deck:=dd'.to rfl
   flag:=fun q=>by exact Bool.noConfusion q
   slot:=fun i x lv Z h2=>by rw[Gx h2];trivial
   len:=List.length_replicate
   ns:=let⟨m,hm⟩:=F.ns;⟨m,hm.keeps keep⟩
   lg:=F.lg
   lp:=prn _ (by rw[<- pr0];exact F.lp)
   ld:=by
    have:=live _ _ hol;simp[this.1,this.2]
   og:=fun i a e=>by exact Qf e
   oi:=fun i j a e=>by exact Qf e
   cg:=fun x b e=>by
    refine cps fun U y0=>?_;obtain⟨z1,z2,z3,z4,z5,v,o,z6,z7⟩:=F.cg x b e;refine y0 ?_;have:=live _ _ z6;exact⟨by simp[this.1,this.2],z2,(fun i q=>by exact Qf q),z4,prn _ (by rw[<- pr0];exact z5),v,o,keep _ _ z6,z7⟩
   ci:=F.ci
   dg:=fun b hb=>by
    have hb:b∈[ad,c]:=hb;simp only[List.mem_cons,List.not_mem_nil,or_false] at hb;rcases hb with rfl|rfl
    ·exact⟨gno _ na,prn _ (hno _ na),by rw[show h'.get? b=some od from dd.hd];rfl⟩
    ·exact⟨gno _ nc,prn _ (hno _ nc),by rw[show h'.get? b=some oc from dd.hc];rfl⟩
   p0:=fun b o e=>by
    obtain⟨o',ho⟩:=Option.isSome_iff_exists.mp (F.p0 b o e);rw[keep _ _ ho];rfl
   base:=fun q=>by exact Bool.noConfusion q
   gn:=fun b o e=>by
    rcases F.gn b o e with q|q
    ·exact .inl q
    ·exact .inr (prn _ (by rw[<- pr0];exact q))
   gu:=F.gu }
end
theorem HV:ZY (Qc QZ) (.Name "deck" default)=some 1/\ZY (Qc QZ) (.Name "facts" default)=some 2/\ZY (Qc QZ) (.Name "place" default)=some 6/\ZY (Qc QZ) (.Name "e" default)=some 7:=by and_intros<;>kernel_rfl
theorem HW:(Qc QZ).names.lookup ("_law_deck":Str)=some NameKind.globalImplicit/\Jd.lookup ("_law_deck":Str).cps.toList=some .k43/\("_law_deck":Str).cps.toList=Wf/\
  (Qc QZ).names.lookup ("expand_format":Str)=some NameKind.globalImplicit/\Jd.lookup ("expand_format":Str).cps.toList=some Fn.k11/\("expand_format":Str).cps.toList=XQ/\
  (Qc QZ).names.lookup ("BadFormat":Str)=some NameKind.globalImplicit/\(Qc QZ).names.lookup ("e":Str)=some NameKind.local/\(Qc QZ).names.lookup ("place":Str)=some NameKind.local/\(("e":Str) == ("__debug__":Str))=false:=by and_intros<;>kernel_rfl
theorem TJ(p5 p7 p8:Pos):([.Name "script" p5]:List Expr).map (comp 20 (Qc QZ))=[.loc 0]/\comp 20 (Qc QZ) (.Call (.Name "_law_facts" p7) [] [] p8)=.call .k35 []:=by and_intros<;>kernel_rfl
section
variable {X:Qu}{P0 g:PM}{env:Env}{A:Around}{s:Shared}{E:VP}{h0:Heap}{D0:Q8}
theorem C5(hX:X.dk=[])(okc:ZT env (Qc QZ)){is:List Int}(hl:is.length<=65536)(R:Ze A 64)(F:Z6 X P0 (Qw X h0 g) false env (Qc QZ).slots (fun Z=>none) g (.val (.list (is.map .int))::List.replicate 7 .u) D0 s.heap)
  {p1 p2 p3 p4 p5 p6 p7 p8 p9 p10:Pos} {Q:Flow->Shared->Prop}
  (hQ:∀ad c cs m h' tk g' own',Z6 (Yo X ad c) P0 (Qw (Yo X ad c) h0 g) false env (Qc QZ).slots own' g' qS ⟨cs,m,0⟩ h'->h0.get? ad=none->h0.get? c=none->Q .next { s with heap:=h',toks:=tk }):
  QD X.M A (PySem.exec (.Assign [.Tuple [.Name "deck" p1,.Name "facts" p2] 0 p3] (.Tuple [.Call (.Name "_law_deck" p4) [.Name "script" p5] [] p6,.Call (.Name "_law_facts" p7) [] [] p8] 0 p9) p10) env) Q E s:=by
 refine cps fun U y0=>?_;have n1:=HV.1;have n2:=HV.2.1;have _:=HV.2.2;obtain⟨b1,b2,b3,_⟩:=HW;have c1:=(TJ p5 p7 p8).1;have c2:=(TJ p5 p7 p8).2;refine y0 ?_;have nd:(Qc QZ).slots.Nodup:=by rw[JU];decide
 have sa1:Z4 env (Qc QZ).slots 1 "deck":=by
  obtain⟨x,p,e1,sa,_⟩:=Z9 okc nd n1;cases e1;exact sa
 have sa2:Z4 env (Qc QZ).slots 2 "facts":=by
  obtain⟨x,p,e1,sa,_⟩:=Z9 okc nd n2;cases e1;exact sa
 rw[PyProof.Rows.exec_Assign];refine Q0 (Q4 (Q9 (wpAny_of_eq (a:=false) rfl ?_)));refine Qk (if_neg Bool.false_ne_true) ?_;rw[arm_eval_Tuple];refine Q0 (Q0 (Q4 (Q0 ?_)));rw[Zf rfl];show QD _ _ (spliced ((false,eval _ env)::backTo p9 (starEach _ env))) _ _ _;rw[spliced];have hL:J7 X 64 EO env (Qc QZ).slots [.Name "script" p5] [.loc 0]:=by
  refine Eq.mpr (congrArg _ c1.symm) ?_;exact Xj rfl (fun Z he=>List.mem_singleton.mp he▸rfl) fun p hp=>by rw[(Zq hp).2];exact(Yf Tb 20 (Qc QZ) _ env okc).1
 refine Q0 (YJ okc.e b1 b2 (by decide +kernel) (fun Z he=>List.mem_singleton.mp he▸rfl) hL R (ds:=[.list (is.map .int)]) (D1:=D0) rfl F fun g1 H1 t1 vs a F1 G1 r1 hm=>?_);rw[b3] at hm;obtain⟨scr,r,rfl,r2,r3⟩:=r1;dsimp only[Qo] at r3;subst r3;refine R8 (s:={ s with heap:=H1,toks:=t1 }) hX (R.low (Nat.le_add_left _ _)) F1.st F1.sub r2 hl hm fun ad c cs m h' tk od oc kp na nc dd=>?_;dsimp only[Bool.false_eq_true,if_false];have F2:=F1.re hX kp na nc dd;have hb:∀b o,h0.get? b=some o->H1.get? b=some o:=fun b o e=>F1.prot b o (by show(if b∈X.dk then none else h0.get? b)=_;rw[hX,if_neg (by exact List.not_mem_nil)];exact e);have fr:∀b,H1.get? b=none->h0.get? b=none:=fun b e=>by
  rcases q:h0.get? b with _|o
  ·rfl
  ·rw[hb b o q] at e;exact Qf e.symm
 refine Q0 (Q7 (Q0 (Q5 ?_)));rw[Zf rfl];show QD _ _ (spliced ((false,eval _ env)::backTo p9 (starEach [] env))) _ _ _;rw[spliced];have ic:=(Yf (Kd (X:=Yo X ad c) rfl 60) 20 (Qc QZ) (.Call (.Name "_law_facts" p7) [] [] p8) env okc).1;rw[c2] at ic;have hr:run N8 (.call .k35 []) (List.replicate (Qc QZ).slots.length .u) ⟨cs,m,0⟩=some (Qb,⟨cs,m,0⟩):=Qd Q6 (VE 58 _);refine Q0 (ic A P0 _ false _ _ _ _ _ _ { s with heap:=h',toks:=tk } _ E (R.low (Nat.le_add_left _ _)) hr F2 fun vf g2 H2 t2 G2 dk2 r2=>?_);dsimp only[Bool.false_eq_true,if_false];refine Q0 (Q7 (Q0 (Q5 (Q7 (Q7 (Q7 ?_))))));refine Q3 (wpAny_newTuple ?_ (by show(2:Nat)<=sizeLine;rw[sizeLine_eq];lia));have keep:∀b ob,H2.get? b=some ob->(H2.push { cls:=.type "tuple",data:=.seq [Value.ref ad,vf].toArray }).get? b=some ob:=fun b ob e=>Heap.get?_push_of_some _ e;have G3:=Qs.same (dk:=(Yo X ad c).dk) G2.sub keep;have F3:=(F2.grow G2 dk2).grow G3 (dk2.keeps keep);have ht:IsTup (H2.push { cls:=.type "tuple",data:=.seq [Value.ref ad,vf].toArray }) H2.objs.size [Value.ref ad,vf].toArray:=⟨_,Heap.get?_push_size _ rfl,rfl,_,rfl⟩
 let l:List Ent:=[⟨1,"deck",.ref ad,.val .deck,none⟩,⟨2,"facts",vf,.val Qb,none⟩]
 have he:∀e∈l,Z4 env (Qc QZ).slots e.i e.x/\LVal (Yo X ad c) P0 g2 (H2.push { cls:=.type "tuple",data:=.seq [Value.ref ad,vf].toArray }) e.oa e.v e.lv/\∀a,e.oa=some a->Zw (Yo X ad c) (Qw (Yo X ad c) h0 g) env (fun Z=>none) g2 (H2.push { cls:=.type "tuple",data:=.seq [Value.ref ad,vf].toArray }) a:=fun e hm=>by
  rcases List.mem_cons.mp hm with rfl|hm
  ·exact⟨sa1,show VR (Yo X ad c) P0 g2 .deck (.ref ad) from rfl,fun a q=>by exact Qf q⟩
  ·rcases List.mem_cons.mp hm with rfl|hm
   ·exact⟨sa2,r2,fun a q=>by exact Qf q⟩
   ·refine False.elim ?_;cases hm
 have e8:(Qc QZ).slots.length=8:=by rw[JU];rfl
 have fin:∀h' tk own',Z6 (Yo X ad c) P0 (Qw (Yo X ad c) h0 g) false env (Qc QZ).slots own' g2 (YC l (List.replicate (Qc QZ).slots.length .u)) ⟨cs,m,0⟩ h'->Q .next { s with heap:=h',toks:=tk }:=fun h' tk own' F4=>by
  rw[e8] at F4;exact hQ ad c cs m h' tk g2 own' F4 (fr _ na) (fr _ nc)
 rcases Ym (tps:=[(("deck":Str),p1),("facts",p2)]) (es:=[.Call (.Name "_law_deck" p4) [.Name "script" p5] [] p6,.Call (.Name "_law_facts" p7) [] [] p8]) (k:=0) (k2:=0) (tp:=p3) (p2:=p9) okc.e (fun q=>by exact Bool.noConfusion q) with q|q
 ·refine Q9 (wpAny_of_eq q ?_);have key:=JE (s:={ s with heap:=H2.push { cls:=.type "tuple",data:=.seq [Value.ref ad,vf].toArray },toks:=t2 }) (A:=A) (E:=E) (tp:=p3) (k:=0) (tps:=[(("deck":Str),p1),("facts",p2)]) (Q:=fun Z s'=>QD (Yo X ad c).M A (pure Flow.next) Q E s') okc.e R.hd F3 ht rfl rfl he List.nodup_nil (by show([1,2]:List Nat).Nodup;decide) fun h' tk own' F4=>Q7 (fin h' tk own' F4);have goal:=Q9 (f:=fun Z=>(pure Flow.next:Sem Flow)) key;exact goal
 ·refine Q9 (wpAny_of_eq q ?_);have key:=Yk (s:={ s with heap:=H2.push { cls:=.type "tuple",data:=.seq [Value.ref ad,vf].toArray },toks:=t2 }) (A:=A) (E:=E) (Q:=Q) okc.e R.hd F3 ht rfl rfl he List.nodup_nil (by show([1,2]:List Nat).Nodup;decide) fin ((assignEach [.Tuple ([(("deck":Str),p1),("facts",p2)].map fun p=>.Name p.1 p.2) 0 p3] env).map (·.2));exact Q3 key
end
end
section
open PySem PySem.W PySem.Calls PyProof.Rows SeqAt Builtin Builtin.ObjectAttr
theorem qj(P:Params):findIn (KB P) (.ref excC) "__getattribute__"=some (some (.builtin "BaseException.__getattribute__")):=by kernel_rfl
theorem EK(P:Params):findIn (KB P) (.ref excC) "__getattr__"=some none:=by kernel_rfl
section
variable {w:World}{A:Around}{E:VP}{h:Heap}{g:Array GenState}{d:Drawn}{t:Nat}{os:OsState}{e dx:Addr}{oe:Obj}{vs:Array Value}{i:Int}{tk:Tok}
theorem Nc{t1:Tok}{Q:Fin->Shared->Prop}(XK:(KB w.params).In h)(he:h.get? e=some oe)(hc:oe.cls=.ref excC)(hdx:oe.dict=some dx)(hd:oe.data=.fields vs)(hn:h.Ns dx (KW (.int i tk)))
  (hq:Q (.done (.ret (.int i tk))) ⟨h,g,d,t,os⟩):wpAny (model pw w) A (Builtin.«object.__getattribute__» ⟨[.ref e,.str "told" t1],[]⟩) Q E ⟨h,g,d,t,os⟩:=by
 refine cps fun U y0=>?_;obtain⟨nm,q,bs,sn,sub,ab,col,dd,k0,k1,k2,k3,k5,hC⟩:=(Uz XK (JK _)).is;refine y0 ?_;have hv:KW (.int i tk) "told"=some (.int i tk):=if_pos rfl;have lk:=looks_findIn (M:=model pw w) XK (Gb w.params)
 repeat (any_goals (first|assumption|(with_reducible refine wpAny_loadPart_at he ?_;rw[hc])|with_reducible refine lk.here ?_|wp_step))
 rw[hd];unfold instanceDict
 repeat (any_goals (first|assumption|(with_reducible refine wpAny_loadPart_at he ?_;rw[hc])|with_reducible refine wpAny_loadPart_at hC ?_|wp_step))
 rw[hdx]
 repeat (first|(with_reducible refine wpAny_nsGet hn ?_;rw[hv])|wp_step)
 exact hq
theorem N9{M:Model}{nameV:Value}{Q:Unit->Shared->Prop}(hC:Bh h)(hx:h.get? e=some oe)(hc:oe.cls=.ref excC)(hq:Q () ⟨h,g,d,t,os⟩):wpAny M A (checkBuiltinCall "BaseException.__getattribute__" ⟨[.ref e,nameV],[]⟩) Q E ⟨h,g,d,t,os⟩:=by
 refine cps fun U y0=>?_;obtain⟨nm,q,bs,sn,sub,ab,col,dd,k0,k1,k2,k3,k5,hC⟩:=hC.is;refine y0 ?_;have hk:builtinKind "BaseException.__getattribute__"=some .slot:=by decide +kernel
 have hsplit:splitId "BaseException.__getattribute__"=some ("BaseException","__getattribute__"):=by decide +kernel
 have hcB:(Value.ref excC::Jf).contains (.type "BaseException")=true:=by decide +kernel
 have ha:=PySem.F.args_bexc_ga (.ref e) nameV;simp only[checkBuiltinCall,hk,hsplit];refine wpAny_bind ?_
 ·unfold isInstance
  repeat (first|(with_reducible refine wpAny_loadPart_at hx ?_;rw[hc])|(with_reducible refine wpAny_isSubtype_exc hC ?_;rw[hcB])|wp_step)
  exact hq
theorem RH{expr:Bool}{Q:VP}(XK:(KB w.params).In h)(he:h.get? e=some oe)(hc:oe.cls=.ref excC)(hdx:oe.dict=some dx)(hd:oe.data=.fields vs)(hn:h.Ns dx (KW (.int i tk)))
  (hq:Q (.int i tk) ⟨h,g,d,t+1,os⟩):wpAny (model pw w) A (getAttr (.ref e) "told" expr) Q E ⟨h,g,d,t,os⟩:=by
 refine cps fun U y0=>?_;obtain⟨nm,q,bs,sn,sub,ab,col,dd,k0,k1,k2,k3,k5,hC⟩:=(Uz XK (JK _)).is;refine y0 ?_;have FB:=PySem.F.attrBase_Exception;have f3:=FB.ga.bind (.ref e);have hx0:(expr&&onTheHeap (Value.builtin "BaseException.__getattribute__"))=false:=by cases expr<;>rfl
 have hx2:(Value.builtin "BaseException.__getattribute__" == Value.builtin "object.__getattribute__")=false:=by decide +kernel
 have hx1:(onTheHeap (Value.ref excC)&&Value.builtin "BaseException.__getattribute__" == Value.builtin "object.__getattribute__")=false:=by rw[hx2];rfl
 have l1:=looks_findIn (M:=model pw w) XK (qj w.params);have l2:=looks_findIn (M:=model pw w) XK (EK w.params);have hcB:(Value.ref excC::Jf).contains (.type "BaseException")=true:=by decide +kernel
 unfold getAttr
 repeat (any_goals (first|assumption|(with_reducible refine wpAny_loadPart_at he ?_;rw[hc])|with_reducible refine l1.here ?_|with_reducible refine l2.here ?_|wp_step))
 refine codeAny_call_builtin FB.ga.plain PySem.F.entry_bexc_ga (N9 (Uz XK (JK _)) he hc (Nc XK he hc hdx hd hn ?_));exact wpAny_pure hq
end
end
section
open PySem PySem.W PySem.Calls PyProof.Rows SeqAt
theorem Ml{h:Heap}{a:Addr}{m m':Str->Option Value}(x:h.Ns a m)(y:h.Ns a m'):m=m':=by
 obtain⟨o,es,ep,e,hd,_,f⟩:=x;obtain⟨o',es',ep',e',hd',_,f'⟩:=y;rw[e] at e';cases e';rw[hd] at hd';cases hd'
 funext y
 rw[<- f y,<-f' y]
section
variable {X:Qu}{P0 g:PM}{P:PF}{env:Env}{names:List Str}{own:Nat->Option Addr}{ρ ρ':List LV}{D D':Q8}{H h':Heap}
theorem Z6.after(F:Z6 X P0 P false env names own g ρ D H)(hk:∀b o,H.get? b=some o->b∉X.dk->b≠env.locals->h'.get? b=some o)(hd:QO X D' h')(hdl:∀b∈X.dk,(h'.get? b).isSome){m':Str->Option Value}(hm':h'.Ns env.locals m')(hl:ρ'.length=names.length)
  (hs:∀(i:Nat) (x:Str) (lv:LV),names[i]?=some x->ρ'[i]?=some lv->LR X P0 g env h' none x lv):Z6 X P0 P false env names (fun Z=>none) g ρ' D' h':=by
 have gd:∀b o,g b=some o->b∉X.dk/\b≠env.locals:=fun b o e=>⟨(fun q=>by rw[(F.dg b q).1] at e;cases e),(fun q=>by rw[q,F.lg] at e;cases e)⟩
 have live:∀b,(H.get? b).isSome->(h'.get? b).isSome:=fun b hb=>by
  obtain⟨o,ho⟩:=Option.isSome_iff_exists.mp hb;by_cases q:b∈X.dk
  ·exact hdl b q
  ·by_cases z:b=env.locals
   ·obtain⟨ol,_,_,e,_⟩:=hm';rw[z,e];rfl
   ·rw[hk b o ho q z];rfl
 exact
  {sub:=fun b o e=>hk b o (F.sub b o e) (gd b o e).1 (gd b o e).2
   st:=F.st
   prot:=fun b o e=>hk b o (F.prot b o e) (fun q=>by rw[(F.dg b q).2.1] at e;cases e) (fun q=>by rw[q,F.lp] at e;cases e)
   deck:=hd
   flag:=fun q=>by cases q
   slot:=hs
   len:=hl
   ns:=⟨_,hm'⟩
   lg:=F.lg
   lp:=F.lp
   ld:=F.ld
   og:=fun i a e=>by cases e
   oi:=fun i j a e=>by cases e
   cg:=fun x c e=>by
    obtain⟨z1,z2,z3,z4,z5,v,o,z6,z7⟩:=F.cg x c e;exact⟨z1,z2,(fun i q=>by cases q),z4,z5,v,o,hk c _ z6 z1 z2,z7⟩
   ci:=F.ci
   dg:=fun b hb=>⟨(F.dg b hb).1,(F.dg b hb).2.1,hdl b hb⟩
   p0:=fun b o e=>live _ (F.p0 b o e)
   base:=fun q=>by cases q
   gn:=F.gn
   gu:=F.gu }
end
section
variable {X:Qu}{A:Around}{env:Env}{E:VP}{s:Shared}
theorem GQ(hfm:env.frame=some env.locals/\env.scope.kind≠.module)(okc:ZT env (Qc QZ))(hfr:A.frames=some [env]){e dx:Addr}{i:Int}{t:Tok}{base:Heap}{mg:Str->Option Value}{m:Str->Option Value}
  (Fl:X6 base [env] e dx .none s.heap) (told:base.Ns dx (KW (.int i t))) (hfin:PM.le (QE X.w.params).get? base.get?) (hg:base.Ns mainGlobals mg) (hexc:mg "BadFormat"=some (.ref excC)) (hm:s.heap.Ns env.locals m)
  {q4 q5 q6 q7 q8 q9:Pos} {Q:Flow->Shared->Prop}
  (hQ:∀h' tk m',base.StaysIn h'->h'.Ns env.locals m'->(∀x:Str,x≠("e":Str)->x≠("place":Str)->m' x=m x)->m' "place"=some (.int i t)->Q .next { s with heap:=h',toks:=tk }):
  wpAny X.M A (do
   noteFrame (.ref e) env
   setFlight (.ref e) none
   handleBy (.ref e) env [.ExceptHandler (some (.Name "BadFormat" q4)) (some "e") [.Assign [.Name "place" q5] (.Attribute (.Name "e" q6) "told" q7) q8] q9]) Q E s:=by
 refine cps fun U y0=>?_;obtain⟨_,_,_,_,_,_,b7,b8,b9,b10⟩:=HW;refine y0 ?_;have kG:env.kindOf "BadFormat"=some .globalImplicit:=by unfold Env.kindOf;rw[okc.e.nm];exact b7
 have kE:env.kindOf "e"=some .local:=by unfold Env.kindOf;rw[okc.e.nm];exact b8
 have kP:env.kindOf "place"=some .local:=by unfold Env.kindOf;rw[okc.e.nm];exact b9
 have kd:env.scope.kind=.function:=okc.e.kd;have hp:(env.scope.kind == .class||(env.scope.kind == .module&&env.locals != env.globals))=false:=by rw[kd];rfl
 have XK:∀{h:Heap},base.StaysIn h->(KB X.w.params).In h:=fun st a o q=>st _ _ (hfin _ _ (Vm _ _ _ q));have hLb:base.get? env.locals=none:=by
  refine cps fun U y0=>?_;obtain⟨_,⟨L',_,hf,hn',_⟩,_⟩:=Fl.fr;refine y0 ?_;obtain rfl:=so (hfm.1.symm.trans hf);exact hn'
 refine wpAny_bind (V7 hfr hfm.1 Fl fun h1 F1 k1=>wpAny_bind (land F1 fun h2 F2 k2=>?_));have hm2:=k2.ns (k1.ns hm);refine wpAny_handleBy_cons (codeAny_handlers_test (Calls.Name_function_global kd kG (Calls.loadGlobal_global (by rw[okc.e.gl];exact hg.keeps F2.stays) hexc ?_) (by decide +kernel))) (by intro q;cases q);refine cps fun U y0=>?_;obtain⟨nm,q,bs,sn,sub,ab,col,dd,c0,c1,c2,c3,c5,hC⟩:=(Uz (XK F2.stays) (JK _)).is;obtain⟨oe,vs,T,oT,ts,he,hc,hdx,hd,_⟩:=F2.exc;refine y0 ?_;refine wpAny_excMatches_sub_self hC he hc (by decide +kernel) (codeAny_handlers_suite_as ?_);refine land F2 fun h3 F3 k3=>?_;have hm3:=k3.ns hm2;refine wpAny_storeName_local kE hm3 (fun h4 hm4 sb4=>?_) hp;have st4:base.StaysIn h4:=fun b o q=>(sb4.2 b (fun z=>by rw[z,hLb] at q;exact Qf q)).trans (F3.stays b o q);refine cps fun U y0=>?_;obtain⟨oe,vs,T,oT,ts,he3,hc3,hdx3,hd3,_⟩:=F3.exc;refine y0 ?_;have ne:e≠env.locals:=fun z=>by
  obtain⟨o',es,ep,e1,e2,_⟩:=hm3;replace he3:=z▸he3;obtain rfl:=so (e1.symm.trans he3);rw[e2] at hd3;cases hd3
 have he4:h4.get? e=some oe:=(sb4.2 e ne).trans he3;have hv4:(fun x=>if x=("e":Str) then some (.ref e) else m x) "e"=some (Value.ref e):=if_pos rfl;refine wpAny_execs_cons (wpAny_Assign_Name ?_ (by exact YS (e:=.Attribute (.Name "e" q6) "told" q7) rfl));rw[arm_eval_Attribute,Hv rfl];refine wpAny_bind (wpAny_Name (wpAny_loadName_local kd kE hm4 hv4 (wpAny_bind (wpAny_standAt (wpAny_bind (wpAny_holding ?_))))) b10);have told4:h4.Ns dx (KW (.int i t)):=told.keeps st4;refine RH (h:=h4) (XK st4) he4 hc3 hdx3 hd3 told4 ?_;refine wpAny_bind (wpAny_pure (wpAny_pure ?_));refine wpAny_storeName_local (s:=⟨h4,_,_,_,_⟩) kP hm4 (fun h5 hm5 sb5=>?_) hp;refine wpAny_execs_nil ?_;have st5:base.StaysIn h5:=fun b o q=>(sb5.2 b (fun z=>by rw[z,hLb] at q;exact Qf q)).trans (st4 b o q);refine wpAny_bind ?_;dsimp only[bindName];refine wpAny_bind (wpAny_holding (wpAny_point (wpAny_bind ?_)));refine wpAny_storeName_local (s:=⟨h5,_,_,_,_⟩) kE hm5 (fun h6 hm6 sb6=>wpAny_point ?_) hp;have st6:base.StaysIn h6:=fun b o q=>(sb6.2 b (fun z=>by rw[z,hLb] at q;exact Qf q)).trans (st5 b o q);dsimp only[unbindBehindTheSuite];refine wpAny_onRaise ?_;refine wpAny_unbindName_local (s:=⟨h6,_,_,_,_⟩) kE hm6 (if_pos rfl) hp fun h7 u hm7 sb7=>?_;have st7:base.StaysIn h7:=fun b o q=>(sb7.2 b (fun z=>by rw[z,hLb] at q;exact Qf q)).trans (st6 b o q);refine hQ h7 _ _ st7 hm7 (fun x h1 h2=>?_) ?_
 ·rw[if_neg h1,if_neg h1,if_neg h2,if_neg h1]
 ·rw[if_neg (by decide +kernel),if_neg (by decide +kernel),if_pos rfl]
end
theorem NJ:((Qc QZ).slots.all fun x=>(Qc QZ).names.lookup x == some NameKind.local)=true:=by kernel_rfl
section
variable {X:Qu}{A:Around}{P0 g g0:PM}{env:Env}{E:VP}{s:Shared}{h0:Heap}{own:Nat->Option Addr}{D:Q8}{x t e t1:List Nat}
theorem FV(hX:X.dk=[X.da,X.ca])(hfm:env.frame=some env.locals/\env.scope.kind≠.module)(okc:ZT env (Qc QZ))(R:Ze A 63)(hfr:A.frames=some [env])(F:Z6 X P0 (Qw X h0 g0) false env (Qc QZ).slots own g (F7 x t e .none) D s.heap)
  (hfin:PM.le (QE X.w.params).get? (Qw X h0 g0).pr) (hfd:∀b∈X.dk,(QE X.w.params).get? b=none) (gd:Good 3 30 60 x t1) (he:KJ e) {es:List Expr} (hes:es.map (comp 20 (Qc QZ))=[.bin .add (.loc 3) (.loc 5),.loc 2]) (hst:es.all notStar=true)
  {q1 q2 q3 q4 q5 q6 q7 q8 q9 q10:Pos} {Q:Flow->Shared->Prop}
  (hQ:∀g' h' tk,Z6 X P0 (Qw X h0 g0) false env (Qc QZ).slots (fun Z=>none) g' (F7 x t e (.int (x.length:Nat))) D h'->Q .next { s with heap:=h',toks:=tk }):
  QD X.M A (PySem.exec (.Try [.Expr (.Call (.Name "expand_format" q1) es [] q2) q3] [.ExceptHandler (some (.Name "BadFormat" q4)) (some "e") [.Assign [.Name "place" q5] (.Attribute (.Name "e" q6) "told" q7) q8] q9] [] [] q10) env) Q E s:=by
 refine cps fun U y0=>?_;obtain⟨_,_,_,b4,b5,b6,_⟩:=HW;refine y0 ?_;have hst':∀e∈es,notStar e=true:=List.all_eq_true.mp hst;have hL:J7 X 60 N8 env (Qc QZ).slots es [.bin .add (.loc 3) (.loc 5),.loc 2]:=by
  refine Eq.mpr (congrArg _ hes.symm) ?_;exact Xj (List.length_map ..).symm hst' fun p hp=>by rw[(Zq hp).2];exact(Yf (Kd hX 60) 20 (Qc QZ) _ env okc).1
 have hr:runs N8 [.bin .add (.loc 3) (.loc 5),.loc 2] (F7 x t e .none) D=some ([.bytes (x++e),Qb],D):=Q1 (SI gd he) (Q1 (Q2 rfl) Q6);rw[arm_exec_Try];refine Q0 (Q4 ?_);dsimp only[tryStmt];refine Qk (if_pos rfl) ?_;refine Q0 (KV ?_);rw[execs_cons];refine Q0 (YR okc.e rfl ?_);refine YJ okc.e b4 b5 (by decide +kernel) hst' hL (R.low (Nat.le_add_left _ _)) hr F fun g1 H1 t1' vs a F1 G1 r1 hm=>?_;rw[b6] at hm;have hd:∀b∈Kn [env],b∉X.dk:=fun b hb=>by
  rcases(Jc hfm.1).mp hb with q|q
  ·rw[q];exact F1.ld
  ·refine False.elim ?_;cases q
 have oo:ZM H1.get? [env]:=F1.outFr (outer:=[]) hfm fun e' he'=>by exact(nomatch he')
 refine qa (s:={ s with heap:=H1,toks:=t1' }) (Kd hX 50) (Mt gd he) (R.low (Nat.le_add_left _ _)) hfr oo hd (hfin.trans F1.prot) hfd F1.st F1.sub F1.deck (fun b hb=>⟨(F1.dg b hb).1,(F1.dg b hb).2.2⟩) F1.p0 r1 hm fun h2 tk ea dx K=>?_;refine cps fun U y0=>?_;obtain⟨base,tt,Fl,k1,k2,k3,k4,k5,k6⟩:=K;have inF:∀b,b∈Kn [env]->b=env.locals:=fun b hb=>by
  rcases(Jc hfm.1).mp hb with q|q
  ·exact q
  ·refine False.elim ?_;cases q
 have kb:∀b o,H1.get? b=some o->b∉X.dk->b≠env.locals->base.get? b=some o:=fun b o q hb hn=>k1 b o q hb fun z=>hn (inF b z);have gb:PM.le g1 base.get?:=fun b o q=>kb b o (F1.sub b o q) (fun z=>by rw[(F1.dg b z).1] at q;exact Qf q) (fun z=>by rw[z,F1.lg] at q;exact Qf q);have fb:PM.le (QE X.w.params).get? base.get?:=fun b o q=>kb b o (F1.prot _ _ (hfin b o q)) (fun z=>by rw[hfd b z] at q;exact Qf q) (fun z=>by
  have:=hfin b o q;rw[z,F1.lp] at this;exact Qf this)
 obtain⟨m,hm1⟩:=F1.ns;refine y0 ?_;have hm2:h2.Ns env.locals m:=by
  refine cps fun U y0=>?_;obtain⟨ol,es',ep,e1,e2,e3⟩:=hm1;obtain⟨sl,e4⟩:=k6 env.locals ol e1 F1.ld ((Jc hfm.1).mpr (.inl rfl));refine y0 ?_;exact⟨_,es',ep,e4,e2,e3⟩
 refine Q3 ?_;have key:=GQ (X:=X) (A:=A) (E:=E) (s:={ s with heap:=h2,toks:=tk }) hfm okc hfr Fl k5 fb (F1.st.glob.at gb) F1.st.exc hm2 (q4:=q4) (q5:=q5) (q6:=q6) (q7:=q7) (q8:=q8) (q9:=q9) (Q:=Q) fun h' tk' m' st hm' same hp=>?_
 ·exact key
 ·refine hQ g1 h' tk' (F1.after (fun b o q hb hn=>st b o (kb b o q hb hn)) (k2.keeps st) (fun b hb=>?_) hm' (by rw[JU];rfl) fun i y lv h1 hlv=>?_)
  ·obtain⟨o,ho⟩:=Option.isSome_iff_exists.mp (k3 b hb);rw[st b o ho];rfl
  ·have hk:env.kindOf y=some .local:=by
    unfold Env.kindOf;rw[okc.e.nm];exact eq_of_beq (List.all_eq_true.mp NJ y (List.mem_of_getElem? h1))
   have old:∀lv',(F7 x t e .none)[i]?=some (.val lv')->y≠"e"->y≠"place"->LR X P0 g1 env h' none y (.val lv'):=fun d q n1 n2=>by
    obtain⟨v,hv,rv⟩:=F1.slot i y (.val d) h1 q;refine⟨v,?_,rv⟩;rcases hv with⟨_,m2,z1,z2⟩|⟨z,_⟩
    ·have:=Ml z1 hm1;subst this;exact .inl ⟨hk,m',hm',(same y n1 n2).trans z2⟩
    ·rw[hk] at z;rcases z with z|z<;>exact absurd z (by decide)
   replace h1:=JU▸h1
   match i,h1,hlv with
   | 0,_,hlv=>obtain rfl:=so hlv;trivial
   | 1,h1,hlv=>obtain rfl:=so hlv;obtain rfl:=so h1;exact old _ rfl (by decide +kernel) (by decide +kernel)
   | 2,h1,hlv=>obtain rfl:=so hlv;obtain rfl:=so h1;exact old _ rfl (by decide +kernel) (by decide +kernel)
   | 3,h1,hlv=>obtain rfl:=so hlv;obtain rfl:=so h1;exact old _ rfl (by decide +kernel) (by decide +kernel)
   | 4,h1,hlv=>obtain rfl:=so hlv;obtain rfl:=so h1;exact old _ rfl (by decide +kernel) (by decide +kernel)
   | 5,h1,hlv=>obtain rfl:=so hlv;obtain rfl:=so h1;exact old _ rfl (by decide +kernel) (by decide +kernel)
   | 6,h1,hlv=>obtain rfl:=so hlv;obtain rfl:=so h1;exact⟨_,.inl ⟨hk,m',hm',hp⟩,by dsimp only[VR];exact⟨_,rfl⟩⟩
   | 7,_,hlv=>obtain rfl:=so hlv;trivial
   | i+8,h1,_=>simp at h1
end
theorem Pr(env:Env):Ze (callerA.deeper env) 64:=⟨rfl,by show 1+claimMargin+1+2 * 64+20 < recursionLimit;decide +kernel,by show 4+3+16 * 64+100 < cLine;decide +kernel⟩
theorem SE{X:Qu}{s:Shared}{a:Addr}{is:List Int}(hX:X.dk=[])(st:St X s.heap.get?)(hfin:PM.le (QE X.w.params).get? s.heap.get?)(fo:Yt s.heap.get? 424 QZ)(rel:VR X (fun Z=>none) s.heap.get? (.list (is.map .int)) (.ref a))(hl:is.length<=63):
  QD X.M callerA (call (.ref 424) [.ref a]) (fun v s'=>v=.bool true/\(∀b o,s.heap.get? b=some o->s'.heap.get? b=some o)/\s'.os=s.os/\s'.gens=s.gens) (fun Z Z=>False) s:=by
 have hok:=SH;have hpl:plainDef QZ=true:=by
  have:=hok;unfold UE at this;simp only[Bool.and_eq_true] at this;exact this.1.1.1
 have hs:PM.le s.heap.get? s.heap.get?:=PM.le.refl _;refine ZD (Yg fo hpl hs (by decide +kernel) (st.noLimit hs) (by rw[K4.2];rfl) fun env s₁ EE hfm IC=>?_);have okc:=JW EE hok;refine cps fun U y0=>?_;obtain⟨H0,t0,rfl⟩:=IC.toInCall.same;have R:=Pr env;have hfr:(callerA.deeper env).frames=some [env]:=Around.frames_deeper rfl;have nd:(Qc QZ).slots.Nodup:=by rw[JU];decide
 have F0:=J4 (P0:=fun Z=>none) (fl:=false) (D:=⟨[],0,0⟩) EE IC hok st hs (.inl hX) (fun b hb=>by rw[hX] at hb;exact(nomatch hb)) (fun b o e=>by exact Qf e) (fun q=>by exact Bool.noConfusion q) (as:=[.list (is.map .int)]) (by dsimp only[Qo];exact⟨_,_,rfl,rel,by dsimp only[Qo]<;>rfl⟩) (by rw[K4.2];rfl);rw[K4.1,K4.2] at F0;obtain⟨s2,s3,s4,s5,s7,p1,p2,p3,p4,p5,p6,p7,p8,p9,p10,q1,q2,q3,q4,q5,q6,q7,q8,q9,q10,es,hb,c2,c3,c4,c5,c7,hes,hst⟩:=NK;refine y0 ?_;rw[hb,execs_cons];refine Q0 (C5 (s:={ s with heap:=H0,toks:=t0 }) hX okc (Nat.le_trans (by assumption) (Nat.le_of_ble_eq_true rfl)) R F0 fun ad c cs m h1 k1 g1 own1 F1 na nc=>?_);have hX':(Yo X ad c).dk=[(Yo X ad c).da,(Yo X ad c).ca]:=rfl;have impl:∀st',Qq (Yo X ad c) 60 N8 env (Qc QZ).slots false (PySem.exec st' env) (exec N8 false [] 100000 (Zz 20 (Qc QZ) st')):=fun st'=>JY (Kd hX' 60) 20 (Qc QZ) st' env okc nd;have R60:Ze (callerA.deeper env) 60:=R.low (Nat.le_add_left _ _);have fd:∀b∈(Yo X ad c).dk,s.heap.get? b=none:=fun b hb=>by
  have hb:b∈[ad,c]:=hb;simp only[List.mem_cons,List.not_mem_nil,or_false] at hb;rcases hb with rfl|rfl
  ·exact na
  ·exact nc
 have pr:∀b o,s.heap.get? b=some o->(Qw (Yo X ad c) s.heap s.heap.get?).pr b=some o:=fun b o e=>by
  show(if b∈(Yo X ad c).dk then none else s.heap.get? b)=_;rw[if_neg (fun z=>by rw[fd b z] at e;exact Qf e)];exact e
 have hfd:∀b∈(Yo X ad c).dk,(QE X.w.params).get? b=none:=fun b hb=>by
  rcases q:(QE X.w.params).get? b with _|o
  ·rfl
  ·have:=hfin b o q;rw[fd b hb] at this;exact Qf this
 refine cps fun U y0=>?_;obtain⟨x1,t1,D1,e2,gd1,hT1⟩:=Mx (D:=⟨cs,m,0⟩) rfl;refine y0 ?_;have i2:=impl s2;have i3:=impl s3;have i4:=impl s4;have i5:=impl s5;have i7:=impl s7;rw[c2] at i2;rw[c3] at i3;rw[c4] at i4;replace i5:=c5▸i5;replace i7:=c7▸i7;rw[execs_cons];refine Q0 (i2 _ _ _ _ _ _ _ _ _ .next { s with heap:=h1,toks:=k1 } _ _ R60 e2 (fun v q=>by cases q) F1 fun f h2 k2 hr=>?_);obtain⟨rfl,g2,own2,F2⟩:=hr;rw[execs_cons];refine Q0 (i3 _ _ _ _ _ _ _ _ _ .next { s with heap:=h2,toks:=k2 } _ _ R60 (Mw gd1) (fun v q=>by cases q) F2 fun f h3 k3 hr=>?_);obtain⟨rfl,g3,own3,F3⟩:=hr;show QD (Yo X ad c).M _ (PySem.execs (s4::_) env) _ _ _;rw[execs_cons];refine Q0 (i4 _ _ _ _ _ _ _ _ _ .next { s with heap:=h3,toks:=k3 } _ _ R60 (Mv gd1) (fun v q=>by cases q) F3 fun f h4 k4 hr=>?_);obtain⟨rfl,g4,own4,F4⟩:=hr;show QD (Yo X ad c).M _ (PySem.execs (s5::_) env) _ _ _;rw[execs_cons];refine cps fun U y0=>?_;obtain⟨x,e,D2,e5,⟨t2,gd2⟩,he⟩:=Mu (D:=D1) (x0:=x1) (t0:=t1) hT1;refine y0 ?_;refine Q0 (i5 _ _ _ _ _ _ _ _ _ .next { s with heap:=h4,toks:=k4 } _ _ R60 e5 (fun v q=>by cases q) F4 fun f h5 k5 hr=>?_);obtain⟨rfl,g5,own5,F5⟩:=hr;show QD (Yo X ad c).M _ (PySem.execs (_::_) env) _ _ _;rw[execs_cons];refine Q0 (FV (s:={ s with heap:=h5,toks:=k5 }) hX' hfm okc (R.low (Nat.le_succ _)) hfr F5 (fun b o q=>pr b o (hfin b o q)) hfd gd2 he hes hst fun g6 h6 k6 F6=>?_);show QD (Yo X ad c).M _ (PySem.execs (s7::_) env) _ _ _;rw[execs_cons];refine Q0 (i7 _ _ _ _ _ _ _ _ _ (.ret (.bool true)) { s with heap:=h6,toks:=k6 } _ _ R60 (Ms (Nat.le_trans gd2.ln.1 (by decide))) (fun v q=>by cases q) F6 fun f h7 k7 hr=>?_);obtain⟨v,g7,rfl,rv,Dn⟩:=hr;dsimp only[VR] at rv;subst rv;exact Q7 ⟨rfl,fun b o q=>Dn.prot b o (pr b o q),rfl,rfl⟩
theorem CT(w:World):(Xf w).dk=[]:=by unfold Xf;dsimp only
theorem qo(w:World):(Xf w).w=w:=by unfold Xf;dsimp only
theorem Mr(w:World):Yt (QE w.params).get? 424 QZ:=by
 obtain⟨h1,h2,h3,h4,h5,h6,h7⟩:=VU w.params;rw[<- Wv w] at h1;generalize Xf w=X at h1;exact(XH (d:=QZ) h1 h2 h3 h4 h5 h6).obj'
theorem Mq:FK:=fun w s a is hle rel hl=>by
 have k:=Ai hle;have k2:=CT w;have k3:=qo w;generalize Xf w=X at k k2 k3 rel;subst k3;exact SE k2 k hle ((Mr X.w).up hle) rel hl
theorem the_law:Zs.Holds:=BG Mq
end
end
end Mine
theorem PySem.Challenge.cw_og0273_01_holds : PySem.Challenge.rw_og0273_01.Holds :=
 Mine.the_law
