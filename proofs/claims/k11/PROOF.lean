import PyProof.Rows.All
import Wide.All
import OpenK.AllK
import Wide.FinOn
import KE.KExcSuper
import HandS.Base
import HandS.Call
import HandS.List
import HandS.Exc
import HandS.ExcInit
import HandS.ExcSuper
import HandS.ExcField
import KE.KExcIs
import HandS.MakeKwOnly
import PyProof.ReprRoads
import HandS.Ends
import HandS.HeadEnd
import HandS.IsInst
import KE.KExcMake
import HandS.ForMost
import HandS.WideBits
import HandS.Defaults
import HandS.Style
import HandS.TupAny
import HandS.RaiseMore
import HandS.Zip
import HandS.Walk
import HandS.Text
import PyProof.NeKinds
import HandS.Conv
import PyProof.ListStr
import HandS.TryMany
import HandS.OwnEq
import HandS.ExcOwn
import HandS.MakeKw
import HandS.HeadHook1
import HandS.WrittenGet
import HandS.Star
import HandS.WordsExc
import PyProof.CallFns
import PyProof.ReprBulk
import PyProof.StrOps2
import HandS.HeadHook4
import HandS.Head0
import HandS.Head1
import HandS.Head2
import KE.KStateDown
import HandS.HeadHook2
import HandS.HeadHook3
import PySem.Challenge.RW_flowtongue_k11_desks_led_back_and_equal
set_option Elab.async false
set_option linter.all false
set_option maxRecDepth 100000
set_option maxHeartbeats 2000000
/-! The machine's own steps for an own exception over Exception whose __init__ says super().__init__(..) and stores fields: made by position or by name. -/
namespace K1
open PySem PySem.W PySem.Calls PyProof.Rows PySem.HandSPX
open Builtin Builtin.ObjectAttr
abbrev tailE : List Value := [.type "Exception", .type "BaseException", .type "object"]
def upE : List Value → Bool
  | .ref _ :: r => upE r
  | l => l == tailE
theorem upE_or (l : List Value) (e : upE l = true) : (∃ c r, l = .ref c :: r ∧ upE r = true) ∨ l = tailE := by
  cases l with
  | nil => exact absurd e (by decide)
  | cons a r => cases a <;> first | exact .inl ⟨_, _, rfl, e⟩ | exact .inr (eq_of_beq e)
theorem upE_all {P : List Value → Prop} (ht : P tailE) (hs : ∀ c r, upE r = true → P r → P (.ref c :: r)) : ∀ l : List Value, upE l = true → P l := by
  intro l
  induction l with
  | nil => intro z; exact absurd z (by decide)
  | cons a r ih =>
    intro z
    rcases upE_or _ z with ⟨c, r', q, h⟩ | q
    · obtain ⟨rfl, rfl⟩ := List.cons.inj q
      exact hs _ _ h (ih h)
    · rw [q]; exact ht
theorem upE_pass (self : Value) (l : List Value) (e : upE l = true) : refuseLoop self "__setattr__" l = pure () :=
  upE_all (P := fun l => refuseLoop self "__setattr__" l = pure ()) (F.store_Exception.passes self) (fun c r _ ih => by rw [refuseLoop_ref]; exact ih) l e
theorem upE_has (X : String) (l : List Value) (e : upE l = true) : l.contains (.type X) = tailE.contains (.type X) :=
  upE_all (P := fun l => l.contains (.type X) = tailE.contains (.type X)) rfl (fun c r _ ih => by rw [List.contains_cons, ih]; rfl) l e
theorem upE_full {l : List Value} (e : upE l = true) : l.isEmpty = false := by
  cases l with
  | nil => exact absurd e (by decide)
  | cons _ _ => rfl
section
variable {prog : Program} {w : World} {A : Around} {R : Result → Shared → Prop} {hp : Heap} {g : Array GenState} {d : Drawn} {t : Nat} {os : OsState}
/-- self.f = v comes down to the own dict -/
theorem osaG {K : Frag} {f : Str} {tk : Tok} {v : Value} {x C : Addr} {ox : Obj} {od : Option Obj} {cd : ClassData} (X : K.In hp) (I : W.InstAt hp x ox C od) (hcd : clsIn K C = some cd) (hm : upE cd.mro = true) (ha : findIn K (.ref C) f = some none)
    (hq : wpAny (model prog w) A.in1 (storeInOwnDict (.ref x) (.ref C) (.str f tk) f v false)
      (fun fin s' => match fin with | .done z => R (.ok z) s' | .again c' => c'.quiet = true ∧ codeAny (model prog w) A c' R s') (fun e s' => R (.error e) s') ⟨hp, g, d, t, os⟩) :
    codeAny (model prog w) A (.call (.builtin "object.__setattr__") ⟨[.ref x, .str f tk, v], []⟩) R ⟨hp, g, d, t, os⟩ := by
  have Z := F.store_object
  have nE := upE_full hm
  have hob : cd.mro.contains (.type "object") = true := (upE_has "object" _ hm).trans (by decide +kernel)
  have isO : Looks (model prog w) hp (isInstance (.ref x) (.type "object")) true := I.type.andThen (looks_mroIn X (by unfold mroIn; rw [hcd, Option.bind_some, if_neg (by rw [nE]; decide), hob]))
  refine codeAny_call_builtin Z.slot.plain Z.entry (@check_slot (model prog w) _ _ ⟨hp, g, d, t, os⟩ "object.__setattr__" "object" "__setattr__" (.ref x) [.str f tk, v] [] _ Z.kind Z.split isO (Z.args (.ref x) (.str f tk) v) ?_)
  have hmr : Looks (model prog w) hp (mroOf (.ref C)) cd.mro := (looks_clsIn X hcd).andThen .now
  have nt : Looks (model prog w) hp (storeTaker? none) none := .now
  rw [osa_eq, refuse_eq]
  refine wpAny_bind (wpAny_bind (I.type.at (wpAny_bind (hmr.at ?_))))
  rw [upE_pass _ _ hm]
  exact wpAny_pure (wpAny_bind (I.type.at (wpAny_bind ((looks_findIn X ha).at (wpAny_bind (nt.at hq))))))
theorem osa1 {K : Frag} {f : Str} {tk : Tok} {v : Value} {x C : Addr} {fv : Array Value} {cd : ClassData} (X : K.In hp) (hx : hp.get? x = some { cls := .ref C, data := .fields fv }) (hcd : clsIn K C = some cd) (hm : upE cd.mro = true) (hh : cd.hasDict = true) (ha : findIn K (.ref C) f = some none)
    (hq : ∀ h' tk' dx, (∀ b o, b ≠ x → hp.get? b = some o → h'.get? b = some o) → hp.objs.size ≤ dx → dx ≠ x → h'.get? x = some { cls := .ref C, dict := some dx, data := .fields fv } →
      h'.Ns1 dx (fun y => if y = f then some v else none) → R (.ok (.ret .none)) ⟨h', g, d, tk', os⟩) :
    codeAny (model prog w) A (.call (.builtin "object.__setattr__") ⟨[.ref x, .str f tk, v], []⟩) R ⟨hp, g, d, t, os⟩ := by
  have I : W.InstAt hp x { cls := .ref C, data := .fields fv } C none := ⟨hx, rfl, rfl, trivial⟩
  have xs : x ≠ hp.objs.size := Nat.ne_of_lt (Heap.lt_size hx)
  refine osaG X I hcd hm ha ?_
  have hl : Looks (model prog w) hp (classData C) cd := looks_clsIn X hcd
  obtain ⟨nm, bs, mro, ns, qn, hd, sn, sb, ab, col, del⟩ := cd
  dsimp only at hh
  subst hh
  unfold storeInOwnDict ownDictForStores
  repeat (first | with_reducible refine store_in_new ?_ ?_ | with_reducible refine wpAny_loadPart_at hx ?_ | with_reducible refine hl.at ?_ | wp_step)
  · exact ⟨_, #[], _, (Heap.get?_update_ne _ _ _ _ xs.symm).trans (Heap.get?_push_at rfl rfl), rfl, fun e he => absurd he (by simp), fun _ => rfl⟩
  · intro h' tk' hn' same
    have hx1 : (hp.push { cls := .type "dict", data := .dict #[] }).get? x = some { cls := .ref C, data := .fields fv } := Heap.get?_push_of_some _ hx
    refine hq h' tk' hp.objs.size (fun b o hb ho => ?_) (Nat.le_refl _) xs.symm ?_ hn'
    · exact (same.2 b (Nat.ne_of_lt (Heap.lt_size ho))).trans ((Heap.get?_update_ne _ _ _ _ hb).trans (Heap.get?_push_of_some _ ho))
    · exact (same.2 x xs).trans (Heap.get?_update_self _ hx1 rfl)
theorem osa2 {K : Frag} {f : Str} {tk : Tok} {v : Value} {x C dx : Addr} {fv : Array Value} {cd : ClassData} {m0 : Str → Option Value} {nl : List Str} (X : K.In hp) (hx : hp.get? x = some { cls := .ref C, dict := some dx, data := .fields fv }) (hns : hp.Ns1 dx m0) (hw : Within m0 nl) (hz : nl.length ≤ 1000)
    (hcd : clsIn K C = some cd) (hm : upE cd.mro = true) (hh : cd.hasDict = true) (ha : findIn K (.ref C) f = some none)
    (hq : ∀ h' tk', (∀ b o, b ≠ dx → hp.get? b = some o → h'.get? b = some o) → h'.Ns1 dx (fun y => if y = f then some v else m0 y) → R (.ok (.ret .none)) ⟨h', g, d, tk', os⟩) :
    codeAny (model prog w) A (.call (.builtin "object.__setattr__") ⟨[.ref x, .str f tk, v], []⟩) R ⟨hp, g, d, t, os⟩ := by
  obtain ⟨oD, _, _, hoD, _, _⟩ := hns.count hw
  have I : W.InstAt hp x { cls := .ref C, dict := some dx, data := .fields fv } C (some oD) := ⟨hx, rfl, rfl, hoD⟩
  refine osaG X I hcd hm ha ?_
  have hl : Looks (model prog w) hp (classData C) cd := looks_clsIn X hcd
  obtain ⟨nm, bs, mro, ns, qn, hd, sn, sb, ab, col, del⟩ := cd
  dsimp only at hh
  subst hh
  unfold storeInOwnDict ownDictForStores
  repeat (first | with_reducible refine ESX.store_in_old hns hw hz ?_ | with_reducible refine wpAny_loadPart_at hx ?_ | with_reducible refine hl.at ?_ | wp_step)
  intro h' tk' hn' same
  exact hq h' tk' (fun b o hb ho => (same.2 b hb).trans ho) hn'
end
/-! ### the class called, by position and by name -/
section
variable {prog : Program} {w : World} {M : Model} {A : Around} {E : Value → Shared → Prop} {R : Result → Shared → Prop} {h : Heap} {g : Array GenState} {d : Drawn} {t : Nat} {os : OsState}
variable {nm q : Str} {C N : Addr} {bs bm bmB : List Value} {hdct : Bool} {sn : List Str} {sub : List Value} {ab : Bool} {col : Option Bool} {dd : Option Addr} {k0 k1 k2 k3 k5 : Option Value} {B newId initId : String}
theorem kw_new (F : ExcBaseFacts B newId initId bmB) (hT : ∀ X : String, bm.contains (.type X) = bmB.contains (.type X)) {us : List Value} {kw : List (Str × Value)} {Q : Unit → Shared → Prop}
    (hC : h.get? C = some (excClassObj nm q C N bs bm hdct sn sub ab col dd k0 k1 k2 k3 k5 newId)) (hq : Q () ⟨h, g, d, t, os⟩) : wpAny M A (checkBuiltinCall newId ⟨.ref C :: us, kw⟩) Q E ⟨h, g, d, t, os⟩ := by
  have hB : (Value.ref C :: bm).contains (.type B) = true := by rw [List.contains_cons, hT, F.hasB, Bool.or_true]
  have star := F.noStar
  simp only [checkBuiltinCall, F.newKind, F.newSplit, F.newRow]
  repeat (first | refine wpAny_loadPart_at hC ?_ | (refine wpAny_isSubtype_exc hC ?_; rw [hB]) | refine wpAny_staticBase_exc hC ?_ | refine wpAny_madeBy_exc hC ?_ | simp only [bne_self_eq_false, Bool.false_eq_true, if_false] | wp_step)
  exact hq
theorem kw_born (F : ExcBaseFacts B newId initId bmB) (hT : ∀ X : String, bm.contains (.type X) = bmB.contains (.type X)) {us : List Value} {kw : List (Str × Value)}
    (hC : h.get? C = some (excClassObj nm q C N bs bm hdct sn sub ab col dd k0 k1 k2 k3 k5 newId))
    (hq : R (.ok (.ret (.ref (h.objs.size + 1)))) ⟨(h.push (kdv_tup us)).push (excO C h.objs.size), g, d, t, os⟩) (hz : us.length ≤ sizeLine) :
    codeAny (model prog w) A (.builtin newId ⟨.ref C :: us, kw⟩) R ⟨h, g, d, t, os⟩ := by
  have en := F.ends
  have hB : (Value.ref C :: bm).contains (.type B) = true := by rw [List.contains_cons, hT, F.hasB, Bool.or_true]
  have hA : (Value.ref C :: bm).contains (.type "AttributeError") = false := by rw [List.contains_cons, hT, F.noAttr]; rfl
  have hN : (Value.ref C :: bm).contains (.type "NameError") = false := by rw [List.contains_cons, hT, F.noName]; rfl
  refine codeAny_builtinAt F.entry ?_
  unfold Builtin.«BaseException.__new__»
  refine PySem.wpAt_bind ?_
  show PySem.wpAt _ _ _ (stack >>= _) _ _ _
  refine PySem.wpAt_bind (PySem.wpAt_stack fun p below => PySem.wpAt_of_wpAny ?_)
  wp_walk
  refine PySem.wpAt_of_wpAny ?_
  rw [F.owner]
  repeat (first | with_reducible refine wpAny_madeHere_exc F.canon hC ?_ | with_reducible refine wpAny_loadPart_at hC ?_ | (with_reducible refine wpAny_isSubtype_exc hC ?_; first | rw [hB] | rw [hA] | rw [hN]) | wp_step)
  show R _ _
  rw [Heap.size_push]
  exact hq
theorem kw_type (F : ExcBaseFacts B newId initId bmB) (hT : ∀ X : String, bm.contains (.type X) = bmB.contains (.type X)) {us : List Value} {kw : List (Str × Value)} {fI : Addr} {Q : Fin → Shared → Prop}
    (hC : h.get? C = some (excClassObj nm q C N bs bm hdct sn sub ab col dd k0 k1 k2 k3 k5 newId))
    (hi : Looks (model prog w) h (typeLookup (.ref C) "__init__") (some (.ref fI))) (hb : ∀ self, Looks (model prog w) h (bindSpecial (.ref fI) self) (.ref fI, [self])) (hz : us.length ≤ sizeLine)
    (hq : codeAny (model prog w) A (.call (.ref fI) ⟨.ref (h.objs.size + 1) :: us, kw⟩)
      (fun r s' => match r with | .ok (.ret v) => v = .none ∧ Q (.done (.ret (.ref (h.objs.size + 1)))) s' | .ok _ => False | .error e => E e s')
      ⟨(h.push (kdv_tup us)).push (excO C h.objs.size), g, d, t, os⟩) :
    wpAny (model prog w) A (Builtin.«type.__call__» ⟨.ref C :: us, kw⟩) Q E ⟨h, g, d, t, os⟩ := by
  repeat (first | with_reducible refine wpAny_loadPart_at hC ?_ | with_reducible refine wpAny_madeBy_exc hC ?_ | wp_step)
  refine codeAny_call_builtin_code (Code.quiet_builtin _ F.quiet) (kw_new F hT hC ?_)
  refine kw_born F hT hC ?_ hz
  show wpAny _ _ _ _ _ _
  have k : ∀ b o, h.get? b = some o → ((h.push (kdv_tup us)).push (excO C h.objs.size)).get? b = some o := fun b o e => Heap.get?_push_of_some _ (Heap.get?_push_of_some _ e)
  have hC1 := k _ _ hC
  have new : ((h.push (kdv_tup us)).push (excO C h.objs.size)).get? (h.objs.size + 1) = some (excO C h.objs.size) := by heap_get
  have own : (Value.ref C :: bm).contains (.ref C) = true := by simp
  have i1 := hi.keeps k
  have b1 := (hb (.ref (h.objs.size + 1))).keeps k
  unfold isInstance
  repeat (first | with_reducible refine wpAny_loadPart_at new ?_ | (with_reducible refine wpAny_isSubtype_exc hC1 ?_; rw [own]) | wp_step)
  show wpAny _ _ (typeLookup (.ref C) _) _ _ _
  refine i1.at (wpAny_holding (wpAny_bind (b1.at ?_)))
  refine wpAny_bind (wpAny_call (codeAny_mono hq fun r s' z => ?_))
  rcases r with e | (v | _ | _ | _) <;> first | exact z | exact z.elim | skip
  obtain ⟨rfl, z⟩ := z
  first
    | exact wpAny_pure (wpAny_pure z)
    | (wp_walk; exact z)
theorem kw_own (F : ExcBaseFacts B newId initId bmB) (hT : ∀ X : String, bm.contains (.type X) = bmB.contains (.type X)) {us : List Value} {kw : List (Str × Value)} {fI : Addr}
    (hC : h.get? C = some (excClassObj nm q C N bs bm hdct sn sub ab col dd k0 k1 k2 k3 k5 newId))
    (hi : Looks (model prog w) h (typeLookup (.ref C) "__init__") (some (.ref fI))) (hb : ∀ self, Looks (model prog w) h (bindSpecial (.ref fI) self) (.ref fI, [self])) (hz : us.length ≤ sizeLine)
    (hq : codeAny (model prog w) (A.under (.builtin "type.__call__" ⟨.ref C :: us, kw⟩)) (.call (.ref fI) ⟨.ref (h.objs.size + 1) :: us, kw⟩) (InitBack (h.objs.size + 1) R)
      ⟨(h.push (kdv_tup us)).push (excO C h.objs.size), g, d, t, os⟩) :
    codeAny (model prog w) A (.call (.ref C) ⟨us, kw⟩) R ⟨h, g, d, t, os⟩ := by
  have f1 := tc_lookup
  have f2 := tc_bind (.ref C)
  have hTy : (⟨h, g, d, t, os⟩ : Shared).TypeIs (.ref C) "type" := ⟨_, hC, rfl⟩
  refine codeAny_of_tree ?_
  show wpAny _ _ (callAny (.ref C) _) _ _ _
  repeat (any_goals (first | assumption | with_reducible refine wpAny_loadPart_at hC ?_ | wp_step))
  refine ⟨rfl, ?_⟩
  refine codeAny_call_builtin_at (Code.quiet_builtin _ (by decide +kernel)) entry_typeCall (wpAny_check_type_call_sub hC (kw_type F hT hC hi hb hz ?_))
  refine codeAny_mono hq fun r s' z => ?_
  rcases r with e | (v | _ | _ | _) <;> exact z
end
end K1
set_option Elab.async false
set_option linter.all false
set_option maxRecDepth 100000
set_option maxHeartbeats 2000000
namespace K1
open PySem PySem.W PySem.Calls PyProof.Rows PySem.HandSPX
/-- what the written part tells of an own exception class at C -/
structure XC (K : Frag) (C : Addr) : Prop where
  cls : ∃ nm q N bs bm sn sub ab col dd k0 k1 k2 k3 k5, K.lookup C = some (excClassObj nm q C N bs bm true sn sub ab col dd k0 k1 k2 k3 k5 "Exception.__new__") ∧ upE bm = true
  sa : findIn K (.ref C) "__setattr__" = some (some (.builtin "object.__setattr__"))
  subE : subIn K (.ref C) (.type "Exception") = some true
  mroC : mroIn K C (.ref C) = some true
  sup : ks_superIn K C C "__init__" = some (some (.builtin "Exception.__init__"))
  opq : nsIn K cStatics "thirdparty.any" = some none
  kC : keepIn K (.ref C) = true
/-- its __init__, at f, a def over the cell of its class -/
structure XI (prog : Program) (K : Frag) (C f : Addr) (ps : Arguments) (body : List Stmt) (scope : Scope) : Prop where
  fn : ∃ oc od osl q kV doc pm an cda ct cc, K.lookup f = some ⟨oc, od, .func (ksFn "__init__" q ps body scope .none kV doc pm an (.ref cda) ct cc), osl⟩ ∧ codeIn K (.ref cda) q = true ∧
    (∃ ccl cdd vs ccs file tf, K.lookup cda = some ⟨ccl, cdd, .fields vs, ccs⟩ ∧ vs[2]? = some (.str file tf) ∧ ((prog.main.file : Str) == file) = true) ∧ ∃ cl cld csl, K.lookup cc = some ⟨cl, cld, .cell (some (.ref C)), csl⟩
  at_ : findIn K (.ref C) "__init__" = some (some (.ref f))
  ty : typeIn K (.ref f) = some (.type "function")
  gl : scope.names.lookup ("super" : Str) = some .globalImplicit
  fr : scope.names.lookup ("__class__" : Str) = some .free
  me : scope.names.lookup ("self" : Str) = some .local
  first : ∃ p0, (ps.posonlyargs ++ ps.args).head? = some { arg := "self", annotation := none, pos := p0 }
  cells : ∀ x ∈ scope.names, x.2 ≠ .cell
  co : scope.isCoroutine = false
  gen : scope.isGenerator = false
  kind : scope.kind = .function
def scI (fs : List Str) : Scope := { kind := .function, names := (PySem.Str.ofString "self", .local) :: (fs.map fun f => (f, NameKind.local)) ++ [(PySem.Str.ofString "__class__", .free), (PySem.Str.ofString "super", .globalImplicit)], isGenerator := false, isCoroutine := false, more := [] }
/-- how the call of super's method is read -/
def Rev (fs : List Str) (es : List Expr) (p0 p1 p2 p3 : Pos) : Prop := ∀ (q : Str) (L f cda cc : Addr), ∃ pl : Sem Bool, eval (.Call (.Attribute (.Call (.Name "super" p0) [] [] p1) "__init__" p2) es [] p3) (ksEnv q (scI fs) L f (.ref cda) cc) = (do
  let ov ← attributeBase (.Call (.Name "super" p0) [] [] p1) "__init__" (ksEnv q (scI fs) L f (.ref cda) cc) (eval (.Call (.Name "super" p0) [] [] p1) (ksEnv q (scI fs) L f (.ref cda) cc))
  standAt p2.atName
  let (fx, first) ← holding [ov] (getMethod ov "__init__" pl)
  callWith p3 fx first (backTo p3 (starEach es (ksEnv q (scI fs) L f (.ref cda) cc))) [])
def supS (es : List Expr) (p0 p1 p2 p3 p4 : Pos) : Stmt := .Expr (.Call (.Attribute (.Call (.Name "super" p0) [] [] p1) "__init__" p2) es [] p3) p4
def setS (f : Str) (p0 p1 p2 p3 : Pos) : Stmt := .Assign [.Attribute (.Name "self" p0) f p1] (.Name f p2) p3
section
variable {prog : Program} {w : World} {A : Around} {E : Value → Shared → Prop} {K : Frag} {mg mb : Str → Option Value} {C f cc cda x : Addr} {h : Heap} {g : Array GenState} {d : Drawn} {t : Nat} {os : OsState}
/-- super().__init__(..) -/
theorem sup_run (T : XC K C) {q : Str} {scope : Scope} {L t0 : Addr} {body : List Stmt} {e : Expr} {es : List Expr} {p0 p1 p2 p3 p4 pS : Pos} {fd : FuncData} {oc : Value} {od : Option Addr} {osl : Array (Option Value)} {m : Str → Option Value} {us : List Value}
    {ccl cl : Value} {cdd cld : Option Addr} {vs : Array Value} {ccs csl : Array (Option Value)} {file : Str} {tf : Tok} {Q : Flow → Shared → Prop}
    (X : K.In h) (G : h.Ns mainGlobals mg) (gS : mg "super" = none) (B : h.Ns builtinsNs mb) (bS : mb "super" = some (.type "super")) (hL : h.Ns L m) (mS : m "self" = some (.ref x)) (hx : h.get? x = some (excO C t0))
    (hf : K.lookup f = some ⟨oc, od, .func fd, osl⟩) (hp : (fd.params.posonlyargs ++ fd.params.args).head? = some { arg := "self", annotation := none, pos := pS })
    (hcode : K.lookup cda = some ⟨ccl, cdd, .fields vs, ccs⟩) (hvs : vs[2]? = some (.str file tf)) (hfile : ((prog.main.file : Str) == file) = true) (hcell : K.lookup cc = some ⟨cl, cld, .cell (some (.ref C)), csl⟩)
    (gl : scope.names.lookup ("super" : Str) = some .globalImplicit) (fr : scope.names.lookup ("__class__" : Str) = some .free) (me : scope.names.lookup ("self" : Str) = some .local) (hk : scope.kind = .function)
    (htop : (prog.main.scope.names.lookup ("super" : Str)).isSome = false) (hz : us.length ≤ sizeLine)
    (hargs : ∀ s' : Shared, s'.heap.Ns L m → wpAny (model prog w) A (spliced (backTo p3 (starEach (e :: es) (ksEnv q scope L f (.ref cda) cc)))) (fun vs s'' => vs = us ∧ s'' = s') E s')
    (hq : ∀ h' tk t1, (∀ b o, b ≠ x → h.get? b = some o → h'.get? b = some o) → h'.get? x = some (excO C t1) → Q .next ⟨h', g, d, tk, os⟩)
    (hst : starEach (e :: es) (ksEnv q scope L f (.ref cda) cc) = (false, eval e (ksEnv q scope L f (.ref cda) cc)) :: starEach es (ksEnv q scope L f (.ref cda) cc) := by rfl)
    (hpl : (backTo p3 (starEach es (ksEnv q scope L f (.ref cda) cc))).any (·.1) = false := by rfl) {pl : Sem Bool}
    (hev : eval (.Call (.Attribute (.Call (.Name "super" p0) [] [] p1) "__init__" p2) (e :: es) [] p3) (ksEnv q scope L f (.ref cda) cc) = (do
      let ov ← attributeBase (.Call (.Name "super" p0) [] [] p1) "__init__" (ksEnv q scope L f (.ref cda) cc) (eval (.Call (.Name "super" p0) [] [] p1) (ksEnv q scope L f (.ref cda) cc))
      standAt p2.atName
      let (fx, first) ← holding [ov] (getMethod ov "__init__" pl)
      callWith p3 fx first (backTo p3 (starEach (e :: es) (ksEnv q scope L f (.ref cda) cc))) []) := by rfl)
    (hin : interactive (ksEnv q scope L f (.ref cda) cc) = false := by rfl)
    (hsw : swapsWith (.Call (.Attribute (.Call (.Name "super" p0) [] [] p1) "__init__" p2) (e :: es) [] p3) none p4.line (ksEnv q scope L f (.ref cda) cc) = pure false := by rfl) :
    PySem.wpAt (model prog w) A (.func body (ksEnv q scope L f (.ref cda) cc)) (exec (supS (e :: es) p0 p1 p2 p3 p4) (ksEnv q scope L f (.ref cda) cc)) Q E ⟨h, g, d, t, os⟩ := by
  obtain ⟨nm, qn, N, bs, bm, sn, sub, ab, col, dd, k0, k1, k2, k3, k5, hC, hbm⟩ := T.cls
  have hcl : clsIn K C = some { name := nm, bases := bs, mro := .ref C :: bm, ns := N, qualname := qn, hasDict := true, slotNames := sn, subclasses := sub, abstract := ab, collection := col, hasDel := false } := by unfold clsIn; rw [hC] <;> rfl
  have hX : x ≠ C := fun z => by
    have y := X _ _ hC
    rw [← z, hx] at y
    cases Option.some.inj y
  have sub1 : Looks (model prog w) h (isInstance (.ref x) (.type "Exception")) true := (W.InstAt.type (ox := excO C t0) (od := none) ⟨hx, rfl, rfl, trivial⟩).andThen (looks_subIn X T.subE)
  have hmr : Looks (model prog w) h (mroOf (.ref C)) (.ref C :: bm) := (looks_clsIn X hcl).andThen .now
  have al : alongIn K "__init__" (((Value.ref C :: bm).dropWhile (· != .ref C)).drop 1) = some (some (.builtin "Exception.__init__")) := by
    have z := T.sup
    unfold ks_superIn at z
    rw [hcl] at z
    exact z
  refine ks_wpAt_Expr_any (ks_wpAt_MethodCall (pl := pl) ?_ hev) hin hsw
  refine ks_wpAt_super_base (env := ksEnv q scope L f (.ref cda) cc) gl fr rfl rfl (X _ _ hf) rfl hp rfl (X _ _ hcode) rfl hvs hfile htop ?_
  refine ks_loadName_global hk gl (loadGlobal_builtin (env := ksEnv q scope L f (.ref cda) cc) G gS B bS ⟨rfl, ?_⟩)
  refine wpAny_loadName_free hk fr rfl ⟨_, X _ _ hcell, rfl⟩ ?_
  refine wpAny_loadName_local hk me hL mS ?_
  refine ks_wpAny_isType_cls (X _ _ hC) rfl ⟨rfl, ?_⟩
  refine ks_wpAny_call_super (X _ _ hC) rfl hx rfl (fun c z => by cases z) (looks_mroIn X T.mroC) (fun h2 e2 k2 => ?_)
  have X2 : K.In h2 := X.keeps k2
  refine ESX.getMethod_super e2 ((looks_opaque X T.opq).keeps k2) (hmr.keeps k2) rfl X2 al hX rfl (sub1.keeps k2) ?_
  refine ESX.callWith_bound (x := x) (first := []) ?_ hst hpl
  refine wpAny_mono (hargs ⟨h2.push (ESX.bw x), g, d, t + 1, os⟩ (hL.keeps ?_)) (fun vs' s' hv => ?_) fun _ _ z => z
  · exact fun b o z => Heap.get?_push_of_some _ (k2 _ _ z)
  · obtain ⟨rfl, rfl⟩ := hv
    have up : ∀ b o, h.get? b = some o → (h2.push (ESX.bw x)).get? b = some o := fun b o z => Heap.get?_push_of_some _ (k2 _ _ z)
    refine ⟨Heap.get?_push_at rfl rfl, ?_⟩
    refine ESX.call_bw (up _ _ (X _ _ hC)) (up _ _ hx) (Heap.get?_push_at rfl rfl) hz fun h' t1 k' e' => ?_
    exact hq h' _ t1 (fun b o hb z => k' b o hb (up b o z)) e'
/-- what stands behind __init__ -/
structure End1 (h h' : Heap) (x C dx t1 : Addr) (m1 : Str → Option Value) : Prop where
  keep : ∀ b o, b ≠ x → h.get? b = some o → h'.get? b = some o
  obj : h'.get? x = some { cls := .ref C, dict := some dx, data := .fields #[.ref t1, .none, .none, .none, .bool false, .none] }
  new : h.objs.size ≤ dx
  ne : dx ≠ x
  ns : h'.Ns1 dx m1
theorem kept {K : Frag} {h h' : Heap} {x : Addr} (X : K.In h) (hx : K.lookup x = none) (k : ∀ b o, b ≠ x → h.get? b = some o → h'.get? b = some o) : K.In h' := fun a o z =>
  k a o (fun y => by rw [y, hx] at z; cases z) (X a o z)
end
section
variable {prog : Program} {w : World} {A : Around} {R : Result → Shared → Prop} {K : Frag} {mg mb : Str → Option Value} {C fI x : Addr} {s : Shared}
/-- __init__ of one field -/
theorem init1 (T : XC K C) {f : Str} {ps : Arguments} {t0 : Addr} {p0 p1 p2 p3 p4 p5 r0 r1 r2 r3 : Pos} {args : Args} {v : Value} (I : XI prog K C fI ps [supS [.Name f p5] p0 p1 p2 p3 p4, setS f r0 r1 r2 r3] (scI [f]))
    (X : K.In s.heap) (G : s.heap.Ns mainGlobals mg) (gS : mg "super" = none) (B : s.heap.Ns builtinsNs mb) (bS : mb "super" = some (.type "super")) (hlim : s.heap.NoLimit) (hx : s.heap.get? x = some (excO C t0)) (hnx : K.lookup x = none) (hroom : A.depth < recursionLimit)
    (htop : (prog.main.scope.names.lookup ("super" : Str)).isSome = false) (hv : Rev [f] [.Name f p5] p0 p1 p2 p3) (nf : findIn K (.ref C) f = some none)
    (hbind : ∀ q kV doc pm an cda ct cc, bindArgs (ksFn "__init__" q ps [supS [.Name f p5] p0 p1 p2 p3 p4, setS f r0 r1 r2 r3] (scI [f]) .none kV doc pm an (.ref cda) ct cc) args = pure [(("self" : Str), .ref x), (f, v)])
    (hfs : (("self" : Str) == f) = false) (hfd : (f == ("__debug__" : Str)) = false) (hloc : (scI [f]).names.lookup f = some .local)
    (hq : ∀ h' tk dx t1, End1 s.heap h' x C dx t1 (fun y => if y = f then some v else none) → R (.ok (.ret .none)) { s with heap := h', toks := tk }) :
    codeAny (model prog w) A (.call (.ref fI) args) R s := by
  obtain ⟨oc, od, osl, q, kV, doc, pm, an, cda, ct, cc, hf, hcd, ⟨ccl, cdd, vs, ccs, file, tf, hcode, hvs, hfile⟩, cl, cld, csl, hcell⟩ := I.fn
  obtain ⟨pS, hp⟩ := I.first
  obtain ⟨nm, qn, N, bs, bm, sn, sub, ab, col, dd, k0, k1, k2, k3, k5, hC, hbm⟩ := T.cls
  have hcl : clsIn K C = some { name := nm, bases := bs, mro := .ref C :: bm, ns := N, qualname := qn, hasDict := true, slotNames := sn, subclasses := sub, abstract := ab, collection := col, hasDel := false } := by unfold clsIn; rw [hC] <;> rfl
  have xlt : x ≠ s.heap.objs.size := Nat.ne_of_lt (Heap.lt_size hx)
  have rm : ∀ y, [(("self" : Str), Value.ref x), (f, v)].reverse.lookup y = if y = f then some v else if y = "self" then some (.ref x) else none := fun y => by
    show List.lookup y [(f, v), (("self" : Str), Value.ref x)] = _
    by_cases e1 : y = f
    · subst e1
      simp [List.lookup]
    · have e2 : (y == f) = false := by simpa using e1
      by_cases e3 : y = "self"
      · subst e3
        simp [List.lookup, e1, e2]
      · have e4 : (y == ("self" : Str)) = false := by simpa using e3
        simp [List.lookup, e1, e2, e3, e4]
  have sf : ("self" : Str) ≠ f := by simpa using hfs
  refine ks_codeAny_call_defAt (fd := ksFn "__init__" q ps _ (scI [f]) .none kV doc pm an (.ref cda) ct cc) (binds := [(("self" : Str), .ref x), (f, v)]) hroom (X _ _ hf) rfl hlim (codeRec_of X hcd) rfl (.of_eq (hbind _ _ _ _ _ _ _ _)) I.cells (fun y hy => ?_) (fun h1 hns k1 => ?_) I.co I.gen I.kind
  · rcases List.mem_cons.mp hy with rfl | hy
    · exact I.me
    · rcases List.mem_cons.mp hy with rfl | hy
      · exact hloc
      · cases hy
  have X1 : K.In h1 := X.keeps k1
  obtain ⟨pl, hev⟩ := hv q s.heap.objs.size fI cda cc
  have hns' : h1.Ns s.heap.objs.size (fun y => if y = f then some v else if y = "self" then some (.ref x) else none) := by
    have e : (fun y => [(("self" : Str), Value.ref x), (f, v)].reverse.lookup y) = _ := funext rm
    rw [← e]
    exact hns
  refine ks_wpAt_execs_cons (sup_run (pl := pl) (hev := hev) (q := q) (us := [v]) (m := fun y => if y = f then some v else if y = "self" then some (.ref x) else none) (mg := mg) (mb := mb) T X1 (G.keeps k1) gS (B.keeps k1) bS hns' (by simp [sf]) (k1 _ _ hx) hf hp hcode hvs hfile hcell I.gl I.fr I.me I.kind htop (by rw [sizeLine_eq]; exact (by decide : 1 ≤ 16777216)) (fun s' hn => ?_) fun h2 tk t1 k2 hx2 => ?_)
  · refine Calls.spliced_cons (ESX.ldL (v := v) (m := fun y => if y = f then some v else if y = "self" then some (.ref x) else none) hn (by simp) ?_ I.kind hloc hfd)
    exact Calls.spliced_nil ⟨rfl, rfl⟩
  · have X2 : K.In h2 := kept X1 hnx k2
    obtain ⟨oL, es, ep, hL, r⟩ := hns'
    have hn2 : h2.Ns s.heap.objs.size (fun y => if y = f then some v else if y = "self" then some (.ref x) else none) := ⟨oL, es, ep, k2 _ _ (Ne.symm xlt) hL, r⟩
    show PySem.wpAt _ _ _ (execs _ _) _ _ _
    refine PySem.wpAt_of_wpAny (wpAny_execs_cons (plainObj_wpAny_Assign_Attribute ?_ ?_))
    · refine ESX.ldL (v := v) hn2 (by simp) (ESX.ldL (v := .ref x) hn2 (by simp [sf]) ?_ I.kind I.me) I.kind hloc hfd
      refine set_plain X2 (ox := excO C t1) (od := none) ⟨hx2, rfl, rfl, trivial⟩ T.sa ?_
      refine osa1 X2 hx2 hcl (show upE (.ref C :: bm) = true from hbm) rfl nf (fun h3 tk3 dx k3 dn dne hx3 hn3 => ?_)
      show wpAny _ _ (execs _ _) _ _ _
      have z : s.heap.objs.size < h2.objs.size := Heap.lt_size (k2 _ _ (Ne.symm xlt) hL)
      exact wpAny_execs_nil (hq h3 tk3 dx t1 ⟨fun b o hb e => k3 b o hb (k2 b o hb (k1 b o e)), hx3, Nat.le_of_lt (Nat.lt_of_lt_of_le z dn), dne, hn3⟩)
    · rfl
/-- __init__ of two fields -/
theorem init2 (T : XC K C) {f f2 : Str} {ps : Arguments} {t0 : Addr} {p0 p1 p2 p3 p4 p5 p6 r0 r1 r2 r3 z0 z1 z2 z3 : Pos} {args : Args} {v v2 : Value} (I : XI prog K C fI ps [supS [.Name f p5, .Name f2 p6] p0 p1 p2 p3 p4, setS f r0 r1 r2 r3, setS f2 z0 z1 z2 z3] (scI [f, f2]))
    (X : K.In s.heap) (G : s.heap.Ns mainGlobals mg) (gS : mg "super" = none) (B : s.heap.Ns builtinsNs mb) (bS : mb "super" = some (.type "super")) (hlim : s.heap.NoLimit) (hx : s.heap.get? x = some (excO C t0)) (hnx : K.lookup x = none) (hroom : A.depth < recursionLimit)
    (htop : (prog.main.scope.names.lookup ("super" : Str)).isSome = false) (hv : Rev [f, f2] [.Name f p5, .Name f2 p6] p0 p1 p2 p3) (nf : findIn K (.ref C) f = some none) (nf2 : findIn K (.ref C) f2 = some none)
    (hbind : ∀ q kV doc pm an cda ct cc, bindArgs (ksFn "__init__" q ps [supS [.Name f p5, .Name f2 p6] p0 p1 p2 p3 p4, setS f r0 r1 r2 r3, setS f2 z0 z1 z2 z3] (scI [f, f2]) .none kV doc pm an (.ref cda) ct cc) args = pure [(("self" : Str), .ref x), (f, v), (f2, v2)])
    (hfs : (("self" : Str) == f) = false) (hfs2 : (("self" : Str) == f2) = false) (hff : (f == f2) = false) (hfd : (f == ("__debug__" : Str)) = false) (hfd2 : (f2 == ("__debug__" : Str)) = false) (hloc : (scI [f, f2]).names.lookup f = some .local) (hloc2 : (scI [f, f2]).names.lookup f2 = some .local)
    (hq : ∀ h' tk dx t1, End1 s.heap h' x C dx t1 (fun y => if y = f2 then some v2 else if y = f then some v else none) → R (.ok (.ret .none)) { s with heap := h', toks := tk }) :
    codeAny (model prog w) A (.call (.ref fI) args) R s := by
  obtain ⟨oc, od, osl, q, kV, doc, pm, an, cda, ct, cc, hf, hcd, ⟨ccl, cdd, vs, ccs, file, tf, hcode, hvs, hfile⟩, cl, cld, csl, hcell⟩ := I.fn
  obtain ⟨pS, hp⟩ := I.first
  obtain ⟨nm, qn, N, bs, bm, sn, sub, ab, col, dd, k0, k1, k2, k3, k5, hC, hbm⟩ := T.cls
  have hcl : clsIn K C = some { name := nm, bases := bs, mro := .ref C :: bm, ns := N, qualname := qn, hasDict := true, slotNames := sn, subclasses := sub, abstract := ab, collection := col, hasDel := false } := by unfold clsIn; rw [hC] <;> rfl
  have xlt : x ≠ s.heap.objs.size := Nat.ne_of_lt (Heap.lt_size hx)
  have sf : ("self" : Str) ≠ f := by simpa using hfs
  have sf2 : ("self" : Str) ≠ f2 := by simpa using hfs2
  have sff : f ≠ f2 := by simpa using hff
  let m : Str → Option Value := fun y => if y = f2 then some v2 else if y = f then some v else if y = "self" then some (.ref x) else none
  have m1 : m f = some v := by show (if f = f2 then some v2 else if f = f then some v else _) = _; rw [if_neg sff, if_pos rfl]
  have m2 : m f2 = some v2 := by show (if f2 = f2 then some v2 else _) = _; rw [if_pos rfl]
  have m0 : m "self" = some (.ref x) := by show (if ("self" : Str) = f2 then some v2 else if ("self" : Str) = f then some v else if ("self" : Str) = "self" then some (Value.ref x) else none) = _; rw [if_neg sf2, if_neg sf, if_pos rfl]
  have rm : ∀ y, [(("self" : Str), Value.ref x), (f, v), (f2, v2)].reverse.lookup y = m y := fun y => by
    show List.lookup y [(f2, v2), (f, v), (("self" : Str), Value.ref x)] = (if y = f2 then some v2 else if y = f then some v else if y = "self" then some (.ref x) else none)
    by_cases e0 : y = f2
    · subst e0
      simp [List.lookup]
    · have e5 : (y == f2) = false := by simpa using e0
      by_cases e1 : y = f
      · subst e1
        simp [List.lookup, e5, e0]
      · have e2 : (y == f) = false := by simpa using e1
        by_cases e3 : y = "self"
        · subst e3
          simp [List.lookup, e0, e1, e2, e5]
        · have e4 : (y == ("self" : Str)) = false := by simpa using e3
          simp [List.lookup, e0, e1, e2, e3, e4, e5]
  refine ks_codeAny_call_defAt (fd := ksFn "__init__" q ps _ (scI [f, f2]) .none kV doc pm an (.ref cda) ct cc) (binds := [(("self" : Str), .ref x), (f, v), (f2, v2)]) hroom (X _ _ hf) rfl hlim (codeRec_of X hcd) rfl (.of_eq (hbind _ _ _ _ _ _ _ _)) I.cells (fun y hy => ?_) (fun h1 hns k1 => ?_) I.co I.gen I.kind
  · rcases List.mem_cons.mp hy with rfl | hy
    · exact I.me
    · rcases List.mem_cons.mp hy with rfl | hy
      · exact hloc
      · rcases List.mem_cons.mp hy with rfl | hy
        · exact hloc2
        · cases hy
  have X1 : K.In h1 := X.keeps k1
  obtain ⟨pl, hev⟩ := hv q s.heap.objs.size fI cda cc
  have hns' : h1.Ns s.heap.objs.size m := by
    have e : (fun y => [(("self" : Str), Value.ref x), (f, v), (f2, v2)].reverse.lookup y) = m := funext rm
    rw [← e]
    exact hns
  refine ks_wpAt_execs_cons (sup_run (pl := pl) (hev := hev) (q := q) (us := [v, v2]) (m := m) (mg := mg) (mb := mb) T X1 (G.keeps k1) gS (B.keeps k1) bS hns' m0 (k1 _ _ hx) hf hp hcode hvs hfile hcell I.gl I.fr I.me I.kind htop (by rw [sizeLine_eq]; exact (by decide : 2 ≤ 16777216)) (fun s' hn => ?_) fun h2 tk t1 k2 hx2 => ?_)
  · refine Calls.spliced_cons (ESX.ldL (v := v) (m := m) hn m1 ?_ I.kind hloc hfd)
    refine Calls.spliced_cons (ESX.ldL (v := v2) (m := m) hn m2 ?_ I.kind hloc2 hfd2)
    exact Calls.spliced_nil ⟨rfl, rfl⟩
  · have X2 : K.In h2 := kept X1 hnx k2
    obtain ⟨oL, es, ep, hL, r⟩ := hns'
    have hn2 : h2.Ns s.heap.objs.size m := ⟨oL, es, ep, k2 _ _ (Ne.symm xlt) hL, r⟩
    show PySem.wpAt _ _ _ (execs _ _) _ _ _
    refine PySem.wpAt_of_wpAny (wpAny_execs_cons (plainObj_wpAny_Assign_Attribute ?_ ?_))
    · refine ESX.ldL (v := v) hn2 m1 (ESX.ldL (v := .ref x) hn2 m0 ?_ I.kind I.me) I.kind hloc hfd
      refine set_plain X2 (ox := excO C t1) (od := none) ⟨hx2, rfl, rfl, trivial⟩ T.sa ?_
      refine osa1 X2 hx2 hcl (show upE (.ref C :: bm) = true from hbm) rfl nf (fun h3 tk3 dx k3 dn dne hx3 hn3 => ?_)
      have X3 : K.In h3 := kept X2 hnx k3
      have z : s.heap.objs.size < h2.objs.size := Heap.lt_size (k2 _ _ (Ne.symm xlt) hL)
      have hn4 : h3.Ns s.heap.objs.size m := ⟨oL, es, ep, k3 _ _ (Ne.symm xlt) (k2 _ _ (Ne.symm xlt) hL), r⟩
      have dL : s.heap.objs.size ≠ dx := fun e => by rw [e] at z; exact absurd (Nat.lt_of_lt_of_le z dn) (Nat.lt_irrefl _)
      show wpAny _ _ (execs _ _) _ _ _
      refine wpAny_execs_cons (plainObj_wpAny_Assign_Attribute ?_ ?_)
      · refine ESX.ldL (v := v2) hn4 m2 (ESX.ldL (v := .ref x) hn4 m0 ?_ I.kind I.me) I.kind hloc2 hfd2
        obtain ⟨oD, _, _, hoD, _, _⟩ := hn3.count (Within.cons f v Within.nil)
        refine set_plain X3 (ox := { cls := .ref C, dict := some dx, data := .fields #[.ref t1, .none, .none, .none, .bool false, .none] }) (od := some oD) ⟨hx3, rfl, rfl, hoD⟩ T.sa ?_
        refine osa2 X3 hx3 hn3 (Within.cons f v Within.nil) (by simp) hcl (show upE (.ref C :: bm) = true from hbm) rfl nf2 (fun h5 tk5 k5 hn5 => ?_)
        show wpAny _ _ (execs _ _) _ _ _
        have nd : ∀ {b o}, s.heap.get? b = some o → b ≠ dx := fun {b o} y e => by
          have := Heap.lt_size y
          rw [e] at this
          exact absurd (Nat.lt_of_lt_of_le (Nat.lt_trans this z) dn) (Nat.lt_irrefl _)
        exact wpAny_execs_nil (hq h5 tk5 dx t1 ⟨fun b o hb e => k5 b o (nd e) (k3 b o hb (k2 b o hb (k1 b o e))), k5 _ _ (Ne.symm dne) hx3, Nat.le_of_lt (Nat.lt_of_lt_of_le z dn), dne, hn5⟩)
      · rfl
    · rfl
end
end K1
set_option Elab.async false
set_option linter.all false
set_option maxRecDepth 100000
set_option maxHeartbeats 2000000
/-! Rules over the layer: an own exception as a value (made, its field read, isinstance), repr of data. -/
namespace K1
open PySem PySem.Spec PyProof.Rows L2
open PySem.HandSPX (excO)
section
variable {X : Cx} {pins : List (Addr × Obj)} {σ : L2.St} {H : Hp} {s : Shared}
/-- two new objects behind a call that leaves the rest -/
theorem two_new {h' : Heap} {a b : Addr} {o u : HO} {t' : Nat} (I : Inv X pins σ H s) (k : ∀ c z, s.heap.get? c = some z → h'.get? c = some z) (ha : s.heap.objs.size ≤ a) (hb : s.heap.objs.size ≤ b) (ne : b ≠ a)
    (oa : ObjOk X.prog X.w (upd (upd H b u) a o) h' a o) (ob : ObjOk X.prog X.w (upd (upd H b u) a o) h' b u) : Inv X pins σ (upd (upd H b u) a o) { s with heap := h', toks := t' } := by
  have na : H a = none := I.hok.fresh ha
  have nb : H b = none := I.hok.fresh hb
  have old : ∀ {c : Addr} {z : Obj}, s.heap.get? c = some z → c ≠ a ∧ c ≠ b := fun {c z} q => ⟨Nat.ne_of_lt (Nat.lt_of_lt_of_le (Heap.lt_size q) ha), Nat.ne_of_lt (Nat.lt_of_lt_of_le (Heap.lt_size q) hb)⟩
  have up : ∀ {c : Addr} {z : HO}, H c = some z → upd (upd H b u) a o c = some z := fun {c z} q => by rw [upd_ne (ne_of_none q na), upd_ne (ne_of_none q nb)]; exact q
  have fr : ∀ c z, s.heap.get? c = some z → H c = none → upd (upd H b u) a o c = none := fun c z q n => by
    rw [upd_ne (old q).1, upd_ne (old q).2]
    exact n
  have U : Un X.fs [] H (upd (upd H b u) a o) s.heap h' := ⟨fun c z q _ _ _ => k c z q, fun c z q _ _ _ => ⟨z.slots, k c z q⟩, fun c z q n _ => fr c z q n, fun c z q _ => ⟨z, k c z q⟩, fun c xs q => up q, fun c z v q => up q, fun c ps q => ⟨#[], by rw [up q]; simp⟩⟩
  refine I.un (t' := t') U fun c z q => ?_
  by_cases e1 : c = a
  · subst e1
    rw [upd_same] at q
    cases q
    exact oa
  · rw [upd_ne e1] at q
    by_cases e2 : c = b
    · subst e2
      rw [upd_same] at q
      cases q
      exact ob
    · rw [upd_ne e2] at q
      exact (I.hok c z q).stay (fun c2 v _ y => k c2 v y) (fun c2 y => up y) fun c2 xs y => up y
/-- of the class C: what its instances' reading asks -/
structure XR (K : PySem.W.Frag) (C : Addr) : Prop where
  fld : XfC K C
  cls : (PySem.W.clsIn K C).isSome = true
  ca : PySem.W.findIn K (.ref C) "__class__" = some (some (.builtin "object.__class__"))
  sp : PySem.W.specialIn K (.builtin "object.__class__") "__get__" = some (some (.builtin "getset_descriptor.__get__"))
  tk : PySem.W.takesIn K (.builtin "object.__class__") = some true
  ob : PySem.W.mroIn K C (.type "object") = some true
end
/-- a made exception of the class C with these fields -/
def Xv (H : Hp) (a C : Addr) (fs : List (Str × V)) : Prop := ∃ dx, H a = some (exo a C (some dx)) ∧ H dx = some (exd dx fs)
/-- C(..): the fields by the values -/
def tMkX (C : Addr) (n : Nat) (fl : List V → List (Str × V)) (ta : TA) : TE := fun σ H Q => ta σ H fun vs H1 => vs.length = n ∧ ∀ a dx, H1 a = none → H1 dx = none → dx ≠ a → Q (.ref a) (upd (upd H1 dx (exd dx (fl vs))) a (exo a C (some dx)))
/-- the run of C(..) behind its arguments -/
def MkRun (X : Cx) (C : Addr) (n : Nat) (ks : List Str) (fl : List V → List (Str × V)) : Prop := ∀ (pins : List (Addr × Obj)) (σ : L2.St) (H : Hp) (s : Shared) (us : List Value) (vs : List V) (Q : VK), Inv X pins σ H s → Vals vs us → vs.length = n →
  (∀ a dx, H a = none → H dx = none → dx ≠ a → Q (.ref a) (upd (upd H dx (exd dx (fl vs))) a (exo a C (some dx)))) → wpAny (model X.prog X.w) X.A (if ks = [] then call (.ref C) us else call (.ref C) [] (ks.zip us)) (EP X pins σ Q) X.xe s
section
variable {X : Cx}
theorem pe_mkP {C : Addr} {n : Nat} {fl : List V → List (Str × V)} {x : Str} {e : Expr} {es : List Expr} {ta : TA} {p pos : Pos} (M : MkRun X C n [] fl) (kC : PySem.W.keepIn X.K (.ref C) = true) (hg : Gl X x) (hm : X.mg x = some (.ref C)) (ha : PA X (e :: es) ta)
    (hdb : (x == ("__debug__" : Str)) = false := by decide) (he : starEach (e :: es) X.env = (false, eval e X.env) :: starEach es X.env := by rfl) (hpl : (backTo pos (starEach es X.env)).any (·.1) = false := by rfl) :
    PE X (.Call (.Name x p) (e :: es) [] pos) (tMkX C n fl ta) := by
  refine ⟨fun pins s σ H Q I h => ?_⟩
  refine wpAny_Call_Name_kw (ld_glob I hg hm ?_ hdb)
  refine PySem.W.callWith_K (h₀ := X.base) I.ok.mod.kin kC (thn (ha.run pos pins s σ H _ I h) fun us s1 ⟨vs, H1, I1, r1, hl, q1⟩ => ⟨I1.kIn, ?_⟩) he hpl
  have z := M pins σ H1 s1 us vs Q I1 r1 hl q1
  rw [if_pos rfl] at z
  exact z
theorem pe_mkW {C : Addr} {fl : List V → List (Str × V)} {x : Str} {kws : List Keyword} {ks : List Str} {tk : TA} {p pos : Pos} (M : MkRun X C ks.length ks fl) (hne : ks ≠ []) (kC : PySem.W.keepIn X.K (.ref C) = true) (hg : Gl X x) (hm : X.mg x = some (.ref C)) (hkw : PK X kws tk)
    (hall : (backToKw pos (keywordEach kws X.env)).all (·.1.isSome) = true := by rfl) (hks : (backToKw pos (keywordEach kws X.env)).filterMap (·.1) = ks := by rfl) (hdb : (x == ("__debug__" : Str)) = false := by decide)
    (hpl : ((backTo pos (starEach [] X.env)).any (·.1) || (backToKw pos (keywordEach kws X.env)).any (·.1.isNone)) = false := by rfl) :
    PE X (.Call (.Name x p) [] kws pos) (tMkX C ks.length fl tk) := by
  refine ⟨fun pins s σ H Q I h => ?_⟩
  refine wpAny_Call_Name_kw (ld_glob I hg hm ?_ hdb)
  refine PySem.W.callWith_KW0 (h₀ := X.base) I.ok.mod.kin kC hall ?_ hpl
  refine thn (hkw.run pos pins s σ H _ I h) fun us s1 ⟨vs, H1, I1, r1, hl, q1⟩ => ⟨I1.kIn, ?_⟩
  rw [hks]
  have z := M pins σ H1 s1 us vs Q I1 r1 hl q1
  rw [if_neg hne] at z
  exact z
/-- the end of the making -/
theorem mk_fin {pins : List (Addr × Obj)} {σ : L2.St} {H : Hp} {hp h2 h' : Heap} {g : Array GenState} {d : Drawn} {t t' : Nat} {os : OsState} {C x dx t1 : Addr} {fs : List (Str × V)} {m1 : Str → Option Value} {Q : VK} (I : Inv X pins σ H ⟨hp, g, d, t, os⟩)
    (hx : hp.objs.size ≤ x) (k2 : ∀ b o, hp.get? b = some o → h2.get? b = some o) (hs : hp.objs.size ≤ h2.objs.size) (E : End1 h2 h' x C dx t1 m1) (r : ∀ f, RelO (fs.lookup f) (m1 f)) (q : ∀ a dx, H a = none → H dx = none → dx ≠ a → Q (.ref a) (upd (upd H dx (exd dx fs)) a (exo a C (some dx)))) :
    EP X pins σ Q (.ref x) ⟨h', g, d, t', os⟩ := by
  have hd : hp.objs.size ≤ dx := Nat.le_trans hs E.new
  refine ⟨.ref x, _, two_new (t' := t') (a := x) (b := dx) (o := exo x C (some dx)) (u := exd dx fs) I (fun c z y => E.keep c z (Nat.ne_of_lt (Nat.lt_of_lt_of_le (Heap.lt_size y) hx)) (k2 c z y)) hx hd E.ne (exo_ok E.obj) (exd_ok E.ns r), rfl, q x dx (I.hok.fresh hx) (I.hok.fresh hd) E.ne⟩
/-- an attribute of a made exception -/
def tXv (K : PySem.W.Frag) (f : Str) (te : TE) : TE := fun σ H Q => te σ H fun x H1 => ∃ (a C : Addr) (fs : List (Str × V)) (v : V), x = .ref a ∧ Xv H1 a C fs ∧ XR K C ∧ PySem.W.findIn K (.ref C) f = some none ∧ fs.lookup f = some v ∧ Q v H1
theorem Xv.inst {pins : List (Addr × Obj)} {σ : L2.St} {H : Hp} {s : Shared} {a C : Addr} {fs : List (Str × V)} (I : Inv X pins σ H s) (h : Xv H a C fs) : ∃ ox od, PySem.W.InstAt s.heap a ox C (some od) ∧ ∀ f v, fs.lookup f = some v → ∃ u, RelV v u ∧ PySem.W.lookIn f od = some (some u) := by
  obtain ⟨dx, ea, ed⟩ := h
  obtain ⟨t1, ho⟩ := exo_at I.hok ea
  obtain ⟨mA, hns, hr⟩ := exd_at I.hok ed
  obtain ⟨oD, hD, hl⟩ := lookIn_ns hns
  refine ⟨_, oD, ⟨ho, rfl, rfl, hD⟩, fun f v e => ?_⟩
  have z := hr f
  rw [e] at z
  obtain ⟨u, hu, ru⟩ := RelO.some_of (v := v) (o := mA f) z
  exact ⟨u, ru, by rw [hl, hu]⟩
theorem pe_xv {e : Expr} {te : TE} {pos : Pos} {n : Str} (he : PE X e te) (hb : attributeBase e n X.env (eval e X.env) = eval e X.env := by rfl) : PE X (.Attribute e n pos) (tXv X.K n te) := by
  refine ⟨fun pins s σ H Q I h => ?_⟩
  refine attr_of hb (thn (he.run pins s σ H _ I h) fun u s1 hh => ?_)
  obtain ⟨x, H1, I1, rx, a, C, fs, v, ex, hX, T, hno, hl, q⟩ := hh
  subst ex
  obtain rfl : u = Value.ref a := rx
  obtain ⟨ox, od, J, hf⟩ := hX.inst I1
  obtain ⟨u, ru, hu⟩ := hf _ _ hl
  exact HandSPX.exc_get I1.kIn J T.fld.ga T.fld.gg T.fld.exC (PySem.W.findObj_own T.fld.hdC hno rfl hu) (handed_of ru) ⟨v, H1, I1.tok _, ru, q⟩
/-- __init__ at work, by whatever arguments -/
def InitDoes (X : Cx) (C fI : Addr) (ua : List Value) (kw : List (Str × Value)) (m1 : Str → Option Value) : Prop := ∀ (A : Around) (R : Result → Shared → Prop) (s : Shared) (x t0 : Addr) (mb : Str → Option Value), X.K.In s.heap → s.heap.Ns mainGlobals X.mg → s.heap.Ns builtinsNs mb →
  mb "super" = some (.type "super") → s.heap.NoLimit → s.heap.get? x = some (excO C t0) → X.K.lookup x = none → A.depth < recursionLimit →
  (∀ h' tk dx t1, End1 s.heap h' x C dx t1 m1 → R (.ok (.ret .none)) { s with heap := h', toks := tk }) → codeAny (model X.prog X.w) A (.call (.ref fI) ⟨.ref x :: ua, kw⟩) R s
theorem boot_super : bootBuiltins "super" = some (.type "super") := by first | rfl | kernel_rfl
theorem run_gen {C fI : Addr} {k : Nat} {pins : List (Addr × Obj)} {σ : L2.St} {H : Hp} {s : Shared} {Q : VK} {ua : List Value} {kw : List (Str × Value)} {m1 : Str → Option Value} {fs : List (Str × V)} (T : XC X.K C) (iC : PySem.W.findIn X.K (.ref C) "__init__" = some (some (.ref fI))) (tI : PySem.W.typeIn X.K (.ref fI) = some (.type "function"))
    (hr : Room k X.A) (hz : ua.length ≤ sizeLine) (D : InitDoes X C fI ua kw m1) (I : Inv X pins σ H s) (r : ∀ f, RelO (fs.lookup f) (m1 f)) (q : ∀ a dx, H a = none → H dx = none → dx ≠ a → Q (.ref a) (upd (upd H dx (exd dx fs)) a (exo a C (some dx)))) :
    wpAny (model X.prog X.w) X.A (call (.ref C) ua kw) (EP X pins σ Q) X.xe s := by
  obtain ⟨nm, qn, N, bs, bm, sn, sub, ab, col, dd, k0, k1, k2, k3, k5, hC, hbm⟩ := T.cls
  obtain ⟨mb, hb1, hb2⟩ := I.mod.blt
  have G := I.mod.glob.keeps I.bk
  have B := hb1.keeps I.bk
  have lim := I.nolimit
  have KI := I.kIn
  obtain ⟨hp, g, d, tk, os⟩ := s
  have kk : ∀ b o, hp.get? b = some o → ((hp.push (PySem.W.kdv_tup ua)).push (excO C hp.objs.size)).get? b = some o := fun b o e => Heap.get?_push_of_some _ (Heap.get?_push_of_some _ e)
  have new : ((hp.push (PySem.W.kdv_tup ua)).push (excO C hp.objs.size)).get? (hp.objs.size + 1) = some (excO C hp.objs.size) := by heap_get
  have nk : X.K.lookup (hp.objs.size + 1) = none := by
    cases e : X.K.lookup (hp.objs.size + 1) with
    | none => rfl
    | some o =>
      have z : hp.get? (hp.objs.size + 1) = some o := KI _ _ e
      exact absurd (Nat.lt_of_succ_lt (Heap.lt_size z)) (Nat.lt_irrefl _)
  refine wpAny_call (kw_own F.excBase_Exception (fun Y => upE_has Y bm hbm) (KI _ _ hC) (PySem.W.looks_findIn KI iC) (fun self => PySem.W.bind_fn KI self tI) hz ?_)
  refine D _ _ _ (hp.objs.size + 1) hp.objs.size mb (KI.keeps kk) (G.keeps kk) (B.keeps kk) ((hb2 _ (by decide)).trans boot_super) (lim.keeps kk) new nk ?_ fun h' t' dx t1 E => ?_
  · have := hr.dp
    show X.A.depth + 1 < recursionLimit
    omega
  · exact ⟨rfl, mk_fin I (Nat.le_succ _) kk (by rw [Heap.size_push, Heap.size_push]; omega) E r q⟩
theorem rel1 {f : Str} {v : V} {u : Value} (r : RelV v u) (g : Str) : RelO (List.lookup g [(f, v)]) (if g = f then some u else none) := relO_put (fs := []) (mA := fun _ => none) r (fun _ => True.intro) g
theorem rel2 {f f2 : Str} {v v2 : V} {u u2 : Value} (r : RelV v u) (r2 : RelV v2 u2) (g : Str) : RelO (List.lookup g [(f2, v2), (f, v)]) (if g = f2 then some u2 else if g = f then some u else none) := relO_put (fs := [(f, v)]) (mA := fun g => if g = f then some u else none) r2 (rel1 r) g
end
end K1
set_option Elab.async false
set_option linter.all false
set_option maxRecDepth 100000
set_option maxHeartbeats 2000000
namespace K1
open PySem PySem.Spec PyProof.Rows L2
open PySem.HandSPX (excO)
/-- the parameters of such an __init__ -/
def psI (p0 : Pos) (fs : List (Str × Pos)) : Arguments := { posonlyargs := [], args := { arg := "self", annotation := none, pos := p0 } :: fs.map fun q => { arg := q.1, annotation := none, pos := q.2 }, vararg := none, kwonlyargs := [], kw_defaults := [], kwarg := none, defaults := [] }
/-- what all defs' frames share -/
structure SupOk (P : Program) (mg : Str → Option Value) : Prop where
  g : mg "super" = none
  top : (P.main.scope.names.lookup ("super" : Str)).isSome = false
/-- a class of one field -/
structure X1 (P : Program) (K : PySem.W.Frag) (C : Addr) (f : Str) : Prop where
  T : XC K C
  I : ∃ fI p0 p1 p2 p3 p4 p5 r0 r1 r2 r3 q0 q1, XI P K C fI (psI q0 [(f, q1)]) [supS [.Name f p5] p0 p1 p2 p3 p4, setS f r0 r1 r2 r3] (scI [f]) ∧ Rev [f] [.Name f p5] p0 p1 p2 p3
  no : PySem.W.findIn K (.ref C) f = some none
/-- a class of two fields -/
structure X2 (P : Program) (K : PySem.W.Frag) (C : Addr) (f f2 : Str) : Prop where
  T : XC K C
  I : ∃ fI p0 p1 p2 p3 p4 p5 p6 r0 r1 r2 r3 z0 z1 z2 z3 q0 q1 q2, XI P K C fI (psI q0 [(f, q1), (f2, q2)]) [supS [.Name f p5, .Name f2 p6] p0 p1 p2 p3 p4, setS f r0 r1 r2 r3, setS f2 z0 z1 z2 z3] (scI [f, f2]) ∧ Rev [f, f2] [.Name f p5, .Name f2 p6] p0 p1 p2 p3
  no : PySem.W.findIn K (.ref C) f = some none
  no2 : PySem.W.findIn K (.ref C) f2 = some none
theorem one_fits (n : Nat) (h : n ≤ 1000) : n ≤ sizeLine := by rw [sizeLine_eq]; omega
/-- how the parameters take values, by place and by name -/
def Bd (fs : List Str) (qs : List Pos) (us : List Value) (kw : List (Str × Value)) (vs : List Value) : Prop := ∀ (q : Str) (q0 : Pos) (body : List Stmt) (kV doc pm : Value) (an : Option Addr) (cda : Addr) (ct : Value) (cc : Addr) (x : Addr),
  bindArgs (PySem.W.ksFn "__init__" q (psI q0 (fs.zip qs)) body (scI fs) .none kV doc pm an (.ref cda) ct cc) ⟨.ref x :: us, kw⟩ = pure ((("self" : Str), Value.ref x) :: fs.zip vs)
section
variable {X : Cx} {C : Addr} {f f2 : Str} {k : Nat}
theorem does1 (S : SupOk X.prog X.mg) (T : X1 X.prog X.K C f) {ua : List Value} {kw : List (Str × Value)} {u : Value} (hb : ∀ q1, Bd [f] [q1] ua kw [u]) (hfs : (("self" : Str) == f) = false) (hfd : (f == ("__debug__" : Str)) = false) (hl : (scI [f]).names.lookup f = some .local) :
    ∃ fI, PySem.W.findIn X.K (.ref C) "__init__" = some (some (.ref fI)) ∧ PySem.W.typeIn X.K (.ref fI) = some (.type "function") ∧ InitDoes X C fI ua kw fun y => if y = f then some u else none := by
  obtain ⟨fI, p0, p1, p2, p3, p4, p5, r0, r1, r2, r3, q0, q1, I, hv⟩ := T.I
  refine ⟨fI, I.at_, I.ty, fun A R s x t0 mb KI G B bS lim hx nx hroom hq => ?_⟩
  exact init1 T.T I KI G S.g B bS lim hx nx hroom S.top hv T.no (fun q kV doc pm an cda ct cc => hb q1 q q0 _ kV doc pm an cda ct cc x) hfs hfd hl hq
theorem does2 (S : SupOk X.prog X.mg) (T : X2 X.prog X.K C f f2) {ua : List Value} {kw : List (Str × Value)} {u u2 : Value} (hb : ∀ q1 q2, Bd [f, f2] [q1, q2] ua kw [u, u2]) (hfs : (("self" : Str) == f) = false) (hfs2 : (("self" : Str) == f2) = false) (hff : (f == f2) = false) (hfd : (f == ("__debug__" : Str)) = false) (hfd2 : (f2 == ("__debug__" : Str)) = false)
    (hl : (scI [f, f2]).names.lookup f = some .local) (hl2 : (scI [f, f2]).names.lookup f2 = some .local) :
    ∃ fI, PySem.W.findIn X.K (.ref C) "__init__" = some (some (.ref fI)) ∧ PySem.W.typeIn X.K (.ref fI) = some (.type "function") ∧ InitDoes X C fI ua kw fun y => if y = f2 then some u2 else if y = f then some u else none := by
  obtain ⟨fI, p0, p1, p2, p3, p4, p5, p6, r0, r1, r2, r3, z0, z1, z2, z3, q0, q1, q2, I, hv⟩ := T.I
  refine ⟨fI, I.at_, I.ty, fun A R s x t0 mb KI G B bS lim hx nx hroom hq => ?_⟩
  exact init2 T.T I KI G S.g B bS lim hx nx hroom S.top hv T.no T.no2 (fun q kV doc pm an cda ct cc => hb q1 q2 q q0 _ kV doc pm an cda ct cc x) hfs hfs2 hff hfd hfd2 hl hl2 hq
theorem run1P (S : SupOk X.prog X.mg) (hr : Room k X.A) (T : X1 X.prog X.K C f) (hb : ∀ u q1, Bd [f] [q1] [u] [] [u]) (hfs : (("self" : Str) == f) = false := by decide) (hfd : (f == ("__debug__" : Str)) = false := by decide) (hl : (scI [f]).names.lookup f = some .local := by decide) : MkRun X C 1 [] fun vs => [f].zip vs := by
  intro pins σ H s us vs Q I r l q
  rw [if_pos rfl]
  match vs, us, r, l with
  | [v], [u], .cons rv .nil, _ =>
    obtain ⟨fI, a1, a2, D⟩ := does1 S T (hb u) hfs hfd hl
    exact run_gen T.T a1 a2 hr (one_fits _ (by simp)) D I (rel1 rv) q
theorem run1W (S : SupOk X.prog X.mg) (hr : Room k X.A) (T : X1 X.prog X.K C f) (hb : ∀ u q1, Bd [f] [q1] [] [(f, u)] [u]) (hfs : (("self" : Str) == f) = false := by decide) (hfd : (f == ("__debug__" : Str)) = false := by decide) (hl : (scI [f]).names.lookup f = some .local := by decide) : MkRun X C 1 [f] fun vs => [f].zip vs := by
  intro pins σ H s us vs Q I r l q
  rw [if_neg (by simp)]
  match vs, us, r, l with
  | [v], [u], .cons rv .nil, _ =>
    obtain ⟨fI, a1, a2, D⟩ := does1 S T (hb u) hfs hfd hl
    exact run_gen T.T a1 a2 hr (one_fits _ (by simp)) D I (rel1 rv) q
theorem run2P (S : SupOk X.prog X.mg) (hr : Room k X.A) (T : X2 X.prog X.K C f f2) (hb : ∀ u u2 q1 q2, Bd [f, f2] [q1, q2] [u, u2] [] [u, u2]) (hfs : (("self" : Str) == f) = false := by decide) (hfs2 : (("self" : Str) == f2) = false := by decide) (hff : (f == f2) = false := by decide) (hfd : (f == ("__debug__" : Str)) = false := by decide) (hfd2 : (f2 == ("__debug__" : Str)) = false := by decide)
    (hl : (scI [f, f2]).names.lookup f = some .local := by decide) (hl2 : (scI [f, f2]).names.lookup f2 = some .local := by decide) : MkRun X C 2 [] fun vs => ([f, f2].zip vs).reverse := by
  intro pins σ H s us vs Q I r l q
  rw [if_pos rfl]
  match vs, us, r, l with
  | [v, v2], [u, u2], .cons rv (.cons rv2 .nil), _ =>
    obtain ⟨fI, a1, a2, D⟩ := does2 S T (hb u u2) hfs hfs2 hff hfd hfd2 hl hl2
    exact run_gen T.T a1 a2 hr (one_fits _ (by simp)) D I (rel2 rv rv2) q
theorem run2W (S : SupOk X.prog X.mg) (hr : Room k X.A) (T : X2 X.prog X.K C f f2) (hb : ∀ u u2 q1 q2, Bd [f, f2] [q1, q2] [] [(f2, u2), (f, u)] [u, u2]) (hfs : (("self" : Str) == f) = false := by decide) (hfs2 : (("self" : Str) == f2) = false := by decide) (hff : (f == f2) = false := by decide) (hfd : (f == ("__debug__" : Str)) = false := by decide) (hfd2 : (f2 == ("__debug__" : Str)) = false := by decide)
    (hl : (scI [f, f2]).names.lookup f = some .local := by decide) (hl2 : (scI [f, f2]).names.lookup f2 = some .local := by decide) : MkRun X C 2 [f2, f] fun vs => [f2, f].zip vs := by
  intro pins σ H s us vs Q I r l q
  rw [if_neg (by simp)]
  match vs, us, r, l with
  | [v2, v], [u2, u], .cons rv2 (.cons rv .nil), _ =>
    obtain ⟨fI, a1, a2, D⟩ := does2 S T (hb u u2) hfs hfs2 hff hfd hfd2 hl hl2
    exact run_gen T.T a1 a2 hr (one_fits _ (by simp)) D I (rel2 rv rv2) q
theorem bd_given : (∀ u q1, Bd ["given"] [q1] [u] [] [u]) ∧ ∀ u q1, Bd ["given"] [q1] [] [("given", u)] [u] := ⟨fun _ _ _ _ _ _ _ _ _ _ _ _ _ => rfl, fun _ _ _ _ _ _ _ _ _ _ _ _ _ => rfl⟩
theorem bd_index : (∀ u q1, Bd ["index"] [q1] [u] [] [u]) ∧ ∀ u q1, Bd ["index"] [q1] [] [("index", u)] [u] := ⟨fun _ _ _ _ _ _ _ _ _ _ _ _ _ => rfl, fun _ _ _ _ _ _ _ _ _ _ _ _ _ => rfl⟩
theorem bd_reason : (∀ u q1, Bd ["reason"] [q1] [u] [] [u]) ∧ ∀ u q1, Bd ["reason"] [q1] [] [("reason", u)] [u] := ⟨fun _ _ _ _ _ _ _ _ _ _ _ _ _ => rfl, fun _ _ _ _ _ _ _ _ _ _ _ _ _ => rfl⟩
theorem bd_read : (∀ u u2 q1 q2, Bd ["row", "word"] [q1, q2] [u, u2] [] [u, u2]) ∧ ∀ u u2 q1 q2, Bd ["row", "word"] [q1, q2] [] [("word", u2), ("row", u)] [u, u2] := ⟨fun _ _ _ _ _ _ _ _ _ _ _ _ _ _ _ => rfl, fun _ _ _ _ _ _ _ _ _ _ _ _ _ _ _ => rfl⟩
theorem bd_clash : (∀ u u2 q1 q2, Bd ["place", "maker"] [q1, q2] [u, u2] [] [u, u2]) ∧ ∀ u u2 q1 q2, Bd ["place", "maker"] [q1, q2] [] [("maker", u2), ("place", u)] [u, u2] := ⟨fun _ _ _ _ _ _ _ _ _ _ _ _ _ _ _ => rfl, fun _ _ _ _ _ _ _ _ _ _ _ _ _ _ _ => rfl⟩
end
end K1
set_option Elab.async false
set_option linter.all false
set_option maxRecDepth 100000
set_option maxHeartbeats 2000000
/-! Promises of defs that may call repr: as FnOk, where no repr is at work around. -/
namespace K1
open PySem PySem.Spec PyProof.Rows L2
structure FnG (P : Program) (w : World) (K : PySem.W.Frag) (mg : Str → Option Value) (base : Heap) (CX : CXT) (k : Nat) (f : Addr) (fd : FuncData) (ps : List Str) (sp : Sp) : Prop where
  len : ∀ vs H Q E, sp vs H Q E → vs.length = ps.length
  go : ∀ (A : Around) (out : List Env) (s : Shared) (H : Hp) (args : Args) (us : List Value) (vs : List V) (Q : VK) (E : XK), A.guards = some [] → Room k A → Env0 P w K mg base A out s H → BindsTo s fd args (ps.zip us) → Vals vs us → sp vs H Q E → codeAny (model P w) A (.call (.ref f) args) (CR CX out P w H s Q E) s
section
variable {CX : CXT} {P : Program} {w : World} {K : PySem.W.Frag} {mg : Str → Option Value} {base : Heap} {k : Nat} {f : Addr}
theorem fnG_of {name qual : Str} {params : Arguments} {body : List Stmt} {scope : Scope} {dvs : List V} {kws : List (Str × V)} {fd : FuncData} {N ps : List Str} {sp : Sp} (D : FunD K name qual params body scope dvs kws f fd) (Sc : FnScope N ps scope) (len : ∀ vs H Q E, sp vs H Q E → vs.length = ps.length)
    (bd : ∀ (cdv : Value) (A : Around) (out : List Env) (s : Shared) (H : Hp) (vs : List V) (Q : VK) (E : XK), A.guards = some [] → Room k (A.deeper (envOfC qual scope s.heap.objs.size f cdv)) → sp vs H Q E → ∃ t, PSs (cxOf CX P w K mg base N qual scope f cdv A out s H E) body t ∧ t { nx := fun _ H' => Q .non H', rt := Q } (L2.start N vs) H) :
    FnG P w K mg base CX (k + 1) f fd ps sp := by
  obtain ⟨oc, od, dV, kV, doc, pm, an, cdv, ct, osl, rfl, lk, hcd, _, _⟩ := D.ex
  refine ⟨len, fun A out s H args us vs Q E hg hr e0 hb r hsp => ?_⟩
  have hl := len _ _ _ _ hsp
  have up : ∀ b o, base.get? b = some o → s.heap.get? b = some o := fun b o e => (e0.bs b o e).1
  have KX : K.In s.heap := e0.mod.kin.keeps up
  have lim : s.heap.NoLimit := e0.mod.nolimit.keeps up
  have knd : ∀ y ∈ ps.zip us, scope.names.lookup y.1 = some .local ∨ (scope.names.lookup y.1 = some .cell ∧ ((cellsFrom (s.heap.objs.size + 1) scope.names []).lookup y.1).isSome = true) := fun ⟨n, v⟩ hy =>
    (Sc.par n (List.of_mem_zip hy).1).elim .inl fun q => .inr ⟨q, PySem.W.cellsFrom_some _ _ _ (.inl q)⟩
  refine codeAny_call_function hr.depth (KX _ _ lk) rfl Sc.co Sc.gen rfl (PySem.W.codeRec_of KX hcd) (hb _ _ _ _ (wpAny_newFunctionEnv_cells Sc.kind knd fun env he s1 x => ?_))
  subst he
  refine ⟨lim.keeps x.toInCall.keep, codeAny_func ?_⟩
  obtain ⟨t, ht, hq⟩ := bd cdv A out s H vs Q E hg (hr.deeper _) hsp
  have I : Inv (cxOf CX P w K mg base N qual scope f cdv A out s H E) [] (L2.start N vs) H s1 := inv_start Sc hr.hd e0 hl r x
  refine wpAny_mono (ht.run [] s1 (L2.start N vs) H _ I hq) (fun fl s' hs => ?_) fun e s' hs => hs
  rcases fl with _ | _ | _ | u
  · obtain ⟨σ', H', J, q⟩ := hs
    exact ⟨.non, H', J.os, J.bare, J.base, J.hok, rfl, q⟩
  · exact hs.elim fun _ z => z.elim fun _ z => z.2.elim
  · exact hs.elim fun _ z => z.elim fun _ z => z.2.elim
  · obtain ⟨v, σ', H', J, rv, q⟩ := hs
    exact ⟨v, H', J.os, J.bare, J.base, J.hok, rv, q⟩
end
section
variable {X : Cx} {CX : CXT} {k : Nat} {f : Addr} {fd : FuncData} {ps : List Str} {sp : Sp} {dvs : List V} {ds : List Value} {E : XK} {x : Str} {p pos : Pos} {e : Expr} {es : List Expr} {t : TA}
theorem pe_callG (F : FnG X.prog X.w X.K X.mg X.base CX k f fd ps sp) (hG : X.A.guards = some []) (hr : Room k X.A) (hg : Gl X x) (hm : X.mg x = some (.ref f)) (hk : PySem.W.keepIn X.K (.ref f) = true) (hb : Binds X.K fd ps ds) (hd : Vals dvs ds) (hx : Passes CX X E)
    (ha : PA X (e :: es) t) (hdb : (x == ("__debug__" : Str)) = false := by decide) (he : starEach (e :: es) X.env = (false, eval e X.env) :: starEach es X.env := by rfl) (hpl : (backTo pos (starEach es X.env)).any (·.1) = false := by rfl) :
    PE X (.Call (.Name x p) (e :: es) [] pos) (tCall sp dvs E t) := by
  refine ⟨fun pins s σ H Q I h => ?_⟩
  refine wpAny_Call_Name_kw (ld_glob I hg hm ?_ hdb)
  refine PySem.W.callWith_K (h₀ := X.base) I.ok.mod.kin hk (thn (ha.run pos pins s σ H _ I h) fun us s1 ⟨vs, H1, J, r, q⟩ => ⟨J.kIn, ?_⟩) he hpl
  have r2 : Vals (vs ++ dvs) (us ++ ds) := r.append hd
  have hl : (us ++ ds).length = ps.length := r2.length.symm.trans (F.len _ _ _ _ q)
  refine wpAny_call (codeAny_mono (F.go X.A X.stack s1 H1 ⟨us, []⟩ (us ++ ds) (vs ++ dvs) Q E hG hr J.env0 (hb s1 us J.kIn hl) r2 q) fun z s' hq => ?_)
  rcases z with er | _ | _ | _ | u
  · exact hx pins σ H1 s1 er s' J hq
  · exact hq.elim
  · exact hq.elim
  · exact hq.elim
  · exact J.after hq
end
/-- the law's call, from such a promise -/
theorem law_callG {P : Program} {w : World} {K : PySem.W.Frag} {mg mb : Str → Option Value} {CX : CXT} {k : Nat} {fa a : Addr} {fd : FuncData} {x : Str} {sp : Sp} {z : Shared} {vs : List Value} {ns : List Int} (KX : K.In z.heap) (gns : z.heap.Ns mainGlobals mg) (gb : z.heap.Ns builtinsNs mb) (gbb : ∀ x : Str, x ≠ "__name__" → mb x = bootBuiltins x)
    (lim : z.heap.NoLimit) (bare : z.gens = #[]) (ha : z.heap.get? a = some { cls := .type "list", data := .seq vs.toArray }) (hi : IntsAre vs ns) (hl : ns.length ≤ sizeLine) (hr : Room k callerA) (F : ∀ base : Heap, K.In base → base.Ns mainGlobals mg → FnG P w K mg base CX k fa fd [x] sp)
    (hbind : ∀ (s : Shared) (u : Value), BindsTo s fd ⟨[u], []⟩ [(x, u)]) (hsp : ∀ H : Hp, Only H → SqL K H a (ns.map V.int) → sp [.ref a] H (fun v _ => v = .bl true) fun _ _ _ => False) (hCX : ∀ H e s', CX [] H z (fun _ _ _ => False) e s' → False) :
    codeAny (model P w) callerA (.call (.ref fa) ⟨[.ref a], []⟩) (fun r s' => r = .ok (.ret (.bool true)) ∧ OldK z.heap s'.heap ∧ s'.os = z.os ∧ AllBare s'.gens) z := by
  have rv := vals_ints hi
  have main : ∀ H : Hp, Only H → SqL K H a (ns.map V.int) → HOk P w H z.heap → (∀ b, H b ≠ none → b = a) → (H a ≠ none → K.lookup a = none) →
      codeAny (model P w) callerA (.call (.ref fa) ⟨[.ref a], []⟩) (fun r s' => r = .ok (.ret (.bool true)) ∧ OldK z.heap s'.heap ∧ s'.os = z.os ∧ AllBare s'.gens) z := by
    intro H hO hS hok hA hK
    have old : ∀ {b : Addr} {o : Obj}, z.heap.get? b = some o → H b = none → (hidT z.heap H).get? b = some o := fun e n => hidT_get e n
    have free : ∀ {b : Addr} {o : Obj}, z.heap.get? b = some o → (∀ vs n, o.data ≠ .seq vs n) → H b = none := fun {b o} e d => by
      cases q : H b with
      | none => rfl
      | some u =>
        have e' : b = a := hA b (by simp [q])
        subst e'
        rw [ha] at e
        cases e
        exact (d _ _ rfl).elim
    have nsK : ∀ {b : Addr} {m : Str → Option Value}, z.heap.Ns b m → (hidT z.heap H).Ns b m := fun {b m} ⟨o, es, ep, e, d, r⟩ => ⟨o, es, ep, old e (free e fun vs n y => by rw [d] at y; cases y), d, r⟩
    have hKb : K.In (hidT z.heap H) := fun b o e => old (KX b o e) (by
      cases q : H b with
      | none => rfl
      | some u =>
        have e' : b = a := hA b (by simp [q])
        subst e'
        rw [hK (by simp [q])] at e
        cases e)
    have md : Mod K mg (hidT z.heap H) := ⟨hKb, nsK gns, ⟨mb, nsK gb, gbb⟩, let ⟨mc, h1, h2⟩ := lim; ⟨mc, nsK h1, h2⟩⟩
    have e0 : Env0 P w K mg (hidT z.heap H) callerA [] z H := ⟨rfl, md, fun b o e => of_hidT e, Nat.le_of_eq (hidT_size _ _), trivial, fun b q => absurd (show b ∈ ([] : List Addr) from q) (by simp), hok, .of_eq bare⟩
    refine codeAny_mono ((F _ hKb (nsK gns)).go callerA [] z H ⟨[.ref a], []⟩ [.ref a] [.ref a] _ _ rfl hr e0 (hbind z (.ref a)) (.cons rfl .nil) (hsp H hO hS)) fun r s' h => ?_
    rcases r with e | _ | _ | _ | u
    · exact (hCX H e s' h).elim
    · exact h.elim
    · exact h.elim
    · exact h.elim
    · obtain ⟨v, H', os, bare', un, hok', r', q⟩ := h
      have q' : v = .bl true := q
      subst q'
      obtain rfl : u = Value.bool true := r'
      refine ⟨rfl, OldK.of_keep fun b o e => ?_, os, bare'⟩
      cases q : H b with
      | none => exact un.keep b o e q (fun y => absurd (show b ∈ ([] : List Addr) from y) (by simp)) (by simp)
      | some u =>
        rcases hO b with y | ⟨ob, xs, y⟩
        · rw [q] at y
          cases y
        · have y2 := un.frzs b ob _ y
          obtain ⟨e1, _⟩ := hok b _ y
          obtain ⟨e2, _⟩ := hok' b _ y2
          rw [e] at e1
          cases e1
          exact e2
  cases hk : K.lookup a with
  | some o =>
    have e := KX a o hk
    rw [ha] at e
    cases e
    refine main (fun _ => none) (fun _ => .inl rfl) (.inr ⟨_, vs.toArray, _, hk, rfl, rfl, rfl, by rw [List.size_toArray, hi.length]; exact hl, by simpa using rv⟩) (fun b u y => ?_) (fun b y => absurd rfl y) fun y => absurd rfl y
    have y' : (none : Option HO) = some u := y
    cases y'
  | none =>
    refine main (fun b => if b = a then some (.frz { cls := .type "list", data := .seq vs.toArray } (.lst (ns.map V.int))) else none) (fun b => ?_) (.inl (.inr ⟨_, if_pos rfl⟩)) (fun b u y => ?_) (fun b y => ?_) fun _ => hk
    all_goals by_cases hb : b = a
    · exact .inr ⟨_, _, if_pos hb⟩
    · exact .inl (if_neg hb)
    · have y' := (if_pos hb).symm.trans y
      cases y'
      subst hb
      exact ⟨ha, by simpa using hl, vs, _, rv, ha⟩
    · have y' := (if_neg hb).symm.trans y
      cases y'
    · exact hb
    · exact absurd (if_neg hb) y
theorem walkG {l : PySem.W.OpenLaw} {n k : Nat} {q : Program} {loose : List Str} {XP : (Str → Option Value) → Heap → Prop} {YP : World → Heap → Prop} {d : DefRec} {CX : CXT} {x : Str} (hn : l.most = some n) (hn2 : n ≤ sizeLine) (hdf : d.params.defaults = []) (hr : Room k callerA)
    (F : ∀ (w : World) (mg : Str → Option Value) (fa : Addr) (h : Heap), YP w h → h.Ns mainGlobals mg → mg d.name = some (.ref fa) → ∃ (K : PySem.W.Frag) (fd : FuncData) (sp : Sp), K.In h ∧ (∀ (s : Shared) (u : Value), BindsTo s fd ⟨[u], []⟩ [(x, u)]) ∧
      (∀ (H : Hp) (a : Addr) (ns : List Int), ns.length ≤ n → Only H → SqL K H a (ns.map V.int) → sp [.ref a] H (fun v _ => v = .bl true) fun _ _ _ => False) ∧ ∀ base : Heap, K.In base → base.Ns mainGlobals mg → FnG l.prog w K mg base CX k fa fd [x] sp)
    (hCX : ∀ (H : Hp) (s : Shared) (e : Value) (s' : Shared), CX [] H s (fun _ _ _ => False) e s' → False) : PySem.W.WalkO q loose XP YP l.row.toRowW d [] (fun f vs => PySem.call f vs) := by
  refine Att.attach_call hn hdf fun w _ s1 mg mb fa o pm cd doc a vs ns G Y ho hd hcd hmg hobj hints hlen hg => ?_
  obtain ⟨K, fd, sp, KX, hb, hsp, hF⟩ := F w mg fa _ Y G.T.g hmg
  exact law_callG KX G.T.g G.T.b G.T.builtins G.T.nolimit hg hobj hints (Nat.le_trans hlen hn2) hr hF hb (fun H hO hS => hsp H a ns hlen hO hS) fun H e s' => hCX H s1 e s'
end K1
set_option Elab.async false
set_option linter.all false
set_option maxRecDepth 100000
set_option maxHeartbeats 2000000
/-! repr of data; isinstance of a made exception; an exception class without own __init__. -/
namespace K1
open PySem PySem.Spec PyProof.Rows L2
open PySem.HandSPX (excO)
mutual
inductive Dq (K : PySem.W.Frag) (H : Hp) : V → PyData → Prop
  | non : Dq K H .non .none
  | bl (b : Bool) : Dq K H (.bl b) (.bool b)
  | int (i : Int) : Dq K H (.int i) (.int i)
  | str (x : Str) : Dq K H (.str x) (.str x)
  | lst {a : Addr} {xs : List V} {ds : List PyData} : H a = some (.lst xs) → DqAll K H xs ds → Dq K H (.ref a) (.list ds)
  | tup {a : Addr} {xs : List V} {ds : List PyData} : SqT K H a xs → DqAll K H xs ds → Dq K H (.ref a) (.tuple ds)
  | dk1 {a : Addr} {x : Str} {i : Int} : H a = some (.dK [(.inr x, .int i)]) → Dq K H (.ref a) (.dict [(.str x, .int i)])
inductive DqAll (K : PySem.W.Frag) (H : Hp) : List V → List PyData → Prop
  | nil : DqAll K H [] []
  | cons {v : V} {vs : List V} {d : PyData} {ds : List PyData} : Dq K H v d → DqAll K H vs ds → DqAll K H (v :: vs) (d :: ds)
end
theorem DqAll.rep {K : PySem.W.Frag} {H : Hp} {v : V} {d : PyData} (h : Dq K H v d) : ∀ n, DqAll K H (List.replicate n v) (List.replicate n d)
  | 0 => .nil
  | n + 1 => .cons h (DqAll.rep h n)
/-- the dict of modules stands in the written part -/
def SysK (K : PySem.W.Frag) : Prop := ∃ o, K.lookup sysModules = some o ∧ o.cls = .type "dict"
section
variable {X : Cx} {pins : List (Addr × Obj)} {σ : L2.St} {H : Hp} {s : Shared}
mutual
theorem Dq.reads (Z : SysK X.K) (I : Inv X pins σ H s) : ∀ (d : PyData) (v : V) (u : Value), Dq X.K H v d → RelV v u → ∃ as, Reads s.heap u d as ∧ sysModules ∉ as
  | .none, _, _, h, r => by
    cases h; cases r
    exact ⟨_, Reads.none, by simp⟩
  | .bool b, _, _, h, r => by
    cases h; cases r
    exact ⟨_, Reads.bool b, by simp⟩
  | .int i, _, _, h, r => by
    cases h
    obtain ⟨t, rfl⟩ := r
    exact ⟨_, Reads.int i t, by simp⟩
  | .str x, _, _, h, r => by
    cases h
    obtain ⟨t, rfl⟩ := r
    exact ⟨_, Reads.str x t, by simp⟩
  | .list ds, _, _, h, r => by
    cases h with
    | @lst a xs _ hs ha =>
      cases r
      obtain ⟨_, its, n, rv, hg⟩ := (show ObjOk X.prog X.w H s.heap a (.lst xs) from I.hok a _ hs)
      obtain ⟨as, hr, hn⟩ := Dq.readsAll Z I ds _ its ha rv
      refine ⟨_, Reads.list hg rfl rfl (by simpa using hr), ?_⟩
      rintro hm
      rcases List.mem_cons.mp hm with e | hm
      · obtain ⟨o, ho, hc⟩ := Z
        have z := I.kIn _ _ ho
        rw [e, hg] at z
        have z' := Option.some.inj z
        rw [← z'] at hc
        have hc' : ("list" : String) = "dict" := by injection hc
        exact absurd hc' (by decide)
      · exact hn hm
  | .tuple ds, _, _, h, r => by
    cases h with
    | tup hs ha =>
      cases r
      obtain ⟨its, rv, ⟨o, ho, hc, n, hd⟩, _⟩ := I.tuple hs
      obtain ⟨as, hr, hn⟩ := Dq.readsAll Z I ds _ its ha rv
      exact ⟨_, Reads.tuple ho hc hd hr, hn⟩
  | .dict ds, _, _, h, r => by
    cases h with
    | @dk1 a x i ha =>
      cases r
      obtain ⟨_, hm, vs, kv, o, es, ep, h1, h2, h3, h4, h5, _⟩ := (show ObjOk X.prog X.w H s.heap a (.dK [(.inr x, .int i)]) from I.hok a _ ha)
      cases kv with
      | @cons _ q _ _ k1 k2 =>
        cases k2
        generalize hes : es.toList = l at h5
        cases h5 with
        | @cons e _ es' _ p1 p2 p3 =>
          cases p3
          obtain ⟨q1, q2⟩ := q
          obtain ⟨k3, k4⟩ := k1
          have k3' : (Sum.inr x : Key) = q1 := k3
          subst k3'
          obtain ⟨t, k5⟩ := (show ∃ t, q2 = Value.int i t from k4)
          rcases keyIs_shape (show keyIs (Sum.inr x) e.key = true from p1) with ⟨_, _, z, _⟩ | ⟨y, t2, z, p1'⟩
          · cases z
          · cases z
            have p2' : e.val = .int i t := p2.trans k5
            refine ⟨_, Reads.dict (as := []) (bs := []) h1 h2.1 h3 ?_ ?_, ?_⟩
            · rw [hes]
              have := ReadsAll.cons (Reads.str (h := s.heap) x t2) (ReadsAll.nil (h := s.heap))
              simpa [p1'] using this
            · rw [hes]
              have := ReadsAll.cons (Reads.int (h := s.heap) i t) (ReadsAll.nil (h := s.heap))
              simpa [p2'] using this
            · simp only [List.append_nil, List.mem_singleton, List.cons_append, List.nil_append]
              intro e'
              rw [← e'] at hm
              simp at hm
theorem Dq.readsAll (Z : SysK X.K) (I : Inv X pins σ H s) : ∀ (ds : List PyData) (vs : List V) (us : List Value), DqAll X.K H vs ds → Vals vs us → ∃ as, ReadsAll s.heap us ds as ∧ sysModules ∉ as
  | [], _, _, h, r => by
    cases h; cases r
    exact ⟨_, ReadsAll.nil, by simp⟩
  | d :: ds, _, _, h, r => by
    cases h with
    | cons h1 h2 =>
      cases r with
      | cons r1 r2 =>
        obtain ⟨as, q1, n1⟩ := Dq.reads Z I d _ _ h1 r1
        obtain ⟨bs, q2, n2⟩ := Dq.readsAll Z I ds _ _ h2 r2
        exact ⟨_, ReadsAll.cons q1 q2, fun z => (List.mem_append.mp z).elim n1 n2⟩
end
end
/-- repr of a list or tuple or dict -/
def rRepr (K : PySem.W.Frag) : List V → Hp → VK → Prop := fun xs H Q => ∃ (a : Addr) (d : PyData), xs = [.ref a] ∧ Dq K H (.ref a) d ∧ d.showable = true ∧ d.shown.length ≤ sizeLine ∧ d.depth ≤ 100 ∧ Q (.str d.shown) H
section
variable {X : Cx}
theorem cr_repr {k : Nat} (hG : X.A.guards = some []) (hr : Room k X.A) (Z : SysK X.K) : CallR X (.builtin "repr") (rRepr X.K) := by
  intro pins s σ H xs us Q I r h
  obtain ⟨a, d, rfl, hd, sh, sz, dp, q⟩ := h
  obtain ⟨u, rfl, rx⟩ := vals1 r
  cases rx
  obtain ⟨as, hr', hn⟩ := Dq.reads Z I d _ _ hd (show RelV (.ref a) (.ref a) from rfl)
  refine repr_of_reads' hr' sh (fun _ => hn) hG (by have := hr.un; omega) (fun _ _ e => e) (fun h' u tk hk => ?_) sz
  exact ⟨.str d.shown, H, I.kept (t' := tk) hk, ⟨u, rfl⟩, q⟩
/-- isinstance of a made exception -/
def rIsX (K : PySem.W.Frag) : List V → Hp → VK → Prop := fun xs H Q => ∃ (a C : Addr) (d : Option Addr) (c : V) (u : Value) (b : Bool), xs = [.ref a, c] ∧ ClsV c u ∧ H a = some (exo a C d) ∧ (∀ dx, d = some dx → ∃ fs, H dx = some (exd dx fs)) ∧ XR K C ∧ PySem.W.kitOne K (.ref C) u = some b ∧ Q (.bl b) H
theorem cr_isX : CallR X (.builtin "isinstance") (rIsX X.K) := by
  intro pins s σ H xs us Q I r h
  obtain ⟨a, C, d, c, u, b, rfl, k, ha, hd, T, e, q⟩ := h
  obtain ⟨u1, u2, rfl, r1, r2⟩ := vals2 r
  cases r1
  have e2 := k.eq r2
  subst e2
  obtain ⟨t1, ho⟩ := exo_at I.hok ha
  have J : ∃ ox od, PySem.W.InstAt s.heap a ox C od := by
    cases d with
    | none => exact ⟨_, none, ⟨ho, rfl, rfl, trivial⟩⟩
    | some dx =>
      obtain ⟨fs, hf⟩ := hd dx rfl
      obtain ⟨mA, ⟨oD, _, _, hD, _⟩, _⟩ := exd_at I.hok hf
      exact ⟨_, some oD, ⟨ho, rfl, rfl, hD⟩⟩
  obtain ⟨ox, od, J⟩ := J
  exact PySem.W.kia_one (PySem.W.kitx_exc T.cls T.fld.ga T.fld.gg T.fld.exC T.ca T.sp T.tk T.ob) I.kIn J e (fun z => nomatch z) fun tk => ⟨.bl b, H, I.tok tk, rfl, q⟩
/-- C(), no own __init__ -/
def tMk0 (C : Addr) : TE := fun _ H Q => ∀ a, H a = none → Q (.ref a) (upd H a (exo a C none))
theorem pe_mk0 {C : Addr} {x : Str} {p pos : Pos} (hC : ∃ nm q N bs bm sn sub ab col dd k0 k1 k2 k3 k5, X.K.lookup C = some (excClassObj nm q C N bs bm true sn sub ab col dd k0 k1 k2 k3 k5 "Exception.__new__") ∧ upE bm = true) (iC : PySem.W.findIn X.K (.ref C) "__init__" = some (some (.builtin "Exception.__init__")))
    (kC : PySem.W.keepIn X.K (.ref C) = true) (hg : Gl X x) (hm : X.mg x = some (.ref C)) (hdb : (x == ("__debug__" : Str)) = false := by decide) : PE X (.Call (.Name x p) [] [] pos) (tMk0 C) := by
  refine ⟨fun pins s σ H Q I h => ?_⟩
  refine wpAny_Call_Name_kw (ld_glob I hg hm ?_ hdb)
  refine PySem.W.callWith_K0 I.kIn kC ?_
  obtain ⟨nm, qn, N, bs, bm, sn, sub, ab, col, dd, k0, k1, k2, k3, k5, hC, hbm⟩ := hC
  have KI := I.kIn
  obtain ⟨hp, g, d, tk, os⟩ := s
  refine PySem.W.call_B F.excBase_Exception (fun Y => upE_has Y bm hbm) (KI _ _ hC) (PySem.W.looks_findIn KI iC) (one_fits _ (by simp)) fun h' k he ht => ?_
  exact ⟨.ref (hp.objs.size + 1), _, I.laid (t' := tk) (a := hp.objs.size + 1) (o := exo (hp.objs.size + 1) C none) k (Nat.le_succ _) (exo_ok he), rfl, h _ (I.hok.fresh (Nat.le_succ _))⟩
end
end K1
set_option Elab.async false
set_option linter.all false
set_option maxRecDepth 100000
set_option maxHeartbeats 2000000
namespace K1
open PySem PySem.Spec PyProof.Rows L2
def top (i : Nat) : Stmt := PySem.Challenge.pw_flowtongue_k11_desks_led_back_and_equal.main.body.getD i (.Pass ⟨0, 0, 0, 0⟩)
abbrev FnP (K : PySem.W.Frag) (x : Str) (st : Stmt) (f : Addr) (fd : FuncData) : Prop := FunD K x x (defArgs st) (defBody st) (defScope st) [] [] f fd
def Lm (H : Hp) (l : Addr) : Prop := ∃ a b c : Int, H l = some (.lst [.int a, .int b, .int c]) ∧ 0 ≤ a ∧ a < 4294967296 ∧ 0 ≤ b ∧ b < 4294967296 ∧ 0 ≤ c
/-- a draw: a number below m; the loom goes on -/
def spShed : Sp := fun vs H Q _ => ∃ (l : Addr) (m : Int), vs = [.ref l, .int m] ∧ 0 < m ∧ m ≤ 1000 ∧ Lm H l ∧ ∀ (k a b c : Int), 0 ≤ k → k < m → 0 ≤ a → a < 4294967296 → 0 ≤ b → b < 4294967296 → 0 ≤ c → Q (.int k) (upd H l (.lst [.int a, .int b, .int c]))
theorem pIx {i : Int} {j : Nat} {p : Pos} : PlainIx (.Constant (.int i) j p) := fun _ _ => rfl
theorem ifT {c : Bool} {A B : Prop} (hc : c = true) (h : A) : if c = true then A else B := by rw [if_pos hc]; exact h
theorem ifF {c : Bool} {A B : Prop} (hc : c = false) (h : B) : if c = true then A else B := by rw [hc, if_neg Bool.false_ne_true]; exact h
section
variable {K : PySem.W.Frag} {σ : L2.St} {H : Hp} {Q : VK}
theorem r_ix {j : Nat} {i : Int} {l : Addr} {xs : List V} {v : V} (hs : σ[j]? = some (some (.ref l))) (hl : H l = some (.lst xs)) (ha : atI xs i = some v) (q : Q v H) : tOp (rIxL K) (tVar j) (tC (.int i)) σ H Q := ⟨_, hs, _, _, _, _, rfl, rfl, SqL.of hl, ha, q⟩
end
section
variable {P : Program} {w : World} {K : PySem.W.Frag} {mg : Str → Option Value} {base : Heap} {f : Addr} {fd : FuncData}
theorem scS : FnScope ["loom", "ends", "end"] ["loom", "ends"] (defScope (top 138)) := ⟨rfl, rfl, rfl, by decide +kernel, rfl, by decide +kernel, by decide +kernel⟩
theorem ok_shed (F : FnP K "_law_shed" (top 138) f fd) (gI : mg "int" = none) : FnOk P w K mg base CX0 1 f fd ["loom", "ends"] spShed := by
  refine F.ok scS (fun vs H Q E h => ?_) (fun cdv A outer s H vs Q E hr h => ⟨_, PSs.nox (pss_cons (ps_if (pt_cmpR op_gt (pe_ix ix_list (pv 0) pe_int pIx) pe_int (nomark _))
      (pss_cons (ps_set (i := 2) scS.nd rfl (Or.inl rfl) (pe_op op_mod (pe_callTy call_int1 rfl gI boot_int (pa_cons (pe_ix ix_list (pv 0) pe_int pIx) pa_nil)) (pv 1)))
      (pss_cons (ps_asg (pe_op op_fdivNN (pe_callTy call_int1 rfl gI boot_int (pa_cons (pe_ix ix_list (pv 0) pe_int pIx) pa_nil)) (pv 1)) (pg_sub (pv 0) pe_int set_list))
      (pss_one (ps_ret (pv 2))))) pss_nil)
    (pss_cons (ps_asg (pe_op op_mod (pe_callTy call_int1 rfl gI boot_int (pa_cons (pe_op op_add (pe_op op_mul (pe_ix ix_list (pv 0) pe_int pIx) pe_int) (pe_ix ix_list (pv 0) pe_int pIx)) pa_nil)) pe_int) (pg_sub (pv 0) pe_int set_list))
    (pss_cons (ps_asg (pe_op op_mod (pe_callTy call_int1 rfl gI boot_int (pa_cons (pe_op op_add (pe_op op_mul (pe_ix ix_list (pv 0) pe_int pIx) pe_int) pe_int) pa_nil)) pe_int) (pg_sub (pv 0) pe_int set_list))
    (pss_one (ps_ret (pe_op op_mod (pe_callTy call_int1 rfl gI boot_int (pa_cons (pe_op op_fdivNN (pe_ix ix_list (pv 0) pe_int pIx) pe_int) pa_nil)) (pv 1))))))), ?_⟩)
  · obtain ⟨l, m, rfl, _⟩ := h
    rfl
  · obtain ⟨l, m, rfl, hm, hm2, ⟨a, b, c, hl, a0, a1, b0, b1, c0⟩, q⟩ := h
    have hx : ∀ {i : Int} {v : V} {Q : VK} {σ : L2.St}, σ[0]? = some (some (V.ref l)) → atI [V.int a, V.int b, V.int c] i = some v → Q v H → tOp (rIxL K) (tVar 0) (tC (.int i)) σ H Q := fun hs ha q => r_ix hs hl ha q
    refine hx rfl rfl ⟨_, _, rfl, rfl, _, rfl, ?_⟩
    by_cases hc : (0 : Int) < c
    · refine ifT (decide_eq_true hc) ?_
      have e1 : c % m < m := Int.emod_lt_of_pos c hm
      have e2 : 0 ≤ c % m := Int.emod_nonneg c (by omega)
      have e3 : (((c.toNat / m.toNat : Nat) : Nat) : Int) = c / m := by rw [Int.natCast_ediv, Int.toNat_of_nonneg c0, Int.toNat_of_nonneg (by omega)]
      refine hx rfl rfl (.inl ⟨_, rfl, _, rfl, _, _, rfl, rfl, hm, hx rfl rfl (.inl ⟨_, rfl, _, rfl, c.toNat, m.toNat, by rw [Int.toNat_of_nonneg c0], by rw [Int.toNat_of_nonneg (by omega)], by omega, ?_⟩)⟩)
      refine ⟨_, rfl, _, _, _, 2, rfl, rfl, hl, rfl, _, rfl, ?_⟩
      rw [e3]
      exact q _ a b _ e2 e1 a0 a1 b0 b1 (Int.ediv_nonneg c0 (by omega))
    · refine ifF (decide_eq_false hc) ?_
      have w0 : 0 ≤ (a * 25173 + b) % 2147483249 := Int.emod_nonneg _ (by decide)
      have w1 : (a * 25173 + b) % 2147483249 < 2147483249 := Int.emod_lt_of_pos _ (by decide)
      have v0 : 0 ≤ (b * 5 + 13849) % 1000211 := Int.emod_nonneg _ (by decide)
      have v1 : (b * 5 + 13849) % 1000211 < 1000211 := Int.emod_lt_of_pos _ (by decide)
      have e : (((((a * 25173 + b) % 2147483249).toNat / 37 : Nat) : Nat) : Int) = (a * 25173 + b) % 2147483249 / 37 := by rw [Int.natCast_ediv, Int.toNat_of_nonneg w0]; rfl
      refine hx rfl rfl ⟨_, _, rfl, rfl, .inl (by omega), hx rfl rfl ⟨_, _, rfl, rfl, .inl ⟨_, rfl, _, _, rfl, rfl, (show (0 : Int) < 2147483249 by decide), ?_⟩⟩⟩
      refine ⟨_, rfl, _, _, _, 0, rfl, rfl, hl, rfl, ?_⟩
      refine r_ix (xs := [.int ((a * 25173 + b) % 2147483249), .int b, .int c]) rfl upd_same rfl ⟨_, _, rfl, rfl, .inl (by omega), _, _, rfl, rfl, .inl ⟨_, rfl, _, _, rfl, rfl, (show (0 : Int) < 1000211 by decide), ?_⟩⟩
      refine ⟨_, rfl, _, _, _, 1, rfl, rfl, upd_same, rfl, ?_⟩
      refine r_ix (xs := [.int ((a * 25173 + b) % 2147483249), .int ((b * 5 + 13849) % 1000211), .int c]) rfl upd_same rfl ⟨_, 37, by rw [Int.toNat_of_nonneg w0], rfl, by omega, .inl ⟨_, rfl, ?_⟩⟩
      refine ⟨_, rfl, _, _, rfl, rfl, hm, ?_⟩
      rw [e, upd_upd]
      exact q _ _ _ _ (Int.emod_nonneg _ (by omega)) (Int.emod_lt_of_pos _ hm) w0 (by omega) v0 (by omega) c0
/-- one among some things -/
def spAmong (K : PySem.W.Frag) : Sp := fun vs H Q _ => ∃ (l t : Addr) (xs : List V), vs = [.ref l, .ref t] ∧ H t = some (.lst xs) ∧ 0 < xs.length ∧ xs.length < 1000 ∧ Lm H l ∧ t ≠ l ∧ ∀ (k : Nat) (v : V) (a b c : Int), xs[k]? = some v → 0 ≤ a → a < 4294967296 → 0 ≤ b → b < 4294967296 → 0 ≤ c → Q v (upd H l (.lst [.int a, .int b, .int c]))
theorem scA : FnScope ["loom", "things"] ["loom", "things"] (defScope (top 139)) := ⟨rfl, rfl, rfl, by decide +kernel, rfl, by decide +kernel, by decide +kernel⟩
theorem ok_among {fS : Addr} {fdS : FuncData} (F : FnP K "_law_among" (top 139) f fd) (FS : FnP K "_law_shed" (top 138) fS fdS) (gS : mg "_law_shed" = some (.ref fS)) (gI : mg "int" = none) (gL : mg "len" = none) : FnOk P w K mg base CX0 2 f fd ["loom", "things"] (spAmong K) := by
  have GS : FnOk P w K mg base CX0 1 fS fdS ["loom", "ends"] spShed := ok_shed FS gI
  have bS : Binds K fdS ["loom", "ends"] [] := FS.bindsN fun _ _ _ _ _ _ us hl => match us, hl with | [_, _], _ => rfl
  refine F.ok scA (fun vs H Q E h => ?_) (fun cdv A outer s H vs Q E hr h => ⟨_, PSs.nox (pss_one (ps_ret (pe_ix ix_list (pv 1) (pe_call GS hr rfl gS FS.kp bS .nil pass0 (pa_cons (pv 0) (pa_cons (pe_callB call_len_seq rfl gL boot_len (pa_cons (pv 1) pa_nil)) pa_nil))) (fun _ _ => rfl)))), ?_⟩)
  · obtain ⟨l, t, xs, rfl, _⟩ := h
    rfl
  · obtain ⟨l, t, xs, rfl, ht, x0, x1, hL, ne, q⟩ := h
    refine ⟨_, rfl, _, rfl, _, rfl, t, xs, rfl, .inl (SqL.of ht), l, xs.length, rfl, by omega, by omega, hL, fun k a b c k0 k1 a0 a1 b0 b1 c0 => ?_⟩
    have hk : k.toNat < xs.length := by omega
    refine ⟨t, xs, k, xs[k.toNat], rfl, rfl, SqL.of (by rw [upd_ne ne]; exact ht), ?_, q k.toNat _ a b c (List.getElem?_eq_getElem hk) a0 a1 b0 b1 c0⟩
    unfold atI ixN
    rw [if_pos k0, if_pos k1]
    exact List.getElem?_eq_getElem hk
end
end K1
set_option Elab.async false
set_option linter.all false
set_option maxRecDepth 100000
set_option maxHeartbeats 2000000
namespace K1
open PySem PySem.Spec PyProof.Rows L2
theorem for_ite {K : PySem.W.Frag} {a : Addr} {xs : List V} {g : TG} {tb : TS} {D : Ends} {σ : L2.St} {H : Hp} (Pv : Nat → L2.St → Hp → Prop) (h0 : Pv 0 σ H) (hl : ∀ i σ H, i ≤ xs.length → Pv i σ H → SqL K H a xs)
    (hs : ∀ i x σ H T, xs[i]? = some x → Pv i σ H → H T = none → g (.ref T) σ (upd H T (.tup [.int (i : Nat), x])) fun σ2 H2 => tb { D with nx := Pv (i + 1), ct := Pv (i + 1), bk := D.nx } σ2 H2) (hd : ∀ σ H, Pv xs.length σ H → D.nx σ H) :
    ∃ W : Nat → Nat → L2.St → Hp → Prop, (∃ m, W 0 m σ H) ∧ ∀ i m σ H, W i m σ H → ((Ite K a).stop i H ∧ D.nx σ H) ∨ ((Ite K a).go i H ∧ ∃ N : L2.St → Hp → Prop, (∀ σ' H', N σ' H' → ∃ m', m' < m ∧ W (i + 1) m' σ' H') ∧
      ∀ x H', (Ite K a).yld i H x H' → g x σ H' fun σ2 H2 => tb { D with nx := N, ct := N, bk := D.nx } σ2 H2) := by
  refine ⟨fun i m σ H => m + i = xs.length ∧ Pv i σ H, ⟨xs.length, rfl, h0⟩, ?_⟩
  rintro i m σ H ⟨hm, p⟩
  have q := hl i σ H (by omega) p
  by_cases lt : i < xs.length
  · refine .inr ⟨⟨xs, xs[i], q, List.getElem?_eq_getElem lt⟩, Pv (i + 1), fun σ' H' p' => ⟨m - 1, by omega, by omega, p'⟩, ?_⟩
    rintro x H' ⟨T, y, rfl, hT, rfl, hy⟩
    exact hs i y σ H T (hy xs q) p hT
  · have e : i = xs.length := by omega
    subst e
    exact .inl ⟨⟨xs, q, Nat.le_refl _⟩, hd σ H p⟩
theorem sameN {H0 H : Hp} {p : Addr} {o : HO} (s : Same H0 H) (h : H0 p = none) : Same H0 (upd H p o) := fun b u e => by rw [upd_ne (ne_of_none e h)]; exact s b u e
theorem Same.new {H : Hp} {p : Addr} {o : HO} (h : H p = none) : Same H (upd H p o) := fun b u e => by rw [upd_ne (ne_of_none e h)]; exact e
theorem sameU {H0 H : Hp} {p : Addr} {o : HO} (s : Same H0 H) (h : H p = none) : Same H0 (upd H p o) := fun b u e => by rw [upd_ne (ne_of_none (s b u e) h)]; exact s b u e
theorem cut_ints (ns : List Int) (lo hi : Option Int) : ∃ ms : List Int, cutV (ns.map V.int) lo hi = ms.map V.int ∧ ms.length ≤ ns.length := by
  unfold cutV
  exact ⟨(ns.drop (HT.sIx (ns.map V.int).length 0 lo)).take (HT.sIx (ns.map V.int).length (ns.map V.int).length hi - HT.sIx (ns.map V.int).length 0 lo), by rw [List.map_take, List.map_drop], by simp; omega⟩
theorem cut_one (xs : List V) {b : Int} (h0 : 0 ≤ b) : (cutV xs (some b) (some (b + 1))).length ≤ 1 := by
  obtain ⟨k, rfl⟩ := Int.eq_ofNat_of_zero_le h0
  unfold cutV
  have e : ((k : Int) + 1) = ((k + 1 : Nat) : Int) := by omega
  rw [e, HT.sIx_nat, HT.sIx_nat, List.length_take]
  omega
/-- the loom of a cell: three numbers on a new list -/
def spLoom (K : PySem.W.Frag) : Sp := fun vs H Q _ => ∃ (a : Addr) (ns : List Int) (beam : Int), vs = [.ref a, .int beam] ∧ (beam = 0 ∨ beam = 1) ∧ SqL K H a (ns.map V.int) ∧ ns.length ≤ 1000 ∧ ∀ (H' : Hp) (p : Addr), Same H H' → H p = none → Lm H' p → Q (.ref p) H'
section
variable {P : Program} {w : World} {K : PySem.W.Frag} {mg : Str → Option Value} {base : Heap} {f : Addr} {fd : FuncData}
theorem scL : FnScope ["cells", "beam", "warp", "weft", "knot", "cell", "own"] ["cells", "beam"] (defScope (top 137)) := ⟨rfl, rfl, rfl, by decide +kernel, rfl, by decide +kernel, by decide +kernel⟩
theorem ok_loom (F : FnP K "_law_loom" (top 137) f fd) (gI : mg "int" = none) (gA : mg "abs" = none) (gE : mg "enumerate" = none) (gL : mg "list" = none) : FnOk P w K mg base CX0 1 f fd ["cells", "beam"] (spLoom K) := by
  refine F.ok scL (fun vs H Q E h => ?_) ?_
  · obtain ⟨a, ns, beam, rfl, _⟩ := h
    rfl
  intro cdv A outer s H vs Q E hr h
  refine' ⟨_, PSs.nox ?p, ?q⟩
  case p =>
    refine' pss_cons (ps_par (i := 2) (j := 3) rfl scL.nd rfl rfl (by decide) rfl rfl (pa_cons (pe_op op_add pe_int (pe_op op_mul pe_int (pv 1))) (pa_cons pe_int pa_nil)) rfl) ?r1
    case r1 =>
    refine' pss_cons (ps_for PassesOwn.never rfl (pi_enum rfl gE (pa_cons (pe_slice sl_list (pe_callTy call_list_of rfl gL boot_list (pa_cons (pv 0) pa_nil)) po_none (po_some pe_int)) pa_nil)) (pg_tup rfl (pgs_cons (pg_name (i := 4) scL.nd rfl (Or.inl rfl)) (pgs_cons (pg_name (i := 5) scL.nd rfl (Or.inl rfl)) pgs_nil)))
      (pss_cons (ps_set (i := 2) scL.nd rfl (Or.inl rfl) (pe_op op_mod (pe_callTy call_int1 rfl gI boot_int (pa_cons (pe_op op_add (pe_op op_mul (pe_op op_add (pe_op op_add (pv 2) (pe_op op_mod (pe_callTy call_int1 rfl gI boot_int (pa_cons (pv 5) pa_nil)) pe_int)) (pe_op op_mul pe_int (pv 4))) pe_int) (pv 3)) pa_nil)) pe_int))
      (pss_one (ps_set (i := 3) scL.nd rfl (Or.inl rfl) (pe_op op_mod (pe_callTy call_int1 rfl gI boot_int (pa_cons (pe_op op_add (pe_op op_add (pe_op op_mul (pv 3) pe_int) (pv 2)) (pv 1)) pa_nil)) pe_int))))) ?r2
    case r2 =>
    refine' pss_cons (ps_setLc (i := 6) (own := [("cell", 5)]) (g := gName 5) (tt := tYes) rfl scL.nd rfl rfl (sw_true rfl rfl rfl (by decide +kernel)) (pi_list (pe_slice sl_list (pe_callTy call_list_of rfl gL boot_list (pa_cons (pv 0) pa_nil)) (po_some (pv 1)) (po_some (pe_op op_add (pv 1) pe_int)))) (blkOk_by (N := ["cells", "beam", "warp", "weft", "knot", "cell", "own"]) (sc := defScope (top 137)) (by decide +kernel)) (fun _ _ _ _ _ => pg_name (i := 5) scL.nd rfl (Or.inl rfl)) (fun _ _ _ _ _ => pts_nil) (fun _ _ _ _ _ => pe_callB call_abs rfl gA boot_abs (pa_cons (pe_callTy call_int1 rfl gI boot_int (pa_cons (pv 5) pa_nil)) pa_nil))) ?r3
    case r3 =>
    exact pss_one (ps_ret (pe_lst (pa_cons (pv 2) (pa_cons (pv 3) (pa_cons (pe_ifExp (PW.pt (pw_and (pt_cmpR (op_neD hr.units) (pv 6) (pe_lst pa_nil) (nomark _)) (pw_and1 (pt_cmpR op_gt (pe_ix ix_list (pv 6) pe_int pIx) (pe_op op_pow pe_int pe_int) (nomark _))))) (pe_ix ix_list (pv 6) pe_int pIx) pe_int) pa_nil)))))
  case q =>
    obtain ⟨a, ns, beam, rfl, hb, hS, hn, q⟩ := h
    refine ⟨_, rfl, _, _, rfl, rfl, .inl (by decide), _, _, rfl, rfl, _, _, rfl, ?_⟩
    refine ⟨_, rfl, a, _, rfl, .inl hS, fun l hl => ⟨6, rfl, l, _, rfl, SqL.of upd_same, fun p hp => ⟨p, _, rfl, SqL.of upd_same, ?_⟩⟩⟩
    obtain ⟨ms, hms, _⟩ := cut_ints ns none (some 6)
    have sl : Same H (upd H l (.lst (ns.map V.int))) := Same.new hl
    have sp : Same H (upd (upd H l (.lst (ns.map V.int))) p (.lst (cutV (ns.map V.int) none (some 6)))) := sameU sl hp
    have wb : 0 ≤ 6834 + 41 * beam ∧ 6834 + 41 * beam < 2147483249 := by rcases hb with rfl | rfl <;> decide
    refine for_ite (K := K) (a := p) (xs := cutV (ns.map V.int) none (some 6)) (fun i σ H' => ∃ (wa we : Int) (kn ce : Option V), σ = [some (.ref a), some (.int beam), some (.int wa), some (.int we), kn, ce, none] ∧ 0 ≤ wa ∧ wa < 2147483249 ∧ 0 ≤ we ∧ we < 1000211 ∧ Same H H' ∧ H' p = some (.lst (cutV (ns.map V.int) none (some 6))))
      ⟨_, _, none, none, rfl, wb.1, wb.2, by decide, by decide, sp, upd_same⟩ (fun i σ H' _ ⟨_, _, _, _, _, _, _, _, _, _, e⟩ => SqL.of e) ?_ ?_
    · rintro i x σ H' T hx ⟨wa, we, kn, ce, rfl, w0, w1, v0, v1, s5, e⟩ hT
      obtain ⟨z, rfl⟩ : ∃ z, x = V.int z := by
        rw [hms, List.getElem?_map] at hx
        cases y : ms[i]? with
        | none => rw [y] at hx; cases hx
        | some z => rw [y] at hx; exact ⟨z, (Option.some.inj hx).symm⟩
      refine ⟨T, _, rfl, .inl (.inl upd_same), rfl, _, _, rfl, _, _, rfl, rfl, ?_⟩
      have z0 : 0 ≤ z % 1999993 := Int.emod_nonneg _ (by decide)
      refine ⟨_, rfl, _, rfl, .inl ⟨_, rfl, _, _, rfl, rfl, (show (0 : Int) < 1999993 by decide), _, _, rfl, rfl, _, rfl, _, _, rfl, rfl, .inl (by decide), _, _, rfl, rfl, _, _, rfl, rfl, .inr (by decide), _, rfl, _, _, rfl, rfl, .inl ⟨_, rfl, _, _, rfl, rfl, (show (0 : Int) < 2147483249 by decide), ?_⟩⟩⟩
      refine ⟨_, rfl, _, _, rfl, rfl, .inr (by decide), _, rfl, _, _, rfl, rfl, _, rfl, _, _, rfl, rfl, .inl ⟨_, rfl, _, _, rfl, rfl, (show (0 : Int) < 1000211 by decide), ?_⟩⟩
      have np : p ≠ T := fun z => by rw [z, hT] at e; cases e
      refine ⟨_, _, _, _, rfl, Int.emod_nonneg _ (by decide), Int.emod_lt_of_pos _ (by decide), Int.emod_nonneg _ (by decide), Int.emod_lt_of_pos _ (by decide), sameU s5 hT, ?_⟩
      rw [upd_ne np]
      exact e
    · rintro σ H' ⟨wa, we, kn, ce, rfl, w0, w1, v0, v1, s5, _⟩
      obtain ⟨ms2, hms2, _⟩ := cut_ints ns (some beam) (some (beam + 1))
      have one := cut_one (ns.map V.int) (b := beam) (by rcases hb with rfl | rfl <;> decide)
      refine ⟨_, rfl, a, _, rfl, .inl (s5.seq hS), fun l2 hl2 => ⟨_, rfl, beam, rfl, _, rfl, _, _, rfl, rfl, _, rfl, l2, _, rfl, SqL.of upd_same, fun p2 hp2 => ⟨p2, rfl, ⟨_, SqL.of upd_same⟩, fun D hD => ?_⟩⟩⟩
      have s6 := sameU (o := .lst (cutV (ns.map V.int) (some beam) (some (beam + 1)))) (sameU (o := .lst (ns.map V.int)) s5 hl2) hp2
      have nD : p2 ≠ D := fun z => by rw [← z, upd_same] at hD; cases hD
      refine lc_list (K := K) (a := p2) (xs := cutV (ns.map V.int) (some beam) (some (beam + 1))) (fun i H2 => Same H H2 ∧ H2 p2 = some (.lst (cutV (ns.map V.int) (some beam) (some (beam + 1)))) ∧ ∃ rs : List Int, H2 D = some (.lst (rs.map V.int)) ∧ rs.length = i ∧ ∀ r ∈ rs, 0 ≤ r)
        ⟨sameU s6 hD, by rw [upd_ne nD, upd_same], [], upd_same, rfl, by simp⟩ (fun i H2 _ z => SqL.of z.2.1) ?_ ?_
      · rintro i x H2 hx ⟨s7, e2, rs, e3, hl3, r0⟩
        have hi : i < 1 := Nat.lt_of_lt_of_le (List.getElem?_eq_some_iff.mp hx).1 one
        obtain ⟨z, rfl⟩ : ∃ z, x = V.int z := by
          rw [hms2, List.getElem?_map] at hx
          cases y : ms2[i]? with
          | none => rw [y] at hx; cases hx
          | some z => rw [y] at hx; exact ⟨z, (Option.some.inj hx).symm⟩
        refine ⟨rfl, iteT (B := (fun i H2 => Same H H2 ∧ H2 p2 = some (.lst (cutV (ns.map V.int) (some beam) (some (beam + 1)))) ∧ ∃ rs : List Int, H2 D = some (.lst (rs.map V.int)) ∧ rs.length = i ∧ ∀ r ∈ rs, 0 ≤ r) (i + 1) H2) ⟨_, rfl, .inl ⟨_, rfl, _, rfl, _, e3, ?_, ?_, ?_, rs ++ [if z < 0 then -z else z], ?_, ?_, ?_⟩⟩⟩
        · rw [List.length_map, hl3, sizeLine_eq]; omega
        · exact sameN s7 (s6.free hD)
        · rw [upd_ne nD]; exact e2
        · rw [upd_same, List.map_append]; rfl
        · simp [hl3]
        · intro r hr
          rcases List.mem_append.mp hr with y | y
          · exact r0 r y
          · rw [List.mem_singleton] at y
            rw [y]; split <;> omega
      · rintro H2 ⟨s7, _, rs, e3, hl3, r0⟩
        have hl1 : rs.length ≤ 1 := by rw [hl3]; exact one
        have fin : ∀ c : Int, 0 ≤ c → ∀ H3 : Hp, Same H H3 → ∀ p3, H3 p3 = none → Q (.ref p3) (upd H3 p3 (.lst [.int wa, .int we, .int c])) := fun c c0 H3 s3 p3 h3 =>
          q _ p3 (sameU s3 h3) (s3.free h3) ⟨wa, we, c, upd_same, w0, by omega, v0, by omega, c0⟩
        have sz : ∀ (x y z : V), [x, y, z].length ≤ sizeLine := fun _ _ _ => by rw [sizeLine_eq]; exact (by decide : 3 ≤ 16777216)
        refine ⟨_, rfl, _, rfl, _, rfl, ?_⟩
        match rs, hl1, e3, r0 with
        | [], _, e3, _ =>
          refine ⟨by rw [sizeLine_eq]; exact (by decide : 0 ≤ 16777216), fun p4 h4 => ⟨_, _, .lst (SqL.of (by rw [upd_ne (ne_of_none e3 h4)]; exact e3)) .nil, .lst (SqL.of upd_same) .nil, rfl, rfl, _, rfl, ifF rfl (ifF rfl ⟨sz _ _ _, fun p3 h3 => ?_⟩)⟩⟩
          exact fin 0 (by decide) _ (sameU s7 h4) p3 h3
        | [r], _, e3, r0 =>
          refine ⟨by rw [sizeLine_eq]; exact (by decide : 0 ≤ 16777216), fun p4 h4 => ⟨.list [.int r], _, .lst (SqL.of (by rw [upd_ne (ne_of_none e3 h4)]; exact e3)) (.cons (.int r) .nil), .lst (SqL.of upd_same) .nil, rfl, rfl, _, rfl, ifT rfl ?_⟩⟩
          have e4 : upd H2 p4 (.lst []) D = some (.lst [.int r]) := by rw [upd_ne (ne_of_none e3 h4)]; exact e3
          refine ⟨_, rfl, D, _, _, _, rfl, rfl, SqL.of e4, rfl, _, _, rfl, rfl, ⟨by decide, by decide, by decide⟩, _, _, rfl, rfl, _, rfl, ?_⟩
          by_cases c : (10 : Int) ^ (12 : Int).toNat < r
          · refine ifT (decide_eq_true c) ⟨_, rfl, D, _, _, _, rfl, rfl, SqL.of e4, rfl, sz _ _ _, fun p3 h3 => ?_⟩
            exact fin r (r0 r (by simp)) _ (sameU s7 h4) p3 h3
          · refine ifF (decide_eq_false c) ⟨sz _ _ _, fun p3 h3 => ?_⟩
            exact fin 0 (by decide) _ (sameU s7 h4) p3 h3
        | _ :: _ :: _, hl1, _, _ => simp at hl1
end
end K1
set_option Elab.async false
set_option linter.all false
set_option maxRecDepth 100000
set_option maxHeartbeats 2000000
/-! Drawn trees: what stands in memory, their parts and sizes; texts that are short and of one row. -/
namespace K1
open PySem PySem.Spec PyProof.Rows L2
inductive T where
  | num (i : Int) | nam (x : Str)
  | bin (w : Nat) (a b : T)
  | ite (a b c : T)
  | fn (x : Str) (a : T) | rc (f x : Str) (a : T)
  | fld (a : T) | lt (x : Str) (a b : T)
  | r0 | r2 (g : Str) (a b : T)
def bw : Nat → Str
  | 0 => "add"
  | 1 => "less"
  | _ => "call"
def T.size : T → Nat
  | .num _ => 1
  | .nam _ => 1
  | .bin _ a b => a.size + b.size + 1
  | .ite a b c => a.size + b.size + c.size + 1
  | .fn _ a => a.size + 1
  | .rc _ _ a => a.size + 1
  | .fld a => a.size + 1
  | .lt _ a b => a.size + b.size + 1
  | .r0 => 1
  | .r2 _ a b => a.size + b.size + 1
def T.parts : T → List T
  | .num _ => []
  | .nam _ => []
  | .bin _ a b => [a, b]
  | .ite a b c => [a, b, c]
  | .fn _ a => [a]
  | .rc _ _ a => [a]
  | .fld a => [a]
  | .lt _ a b => [a, b]
  | .r0 => []
  | .r2 _ a b => [a, b]
def T.kids (t : T) : Nat := (t.parts.map T.size).sum
theorem T.size_eq : ∀ t : T, t.size = t.kids + 1
  | .num _ | .nam _ | .r0 => rfl
  | .bin _ a b | .lt _ a b | .r2 _ a b => by simp [T.kids, T.parts, T.size]
  | .ite a b c => by simp [T.kids, T.parts, T.size]; omega
  | .fn _ a | .rc _ _ a | .fld a => by simp [T.kids, T.parts, T.size]
theorem T.pos (t : T) : 0 < t.size := by rw [t.size_eq]; omega
/-- a text without a line end -/
def NoNl (s : Str) : Prop := ∀ c ∈ s.cps.toList, c ≠ 10 ∧ c < 0x110000
def Tx (n : Nat) (s : Str) : Prop := s.length ≤ n ∧ NoNl s
theorem NoNl.app {a b : Str} (h : NoNl a) (k : NoNl b) : NoNl (a ++ b) := fun c hc => by
  have e : (a ++ b).cps.toList = a.cps.toList ++ b.cps.toList := by
    show (a.cps ++ b.cps).toList = _
    simp
  rw [e] at hc
  exact (List.mem_append.mp hc).elim (h c) (k c)
theorem Tx.app {a b : Str} {n m : Nat} (h : Tx n a) (k : Tx m b) : Tx (n + m) (a ++ b) := ⟨by rw [Str.length_append]; have := h.1; have := k.1; omega, h.2.app k.2⟩
theorem Tx.le {a : Str} {n m : Nat} (h : Tx n a) (l : n ≤ m) : Tx m a := ⟨Nat.le_trans h.1 l, h.2⟩
def noNlB (s : Str) : Bool := s.cps.toList.all fun c => c != 10 && decide (c < 0x110000)
theorem noNl_of {s : Str} (h : noNlB s = true) : NoNl s := fun c hc => by
  have := List.all_eq_true.mp h c hc
  simpa using this
theorem tx_of {s : Str} {n : Nat} (h : (decide (s.length ≤ n) && noNlB s) = true) : Tx n s := by
  rw [Bool.and_eq_true] at h
  exact ⟨of_decide_eq_true h.1, noNl_of h.2⟩
theorem tx_nat : ∀ k : Fin 1001, (decide ((Str.ofString (toString (k.val : Int))).length ≤ 4) && noNlB (Str.ofString (toString (k.val : Int)))) = true := by decide +kernel
theorem tx_int {i : Int} (h0 : 0 ≤ i) (h1 : i ≤ 1000) : Tx 4 (Str.ofString (toString i)) := by
  obtain ⟨k, rfl⟩ := Int.eq_ofNat_of_zero_le h0
  exact tx_of (tx_nat ⟨k, by omega⟩)
/-- a good name: short, of one row -/
abbrev Nm (x : Str) : Prop := Tx 6 x
def T.ok : T → Prop
  | .num i => 0 ≤ i ∧ i ≤ 1000
  | .nam x => Nm x
  | .bin w a b => w < 3 ∧ a.ok ∧ b.ok
  | .ite a b c => a.ok ∧ b.ok ∧ c.ok
  | .fn x a => Nm x ∧ a.ok
  | .rc f x a => Nm f ∧ Nm x ∧ a.ok
  | .fld a => a.ok
  | .lt x a b => Nm x ∧ a.ok ∧ b.ok
  | .r0 => True
  | .r2 g a b => Nm g ∧ a.ok ∧ b.ok
theorem T.ok_parts : ∀ {t : T}, t.ok → ∀ p ∈ t.parts, p.ok
  | .num _, _, _, h | .nam _, _, _, h | .r0, _, _, h => absurd h (by simp [T.parts])
  | .bin w a b, h, p, hp => by
    simp only [T.parts, List.mem_cons, List.not_mem_nil, or_false] at hp
    rcases hp with rfl | rfl
    · exact h.2.1
    · exact h.2.2
  | .lt x a b, h, p, hp => by
    simp only [T.parts, List.mem_cons, List.not_mem_nil, or_false] at hp
    rcases hp with rfl | rfl
    · exact h.2.1
    · exact h.2.2
  | .r2 x a b, h, p, hp => by
    simp only [T.parts, List.mem_cons, List.not_mem_nil, or_false] at hp
    rcases hp with rfl | rfl
    · exact h.2.1
    · exact h.2.2
  | .ite a b c, h, p, hp => by
    simp only [T.parts, List.mem_cons, List.not_mem_nil, or_false] at hp
    rcases hp with rfl | rfl | rfl
    · exact h.1
    · exact h.2.1
    · exact h.2.2
  | .fn x a, h, p, hp => by
    simp only [T.parts, List.mem_cons, List.not_mem_nil, or_false] at hp
    rw [hp]; exact h.2
  | .rc f x a, h, p, hp => by
    simp only [T.parts, List.mem_cons, List.not_mem_nil, or_false] at hp
    rw [hp]; exact h.2.2
  | .fld a, h, p, hp => by
    simp only [T.parts, List.mem_cons, List.not_mem_nil, or_false] at hp
    rw [hp]; exact h
/-- where a tree stands -/
def At (H : Hp) : T → V → Prop
  | .num i, v => ∃ p, v = .ref p ∧ H p = some (.tup [.str "number", .int i])
  | .nam x, v => ∃ p, v = .ref p ∧ H p = some (.tup [.str "name", .str x])
  | .bin w a b, v => ∃ p x y, v = .ref p ∧ H p = some (.tup [.str (bw w), x, y]) ∧ At H a x ∧ At H b y
  | .ite a b c, v => ∃ p x y z, v = .ref p ∧ H p = some (.tup [.str "if", x, y, z]) ∧ At H a x ∧ At H b y ∧ At H c z
  | .fn n a, v => ∃ p x, v = .ref p ∧ H p = some (.tup [.str "fn", .str n, x]) ∧ At H a x
  | .rc f n a, v => ∃ p x, v = .ref p ∧ H p = some (.tup [.str "rec", .str f, .str n, x]) ∧ At H a x
  | .fld a, v => ∃ p x, v = .ref p ∧ H p = some (.tup [.str "field", x, .str "a"]) ∧ At H a x
  | .lt n a b, v => ∃ p x y, v = .ref p ∧ H p = some (.tup [.str "let", .str n, x, y]) ∧ At H a x ∧ At H b y
  | .r0, v => ∃ p q, v = .ref p ∧ H p = some (.tup [.str "record", .ref q]) ∧ H q = some (.tup [])
  | .r2 g a b, v => ∃ p q r s x y, v = .ref p ∧ H p = some (.tup [.str "record", .ref q]) ∧ H q = some (.tup [.ref r, .ref s]) ∧ H r = some (.tup [.str "a", x]) ∧ H s = some (.tup [.str g, y]) ∧ At H a x ∧ At H b y
/-- tuples stay -/
def KT (H H' : Hp) : Prop := ∀ p xs, H p = some (.tup xs) → H' p = some (.tup xs)
theorem KT.refl {H : Hp} : KT H H := fun _ _ e => e
theorem KT.trans {H H' H'' : Hp} (a : KT H H') (b : KT H' H'') : KT H H'' := fun p xs e => b p xs (a p xs e)
theorem KT.new {H : Hp} {p : Addr} {o : HO} (h : H p = none) : KT H (upd H p o) := fun q xs e => by rw [upd_ne (ne_of_none e h)]; exact e
theorem KT.lst {H : Hp} {p : Addr} {xs : List V} {o : HO} (h : H p = some (.lst xs)) : KT H (upd H p o) := fun q ys e => by
  rw [upd_ne (fun z => by rw [z, h] at e; cases e)]
  exact e
theorem KT.same {H H' : Hp} (h : Same H H') : KT H H' := fun p xs e => h p _ e
theorem At.on {H H' : Hp} (k : KT H H') : ∀ {t : T} {v : V}, At H t v → At H' t v
  | .num i, v, ⟨p, e, h⟩ => ⟨p, e, k _ _ h⟩
  | .nam x, v, ⟨p, e, h⟩ => ⟨p, e, k _ _ h⟩
  | .bin w a b, v, ⟨p, x, y, e, h, h1, h2⟩ => ⟨p, x, y, e, k _ _ h, h1.on k, h2.on k⟩
  | .ite a b c, v, ⟨p, x, y, z, e, h, h1, h2, h3⟩ => ⟨p, x, y, z, e, k _ _ h, h1.on k, h2.on k, h3.on k⟩
  | .fn n a, v, ⟨p, x, e, h, h1⟩ => ⟨p, x, e, k _ _ h, h1.on k⟩
  | .rc f n a, v, ⟨p, x, e, h, h1⟩ => ⟨p, x, e, k _ _ h, h1.on k⟩
  | .fld a, v, ⟨p, x, e, h, h1⟩ => ⟨p, x, e, k _ _ h, h1.on k⟩
  | .lt n a b, v, ⟨p, x, y, e, h, h1, h2⟩ => ⟨p, x, y, e, k _ _ h, h1.on k, h2.on k⟩
  | .r0, v, ⟨p, q, e, h, h1⟩ => ⟨p, q, e, k _ _ h, k _ _ h1⟩
  | .r2 g a b, v, ⟨p, q, r, s, x, y, e, h, h1, h2, h3, h4, h5⟩ => ⟨p, q, r, s, x, y, e, k _ _ h, k _ _ h1, k _ _ h2, k _ _ h3, h4.on k, h5.on k⟩
/-- the word of a tree -/
def wd : Nat → Str
  | 0 => "number"
  | 1 => "name"
  | 2 => "add"
  | 3 => "less"
  | 4 => "call"
  | 5 => "if"
  | 6 => "fn"
  | 7 => "rec"
  | 8 => "field"
  | 9 => "let"
  | _ => "record"
def T.k : T → Fin 11
  | .num _ => 0
  | .nam _ => 1
  | .bin 0 _ _ => 2
  | .bin 1 _ _ => 3
  | .bin (_ + 2) _ _ => 4
  | .ite .. => 5
  | .fn .. => 6
  | .rc .. => 7
  | .fld _ => 8
  | .lt .. => 9
  | .r0 => 10
  | .r2 .. => 10
def T.word (t : T) : Str := wd t.k
theorem At.head {H : Hp} : ∀ {t : T} {v : V}, At H t v → ∃ p xs, v = .ref p ∧ H p = some (.tup (.str t.word :: xs))
  | .num i, v, ⟨p, e, h⟩ => ⟨p, _, e, h⟩
  | .nam x, v, ⟨p, e, h⟩ => ⟨p, _, e, h⟩
  | .bin 0 a b, v, ⟨p, x, y, e, h, h1, h2⟩ => ⟨p, _, e, h⟩
  | .bin 1 a b, v, ⟨p, x, y, e, h, h1, h2⟩ => ⟨p, _, e, h⟩
  | .bin (n + 2) a b, v, ⟨p, x, y, e, h, h1, h2⟩ => ⟨p, _, e, h⟩
  | .ite a b c, v, ⟨p, x, y, z, e, h, h1, h2, h3⟩ => ⟨p, _, e, h⟩
  | .fn n a, v, ⟨p, x, e, h, h1⟩ => ⟨p, _, e, h⟩
  | .rc f n a, v, ⟨p, x, e, h, h1⟩ => ⟨p, _, e, h⟩
  | .fld a, v, ⟨p, x, e, h, h1⟩ => ⟨p, _, e, h⟩
  | .lt n a b, v, ⟨p, x, y, e, h, h1, h2⟩ => ⟨p, _, e, h⟩
  | .r0, v, ⟨p, q, e, h, h1⟩ => ⟨p, _, e, h⟩
  | .r2 g a b, v, ⟨p, q, r, s, x, y, e, h, h1, h2, h3, h4, h5⟩ => ⟨p, _, e, h⟩
end K1
set_option Elab.async false
set_option linter.all false
set_option maxRecDepth 100000
set_option maxHeartbeats 2000000
namespace K1
open PySem PySem.Spec PyProof.Rows L2
/-- built-in names are still what they were -/
structure Bn (mg : Str → Option Value) : Prop where
  len : mg "len" = none
  int : mg "int" = none
  str : mg "str" = none
  list : mg "list" = none
  tuple : mg "tuple" = none
  range : mg "range" = none
  zip : mg "zip" = none
  enumerate : mg "enumerate" = none
  isinstance : mg "isinstance" = none
  abs : mg "abs" = none
  all : mg "all" = none
  repr : mg "repr" = none
def isR : V → Bool
  | .ref _ => true
  | _ => false
theorem kit_tt (K : PySem.W.Frag) : PySem.W.kitOne K (.type "tuple") (.type "tuple") = some true := kit_ty (by decide +kernel)
theorem kit_st (K : PySem.W.Frag) : PySem.W.kitOne K (.type "str") (.type "tuple") = some false := kit_ty (by decide +kernel)
/-- parts of a tree -/
def spParts : Sp := fun vs H Q _ => ∃ (v : V) (t : T), vs = [v] ∧ At H t v ∧ ∀ H' p xs, Same H H' → H p = none → H' p = some (.lst xs) → Paired (At H') t.parts xs → Q (.ref p) H'
abbrev nscPa : List Str := ["tree", "field", "part"]
theorem scPa : FnScope nscPa ["tree"] (defScope (top 141)) := ⟨rfl, rfl, rfl, by decide +kernel, rfl, by decide +kernel, by decide +kernel⟩
section
variable {P : Program} {w : World} {K : PySem.W.Frag} {mg : Str → Option Value} {base : Heap} {f : Addr} {fd : FuncData}
theorem At.isT {H : Hp} {t : T} {v : V} (h : At H t v) : ∃ q ys, v = .ref q ∧ H q = some (.tup ys) := by
  obtain ⟨p, xs, e, h⟩ := h.head
  exact ⟨p, _, e, h⟩
def T.leaf (t : T) : Bool := t.k.val < 2
def T.rcd (t : T) : Bool := t.k.val == 10
def Item (H : Hp) (x : V) : Prop := (∃ s, x = .str s) ∨ ∃ q ys, x = .ref q ∧ H q = some (.tup ys)
theorem At.item {H : Hp} {t : T} {v : V} (h : At H t v) : Item H v := .inr h.isT
theorem At.items {H : Hp} : ∀ {t : T} {v : V}, At H t v → t.leaf = false → t.rcd = false → ∃ p xs, v = .ref p ∧ H p = some (.tup (.str t.word :: xs)) ∧ xs.length ≤ 3 ∧ 0 < xs.length ∧ (∀ x ∈ xs, Item H x) ∧ Paired (At H) t.parts (xs.filter isR)
  | .num _, _, _, h, _ => by cases h
  | .nam _, _, _, h, _ => by cases h
  | .r0, _, _, _, h => by cases h
  | .r2 .., _, _, _, h => by cases h
  | .bin w a b, v, ⟨p, x, y, e, h, h1, h2⟩, _, _ => by
    have ew : bw w = T.word (.bin w a b) := by rcases w with _ | _ | _ <;> rfl
    rw [ew] at h
    refine ⟨p, _, e, h, by simp, by simp, ?_, ?_⟩
    · intro z hz
      simp only [List.mem_cons, List.not_mem_nil, or_false] at hz
      rcases hz with rfl | rfl
      · exact h1.item
      · exact h2.item
    · obtain ⟨q1, y1, rfl, _⟩ := h1.isT
      obtain ⟨q2, y2, rfl, _⟩ := h2.isT
      exact .cons h1 (.cons h2 .nil)
  | .ite a b c, v, ⟨p, x, y, z, e, h, h1, h2, h3⟩, _, _ => by
    refine ⟨p, _, e, h, by simp, by simp, ?_, ?_⟩
    · intro u hu
      simp only [List.mem_cons, List.not_mem_nil, or_false] at hu
      rcases hu with rfl | rfl | rfl
      · exact h1.item
      · exact h2.item
      · exact h3.item
    · obtain ⟨q1, y1, rfl, _⟩ := h1.isT
      obtain ⟨q2, y2, rfl, _⟩ := h2.isT
      obtain ⟨q3, y3, rfl, _⟩ := h3.isT
      exact .cons h1 (.cons h2 (.cons h3 .nil))
  | .fn n a, v, ⟨p, x, e, h, h1⟩, _, _ => by
    refine ⟨p, _, e, h, by simp, by simp, ?_, ?_⟩
    · intro u hu
      simp only [List.mem_cons, List.not_mem_nil, or_false] at hu
      rcases hu with rfl | rfl
      · exact .inl ⟨_, rfl⟩
      · exact h1.item
    · obtain ⟨q1, y1, rfl, _⟩ := h1.isT
      exact .cons h1 .nil
  | .rc f n a, v, ⟨p, x, e, h, h1⟩, _, _ => by
    refine ⟨p, _, e, h, by simp, by simp, ?_, ?_⟩
    · intro u hu
      simp only [List.mem_cons, List.not_mem_nil, or_false] at hu
      rcases hu with rfl | rfl | rfl
      · exact .inl ⟨_, rfl⟩
      · exact .inl ⟨_, rfl⟩
      · exact h1.item
    · obtain ⟨q1, y1, rfl, _⟩ := h1.isT
      exact .cons h1 .nil
  | .fld a, v, ⟨p, x, e, h, h1⟩, _, _ => by
    refine ⟨p, _, e, h, by simp, by simp, ?_, ?_⟩
    · intro u hu
      simp only [List.mem_cons, List.not_mem_nil, or_false] at hu
      rcases hu with rfl | rfl
      · exact h1.item
      · exact .inl ⟨_, rfl⟩
    · obtain ⟨q1, y1, rfl, _⟩ := h1.isT
      exact .cons h1 .nil
  | .lt n a b, v, ⟨p, x, y, e, h, h1, h2⟩, _, _ => by
    refine ⟨p, _, e, h, by simp, by simp, ?_, ?_⟩
    · intro u hu
      simp only [List.mem_cons, List.not_mem_nil, or_false] at hu
      rcases hu with rfl | rfl | rfl
      · exact .inl ⟨_, rfl⟩
      · exact h1.item
      · exact h2.item
    · obtain ⟨q1, y1, rfl, _⟩ := h1.isT
      obtain ⟨q2, y2, rfl, _⟩ := h2.isT
      exact .cons h1 (.cons h2 .nil)
/-- a record's fields: names and trees -/
theorem At.flds {H : Hp} : ∀ {t : T} {v : V}, At H t v → t.rcd = true → ∃ p q fs, v = .ref p ∧ H p = some (.tup [.str "record", .ref q]) ∧ H q = some (.tup fs) ∧ fs.length ≤ 2 ∧ ∃ xs, Paired (fun x y => ∃ r g, x = V.ref r ∧ H r = some (.tup [.str g, y])) fs xs ∧ Paired (At H) t.parts xs
  | .r0, v, ⟨p, q, e, h, h1⟩, _ => ⟨p, q, [], e, h, h1, by simp, [], .nil, .nil⟩
  | .r2 g a b, v, ⟨p, q, r, s, x, y, e, h, h1, h2, h3, h4, h5⟩, _ => ⟨p, q, _, e, h, h1, by simp, [x, y], .cons ⟨r, _, rfl, h2⟩ (.cons ⟨s, _, rfl, h3⟩ .nil), .cons h4 (.cons h5 .nil)⟩
  | .num _, _, _, h => by cases h
  | .nam _, _, _, h => by cases h
  | .bin 0 _ _, _, _, h => by cases h
  | .bin 1 _ _, _, _, h => by cases h
  | .bin (n + 2) _ _, _, _, h => by cases h
  | .ite .., _, _, h => by cases h
  | .fn .., _, _, h => by cases h
  | .rc .., _, _, h => by cases h
  | .fld .., _, _, h => by cases h
  | .lt .., _, _, h => by cases h
theorem wd_leaf : ∀ k : Fin 11, inV (.str (wd k)) [.str "number", .str "name"] = decide (k.val < 2) := by decide +kernel
theorem wd_rcd : ∀ k : Fin 11, decide (V.str (wd k) = V.str "record") = (k.val == 10) := by decide +kernel
theorem leaf_parts : ∀ t : T, t.leaf = true → t.parts = []
  | .num _, _ => rfl
  | .nam _, _ => rfl
  | .bin 0 _ _, h => by cases h
  | .bin 1 _ _, h => by cases h
  | .bin (n + 2) _ _, h => by cases h
  | .ite .., h => by cases h
  | .fn .., h => by cases h
  | .rc .., h => by cases h
  | .fld .., h => by cases h
  | .lt .., h => by cases h
  | .r0, h => by cases h
  | .r2 .., h => by cases h
theorem paired_mono {α β : Type} {R S : α → β → Prop} (h : ∀ a b, R a b → S a b) : ∀ {a : List α} {b : List β}, Paired R a b → Paired S a b
  | _, _, .nil => .nil
  | _, _, .cons r t => .cons (h _ _ r) (paired_mono h t)
theorem At.all {H H' : Hp} (k : KT H H') {ts : List T} {xs : List V} (h : Paired (At H) ts xs) : Paired (At H') ts xs := paired_mono (fun _ _ z => z.on k) h
theorem paired_getB {α β : Type} {R : α → β → Prop} : ∀ {a : List α} {b : List β} {i : Nat} {x : α}, Paired R a b → a[i]? = some x → ∃ z, b[i]? = some z ∧ R x z
  | _, _, _, _, .nil, h => by simp at h
  | _, _, 0, _, .cons r t, h => by simp at h; subst h; exact ⟨_, rfl, r⟩
  | _, _, i + 1, x, .cons r t, h => by
    obtain ⟨z, h1, h2⟩ := paired_getB (i := i) (x := x) t (by simpa using h)
    exact ⟨z, by simpa using h1, h2⟩
theorem small {n : Nat} (h : n ≤ 1000) : n ≤ sizeLine := by rw [sizeLine_eq]; omega
theorem at0 {v : V} {r : List V} : atI (v :: r) 0 = some v := by
  unfold atI ixN
  rw [if_pos (by decide), if_pos (by simp)]
  rfl
theorem wipe_set {σ : L2.St} {i : Nat} (h : i < σ.length) (x : V) : ((wipe σ [i]).set i (some x))[i]? = some (some x) := by
  show ((σ.set i none).set i (some x))[i]? = _
  rw [List.getElem?_set_self (by simpa using h)]
theorem wipe_wipe {σ : L2.St} {i : Nat} (x : V) : wipe ((wipe σ [i]).set i (some x)) [i] = wipe σ [i] := by
  show (((σ.set i none).set i (some x)).set i none) = σ.set i none
  rw [List.set_set, List.set_set]
theorem ifTT {A B : Prop} (h : A) : if true = true then A else B := by rw [if_pos rfl]; exact h
theorem ok_parts (F : FnP K "_law_parts" (top 141) f fd) (B : Bn mg) : FnOk P w K mg base CX0 1 f fd ["tree"] spParts := by
  refine F.ok scPa (fun vs H Q E h => ?_) ?_
  · obtain ⟨v, t, rfl, _⟩ := h
    rfl
  intro cdv A outer s H vs Q E hr h
  refine' ⟨_, PSs.nox ?p, ?q⟩
  case p =>
    refine' pss_cons (ps_if (pt_cmpR op_in_seq (pe_ix (r := rIxT K) ix_tup (pv 0) pe_int (fun _ _ => rfl)) (pe_tup (pa_cons pe_str (pa_cons pe_str pa_nil))) (by rfl)) (pss_one (ps_ret (pe_lst pa_nil))) (pss_nil)) ?w0
    case w0 =>
    refine' pss_cons (ps_if (pt_cmpR op_eq (pe_ix (r := rIxT K) ix_tup (pv 0) pe_int (fun _ _ => rfl)) pe_str (nomark _)) (pss_one (ps_ret (pe_lc (own := [("field", 1), ("part", 2)]) (g := (gTup K 2 (gCons (gName 1) (gCons (gName 2) gNil)))) (tt := tYes) rfl scPa.nd (pi_tup (pe_ix (r := rIxT K) ix_tup (pv 0) pe_int (fun _ _ => rfl))) (blkOk_by (N := nscPa) (sc := defScope (top 141)) (by decide +kernel)) (fun _ _ _ _ _ => pg_tup rfl (pgs_cons (pg_name (i := 1) scPa.nd rfl (Or.inl rfl) (Or.inr rfl)) (pgs_cons (pg_name (i := 2) scPa.nd rfl (Or.inl rfl) (Or.inr rfl)) pgs_nil))) (fun _ _ _ _ _ => pts_nil) (fun _ _ _ _ _ => (pv 2))))) (pss_nil)) ?w1
    case w1 =>
    exact pss_one (ps_ret (pe_lc (own := [("part", 2)]) (g := gName 2) (tt := tB (tCB (rIsi K) (tCons (tVar 2) (tCons (tC (.ty "tuple")) tNil)))) rfl scPa.nd (pi_tup (pe_slice sl_tupA (pv 0) (po_some pe_int) po_none)) (blkOk_by (N := nscPa) (sc := defScope (top 141)) (by decide +kernel)) (fun _ _ _ _ _ => pg_name (i := 2) scPa.nd rfl (Or.inl rfl)) (fun _ _ _ _ _ => pts_one (pt_val (pe_callB (r := rIsi K) call_isi rfl B.isinstance boot_isinstance (pa_cons (pv 2) (pa_cons (pe_bltn (v := .ty "tuple") rfl B.tuple (by decide +kernel) rfl) pa_nil))))) (fun _ _ _ _ _ => (pv 2))))

  case q =>
    obtain ⟨v, t, rfl, ht, q⟩ := h
    obtain ⟨p, rest, rfl, hp⟩ := ht.head
    refine ⟨_, rfl, p, _, 0, .str t.word, rfl, rfl, .inl (.inl hp), at0, small (by decide), fun c hc => ⟨c, _, rfl, .inr (.inl (.inl upd_same)), rfl, by rfl, _, rfl, ?_⟩⟩
    rw [show inV (.str t.word) [.str "number", .str "name"] = t.leaf from wd_leaf t.k]
    have sc : Same H (upd H c (.tup [.str "number", .str "name"])) := Same.new hc
    have hp1 := sc p _ hp
    by_cases hl : t.leaf = true
    · refine ifT hl ⟨small (by decide), fun d hd => ?_⟩
      exact q _ d [] (sameU sc hd) (sc.free hd) upd_same (by rw [leaf_parts t hl]; exact .nil)
    · refine ifF (by simpa using hl) ?_
      refine ⟨_, rfl, p, _, 0, .str t.word, rfl, rfl, .inl (.inl hp1), at0, rfl, _, rfl, ?_⟩
      by_cases hr2 : t.rcd = true
      · refine ifT ((wd_rcd t.k).trans hr2) ?_
        obtain ⟨p', q', fs, e', hp', hq', hl', xs, hf, hx⟩ := (ht.on (KT.same sc)).flds hr2
        cases e'
        refine ⟨_, rfl, p, _, 1, .ref q', rfl, rfl, .inl (.inl hp'), rfl, q', rfl, ⟨_, .inl (.inl hq')⟩, fun D hD => ?_⟩
        refine lc_tup (K := K) (a := q') (xs := fs) (fun n H2 => H2 = upd (upd H c (.tup [.str "number", .str "name"])) D (.lst (xs.take n))) rfl (fun n H2 _ e => ?_) ?_ ?_
        · rw [e, show SqT K _ q' fs = _ from rfl]; exact .inl (.inl (by rw [upd_ne (ne_of_none hq' hD)]; exact hq'))
        · rintro n x H2 hn rfl
          obtain ⟨y, hy, r, g, rfl, hrr⟩ := paired_getB hf hn
          have tk : xs.take (n + 1) = xs.take n ++ [y] := by rw [List.take_add_one, hy]; rfl
          have ll : (xs.take n).length < sizeLine := by
            rw [sizeLine_eq]
            have h3 := List.length_take_le' n xs
            have := hf.length
            omega
          refine ⟨r, _, rfl, .inl (.inl (by rw [upd_ne (ne_of_none hrr hD)]; exact hrr)), rfl, _, _, rfl, _, _, rfl, rfl, rfl, iteT (B := upd (upd H c (.tup [.str "number", .str "name"])) D (.lst (xs.take n)) = upd (upd H c (.tup [.str "number", .str "name"])) D (.lst (xs.take (n + 1)))) ⟨_, rfl, _, upd_same, ll, ?_⟩⟩
          rw [upd_upd, tk]
        · rintro H2 rfl
          have ex : xs.take fs.length = xs := by rw [hf.length]; simp
          rw [ex]
          have s2 : Same H (upd (upd H c (.tup [.str "number", .str "name"])) D (.lst xs)) := sameU sc hD
          exact q _ D xs s2 (sc.free hD) upd_same (At.all (KT.new hD) hx)
      · refine ifF ((wd_rcd t.k).trans (by simpa [T.rcd] using hr2)) ?_
        obtain ⟨p', xs, e', hp', hl3, hl0, hit, hps⟩ := (ht.on (KT.same sc)).items (by simpa using hl) (by simpa using hr2)
        cases e'
        refine ⟨_, rfl, 1, rfl, p, _, rfl, .inl (.inl hp'), fun z => absurd z.1 (by rw [show (1 : Int) = ((1 : Nat) : Int) from rfl, HT.sIx_nat]; simp), fun _ p2 hp2 => ⟨p2, rfl, ⟨_, .inl (.inl upd_same)⟩, fun D hD => ?_⟩⟩
        have cx : cutV (.str t.word :: xs) (some 1) none = xs := by
          unfold cutV
          rw [show (1 : Int) = ((1 : Nat) : Int) from rfl, HT.sIx_nat]
          have e2 : HT.sIx (V.str t.word :: xs).length (V.str t.word :: xs).length none = (V.str t.word :: xs).length := rfl
          rw [e2]
          simp
        rw [cx] at hD ⊢
        refine lc_tup (K := K) (a := p2) (xs := xs) (fun n H2 => H2 = upd (upd (upd H c (.tup [.str "number", .str "name"])) p2 (.tup xs)) D (.lst ((xs.take n).filter isR))) rfl (fun n H2 _ e => ?_) ?_ ?_
        · rw [e]; exact .inl (.inl (by rw [upd_ne (ne_of_none upd_same hD)]; exact upd_same))
        · rintro n x H2 hn rfl
          have tk : xs.take (n + 1) = xs.take n ++ [x] := by rw [List.take_add_one, hn]; rfl
          have ll : ((xs.take n).filter isR).length < sizeLine := by
            rw [sizeLine_eq]
            have h1 := List.length_filter_le isR (xs.take n)
            have h3 := List.length_take_le' n xs
            omega
          rcases hit x (List.mem_of_getElem? hn) with ⟨s, rfl⟩ | ⟨q', ys, rfl, hq⟩
          · refine ⟨rfl, _, rfl, _, _, _, _, false, rfl, .ty _, .base (.str s), kit_st K, false, rfl, ifF rfl ?_⟩
            show _ = _
            rw [tk, List.filter_append]
            simp [isR]
          · refine ⟨rfl, _, rfl, _, _, _, _, true, rfl, .ty _, .base (.tup (xs := ys) (by rw [upd_ne (ne_of_none (KT.new hp2 _ _ hq) hD)]; exact KT.new hp2 _ _ hq)), kit_tt K, true, rfl, ifTT ⟨_, rfl, _, upd_same, ll, ?_⟩⟩
            rw [upd_upd, tk, List.filter_append]
            rfl
        · rintro H2 rfl
          rw [List.take_length]
          exact q _ D _ (sameU (sameU sc hp2) hD) ((sameU sc hp2).free hD) upd_same (At.all ((KT.new hp2).trans (KT.new hD)) hps)
end
end K1
set_option Elab.async false
set_option linter.all false
set_option maxRecDepth 100000
set_option maxHeartbeats 2000000
/-! zip of a tuple and a list: the layer has two lists and two tuples. -/
namespace K1
open PySem PySem.Spec PyProof.Rows L2 RZ
open PySem.Sem (wp)
section
variable {prog : Program} {w : World} {A : Around} {E : Value → Shared → Prop} {s : Shared}
theorem zipM_next_item {z TI TO i1 i2 l1 l2 : Addr} {k1 k2 : Nat} {xs ys : Array Value} {x y a b : Value} {Q : Value → Shared → Prop} (D : ZipApart z TI TO i1 i2 l1 l2)
    (jz : IsZip s.heap z TI TO .none) (jTI : IsPair s.heap TI (.ref i1) (.ref i2)) (jTO : IsPair s.heap TO a b)
    (h1 : s.heap.IsTupleIter i1 l1 k1) (h2 : s.heap.IsListIter i2 l2 k2) (jl1 : s.heap.IsTuple l1 xs) (jl2 : s.heap.IsList l2 ys) (jx : xs[k1]? = some x) (jy : ys[k2]? = some y)
    (jQ : ∀ h', IsZip h' z TI TO (rawInt s.heap.objs.size) → IsPair h' TO x y → h'.IsTupleIter i1 l1 (k1 + 1) → h'.IsListIter i2 l2 (k2 + 1) → IsPair h' s.heap.objs.size x y → h'.objs.size = s.heap.objs.size + 1 →
      (∀ c o, c ≠ z → c ≠ TO → c ≠ i1 → c ≠ i2 → s.heap.get? c = some o → h'.get? c = some o) → Q (.ref s.heap.objs.size) { s with heap := h' }) :
    wpAny (model prog w) A (Builtin.«zip.__next__» ⟨[.ref z], []⟩) (fun fin s' => ∃ v, fin = .done (.ret v) ∧ Q v s') E s := by
  show wpAny _ _ (field (.ref z) 2 >>= _) _ _ _; refine wpAny_bind (wpAny_field jz rfl (x := .bool false) rfl ?_)
  show wpAny _ _ (field (.ref z) 3 >>= _) _ _ _; refine wpAny_bind (wpAny_field jz rfl (x := .ref TI) rfl ?_)
  refine wpAny_bind (wpAny_seqItems jTI rfl ?_); show wpAny _ _ (Builtin.SmallTypes.ownedTupleIsFree (.ref z) >>= _) _ _ _
  refine wpAny_bind ?_; unfold Builtin.SmallTypes.ownedTupleIsFree
  refine wpAny_bind (wpAny_field jz rfl (x := .none) rfl (wpAny_pure ?_)); simp only [if_true]
  refine wpAny_bind (wpAny_rule ?_); refine wpAny_bind (wpAny_field jz rfl (x := .ref TO) rfl ?_)
  refine wpAny_bind (wpAny_setField_rec jz (by simp) fun h₁ jz₁ js₁ => ?_); replace jz₁ : IsZip h₁ z TI TO .ellipsis := jz₁
  refine wpAny_bind ?_; simp only [List.zipIdx_cons, List.zipIdx_nil, List.forIn_cons, List.forIn_nil]
  refine wpAny_bind (wpAny_bind (wpAny_onRaise ?_)); show wpAny _ _ (Builtin.SmallTypes.nextOf (.ref i1) >>= _) _ _ _
  refine wpAny_bind (nextOf_tuple_item (h1.extBut js₁.extBut D.i1z) (jl1.extBut js₁.extBut D.l1z) jx fun h₂ h1₂ js₂ => wpAny_pure ?_); have jTO₂ : IsPair h₂ TO a b := js₂.extBut _ _ D.TOi1 (js₁.extBut _ _ D.TOz jTO)
  refine wpAny_bind (wpAny_seqItems jTO₂ rfl ?_); refine wpAny_bind (wpAny_updateSeq_pair jTO₂ fun h₃ jTO₃ js₃ => ?_)
  replace jTO₃ : IsPair h₃ TO x b := jTO₃; refine wpAny_bind (wpAny_letGo (wpAny_pure ?_))
  refine wpAny_bind (wpAny_bind (wpAny_onRaise ?_)); show wpAny _ _ (Builtin.SmallTypes.nextOf (.ref i2) >>= _) _ _ _
  refine wpAny_bind (wpAny_nextOf_list_item (((h2.extBut js₁.extBut D.i2z).extBut js₂.extBut D.i12.symm).extBut js₃.extBut D.TOi2.symm)
    (((jl2.extBut js₁.extBut D.l2z).extBut js₂.extBut D.l2i1).extBut js₃.extBut D.l2TO) jy fun h₄ h2₄ js₄ => wpAny_pure ?_)
  have jTO₄ : IsPair h₄ TO x b := js₄.extBut _ _ D.TOi2 jTO₃; refine wpAny_bind (wpAny_seqItems jTO₄ rfl ?_)
  refine wpAny_bind (wpAny_updateSeq_pair jTO₄ fun h₅ jTO₅ js₅ => ?_); replace jTO₅ : IsPair h₅ TO x y := jTO₅
  refine wpAny_bind (wpAny_letGo (wpAny_pure (wpAny_pure ?_))); refine wpAny_bind (wpAny_seqItems jTO₅ rfl ?_)
  refine wpAny_bind (wpAny_newTuple ?_); have jsz : h₅.objs.size = s.heap.objs.size := by rw [js₅.1, js₄.1, js₃.1, js₂.1, js₁.1]
  have jz₅ : IsZip h₅ z TI TO .ellipsis := js₅.extBut _ _ D.TOz.symm (js₄.extBut _ _ D.i2z.symm (js₃.extBut _ _ D.TOz.symm (js₂.extBut _ _ D.i1z.symm jz₁))); have jk₅ : ∀ c o, c ≠ z → c ≠ TO → c ≠ i1 → c ≠ i2 → s.heap.get? c = some o → h₅.get? c = some o := fun c o c1 c2 c3 c4 e =>
    js₅.extBut _ _ c2 (js₄.extBut _ _ c4 (js₃.extBut _ _ c2 (js₂.extBut _ _ c3 (js₁.extBut _ _ c1 e))))
  have h1₅ : h₅.IsTupleIter i1 l1 (k1 + 1) := ((h1₂.extBut js₃.extBut D.TOi1.symm).extBut js₄.extBut D.i12).extBut js₅.extBut D.TOi1.symm; have h2₅ : h₅.IsListIter i2 l2 (k2 + 1) := h2₄.extBut js₅.extBut D.TOi2.symm
  have hzlt : z < h₅.objs.size := Heap.lt_size jz₅; have hTOlt : TO < h₅.objs.size := Heap.lt_size jTO₅
  have hi1lt : i1 < h₅.objs.size := by obtain ⟨_, e, _⟩ := h1₅; exact Heap.lt_size e
  have hi2lt : i2 < h₅.objs.size := by obtain ⟨_, e, _⟩ := h2₅; exact Heap.lt_size e
  show wpAny _ _ (Builtin.SmallTypes.ownedTupleHandOut (.ref z) (.ref h₅.objs.size) >>= _) _ _ _; refine wpAny_bind ?_
  unfold Builtin.SmallTypes.ownedTupleHandOut; have jz₆ : IsZip (h₅.push { cls := .type "tuple", data := .seq #[x, y] }) z TI TO .ellipsis := Heap.get?_push_of_some _ jz₅
  refine wpAny_bind (wpAny_setField_rec jz₆ (by simp) fun h₇ jz₇ js₇ => ?_); replace jz₇ : IsZip h₇ z TI TO (rawInt h₅.objs.size) := jz₇
  refine wpAny_setField_rec jz₇ (by simp) fun h₈ jz₈ js₈ => ?_; replace jz₈ : IsZip h₈ z TI TO (rawInt h₅.objs.size) := jz₈
  have up : ∀ c o, c ≠ z → h₅.get? c = some o → h₈.get? c = some o := fun c o c1 e => js₈.extBut _ _ c1 (js₇.extBut _ _ c1 (Heap.get?_push_of_some _ e)); have hT₈ : IsPair h₈ h₅.objs.size x y := js₈.extBut _ _ (Nat.ne_of_gt hzlt) (js₇.extBut _ _ (Nat.ne_of_gt hzlt) (Heap.get?_push_size _ rfl))
  have jz8 : h₈.objs.size = h₅.objs.size + 1 := by rw [js₈.1, js₇.1, Heap.size_push]
  rw [jsz] at jz₈ hT₈ jz8; refine wpAny_pure ⟨_, rfl, ?_⟩
  show Q (.ref h₅.objs.size) _; rw [jsz]
  exact jQ h₈ jz₈ (up _ _ D.TOz jTO₅) (h1₅.at fun o e => up _ o D.i1z e) (h2₅.at fun o e => up _ o D.i2z e) hT₈ jz8 fun c o c1 c2 c3 c4 e => up c o c1 (jk₅ c o c1 c2 c3 c4 e)
theorem zipM_next_end {z TI TO i1 i2 l1 l2 : Addr} {k1 k2 : Nat} {xs ys : Array Value} {a b : Value} {Q : Fin → Shared → Prop} (hh : A.handled = none) (D : ZipApart z TI TO i1 i2 l1 l2)
    (jz : IsZip s.heap z TI TO .none) (jTI : IsPair s.heap TI (.ref i1) (.ref i2)) (jTO : IsPair s.heap TO a b)
    (h1 : s.heap.IsTupleIter i1 l1 k1) (h2 : s.heap.IsListIter i2 l2 k2) (jl1 : s.heap.IsTuple l1 xs) (jl2 : s.heap.IsList l2 ys) (jend : xs[k1]? = none ∨ ys[k2]? = none)
    (jE : ∀ h' e, (∀ c o, c ≠ z → c ≠ TO → c ≠ i1 → c ≠ i2 → s.heap.get? c = some o → h'.get? c = some o) → (∃ o, h'.get? e = some o ∧ o.cls = .type "StopIteration") → E (.ref e) { s with heap := h' }) :
    wpAny (model prog w) A (Builtin.«zip.__next__» ⟨[.ref z], []⟩) Q E s := by
  show wpAny _ _ (field (.ref z) 2 >>= _) _ _ _; refine wpAny_bind (wpAny_field jz rfl (x := .bool false) rfl ?_)
  show wpAny _ _ (field (.ref z) 3 >>= _) _ _ _; refine wpAny_bind (wpAny_field jz rfl (x := .ref TI) rfl ?_)
  refine wpAny_bind (wpAny_seqItems jTI rfl ?_); show wpAny _ _ (Builtin.SmallTypes.ownedTupleIsFree (.ref z) >>= _) _ _ _
  refine wpAny_bind ?_; unfold Builtin.SmallTypes.ownedTupleIsFree
  refine wpAny_bind (wpAny_field jz rfl (x := .none) rfl (wpAny_pure ?_)); simp only [if_true]
  refine wpAny_bind (wpAny_rule ?_); refine wpAny_bind (wpAny_field jz rfl (x := .ref TO) rfl ?_)
  refine wpAny_bind (wpAny_setField_rec jz (by simp) fun h₁ jz₁ js₁ => ?_); replace jz₁ : IsZip h₁ z TI TO .ellipsis := jz₁
  refine wpAny_bind ?_; simp only [List.zipIdx_cons, List.zipIdx_nil, List.forIn_cons, List.forIn_nil]
  refine wpAny_bind (wpAny_bind (wpAny_onRaise ?_)); show wpAny _ _ (Builtin.SmallTypes.nextOf (.ref i1) >>= _) _ _ _
  cases jx : xs[k1]? with
  | none =>
    refine wpAny_bind (nextOf_tuple_end hh (h1.extBut js₁.extBut D.i1z) (jl1.extBut js₁.extBut D.l1z) jx fun h₂ e js₂ he => ?_); obtain ⟨oe, hoe, hce⟩ := he
    have jz₂ : IsZip h₂ z TI TO .ellipsis := js₂ _ _ D.i1z.symm jz₁; have hez : e ≠ z := fun x => by subst x; rw [jz₂] at hoe; cases hoe; simp at hce
    refine wpAny_setField_rec jz₂ (by simp) fun h₃ _ js₃ => jE h₃ e (fun c o c1 _ c3 _ x => js₃.extBut _ _ c1 (js₂ _ _ c3 (js₁.extBut _ _ c1 x))) ⟨oe, js₃.extBut _ _ hez hoe, hce⟩
  | some x =>
    have jy : ys[k2]? = none := by rcases jend with h | h; rw [jx] at h; cases h; exact h
    refine wpAny_bind (nextOf_tuple_item (h1.extBut js₁.extBut D.i1z) (jl1.extBut js₁.extBut D.l1z) jx fun h₂ h1₂ js₂ => wpAny_pure ?_); have jTO₂ : IsPair h₂ TO a b := js₂.extBut _ _ D.TOi1 (js₁.extBut _ _ D.TOz jTO)
    refine wpAny_bind (wpAny_seqItems jTO₂ rfl ?_); refine wpAny_bind (wpAny_updateSeq_pair jTO₂ fun h₃ jTO₃ js₃ => ?_)
    refine wpAny_bind (wpAny_letGo (wpAny_pure ?_)); refine wpAny_bind (wpAny_bind (wpAny_onRaise ?_))
    show wpAny _ _ (Builtin.SmallTypes.nextOf (.ref i2) >>= _) _ _ _; refine wpAny_bind (wpAny_nextOf_list_end hh (((h2.extBut js₁.extBut D.i2z).extBut js₂.extBut D.i12.symm).extBut js₃.extBut D.TOi2.symm)
      (((jl2.extBut js₁.extBut D.l2z).extBut js₂.extBut D.l2i1).extBut js₃.extBut D.l2TO) jy fun h₄ e js₄ he => ?_)
    obtain ⟨oe, hoe, hce⟩ := he; have jz₄ : IsZip h₄ z TI TO .ellipsis := js₄ _ _ D.i2z.symm (js₃.extBut _ _ D.TOz.symm (js₂.extBut _ _ D.i1z.symm jz₁))
    have hez : e ≠ z := fun x => by subst x; rw [jz₄] at hoe; cases hoe; simp at hce
    refine wpAny_setField_rec jz₄ (by simp) fun h₅ _ js₅ => jE h₅ e (fun c o c1 c2 c3 c4 x => js₅.extBut _ _ c1 (js₄ _ _ c4 (js₃.extBut _ _ c2 (js₂.extBut _ _ c3 (js₁.extBut _ _ c1 x))))) ⟨oe, js₅.extBut _ _ hez hoe, hce⟩
theorem pyNext_zipM_item {z TI TO i1 i2 l1 l2 : Addr} {k1 k2 : Nat} {xs ys : Array Value} {x y a b : Value} {Q : Option Value → Shared → Prop} (D : ZipApart z TI TO i1 i2 l1 l2)
    (jz : IsZip s.heap z TI TO .none) (jTI : IsPair s.heap TI (.ref i1) (.ref i2)) (jTO : IsPair s.heap TO a b)
    (h1 : s.heap.IsTupleIter i1 l1 k1) (h2 : s.heap.IsListIter i2 l2 k2) (jl1 : s.heap.IsTuple l1 xs) (jl2 : s.heap.IsList l2 ys) (jx : xs[k1]? = some x) (jy : ys[k2]? = some y)
    (jQ : ∀ h', IsZip h' z TI TO (rawInt s.heap.objs.size) → IsPair h' TO x y → h'.IsTupleIter i1 l1 (k1 + 1) → h'.IsListIter i2 l2 (k2 + 1) → IsPair h' s.heap.objs.size x y → h'.objs.size = s.heap.objs.size + 1 →
      (∀ c o, c ≠ z → c ≠ TO → c ≠ i1 → c ≠ i2 → s.heap.get? c = some o → h'.get? c = some o) → Q (some (.ref s.heap.objs.size)) { s with heap := h' }) :
    wpAny (model prog w) A (pyNext (.ref z)) Q E s := by
  have hT : s.TypeIs (.ref z) "zip" := ⟨_, jz, rfl⟩; unfold pyNext
  exact wpAny_bind (wpAny_attempt (wpAny_callSpecial?_slot (name := Str.ofString "__next__") hT F.slot_zip_next
    (wpAny_call_entry F.slot_zip_next hT F.entry_zip_next
      (zipM_next_item D jz jTI jTO h1 h2 jl1 jl2 jx jy fun h' a1 a2 a3 a4 a5 a6 a7 => wpAny_pure (jQ h' a1 a2 a3 a4 a5 a6 a7)) (F.args_zip_next_1 _))))
theorem pyNext_zipM_end {z TI TO i1 i2 l1 l2 : Addr} {k1 k2 : Nat} {xs ys : Array Value} {a b : Value} {Q : Option Value → Shared → Prop} (hh : A.handled = none) (D : ZipApart z TI TO i1 i2 l1 l2)
    (jz : IsZip s.heap z TI TO .none) (jTI : IsPair s.heap TI (.ref i1) (.ref i2)) (jTO : IsPair s.heap TO a b)
    (h1 : s.heap.IsTupleIter i1 l1 k1) (h2 : s.heap.IsListIter i2 l2 k2) (jl1 : s.heap.IsTuple l1 xs) (jl2 : s.heap.IsList l2 ys) (jend : xs[k1]? = none ∨ ys[k2]? = none)
    (jQ : ∀ h', (∀ c o, c ≠ z → c ≠ TO → c ≠ i1 → c ≠ i2 → s.heap.get? c = some o → h'.get? c = some o) → Q none { s with heap := h' }) : wpAny (model prog w) A (pyNext (.ref z)) Q E s := by
  have hT : s.TypeIs (.ref z) "zip" := ⟨_, jz, rfl⟩; unfold pyNext
  refine wpAny_bind (wpAny_attempt (wpAny_callSpecial?_slot (name := Str.ofString "__next__") hT F.slot_zip_next
    (wpAny_call_entry F.slot_zip_next hT F.entry_zip_next (zipM_next_end hh D jz jTI jTO h1 h2 jl1 jl2 jend fun h' e jk he => ?_) (F.args_zip_next_1 _))))
  obtain ⟨o, ho, hc⟩ := he; refine wpAny_bind (wpAny_isInstance (T := "StopIteration") (b := true) ⟨o, ho, hc⟩ isSubtype_stop ?_)
  exact wpAny_pure (jQ _ jk)
end
abbrev zipMH1 (h : Heap) (l1 : Addr) : Heap := h.push { cls := .type "tuple_iterator", data := .fields #[.ref l1, .int 0 0] }
abbrev zipMH2 (h : Heap) (l1 l2 : Addr) : Heap := (zipMH1 h l1).push { cls := .type "list_iterator", data := .fields #[.ref l2, .int 0 0] }
abbrev zipMH3 (h : Heap) (l1 l2 : Addr) : Heap := (zipMH2 h l1 l2).push { cls := .type "tuple", data := .seq #[.ref h.objs.size, .ref (zipMH1 h l1).objs.size] }
abbrev zipMH4 (h : Heap) (l1 l2 : Addr) : Heap := (zipMH3 h l1 l2).push { cls := .type "tuple", data := .seq #[.none, .none] }
abbrev zipMH5 (h : Heap) (l1 l2 : Addr) : Heap := (zipMH4 h l1 l2).push { cls := .type "zip", data := .fields #[.none, .bool false, .bool false, .ref (zipMH2 h l1 l2).objs.size, .ref (zipMH3 h l1 l2).objs.size] }
theorem meets_zipM_new (l1 l2 : Addr) (xs ys : Array Value) :
    Meets (Builtin.«zip.__new__» ⟨[.type "zip", .ref l1, .ref l2], []⟩) (fun _ R s => s.heap.IsTuple l1 xs ∧ s.heap.IsList l2 ys ∧
      R (.ok (.ret (.ref (zipMH4 s.heap l1 l2).objs.size))) { s with heap := zipMH5 s.heap l1 l2 }) :=
  .of_wp fun prog w A R s h => by
    obtain ⟨hp, g, d, tk, os⟩ := s; obtain ⟨jl1, jl2, h⟩ := h
    have hsub := sub_zip; have hL1 : Heap.IsTuple (Shared.heap ⟨hp, g, d, tk, os⟩) l1 xs := jl1
    have hL2 : Heap.IsList (Shared.heap ⟨hp.push { cls := .type "tuple_iterator", data := .fields #[.ref l1, .int 0 0] }, g, d, tk, os⟩) l2 ys := Heap.IsList.push jl2 _
    wp_walk using wpAny_pyIter_tuple hL1, wpAny_pyIter_list hL2
    exact ⟨_, rfl, h⟩
section
variable {prog : Program} {w : World} {A : Around} {E : Value → Shared → Prop} {s : Shared}
theorem call_zipM {l1 l2 : Addr} {xs ys : Array Value} {Q : Value → Shared → Prop} (jl1 : s.heap.IsTuple l1 xs) (jl2 : s.heap.IsList l2 ys)
    (h : ∀ h', IsZip h' (s.heap.objs.size + 4) (s.heap.objs.size + 2) (s.heap.objs.size + 3) .none → IsPair h' (s.heap.objs.size + 2) (.ref s.heap.objs.size) (.ref (s.heap.objs.size + 1)) →
      IsPair h' (s.heap.objs.size + 3) .none .none → h'.IsTupleIter s.heap.objs.size l1 0 → h'.IsListIter (s.heap.objs.size + 1) l2 0 → h'.objs.size = s.heap.objs.size + 5 →
      (∀ c o, s.heap.get? c = some o → h'.get? c = some o) → Q (.ref (s.heap.objs.size + 4)) { s with heap := h' }) :
    wpAny (model prog w) A (call (.type "zip") [.ref l1, .ref l2]) Q E s := by
  refine callType_new F.called_zip (by decide) (F.typeCall_zip_2 _ _) (F.newCall_zip_2 _ _) (fun obj => F.args_object_init_3 obj _ _) F.entry_zip_new
    (meets_zipM_new l1 l2 xs ys) ⟨jl1, jl2, ?_⟩
  have z1 : (zipMH1 s.heap l1).objs.size = s.heap.objs.size + 1 := Heap.size_push ..; have z2 : (zipMH2 s.heap l1 l2).objs.size = s.heap.objs.size + 2 := by rw [Heap.size_push, z1]
  have z3 : (zipMH3 s.heap l1 l2).objs.size = s.heap.objs.size + 3 := by rw [Heap.size_push, z2]
  have z4 : (zipMH4 s.heap l1 l2).objs.size = s.heap.objs.size + 4 := by rw [Heap.size_push, z3]
  have z5 : (zipMH5 s.heap l1 l2).objs.size = s.heap.objs.size + 5 := by rw [Heap.size_push, z4]
  have g5 : (zipMH5 s.heap l1 l2).get? (zipMH4 s.heap l1 l2).objs.size = some _ := Heap.get?_push_size _ rfl; have g4 : (zipMH5 s.heap l1 l2).get? (zipMH3 s.heap l1 l2).objs.size = some _ := Heap.get?_push_of_some _ (Heap.get?_push_size _ rfl)
  have g3 : (zipMH5 s.heap l1 l2).get? (zipMH2 s.heap l1 l2).objs.size = some _ := Heap.get?_push_of_some _ (Heap.get?_push_of_some _ (Heap.get?_push_size _ rfl)); have g2 : (zipMH5 s.heap l1 l2).get? (zipMH1 s.heap l1).objs.size = some _ := Heap.get?_push_of_some _ (Heap.get?_push_of_some _ (Heap.get?_push_of_some _ (Heap.get?_push_size _ rfl)))
  have g1 : (zipMH5 s.heap l1 l2).get? s.heap.objs.size = some _ := Heap.get?_push_of_some _ (Heap.get?_push_of_some _ (Heap.get?_push_of_some _ (Heap.get?_push_of_some _ (Heap.get?_push_size _ rfl)))); show _ ∧ _
  rw [z2, z3, z4] at g5; rw [z1, z2] at g3
  rw [z3] at g4; rw [z1] at g2
  rw [z4]; exact ⟨⟨_, g5, rfl⟩, h _ g5 g3 g4 ⟨_, g1, rfl, rfl⟩ ⟨_, g2, rfl, rfl⟩ z5 fun c o x =>
    Heap.get?_push_of_some _ (Heap.get?_push_of_some _ (Heap.get?_push_of_some _ (Heap.get?_push_of_some _ (Heap.get?_push_of_some _ x))))⟩
end
def ItzM (K : PySem.W.Frag) (a b : Addr) : It :=
  ⟨fun i H => ∃ (xs ys : List V) (x y : V), SqT K H a xs ∧ SqL K H b ys ∧ xs[i]? = some x ∧ ys[i]? = some y,
    fun i H v H' => ∃ T x y, v = .ref T ∧ H T = none ∧ H' = upd H T (.tup [x, y]) ∧ (∀ xs, SqT K H a xs → xs[i]? = some x) ∧ ∀ ys, SqL K H b ys → ys[i]? = some y,
    fun i H => ∃ xs ys : List V, SqT K H a xs ∧ SqL K H b ys ∧ (xs.length ≤ i ∨ ys.length ≤ i)⟩
theorem turn_zipM {P : Program} {w : World} {K : PySem.W.Frag} {elts : List Expr} {kk : Nat} {tpos : Pos} {a b z TI TO i1 i2 : Addr} (D : ZipApart z TI TO i1 i2 a b) :
    Turn P w K (.Tuple elts kk tpos) (ItzM K a b) [z, TI, TO, i1, i2] z (fun i h => IsZip h z TI TO .none ∧ IsPair h TI (.ref i1) (.ref i2) ∧ (∃ x y, IsPair h TO x y) ∧ h.IsTupleIter i1 a i ∧ h.IsListIter i2 b i) where
  mem := by simp
  obj := fun i h st c hc => by
    obtain ⟨jz, jTI, ⟨x, y, jTO⟩, ⟨o1, e1, _, d1⟩, ⟨o2, e2, _, d2⟩⟩ := st; have e' : c = z ∨ c = TI ∨ c = TO ∨ c = i1 ∨ c = i2 := by simpa using hc
    rcases e' with q | q | q | q | q
    · rw [q]; exact ⟨_, jz, fun v q => nomatch q⟩
    · rw [q]; exact ⟨_, jTI, fun v q => nomatch q⟩
    · rw [q]; exact ⟨_, jTO, fun v q => nomatch q⟩
    · rw [q]; exact ⟨o1, e1, fun v q => by rw [d1] at q; cases q⟩
    · rw [q]; exact ⟨o2, e2, fun v q => by rw [d2] at q; cases q⟩
  keep := fun i h h' st k => by
    obtain ⟨jz, jTI, ⟨x, y, jTO⟩, h1, h2⟩ := st; exact ⟨k z (by simp) _ jz, k TI (by simp) _ jTI, ⟨x, y, k TO (by simp) _ jTO⟩, h1.at fun o q => k i1 (by simp) o q, h2.at fun o q => k i2 (by simp) o q⟩
  item := by
    intro X hP hw hK hc i pins s σ H E I hf st hg
    subst hP hw hK; obtain ⟨jz, jTI, ⟨x0, y0, jTO⟩, h1, h2⟩ := st
    obtain ⟨xs, ys, x, y, hqx, hqy, jx, jy⟩ := hg; obtain ⟨its, rv, p, _⟩ := I.tuple hqx
    obtain ⟨its2, rv2, p2, _⟩ := I.list hqy; obtain ⟨u, hu, ru⟩ := rv.get jx
    obtain ⟨u2, hu2, ru2⟩ := rv2.get jy; have hzl : z < s.heap.objs.size := Heap.lt_size jz
    refine pyNext_zipM_item D jz jTI jTO h1 h2 p p2.isList (x := u) (y := u2) (by simpa using hu) (by simpa using hu2) fun h' z' TO' h1' h2' hT jsz jk => ?_; refine ⟨_, rfl, wpAny_letOwnedTupleGo_zip (s := { s with heap := h' }) z' fun h'' z'' sb => ?_⟩
    have hT2 : h''.get? s.heap.objs.size = some { cls := .type "tuple", data := .seq #[u, u2] } := (sb.2 _ (Nat.ne_of_gt hzl)).trans hT; have new : ObjOk X.prog X.w (upd H s.heap.objs.size (.tup [x, y])) h'' s.heap.objs.size (.tup [x, y]) :=
      ⟨by show 2 ≤ sizeLine; decide, [u, u2], .cons ru (.cons ru2 .nil), ⟨_, hT2, rfl, _, rfl⟩⟩
    have I1 : Inv X pins σ (upd H s.heap.objs.size (.tup [x, y])) { s with heap := h'' } :=
      I.turnedNew (t' := s.toks) (ch := [z, TI, TO, i1, i2]) (fun c o hb q => (sb.2 c (fun q' => hb (by simp [q']))).trans (jk c o (fun q' => hb (by simp [q'])) (fun q' => hb (by simp [q'])) (fun q' => hb (by simp [q'])) (fun q' => hb (by simp [q'])) q)) hf (Nat.le_refl _) new
    refine ⟨.ref s.heap.objs.size, _, I1, rfl, ⟨_, x, y, rfl, I.hok.fresh (Nat.le_refl _), rfl, fun l hl => by rw [I.tuple_inj hl hqx]; exact jx, fun l hl => by rw [I.list_inj hl hqy]; exact jy⟩, ⟨z'', ?_, ⟨u, u2, ?_⟩, ?_, ?_⟩, fun c hcm => ?_⟩
    · exact (sb.2 _ D.TIz).trans (jk _ _ D.TIz D.TITO D.TIi1 D.TIi2 jTI)
    · exact (sb.2 _ D.TOz).trans TO'
    · exact h1'.at fun o q => (sb.2 _ D.i1z).trans q
    · exact h2'.at fun o q => (sb.2 _ D.i2z).trans q
    · have hlt : c < s.heap.objs.size := by
        have e' : c = z ∨ c = TI ∨ c = TO ∨ c = i1 ∨ c = i2 := by simpa using hcm
        rcases e' with q | q | q | q | q
        · rw [q]; exact hzl
        · rw [q]; exact Heap.lt_size jTI
        · rw [q]; exact Heap.lt_size jTO
        · rw [q]; obtain ⟨_, e1, _⟩ := h1; exact Heap.lt_size e1
        · rw [q]; obtain ⟨_, e2, _⟩ := h2; exact Heap.lt_size e2
      rw [upd_ne (Nat.ne_of_lt hlt)]; exact (hf c hcm).1
  done := by
    intro X hP hw hK hc i pins s σ H E I hf st hg
    subst hP hw hK; obtain ⟨jz, jTI, ⟨x0, y0, jTO⟩, h1, h2⟩ := st
    obtain ⟨xs, ys, hqx, hqy, jend⟩ := hg; obtain ⟨its, rv, p, _⟩ := I.tuple hqx
    obtain ⟨its2, rv2, p2, _⟩ := I.list hqy; have l1 := rv.length
    have l2 := rv2.length; have he : its.toArray[i]? = none ∨ its2.toArray[i]? = none := by
      rcases jend with q | q
      · exact .inl (by simp; omega)
      · exact .inr (by simp; omega)
    exact pyNext_zipM_end (I.ok.hd hc) D jz jTI jTO h1 h2 p p2.isList he fun h' jk => ⟨rfl, I.turnedL (t' := s.toks) (ch := [z, TI, TO, i1, i2]) (fun c o hb q =>
      jk c o (fun q' => hb (by simp [q'])) (fun q' => hb (by simp [q'])) (fun q' => hb (by simp [q'])) (fun q' => hb (by simp [q'])) q) hf⟩
  self := fun A i s Q E st h => wpAny_pyIter_zip st.1 h
end K1
set_option Elab.async false
set_option linter.all false
set_option maxRecDepth 100000
set_option maxHeartbeats 2000000
namespace K1
open PySem PySem.Spec PyProof.Rows L2 RZ
def iZipM (K : PySem.W.Frag) (ta : TA) : TI := fun σ H R => ta σ H fun vs H1 => ∃ a b xs ys, vs = [.ref a, .ref b] ∧ SqT K H1 a xs ∧ SqL K H1 b ys ∧ R (ItzM K a b) H1
theorem pi_zipM {X : Cx} {e e2 : Expr} {ta : TA} {p pos tpos : Pos} {elts : List Expr} {kk : Nat} (hg : Gl X "zip") (hm : X.mg "zip" = none) (ha : PA X [e, e2] ta) (hs : starEach [e, e2] X.env = (false, eval e X.env) :: starEach [e2] X.env := by rfl) (hpl : (backTo pos (starEach [e2] X.env)).any (·.1) = false := by rfl) : PI X (.Tuple elts kk tpos) (.Call (.Name "zip" p) [e, e2] [] pos) (iZipM X.K ta) := by
  constructor
  intro pins s σ H R I h
  apply Call_ (ld_blt I hg hm PyProof.Rows.boot_zip (PyProof.Rows.callWith_type1 (thn (ha.run pos pins s σ H _ I h) ?_) hs hpl))
  intro us s1 ⟨vs, H1, I1, r1, a, b, xs, ys, ex, qx, qy, q⟩
  subst ex
  match us, r1 with
  | [u1, u2], .cons r (.cons r' .nil) =>
    cases r
    cases r'
    obtain ⟨its, rv, p1, _⟩ := I1.tuple qx
    obtain ⟨its2, rv2, p2, _⟩ := I1.list qy
    obtain ⟨o1, ho1, _⟩ := id p1
    have big : ∀ {c}, s1.heap.objs.size ≤ c → FpOk X pins H1 c := fun hle => I1.fpOk hle (I1.hok.fresh hle)
    apply call_zipM (show s1.heap.IsTuple a its.toArray from p1) p2.isList
    intro h' iz iTI iTO k1 k2 _ hk
    apply wpAny_pyIter_zip iz
    have I2 : Inv X pins σ H1 { s1 with heap := h' } := I1.kept (t' := s1.toks) hk
    have D := PySem.W.ktu_apart s1.heap.objs.size a b (Heap.lt_size ho1) p2.lt
    exact ⟨_, [s1.heap.objs.size + 4, s1.heap.objs.size + 2, s1.heap.objs.size + 3, s1.heap.objs.size, s1.heap.objs.size + 1], _, _, H1, rfl, I2, turn_zipM D, ⟨iz, iTI, ⟨_, _, iTO⟩, k1, k2⟩, fun c hc => by
      simp only [List.mem_cons, List.not_mem_nil, or_false] at hc
      rcases hc with z | z | z | z | z <;> (rw [z]; exact big (by omega)), q⟩
theorem walk_zipM {K : PySem.W.Frag} {a b : Addr} {xs ys : List V} {n : Nat} (hn : n = min xs.length ys.length) : Walk (ItzM K a b) n (fun H => SqT K H a xs ∧ SqL K H b ys) (YPair (fun i => xs[i]?) fun i => ys[i]?) := by
  subst hn
  constructor
  · intro i H hi q
    have b1 : i < xs.length := Nat.lt_of_lt_of_le hi (Nat.min_le_left _ _)
    have b2 : i < ys.length := Nat.lt_of_lt_of_le hi (Nat.min_le_right _ _)
    exact ⟨xs, ys, _, _, q.1, q.2, List.getElem?_eq_getElem b1, List.getElem?_eq_getElem b2⟩
  · intro H q
    refine ⟨xs, ys, q.1, q.2, ?_⟩
    omega
  · rintro i H v H' _ q ⟨T, x, z, e1, e2, e3, e4, e5⟩
    exact ⟨T, x, z, e1, e2, e3, e4 xs q.1, e5 ys q.2⟩
end K1
set_option Elab.async false
set_option linter.all false
set_option maxRecDepth 100000
set_option maxHeartbeats 2000000
namespace K1
open PySem PySem.Spec PyProof.Rows L2 RZ
section
variable {P : Program} {w : World} {K : PySem.W.Frag} {mg : Str → Option Value} {base : Heap} {f : Addr} {fd : FuncData}
/-- is a tree's text tight -/
def spTight : Sp := fun vs H Q _ => ∃ (v : V) (t : T), vs = [v] ∧ At H t v ∧ ∀ H' b, Same H H' → Q (.bl b) H'
theorem scTi : FnScope ["tree"] ["tree"] (defScope (top 149)) := ⟨rfl, rfl, rfl, by decide +kernel, rfl, by decide +kernel, by decide +kernel⟩
theorem ok_tight (F : FnP K "_law_is_tight" (top 149) f fd) : FnOk P w K mg base CX0 1 f fd ["tree"] spTight := by
  refine F.ok scTi (fun vs H Q E h => ?_) ?_
  · obtain ⟨v, t, rfl, _⟩ := h
    rfl
  intro cdv A outer s H vs Q E hr h
  refine' ⟨_, PSs.nox ?p, ?q⟩
  case p =>
    exact pss_one (ps_ret (pe_cmpR op_in_seq (pe_ix (r := rIxT K) ix_tup (pv 0) pe_int (fun _ _ => rfl)) (pe_tup (pa_cons pe_str (pa_cons pe_str (pa_cons pe_str (pa_cons pe_str (pa_cons pe_str pa_nil)))))) (by rfl)))

  case q =>
    obtain ⟨v, t, rfl, ht, q⟩ := h
    obtain ⟨p, rest, rfl, hp⟩ := ht.head
    exact ⟨_, rfl, p, _, 0, .str t.word, rfl, rfl, .inl (.inl hp), at0, small (by decide), fun c hc => ⟨c, _, rfl, .inr (.inl (.inl upd_same)), rfl, by rfl, q _ _ (Same.new hc)⟩⟩
/-- str(x) of an int or a text -/
def rStrA : List V → Hp → VK → Prop := fun xs H Q => (∃ i : Int, xs = [.int i] ∧ 0 ≤ i ∧ i ≤ 1000 ∧ Q (.str (Str.ofString (toString i))) H) ∨ ∃ a, xs = [.str a] ∧ Q (.str a) H
theorem call_strA {X : Cx} : CallR X (.type "str") rStrA := by
  intro pins s σ H xs us Q I r h
  rcases h with ⟨i, e, h0, h1, q⟩ | ⟨a, e, q⟩
  · exact call_str_int pins s σ H xs us Q I r ⟨i, e, by
      have : i.natAbs < 2 ^ 1920 := Nat.lt_of_le_of_lt (show i.natAbs ≤ 1000 by omega) (by decide)
      by_cases z : i.natAbs = 0
      · rw [z]; decide
      · exact (Nat.log2_lt z).mpr this, q⟩
  · exact SkE.call_str_str pins s σ H xs us Q I r ⟨a, e, q⟩
end
end K1
set_option Elab.async false
set_option linter.all false
set_option maxRecDepth 100000
set_option maxHeartbeats 4000000
namespace K1
open PySem PySem.Spec PyProof.Rows L2 RZ
theorem wd_al : ∀ k : Fin 11, inV (.str (wd k)) [.str "add", .str "less"] = (k.val == 2 || k.val == 3) := by decide +kernel
theorem wd_fr : ∀ k : Fin 11, inV (.str (wd k)) [.str "fn", .str "rec"] = (k.val == 6 || k.val == 7) := by decide +kernel
theorem wd_add : ∀ k : Fin 11, decide (V.str (wd k) = V.str "add") = (k.val == 2) := by decide +kernel
theorem wd_fn : ∀ k : Fin 11, decide (V.str (wd k) = V.str "fn") = (k.val == 6) := by decide +kernel
theorem wd_if : ∀ k : Fin 11, decide (V.str (wd k) = V.str "if") = (k.val == 5) := by decide +kernel
theorem wd_call : ∀ k : Fin 11, decide (V.str (wd k) = V.str "call") = (k.val == 4) := by decide +kernel
theorem wd_fld : ∀ k : Fin 11, decide (V.str (wd k) = V.str "field") = (k.val == 8) := by decide +kernel
theorem wd_let : ∀ k : Fin 11, decide (V.str (wd k) = V.str "let") = (k.val == 9) := by decide +kernel
def TxA (m : Nat) (t : T) (x : V) : Prop := ∃ s, x = .str s ∧ Tx (36 * t.size + m) s
def spTold : Sp := fun vs H Q _ => ∃ (v : V) (t : T) (a b : Addr) (xs ys : List V), vs = [v, .ref a, .ref b] ∧ At H t v ∧ t.ok ∧ t.size ≤ 400 ∧ H a = some (.lst xs) ∧ Paired (At H) t.parts xs ∧ H b = some (.lst ys) ∧ Paired (TxA 0) t.parts ys ∧
  ∀ H' s, Same H H' → Tx (36 * t.size) s → Q (.str s) H'
abbrev nscTo : List Str := ["own", "parts", "texts", "snug", "head", "text", "part", "field"]
theorem scTo : FnScope nscTo ["own", "parts", "texts"] (defScope (top 151)) := ⟨rfl, rfl, rfl, by decide +kernel, rfl, by decide +kernel, by decide +kernel⟩
theorem le_sum : ∀ {l : List Nat} {x : Nat}, x ∈ l → x ≤ l.sum
  | a :: l, x, h => by
    rcases List.mem_cons.mp h with rfl | h
    · simp
    · have := le_sum h
      simp
      omega
theorem kid_le {t p : T} (h : p ∈ t.parts) : p.size + 1 ≤ t.size := by
  rw [t.size_eq]
  have : p.size ∈ t.parts.map T.size := List.mem_map_of_mem h
  have := le_sum this
  unfold T.kids
  omega
theorem kids3 (t : T) : t.parts.length ≤ 3 := by
  cases t <;> simp [T.parts]
theorem paired_appB {α β : Type} {R : α → β → Prop} : ∀ {a a' : List α} {b b' : List β}, Paired R a b → Paired R a' b' → Paired R (a ++ a') (b ++ b')
  | _, _, _, _, .nil, h => h
  | _, _, _, _, .cons r t, h => .cons r (paired_appB t h)
theorem paired_backB {α β : Type} {R : α → β → Prop} : ∀ {a : List α} {b : List β} {i : Nat} {z : β}, Paired R a b → b[i]? = some z → ∃ x, a[i]? = some x ∧ R x z
  | _, _, _, _, .nil, h => by simp at h
  | _, _, 0, _, .cons r t, h => by simp at h; subst h; exact ⟨_, rfl, r⟩
  | _, _, i + 1, z, .cons r t, h => by
    obtain ⟨x, h1, h2⟩ := paired_backB (i := i) (z := z) t (by simpa using h)
    exact ⟨x, by simpa using h1, h2⟩
theorem pc_cons {α β : Type} {R : α → β → Prop} {a : α} {l : List α} {ys : List β} (h : Paired R (a :: l) ys) : ∃ y r, ys = y :: r ∧ R a y ∧ Paired R l r := by
  cases h with
  | cons r t => exact ⟨_, _, rfl, r, t⟩
theorem pc_nil {α β : Type} {R : α → β → Prop} {ys : List β} (h : Paired R [] ys) : ys = [] := by
  cases h
  rfl
theorem join_nil (s : Str) : Txt.join s [] = "" := by rw [TL.join_eq]; rfl
theorem join_two (s a b : Str) : Txt.join s [a, b] = a ++ s ++ b := by rw [TL.join_eq]; rfl
theorem lenJ {a b n m : Nat} (h : a ≤ n) (k : b ≤ m) (hn : n ≤ 20000) (hm : m ≤ 20000) : a + (b + 0) + (0 + 1 + 1) * (", " : Str).length ≤ 16777216 := by
  have : (", " : Str).length = 2 := by decide +kernel
  omega
theorem leaf_cases {t : T} (h : t.leaf = true) : (∃ i, t = .num i) ∨ ∃ x, t = .nam x := by
  cases t with
  | num i => exact .inl ⟨i, rfl⟩
  | nam x => exact .inr ⟨x, rfl⟩
  | bin w a b => rcases w with _ | _ | _ <;> exact absurd h Bool.false_ne_true
  | ite a b c => exact absurd h Bool.false_ne_true
  | fn a b => exact absurd h Bool.false_ne_true
  | rc a b c => exact absurd h Bool.false_ne_true
  | fld a => exact absurd h Bool.false_ne_true
  | lt a b c => exact absurd h Bool.false_ne_true
  | r0 => exact absurd h Bool.false_ne_true
  | r2 a b c => exact absurd h Bool.false_ne_true
theorem lenS {n m : Nat} (h : n ≤ m) (k : m ≤ 20000) : n ≤ sizeLine := by rw [sizeLine_eq]; omega
theorem paired_takeS {α β : Type} {R : α → β → Prop} {l : List α} {n : Nat} {a : α} {zs : List β} {z : β} (h : Paired R (l.take n) zs) (e : l[n]? = some a) (r : R a z) : Paired R (l.take (n + 1)) (zs ++ [z]) := by
  rw [List.take_add_one, e]
  exact paired_appB h (.cons r .nil)
section
variable {P : Program} {w : World} {K : PySem.W.Frag} {mg : Str → Option Value} {base : Heap} {f : Addr} {fd : FuncData}
theorem ok_told {fT : Addr} {fdT : FuncData} (F : FnP K "_law_told" (top 151) f fd) (B : Bn mg) (F_law_is_tight : FnP K "_law_is_tight" (top 149) fT fdT) (g_law_is_tight : mg "_law_is_tight" = some (.ref fT)) : FnOk P w K mg base CX0 2 f fd ["own", "parts", "texts"] spTold := by
  have G_law_is_tight : FnOk P w K mg base CX0 1 fT fdT ["tree"] spTight := ok_tight F_law_is_tight
  have b_law_is_tight : Binds K fdT ["tree"] [] := F_law_is_tight.bindsN fun _ _ _ _ _ _ us hl => match us, hl with | [_], _ => rfl
  refine F.ok scTo (fun vs H Q E h => ?_) ?_
  · obtain ⟨v, t, a, b, xs, ys, rfl, _⟩ := h
    rfl
  intro cdv A outer s H vs Q E hr h
  refine' ⟨_, PSs.nox ?p, ?q⟩
  case p =>
    refine' pss_cons (ps_if (pt_cmpR op_in_seq (pe_ix (r := rIxT K) ix_tup (pv 0) pe_int (fun _ _ => rfl)) (pe_tup (pa_cons pe_str (pa_cons pe_str pa_nil))) (by rfl)) (pss_one (ps_ret (pe_callTy call_strA rfl B.str boot_str (pa_cons (pe_ix (r := rIxT K) ix_tup (pv 0) pe_int (fun _ _ => rfl)) pa_nil)))) (pss_nil)) ?w0
    case w0 =>
    refine' pss_cons (ps_setLc (i := 3) (own := [("part", 6), ("text", 5)]) (g := (gTup K 2 (gCons (gName 6) (gCons (gName 5) gNil)))) (tt := tYes) rfl scTo.nd rfl rfl (sw_true rfl rfl rfl (by decide +kernel)) (pi_zip rfl B.zip (pa_cons (pv 1) (pa_cons (pv 2) pa_nil))) (blkOk_by (N := nscTo) (sc := defScope (top 151)) (by decide +kernel)) (fun _ _ _ _ _ => pg_tup rfl (pgs_cons (pg_name (i := 6) scTo.nd rfl (Or.inl rfl) (Or.inr rfl)) (pgs_cons (pg_name (i := 5) scTo.nd rfl (Or.inl rfl) (Or.inr rfl)) pgs_nil))) (fun _ _ _ _ _ => pts_nil) (fun _ _ _ _ _ => (pe_ifExp (pt_val (pe_call G_law_is_tight (hr.mono (by decide)) rfl g_law_is_tight F_law_is_tight.kp b_law_is_tight .nil pass0 (pa_cons (pv 6) pa_nil))) (pv 5) (pe_op op_add_str (pe_op op_add_str pe_str (pv 5)) pe_str)))) ?w1
    case w1 =>
    refine' pss_cons (ps_if (pt_cmpR op_in_seq (pe_ix (r := rIxT K) ix_tup (pv 0) pe_int (fun _ _ => rfl)) (pe_tup (pa_cons pe_str (pa_cons pe_str pa_nil))) (by rfl)) (pss_one (ps_ret (pe_op op_add_str (pe_op op_add_str (pe_ix (r := rIxL K) ix_list (pv 3) pe_int (fun _ _ => rfl)) (pe_ifExp (pt_cmpR op_eq (pe_ix (r := rIxT K) ix_tup (pv 0) pe_int (fun _ _ => rfl)) pe_str (nomark _)) pe_str pe_str)) (pe_ix (r := rIxL K) ix_list (pv 3) pe_int (fun _ _ => rfl))))) (pss_nil)) ?w2
    case w2 =>
    refine' pss_cons (ps_if (pt_cmpR op_eq (pe_ix (r := rIxT K) ix_tup (pv 0) pe_int (fun _ _ => rfl)) pe_str (nomark _)) (pss_one (ps_ret (pe_op op_add_str (pe_op op_add_str (pe_op op_add_str (pe_op op_add_str (pe_op op_add_str pe_str (pe_ix (r := rIxL K) ix_list (pv 2) pe_int (fun _ _ => rfl))) pe_str) (pe_ix (r := rIxL K) ix_list (pv 2) pe_int (fun _ _ => rfl))) pe_str) (pe_ix (r := rIxL K) ix_list (pv 2) pe_int (fun _ _ => rfl))))) (pss_nil)) ?w3
    case w3 =>
    refine' pss_cons (ps_if (pt_cmpR op_in_seq (pe_ix (r := rIxT K) ix_tup (pv 0) pe_int (fun _ _ => rfl)) (pe_tup (pa_cons pe_str (pa_cons pe_str pa_nil))) (by rfl)) (pss_cons (ps_set (i := 4) scTo.nd rfl (Or.inl rfl) (pe_ifExp (pt_cmpR op_eq (pe_ix (r := rIxT K) ix_tup (pv 0) pe_int (fun _ _ => rfl)) pe_str (nomark _)) (pe_op op_add_str pe_str (pe_ix (r := rIxT K) ix_tup (pv 0) pe_int (fun _ _ => rfl))) (pe_op op_add_str (pe_op op_add_str (pe_op op_add_str (pe_op op_add_str pe_str (pe_ix (r := rIxT K) ix_tup (pv 0) pe_int (fun _ _ => rfl))) pe_str) (pe_ix (r := rIxT K) ix_tup (pv 0) pe_int (fun _ _ => rfl))) pe_str))) (pss_one (ps_ret (pe_op op_add_str (pe_op op_add_str (pv 4) pe_str) (pe_ix (r := rIxL K) ix_list (pv 2) pe_int (fun _ _ => rfl)))))) (pss_nil)) ?w4
    case w4 =>
    refine' pss_cons (ps_if (pt_cmpR op_eq (pe_ix (r := rIxT K) ix_tup (pv 0) pe_int (fun _ _ => rfl)) pe_str (nomark _)) (pss_one (ps_ret (pe_op op_add_str (pe_op op_add_str (pe_op op_add_str (pe_ix (r := rIxL K) ix_list (pv 3) pe_int (fun _ _ => rfl)) pe_str) (pe_ix (r := rIxL K) ix_list (pv 2) pe_int (fun _ _ => rfl))) pe_str))) (pss_nil)) ?w5
    case w5 =>
    refine' pss_cons (ps_if (pt_cmpR op_eq (pe_ix (r := rIxT K) ix_tup (pv 0) pe_int (fun _ _ => rfl)) pe_str (nomark _)) (pss_one (ps_ret (pe_op op_add_str (pe_op op_add_str (pe_ix (r := rIxL K) ix_list (pv 3) pe_int (fun _ _ => rfl)) pe_str) (pe_ix (r := rIxT K) ix_tup (pv 0) pe_int (fun _ _ => rfl))))) (pss_nil)) ?w6
    case w6 =>
    refine' pss_cons (ps_if (pt_cmpR op_eq (pe_ix (r := rIxT K) ix_tup (pv 0) pe_int (fun _ _ => rfl)) pe_str (nomark _)) (pss_one (ps_ret (pe_op op_add_str (pe_op op_add_str (pe_op op_add_str (pe_op op_add_str (pe_op op_add_str pe_str (pe_ix (r := rIxT K) ix_tup (pv 0) pe_int (fun _ _ => rfl))) pe_str) (pe_ix (r := rIxL K) ix_list (pv 2) pe_int (fun _ _ => rfl))) pe_str) (pe_ix (r := rIxL K) ix_list (pv 2) pe_int (fun _ _ => rfl))))) (pss_nil)) ?w7
    case w7 =>
    exact pss_one (ps_ret (pe_op op_add_str (pe_op op_add_str pe_str (pe_join pe_str (pe_lc (own := [("field", 7), ("text", 5)]) (g := (gTup K 2 (gCons (gName 7) (gCons (gName 5) gNil)))) (tt := tYes) rfl scTo.nd (pi_zipM rfl B.zip (pa_cons (pe_ix (r := rIxT K) ix_tup (pv 0) pe_int (fun _ _ => rfl)) (pa_cons (pv 2) pa_nil))) (blkOk_by (N := nscTo) (sc := defScope (top 151)) (by decide +kernel)) (fun _ _ _ _ _ => pg_tup rfl (pgs_cons (pg_name (i := 7) scTo.nd rfl (Or.inl rfl) (Or.inr rfl)) (pgs_cons (pg_name (i := 5) scTo.nd rfl (Or.inl rfl) (Or.inr rfl)) pgs_nil))) (fun _ _ _ _ _ => pts_nil) (fun _ _ _ _ _ => (pe_op op_add_str (pe_op op_add_str (pe_ix (r := rIxT K) ix_tup (pv 7) pe_int (fun _ _ => rfl)) pe_str) (pv 5)))))) pe_str))

  case q =>
    obtain ⟨v, t, a, b, xs, ys, rfl, ht, hok, hsz, ha, hxs, hb, hys, q⟩ := h
    obtain ⟨p, rest, rfl, hp⟩ := ht.head
    refine ⟨_, rfl, p, _, 0, .str t.word, rfl, rfl, .inl (.inl hp), at0, small (by decide), fun c hc => ⟨c, _, rfl, .inr (.inl (.inl upd_same)), rfl, by rfl, _, rfl, ?_⟩⟩
    have s0 : Same H (upd H c (.tup [.str "number", .str "name"])) := Same.new hc
    by_cases hl : t.leaf = true
    · refine ifT ((wd_leaf t.k).trans hl) ?_
      rcases leaf_cases hl with ⟨i, rfl⟩ | ⟨x, rfl⟩
      · obtain ⟨p', e', hp'⟩ := ht
        cases e'
        exact ⟨_, rfl, p, _, 1, .int i, rfl, rfl, .inl (.inl (s0 _ _ hp')), rfl, .inl ⟨i, rfl, hok.1, hok.2, q _ _ s0 ((tx_int hok.1 hok.2).le (show 4 ≤ 36 * 1 by decide))⟩⟩
      · obtain ⟨p', e', hp'⟩ := ht
        cases e'
        exact ⟨_, rfl, p, _, 1, .str x, rfl, rfl, .inl (.inl (s0 _ _ hp')), rfl, .inr ⟨x, rfl, q _ _ s0 (Tx.le hok (show 6 ≤ 36 * 1 by decide))⟩⟩
    · refine ifF ((wd_leaf t.k).trans (by simpa [T.leaf] using hl)) ?_
      refine ⟨_, rfl, _, rfl, a, b, xs, ys, rfl, SqL.of (s0 a _ ha), SqL.of (s0 b _ hb), fun D hD => ?_⟩
      have n3 := kids3 t
      have lx := hxs.length
      have ly := hys.length
      refine lc_it (walk_zip (K := K) (a := a) (b := b) (xs := xs) (ys := ys) (n := t.parts.length) (by omega)) (fun n H2 => Same (upd H c (.tup [.str "number", .str "name"])) H2 ∧ ∃ zs, H2 D = some (.lst zs) ∧ Paired (TxA 2) (t.parts.take n) zs) ⟨Same.new hD, [], upd_same, .nil⟩ (fun n H2 _ z => ⟨SqL.of (z.1 _ _ (s0 a _ ha)), SqL.of (z.1 _ _ (s0 b _ hb))⟩) ?_ ?_
      · rintro n x H2 H3 hn ⟨s1, zs, hz, hpz⟩ ⟨T', x1, y1, rfl, hT, rfl, hx1, hy1⟩
        obtain ⟨t', ht', hy, rfl, hty⟩ := paired_backB hys hy1
        obtain ⟨t2, ht2, hat⟩ := paired_backB hxs hx1
        rw [ht'] at ht2
        cases ht2
        have hmem : t' ∈ t.parts := List.mem_of_getElem? ht'
        have hle := kid_le hmem
        have hlen := hty.1
        have nD : D ≠ T' := ne_of_none hz hT
        have zl : zs.length < sizeLine := by
          rw [← hpz.length, sizeLine_eq]
          have := List.length_take_le' n t.parts
          omega
        have s2 : Same (upd H c (.tup [.str "number", .str "name"])) (upd H2 T' (.tup [x1, .str hy])) := sameU s1 hT
        have fin : ∀ H4 z, Same (upd H2 T' (.tup [x1, .str hy])) H4 → TxA 2 t' z → ∃ acc, H4 D = some (.lst acc) ∧ acc.length < sizeLine ∧ Same (upd H c (.tup [.str "number", .str "name"])) (upd H4 D (.lst (acc ++ [z]))) ∧ ∃ zs, upd H4 D (.lst (acc ++ [z])) D = some (.lst zs) ∧ Paired (TxA 2) (t.parts.take (n + 1)) zs := fun H4 z s4 hz4 => by
          refine ⟨zs, s4 D _ (by rw [upd_ne nD]; exact hz), zl, fun b2 o2 e2 => ?_, _, upd_same, paired_takeS hpz ht' hz4⟩
          rw [upd_ne (ne_of_none e2 hD)]
          exact s4 _ _ (s2 _ _ e2)
        refine ⟨T', _, rfl, .inl (.inl upd_same), rfl, _, _, rfl, _, _, rfl, rfl, rfl, iteT (B := (fun n H2 => Same (upd H c (.tup [.str "number", .str "name"])) H2 ∧ ∃ zs, H2 D = some (.lst zs) ∧ Paired (TxA 2) (t.parts.take n) zs) (n + 1) (upd H2 T' (.tup [x1, .str hy]))) ?_⟩
        refine ⟨_, rfl, x1, t', rfl, hat.on ((KT.same s0).trans (KT.same s2)), fun H4 b4 s4 => ⟨b4, rfl, ?_⟩⟩
        cases b4 with
        | true => exact ifT rfl ⟨_, rfl, fin H4 _ s4 ⟨hy, rfl, hty.le (by omega)⟩⟩
        | false =>
          have c1 : Tx 1 ("(" : Str) := tx_of (by decide +kernel)
          have c2 : Tx 1 (")" : Str) := tx_of (by decide +kernel)
          have e1 := c1.app hty
          have e2 := e1.app c2
          refine ifF rfl ⟨_, rfl, _, _, rfl, rfl, by rw [← Str.length_append]; exact lenS e1.1 (by omega), _, _, rfl, rfl, by rw [← Str.length_append]; exact lenS e2.1 (by omega), fin H4 _ s4 ⟨_, rfl, e2.le (by omega)⟩⟩
      · rintro H2 ⟨s1, zs, hz, hpz⟩
        rw [List.take_length] at hpz
        have sH : Same H H2 := fun b o e => s1 b o (s0 b o e)
        have r0 : Same H2 H2 := fun _ _ e => e
        clear hp hxs lx ly n3 s1 s0 hc hD
        clear ha
        match t, ht, hok, hsz, hl, hpz, hys, q with
        | .bin 0 a b0, ht, hok, hsz, hl, hpz, hys, q => 
          obtain ⟨p', x', y', e', hp, h1, h2⟩ := ht
          cases e'
          have hs : a.size + b0.size + 1 ≤ 400 := hsz
          obtain ⟨zv0, hpzr0, rfl, ⟨z0, rfl, kz0⟩, hpz0⟩ := pc_cons hpz
          obtain ⟨zv1, hpzr1, rfl, ⟨z1, rfl, kz1⟩, hpz1⟩ := pc_cons hpz0
          cases pc_nil hpz1
          obtain ⟨yv0, hysr0, rfl, ⟨y0, rfl, ky0⟩, hys0⟩ := pc_cons hys
          obtain ⟨yv1, hysr1, rfl, ⟨y1, rfl, ky1⟩, hys1⟩ := pc_cons hys0
          cases pc_nil hys1
          refine ⟨_, rfl, p, _, 0, .str (wd 2), rfl, rfl, .inl (.inl (r0 p _ (sH p _ hp))), rfl, small (by decide), fun c1 hc1 => ⟨c1, _, rfl, .inr (.inl (.inl upd_same)), rfl, by rfl, _, rfl, ifT ((wd_al 2).trans rfl) ?_⟩⟩
          have r1 := sameU (o := .tup [.str "add", .str "less"]) r0 hc1
          have e0 := Tx.app kz0 (tx_of (by decide +kernel) : Tx 3 (" + " : Str))
          have e1 := Tx.app e0 kz1
          exact ⟨_, rfl, D, _, 0, .str z0, rfl, rfl, SqL.of (r1 D _ hz), rfl, _, rfl, p, _, 0, .str (wd 2), rfl, rfl, .inl (.inl (r1 p _ (sH p _ hp))), rfl, rfl, _, rfl, ifT ((wd_add 2).trans rfl) ⟨_, _, rfl, rfl, by rw [← Str.length_append]; exact lenS e0.1 (by omega), _, rfl, D, _, 1, .str z1, rfl, rfl, SqL.of (r1 D _ hz), rfl, _, _, rfl, rfl, by rw [← Str.length_append]; exact lenS e1.1 (by omega), q _ _ (fun b o e => r1 b o (sH b o e)) (e1.le (show _ ≤ 36 * (a.size + b0.size + 1) by omega))⟩⟩
        | .bin 1 a b0, ht, hok, hsz, hl, hpz, hys, q => 
          obtain ⟨p', x', y', e', hp, h1, h2⟩ := ht
          cases e'
          have hs : a.size + b0.size + 1 ≤ 400 := hsz
          obtain ⟨zv0, hpzr0, rfl, ⟨z0, rfl, kz0⟩, hpz0⟩ := pc_cons hpz
          obtain ⟨zv1, hpzr1, rfl, ⟨z1, rfl, kz1⟩, hpz1⟩ := pc_cons hpz0
          cases pc_nil hpz1
          obtain ⟨yv0, hysr0, rfl, ⟨y0, rfl, ky0⟩, hys0⟩ := pc_cons hys
          obtain ⟨yv1, hysr1, rfl, ⟨y1, rfl, ky1⟩, hys1⟩ := pc_cons hys0
          cases pc_nil hys1
          refine ⟨_, rfl, p, _, 0, .str (wd 3), rfl, rfl, .inl (.inl (r0 p _ (sH p _ hp))), rfl, small (by decide), fun c1 hc1 => ⟨c1, _, rfl, .inr (.inl (.inl upd_same)), rfl, by rfl, _, rfl, ifT ((wd_al 3).trans rfl) ?_⟩⟩
          have r1 := sameU (o := .tup [.str "add", .str "less"]) r0 hc1
          have e0 := Tx.app kz0 (tx_of (by decide +kernel) : Tx 3 (" - " : Str))
          have e1 := Tx.app e0 kz1
          exact ⟨_, rfl, D, _, 0, .str z0, rfl, rfl, SqL.of (r1 D _ hz), rfl, _, rfl, p, _, 0, .str (wd 3), rfl, rfl, .inl (.inl (r1 p _ (sH p _ hp))), rfl, rfl, _, rfl, ifF ((wd_add 3).trans rfl) ⟨_, _, rfl, rfl, by rw [← Str.length_append]; exact lenS e0.1 (by omega), _, rfl, D, _, 1, .str z1, rfl, rfl, SqL.of (r1 D _ hz), rfl, _, _, rfl, rfl, by rw [← Str.length_append]; exact lenS e1.1 (by omega), q _ _ (fun b o e => r1 b o (sH b o e)) (e1.le (show _ ≤ 36 * (a.size + b0.size + 1) by omega))⟩⟩
        | .bin (_ + 2) a b0, ht, hok, hsz, hl, hpz, hys, q => 
          obtain ⟨p', x', y', e', hp, h1, h2⟩ := ht
          cases e'
          have hs : a.size + b0.size + 1 ≤ 400 := hsz
          obtain ⟨zv0, hpzr0, rfl, ⟨z0, rfl, kz0⟩, hpz0⟩ := pc_cons hpz
          obtain ⟨zv1, hpzr1, rfl, ⟨z1, rfl, kz1⟩, hpz1⟩ := pc_cons hpz0
          cases pc_nil hpz1
          obtain ⟨yv0, hysr0, rfl, ⟨y0, rfl, ky0⟩, hys0⟩ := pc_cons hys
          obtain ⟨yv1, hysr1, rfl, ⟨y1, rfl, ky1⟩, hys1⟩ := pc_cons hys0
          cases pc_nil hys1
          refine ⟨_, rfl, p, _, 0, .str (wd 4), rfl, rfl, .inl (.inl (r0 p _ (sH p _ hp))), rfl, small (by decide), fun c1 hc1 => ⟨c1, _, rfl, .inr (.inl (.inl upd_same)), rfl, by rfl, _, rfl, ifF ((wd_al 4).trans rfl) ?_⟩⟩
          have r1 := sameU (o := .tup [.str "add", .str "less"]) r0 hc1
          refine ⟨_, rfl, p, _, 0, .str (wd 4), rfl, rfl, .inl (.inl (r1 p _ (sH p _ hp))), rfl, rfl, _, rfl, ifF ((wd_if 4).trans rfl) ?_⟩
          refine ⟨_, rfl, p, _, 0, .str (wd 4), rfl, rfl, .inl (.inl (r1 p _ (sH p _ hp))), rfl, small (by decide), fun c2 hc2 => ⟨c2, _, rfl, .inr (.inl (.inl upd_same)), rfl, by rfl, _, rfl, ifF ((wd_fr 4).trans rfl) ?_⟩⟩
          have r2 := sameU (o := .tup [.str "fn", .str "rec"]) r1 hc2
          refine ⟨_, rfl, p, _, 0, .str (wd 4), rfl, rfl, .inl (.inl (r2 p _ (sH p _ hp))), rfl, rfl, _, rfl, ifT ((wd_call 4).trans rfl) ?_⟩
          have e0 := Tx.app kz0 (tx_of (by decide +kernel) : Tx 1 ("(" : Str))
          have e1 := Tx.app e0 ky1
          have e2 := Tx.app e1 (tx_of (by decide +kernel) : Tx 1 (")" : Str))
          exact ⟨_, rfl, D, _, 0, .str z0, rfl, rfl, SqL.of (r2 D _ hz), rfl, _, _, rfl, rfl, by rw [← Str.length_append]; exact lenS e0.1 (by omega), _, rfl, b, _, 1, .str y1, rfl, rfl, SqL.of (r2 b _ (sH b _ hb)), rfl, _, _, rfl, rfl, by rw [← Str.length_append]; exact lenS e1.1 (by omega), _, _, rfl, rfl, by rw [← Str.length_append]; exact lenS e2.1 (by omega), q _ _ (fun b o e => r2 b o (sH b o e)) (e2.le (show _ ≤ 36 * (a.size + b0.size + 1) by omega))⟩
        | .ite a b0 c0, ht, hok, hsz, hl, hpz, hys, q => 
          obtain ⟨p', x', y', z', e', hp, h1, h2, h3⟩ := ht
          cases e'
          have hs : a.size + b0.size + c0.size + 1 ≤ 400 := hsz
          obtain ⟨zv0, hpzr0, rfl, ⟨z0, rfl, kz0⟩, hpz0⟩ := pc_cons hpz
          obtain ⟨zv1, hpzr1, rfl, ⟨z1, rfl, kz1⟩, hpz1⟩ := pc_cons hpz0
          obtain ⟨zv2, hpzr2, rfl, ⟨z2, rfl, kz2⟩, hpz2⟩ := pc_cons hpz1
          cases pc_nil hpz2
          obtain ⟨yv0, hysr0, rfl, ⟨y0, rfl, ky0⟩, hys0⟩ := pc_cons hys
          obtain ⟨yv1, hysr1, rfl, ⟨y1, rfl, ky1⟩, hys1⟩ := pc_cons hys0
          obtain ⟨yv2, hysr2, rfl, ⟨y2, rfl, ky2⟩, hys2⟩ := pc_cons hys1
          cases pc_nil hys2
          refine ⟨_, rfl, p, _, 0, .str (wd 5), rfl, rfl, .inl (.inl (r0 p _ (sH p _ hp))), rfl, small (by decide), fun c1 hc1 => ⟨c1, _, rfl, .inr (.inl (.inl upd_same)), rfl, by rfl, _, rfl, ifF ((wd_al 5).trans rfl) ?_⟩⟩
          have r1 := sameU (o := .tup [.str "add", .str "less"]) r0 hc1
          refine ⟨_, rfl, p, _, 0, .str (wd 5), rfl, rfl, .inl (.inl (r1 p _ (sH p _ hp))), rfl, rfl, _, rfl, ifT ((wd_if 5).trans rfl) ?_⟩
          have e0 := Tx.app (tx_of (by decide +kernel) : Tx 3 ("if " : Str)) ky0
          have e1 := Tx.app e0 (tx_of (by decide +kernel) : Tx 6 (" then " : Str))
          have e2 := Tx.app e1 ky1
          have e3 := Tx.app e2 (tx_of (by decide +kernel) : Tx 6 (" else " : Str))
          have e4 := Tx.app e3 ky2
          exact ⟨_, rfl, b, _, 0, .str y0, rfl, rfl, SqL.of (r1 b _ (sH b _ hb)), rfl, _, _, rfl, rfl, by rw [← Str.length_append]; exact lenS e0.1 (by omega), _, _, rfl, rfl, by rw [← Str.length_append]; exact lenS e1.1 (by omega), _, rfl, b, _, 1, .str y1, rfl, rfl, SqL.of (r1 b _ (sH b _ hb)), rfl, _, _, rfl, rfl, by rw [← Str.length_append]; exact lenS e2.1 (by omega), _, _, rfl, rfl, by rw [← Str.length_append]; exact lenS e3.1 (by omega), _, rfl, b, _, 2, .str y2, rfl, rfl, SqL.of (r1 b _ (sH b _ hb)), rfl, _, _, rfl, rfl, by rw [← Str.length_append]; exact lenS e4.1 (by omega), q _ _ (fun b o e => r1 b o (sH b o e)) (e4.le (show _ ≤ 36 * (a.size + b0.size + c0.size + 1) by omega))⟩
        | .fn x0 a, ht, hok, hsz, hl, hpz, hys, q => 
          obtain ⟨p', x', e', hp, h1⟩ := ht
          cases e'
          have hs : a.size + 1 ≤ 400 := hsz
          obtain ⟨zv0, hpzr0, rfl, ⟨z0, rfl, kz0⟩, hpz0⟩ := pc_cons hpz
          cases pc_nil hpz0
          obtain ⟨yv0, hysr0, rfl, ⟨y0, rfl, ky0⟩, hys0⟩ := pc_cons hys
          cases pc_nil hys0
          refine ⟨_, rfl, p, _, 0, .str (wd 6), rfl, rfl, .inl (.inl (r0 p _ (sH p _ hp))), rfl, small (by decide), fun c1 hc1 => ⟨c1, _, rfl, .inr (.inl (.inl upd_same)), rfl, by rfl, _, rfl, ifF ((wd_al 6).trans rfl) ?_⟩⟩
          have r1 := sameU (o := .tup [.str "add", .str "less"]) r0 hc1
          refine ⟨_, rfl, p, _, 0, .str (wd 6), rfl, rfl, .inl (.inl (r1 p _ (sH p _ hp))), rfl, rfl, _, rfl, ifF ((wd_if 6).trans rfl) ?_⟩
          refine ⟨_, rfl, p, _, 0, .str (wd 6), rfl, rfl, .inl (.inl (r1 p _ (sH p _ hp))), rfl, small (by decide), fun c2 hc2 => ⟨c2, _, rfl, .inr (.inl (.inl upd_same)), rfl, by rfl, _, rfl, ifT ((wd_fr 6).trans rfl) ?_⟩⟩
          have r2 := sameU (o := .tup [.str "fn", .str "rec"]) r1 hc2
          have e0 := Tx.app (tx_of (by decide +kernel) : Tx 3 ("fn " : Str)) hok.1
          have e1 := Tx.app e0 (tx_of (by decide +kernel) : Tx 4 (" => " : Str))
          have e2 := Tx.app e1 ky0
          exact ⟨_, rfl, p, _, 0, .str (wd 6), rfl, rfl, .inl (.inl (r2 p _ (sH p _ hp))), rfl, rfl, _, rfl, ifT ((wd_fn 6).trans rfl) ⟨_, rfl, p, _, 1, .str x0, rfl, rfl, .inl (.inl (r2 p _ (sH p _ hp))), rfl, _, _, rfl, rfl, by rw [← Str.length_append]; exact lenS e0.1 (by omega), ⟨_, rfl, _, _, rfl, rfl, by rw [← Str.length_append]; exact lenS e1.1 (by omega), _, rfl, b, _, 0, .str y0, rfl, rfl, SqL.of (r2 b _ (sH b _ hb)), rfl, _, _, rfl, rfl, by rw [← Str.length_append]; exact lenS e2.1 (by omega), q _ _ (fun b o e => r2 b o (sH b o e)) (e2.le (show _ ≤ 36 * (a.size + 1) by omega))⟩⟩⟩
        | .rc f0 x0 a, ht, hok, hsz, hl, hpz, hys, q => 
          obtain ⟨p', x', e', hp, h1⟩ := ht
          cases e'
          have hs : a.size + 1 ≤ 400 := hsz
          obtain ⟨zv0, hpzr0, rfl, ⟨z0, rfl, kz0⟩, hpz0⟩ := pc_cons hpz
          cases pc_nil hpz0
          obtain ⟨yv0, hysr0, rfl, ⟨y0, rfl, ky0⟩, hys0⟩ := pc_cons hys
          cases pc_nil hys0
          refine ⟨_, rfl, p, _, 0, .str (wd 7), rfl, rfl, .inl (.inl (r0 p _ (sH p _ hp))), rfl, small (by decide), fun c1 hc1 => ⟨c1, _, rfl, .inr (.inl (.inl upd_same)), rfl, by rfl, _, rfl, ifF ((wd_al 7).trans rfl) ?_⟩⟩
          have r1 := sameU (o := .tup [.str "add", .str "less"]) r0 hc1
          refine ⟨_, rfl, p, _, 0, .str (wd 7), rfl, rfl, .inl (.inl (r1 p _ (sH p _ hp))), rfl, rfl, _, rfl, ifF ((wd_if 7).trans rfl) ?_⟩
          refine ⟨_, rfl, p, _, 0, .str (wd 7), rfl, rfl, .inl (.inl (r1 p _ (sH p _ hp))), rfl, small (by decide), fun c2 hc2 => ⟨c2, _, rfl, .inr (.inl (.inl upd_same)), rfl, by rfl, _, rfl, ifT ((wd_fr 7).trans rfl) ?_⟩⟩
          have r2 := sameU (o := .tup [.str "fn", .str "rec"]) r1 hc2
          have e0 := Tx.app (tx_of (by decide +kernel) : Tx 4 ("rec " : Str)) hok.1
          have e1 := Tx.app e0 (tx_of (by decide +kernel) : Tx 1 ("(" : Str))
          have e2 := Tx.app e1 hok.2.1
          have e3 := Tx.app e2 (tx_of (by decide +kernel) : Tx 1 (")" : Str))
          have e4 := Tx.app e3 (tx_of (by decide +kernel) : Tx 4 (" => " : Str))
          have e5 := Tx.app e4 ky0
          exact ⟨_, rfl, p, _, 0, .str (wd 7), rfl, rfl, .inl (.inl (r2 p _ (sH p _ hp))), rfl, rfl, _, rfl, ifF ((wd_fn 7).trans rfl) ⟨_, rfl, p, _, 1, .str f0, rfl, rfl, .inl (.inl (r2 p _ (sH p _ hp))), rfl, _, _, rfl, rfl, by rw [← Str.length_append]; exact lenS e0.1 (by omega), _, _, rfl, rfl, by rw [← Str.length_append]; exact lenS e1.1 (by omega), _, rfl, p, _, 2, .str x0, rfl, rfl, .inl (.inl (r2 p _ (sH p _ hp))), rfl, _, _, rfl, rfl, by rw [← Str.length_append]; exact lenS e2.1 (by omega), _, _, rfl, rfl, by rw [← Str.length_append]; exact lenS e3.1 (by omega), ⟨_, rfl, _, _, rfl, rfl, by rw [← Str.length_append]; exact lenS e4.1 (by omega), _, rfl, b, _, 0, .str y0, rfl, rfl, SqL.of (r2 b _ (sH b _ hb)), rfl, _, _, rfl, rfl, by rw [← Str.length_append]; exact lenS e5.1 (by omega), q _ _ (fun b o e => r2 b o (sH b o e)) (e5.le (show _ ≤ 36 * (a.size + 1) by omega))⟩⟩⟩
        | .fld a, ht, hok, hsz, hl, hpz, hys, q => 
          obtain ⟨p', x', e', hp, h1⟩ := ht
          cases e'
          have hs : a.size + 1 ≤ 400 := hsz
          obtain ⟨zv0, hpzr0, rfl, ⟨z0, rfl, kz0⟩, hpz0⟩ := pc_cons hpz
          cases pc_nil hpz0
          obtain ⟨yv0, hysr0, rfl, ⟨y0, rfl, ky0⟩, hys0⟩ := pc_cons hys
          cases pc_nil hys0
          refine ⟨_, rfl, p, _, 0, .str (wd 8), rfl, rfl, .inl (.inl (r0 p _ (sH p _ hp))), rfl, small (by decide), fun c1 hc1 => ⟨c1, _, rfl, .inr (.inl (.inl upd_same)), rfl, by rfl, _, rfl, ifF ((wd_al 8).trans rfl) ?_⟩⟩
          have r1 := sameU (o := .tup [.str "add", .str "less"]) r0 hc1
          refine ⟨_, rfl, p, _, 0, .str (wd 8), rfl, rfl, .inl (.inl (r1 p _ (sH p _ hp))), rfl, rfl, _, rfl, ifF ((wd_if 8).trans rfl) ?_⟩
          refine ⟨_, rfl, p, _, 0, .str (wd 8), rfl, rfl, .inl (.inl (r1 p _ (sH p _ hp))), rfl, small (by decide), fun c2 hc2 => ⟨c2, _, rfl, .inr (.inl (.inl upd_same)), rfl, by rfl, _, rfl, ifF ((wd_fr 8).trans rfl) ?_⟩⟩
          have r2 := sameU (o := .tup [.str "fn", .str "rec"]) r1 hc2
          refine ⟨_, rfl, p, _, 0, .str (wd 8), rfl, rfl, .inl (.inl (r2 p _ (sH p _ hp))), rfl, rfl, _, rfl, ifF ((wd_call 8).trans rfl) ?_⟩
          refine ⟨_, rfl, p, _, 0, .str (wd 8), rfl, rfl, .inl (.inl (r2 p _ (sH p _ hp))), rfl, rfl, _, rfl, ifT ((wd_fld 8).trans rfl) ?_⟩
          have e0 := Tx.app kz0 (tx_of (by decide +kernel) : Tx 1 ("." : Str))
          have e1 := Tx.app e0 (tx_of (by decide +kernel) : Tx 1 ("a" : Str))
          exact ⟨_, rfl, D, _, 0, .str z0, rfl, rfl, SqL.of (r2 D _ hz), rfl, _, _, rfl, rfl, by rw [← Str.length_append]; exact lenS e0.1 (by omega), _, rfl, p, _, 2, .str "a", rfl, rfl, .inl (.inl (r2 p _ (sH p _ hp))), rfl, _, _, rfl, rfl, by rw [← Str.length_append]; exact lenS e1.1 (by omega), q _ _ (fun b o e => r2 b o (sH b o e)) (e1.le (show _ ≤ 36 * (a.size + 1) by omega))⟩
        | .lt x0 a b0, ht, hok, hsz, hl, hpz, hys, q => 
          obtain ⟨p', x', y', e', hp, h1, h2⟩ := ht
          cases e'
          have hs : a.size + b0.size + 1 ≤ 400 := hsz
          obtain ⟨zv0, hpzr0, rfl, ⟨z0, rfl, kz0⟩, hpz0⟩ := pc_cons hpz
          obtain ⟨zv1, hpzr1, rfl, ⟨z1, rfl, kz1⟩, hpz1⟩ := pc_cons hpz0
          cases pc_nil hpz1
          obtain ⟨yv0, hysr0, rfl, ⟨y0, rfl, ky0⟩, hys0⟩ := pc_cons hys
          obtain ⟨yv1, hysr1, rfl, ⟨y1, rfl, ky1⟩, hys1⟩ := pc_cons hys0
          cases pc_nil hys1
          refine ⟨_, rfl, p, _, 0, .str (wd 9), rfl, rfl, .inl (.inl (r0 p _ (sH p _ hp))), rfl, small (by decide), fun c1 hc1 => ⟨c1, _, rfl, .inr (.inl (.inl upd_same)), rfl, by rfl, _, rfl, ifF ((wd_al 9).trans rfl) ?_⟩⟩
          have r1 := sameU (o := .tup [.str "add", .str "less"]) r0 hc1
          refine ⟨_, rfl, p, _, 0, .str (wd 9), rfl, rfl, .inl (.inl (r1 p _ (sH p _ hp))), rfl, rfl, _, rfl, ifF ((wd_if 9).trans rfl) ?_⟩
          refine ⟨_, rfl, p, _, 0, .str (wd 9), rfl, rfl, .inl (.inl (r1 p _ (sH p _ hp))), rfl, small (by decide), fun c2 hc2 => ⟨c2, _, rfl, .inr (.inl (.inl upd_same)), rfl, by rfl, _, rfl, ifF ((wd_fr 9).trans rfl) ?_⟩⟩
          have r2 := sameU (o := .tup [.str "fn", .str "rec"]) r1 hc2
          refine ⟨_, rfl, p, _, 0, .str (wd 9), rfl, rfl, .inl (.inl (r2 p _ (sH p _ hp))), rfl, rfl, _, rfl, ifF ((wd_call 9).trans rfl) ?_⟩
          refine ⟨_, rfl, p, _, 0, .str (wd 9), rfl, rfl, .inl (.inl (r2 p _ (sH p _ hp))), rfl, rfl, _, rfl, ifF ((wd_fld 9).trans rfl) ?_⟩
          refine ⟨_, rfl, p, _, 0, .str (wd 9), rfl, rfl, .inl (.inl (r2 p _ (sH p _ hp))), rfl, rfl, _, rfl, ifT ((wd_let 9).trans rfl) ?_⟩
          have e0 := Tx.app (tx_of (by decide +kernel) : Tx 4 ("let " : Str)) hok.1
          have e1 := Tx.app e0 (tx_of (by decide +kernel) : Tx 3 (" = " : Str))
          have e2 := Tx.app e1 ky0
          have e3 := Tx.app e2 (tx_of (by decide +kernel) : Tx 4 (" in " : Str))
          have e4 := Tx.app e3 ky1
          exact ⟨_, rfl, p, _, 1, .str x0, rfl, rfl, .inl (.inl (r2 p _ (sH p _ hp))), rfl, _, _, rfl, rfl, by rw [← Str.length_append]; exact lenS e0.1 (by omega), _, _, rfl, rfl, by rw [← Str.length_append]; exact lenS e1.1 (by omega), _, rfl, b, _, 0, .str y0, rfl, rfl, SqL.of (r2 b _ (sH b _ hb)), rfl, _, _, rfl, rfl, by rw [← Str.length_append]; exact lenS e2.1 (by omega), _, _, rfl, rfl, by rw [← Str.length_append]; exact lenS e3.1 (by omega), _, rfl, b, _, 1, .str y1, rfl, rfl, SqL.of (r2 b _ (sH b _ hb)), rfl, _, _, rfl, rfl, by rw [← Str.length_append]; exact lenS e4.1 (by omega), q _ _ (fun b o e => r2 b o (sH b o e)) (e4.le (show _ ≤ 36 * (a.size + b0.size + 1) by omega))⟩
        | .r0, ht, hok, hsz, hl, hpz, hys, q => 
          obtain ⟨p', q', e', hp, hq⟩ := ht
          cases e'
          cases pc_nil hys
          refine ⟨_, rfl, p, _, 0, .str (wd 10), rfl, rfl, .inl (.inl (r0 p _ (sH p _ hp))), rfl, small (by decide), fun c1 hc1 => ⟨c1, _, rfl, .inr (.inl (.inl upd_same)), rfl, by rfl, _, rfl, ifF ((wd_al 10).trans rfl) ?_⟩⟩
          have r1 := sameU (o := .tup [.str "add", .str "less"]) r0 hc1
          refine ⟨_, rfl, p, _, 0, .str (wd 10), rfl, rfl, .inl (.inl (r1 p _ (sH p _ hp))), rfl, rfl, _, rfl, ifF ((wd_if 10).trans rfl) ?_⟩
          refine ⟨_, rfl, p, _, 0, .str (wd 10), rfl, rfl, .inl (.inl (r1 p _ (sH p _ hp))), rfl, small (by decide), fun c2 hc2 => ⟨c2, _, rfl, .inr (.inl (.inl upd_same)), rfl, by rfl, _, rfl, ifF ((wd_fr 10).trans rfl) ?_⟩⟩
          have r2 := sameU (o := .tup [.str "fn", .str "rec"]) r1 hc2
          refine ⟨_, rfl, p, _, 0, .str (wd 10), rfl, rfl, .inl (.inl (r2 p _ (sH p _ hp))), rfl, rfl, _, rfl, ifF ((wd_call 10).trans rfl) ?_⟩
          refine ⟨_, rfl, p, _, 0, .str (wd 10), rfl, rfl, .inl (.inl (r2 p _ (sH p _ hp))), rfl, rfl, _, rfl, ifF ((wd_fld 10).trans rfl) ?_⟩
          refine ⟨_, rfl, p, _, 0, .str (wd 10), rfl, rfl, .inl (.inl (r2 p _ (sH p _ hp))), rfl, rfl, _, rfl, ifF ((wd_let 10).trans rfl) ?_⟩
          refine ⟨⟨_, rfl⟩, _, rfl, p, _, 1, .ref q', rfl, rfl, .inl (.inl (r2 p _ (sH p _ hp))), rfl, _, rfl, q', b, [], [], rfl, .inl (.inl (r2 q' _ (sH q' _ hq))), SqL.of (r2 b _ (sH b _ hb)), fun D2 hD2 => ?_⟩
          refine lc_it (walk_zipM (K := K) (a := q') (b := b) (xs := []) (ys := []) (n := 0) rfl) (fun n H4 => Same H2 H4 ∧ H4 D2 = some (.lst [])) ⟨sameU r2 hD2, upd_same⟩ (fun n H4 _ z => ⟨.inl (.inl (z.1 q' _ (sH q' _ hq))), SqL.of (z.1 b _ (sH b _ hb))⟩) (fun n x H4 H5 hn => absurd hn (by omega)) ?_
          rintro H4 ⟨s4, e4⟩
          exact ⟨_, D2, [], rfl, rfl, .inl (SqL.of e4), by decide, _, _, rfl, rfl, by rw [join_nil]; decide +kernel, _, _, rfl, rfl, by rw [join_nil]; decide +kernel, q _ _ (fun b o e => s4 b o (sH b o e)) (by rw [join_nil]; exact (tx_of (n := 2) (by decide +kernel)).le (by decide))⟩
        | .r2 g a b0, ht, hok, hsz, hl, hpz, hys, q => 
          obtain ⟨p', q', r', s', x', y', e', hp, hq, hr1, hs1, h1, h2⟩ := ht
          cases e'
          have hs : a.size + b0.size + 1 ≤ 400 := hsz
          obtain ⟨yv0, hysr0, rfl, ⟨y0, rfl, ky0⟩, hys0⟩ := pc_cons hys
          obtain ⟨yv1, hysr1, rfl, ⟨y1, rfl, ky1⟩, hys1⟩ := pc_cons hys0
          cases pc_nil hys1
          refine ⟨_, rfl, p, _, 0, .str (wd 10), rfl, rfl, .inl (.inl (r0 p _ (sH p _ hp))), rfl, small (by decide), fun c1 hc1 => ⟨c1, _, rfl, .inr (.inl (.inl upd_same)), rfl, by rfl, _, rfl, ifF ((wd_al 10).trans rfl) ?_⟩⟩
          have r1 := sameU (o := .tup [.str "add", .str "less"]) r0 hc1
          refine ⟨_, rfl, p, _, 0, .str (wd 10), rfl, rfl, .inl (.inl (r1 p _ (sH p _ hp))), rfl, rfl, _, rfl, ifF ((wd_if 10).trans rfl) ?_⟩
          refine ⟨_, rfl, p, _, 0, .str (wd 10), rfl, rfl, .inl (.inl (r1 p _ (sH p _ hp))), rfl, small (by decide), fun c2 hc2 => ⟨c2, _, rfl, .inr (.inl (.inl upd_same)), rfl, by rfl, _, rfl, ifF ((wd_fr 10).trans rfl) ?_⟩⟩
          have r2 := sameU (o := .tup [.str "fn", .str "rec"]) r1 hc2
          refine ⟨_, rfl, p, _, 0, .str (wd 10), rfl, rfl, .inl (.inl (r2 p _ (sH p _ hp))), rfl, rfl, _, rfl, ifF ((wd_call 10).trans rfl) ?_⟩
          refine ⟨_, rfl, p, _, 0, .str (wd 10), rfl, rfl, .inl (.inl (r2 p _ (sH p _ hp))), rfl, rfl, _, rfl, ifF ((wd_fld 10).trans rfl) ?_⟩
          refine ⟨_, rfl, p, _, 0, .str (wd 10), rfl, rfl, .inl (.inl (r2 p _ (sH p _ hp))), rfl, rfl, _, rfl, ifF ((wd_let 10).trans rfl) ?_⟩
          have f0 := Tx.app (Tx.app (tx_of (by decide +kernel) : Tx 1 ("a" : Str)) (tx_of (by decide +kernel) : Tx 3 (" = " : Str))) ky0
          have f0a := (Tx.app (tx_of (by decide +kernel) : Tx 1 ("a" : Str)) (tx_of (by decide +kernel) : Tx 3 (" = " : Str)))
          have f1 := Tx.app (Tx.app hok.1 (tx_of (by decide +kernel) : Tx 3 (" = " : Str))) ky1
          have f1a := Tx.app hok.1 (tx_of (by decide +kernel) : Tx 3 (" = " : Str))
          refine ⟨⟨_, rfl⟩, _, rfl, p, _, 1, .ref q', rfl, rfl, .inl (.inl (r2 p _ (sH p _ hp))), rfl, _, rfl, q', b, _, _, rfl, .inl (.inl (r2 q' _ (sH q' _ hq))), SqL.of (r2 b _ (sH b _ hb)), fun D2 hD2 => ?_⟩
          refine lc_it (walk_zipM (K := K) (a := q') (b := b) (xs := [.ref r', .ref s']) (ys := [.str y0, .str y1]) (n := 2) rfl) (fun n H4 => Same H2 H4 ∧ H4 D2 = some (.lst ([V.str ("a" ++ " = " ++ y0), .str (g ++ " = " ++ y1)].take n))) ⟨sameU r2 hD2, upd_same⟩ (fun n H4 _ z => ⟨.inl (.inl (z.1 q' _ (sH q' _ hq))), SqL.of (z.1 b _ (sH b _ hb))⟩) ?_ ?_
          · rintro n x H4 H5 hn ⟨s4, e4⟩ ⟨T', x1, y1', rfl, hT, rfl, hx1, hy1⟩
            have nD : D2 ≠ T' := ne_of_none e4 hT
            have s5 : Same H2 (upd H4 T' (.tup [x1, y1'])) := sameU s4 hT
            match n, hn, hx1, hy1, e4 with
            | 0, _, hx1, hy1, e4 =>
              cases hx1
              cases hy1
              refine ⟨T', _, rfl, .inl (.inl upd_same), rfl, _, _, rfl, _, _, rfl, rfl, rfl, iteT (B := (fun n H4 => Same H2 H4 ∧ H4 D2 = some (.lst ([V.str ("a" ++ " = " ++ y0), .str (g ++ " = " ++ y1)].take n))) (0 + 1) (upd H4 T' (.tup [.ref r', .str y0]))) ⟨_, rfl, r', _, 0, .str "a", rfl, rfl, .inl (.inl (s5 r' _ (sH r' _ hr1))), rfl, _, _, rfl, rfl, by rw [← Str.length_append]; exact lenS f0a.1 (by omega), _, rfl, _, _, rfl, rfl, by rw [← Str.length_append]; exact lenS f0.1 (by omega), _, by rw [upd_ne nD]; exact e4, small (show _ ≤ 1000 by simp), fun b2 o2 e2 => ?_, upd_same⟩⟩
              rw [upd_ne (ne_of_none (r2 _ _ e2) hD2)]
              exact s5 b2 o2 e2
            | 1, _, hx1, hy1, e4 =>
              cases hx1
              cases hy1
              refine ⟨T', _, rfl, .inl (.inl upd_same), rfl, _, _, rfl, _, _, rfl, rfl, rfl, iteT (B := (fun n H4 => Same H2 H4 ∧ H4 D2 = some (.lst ([V.str ("a" ++ " = " ++ y0), .str (g ++ " = " ++ y1)].take n))) (1 + 1) (upd H4 T' (.tup [.ref s', .str y1]))) ⟨_, rfl, s', _, 0, .str g, rfl, rfl, .inl (.inl (s5 s' _ (sH s' _ hs1))), rfl, _, _, rfl, rfl, by rw [← Str.length_append]; exact lenS f1a.1 (by omega), _, rfl, _, _, rfl, rfl, by rw [← Str.length_append]; exact lenS f1.1 (by omega), _, by rw [upd_ne nD]; exact e4, small (show _ ≤ 1000 by simp), fun b2 o2 e2 => ?_, upd_same⟩⟩
              rw [upd_ne (ne_of_none (r2 _ _ e2) hD2)]
              exact s5 b2 o2 e2
          · rintro H4 ⟨s4, e4⟩
            have e4' : H4 D2 = some (.lst (["a" ++ " = " ++ y0, g ++ " = " ++ y1].map V.str)) := e4
            have g2 := Tx.app (Tx.app f0 (tx_of (by decide +kernel) : Tx 2 (", " : Str))) f1
            have g3 := Tx.app (tx_of (by decide +kernel) : Tx 1 ("{" : Str)) g2
            have g4 := Tx.app g3 (tx_of (by decide +kernel) : Tx 1 ("}" : Str))
            have l0 := f0.1
            have l1 := f1.1
            exact ⟨_, D2, _, rfl, rfl, .inl (SqL.of e4'), by simp only [List.map_cons, List.map_nil, List.sum_cons, List.sum_nil, List.length_cons, List.length_nil]; exact lenJ l0 l1 (by omega) (by omega), _, _, rfl, rfl, by rw [join_two, ← Str.length_append]; exact lenS g3.1 (by omega), _, _, rfl, rfl, by rw [join_two, ← Str.length_append]; exact lenS g4.1 (by omega), q _ _ (fun b o e => s4 b o (sH b o e)) (by rw [join_two]; exact g4.le (show _ ≤ 36 * (a.size + b0.size + 1) by omega))⟩
        | .num i, ht, hok, hsz, hl, hpz, hys, q => exact absurd rfl hl
        | .nam i, ht, hok, hsz, hl, hpz, hys, q => exact absurd rfl hl

end
end K1
set_option Elab.async false
set_option linter.all false
set_option maxRecDepth 100000
set_option maxHeartbeats 2000000
/-! xs != [] of a list, whatever it holds. -/
namespace K1
open PySem PySem.Spec PyProof.Rows L2
def rNeE (K : PySem.W.Frag) : R2 := fun x y H Q => ∃ (a b : Addr) (xs : List V), x = .ref a ∧ y = .ref b ∧ SqL K H a xs ∧ SqL K H b [] ∧ Q (.bl (!xs.isEmpty)) H
theorem op_neE {X : Cx} (hu : X.A.units + 64 < cLine) : OpR X (compareOp .NotEq) (rNeE X.K) := by
  intro pins s σ H x y v u Q I rx ry h
  obtain ⟨a, b, xs, rfl, rfl, ha, hb, q⟩ := h
  cases xs with
  | nil => exact op_neD hu pins s σ H _ _ v u Q I rx ry ⟨.list [], .list [], .lst ha .nil, .lst hb .nil, rfl, rfl, q⟩
  | cons x1 xs =>
    cases rx
    cases ry
    obtain ⟨its, rv, p1, _⟩ := I.list ha
    obtain ⟨its2, rv2, p2, _⟩ := I.list hb
    have l1 := rv.length
    have l2 := rv2.length
    have hs : (its.toArray.size != its2.toArray.size) = true := by
      simp only [List.size_toArray, bne_iff_ne, ne_eq]
      simp only [List.length_cons, List.length_nil] at l1 l2
      omega
    exact SeqAt.RcNeAt.lists_lengths p1.isList p2.isList hs (by omega) _ _ _ _ ⟨.bl true, H, I, rfl, q⟩
end K1
set_option Elab.async false
set_option linter.all false
set_option maxRecDepth 100000
set_option maxHeartbeats 4000000
/-! The pile of what is still to be told, by itself. -/
namespace K1
open PySem PySem.Spec PyProof.Rows L2 RZ
theorem sz1 {a : V} : [a].length ≤ sizeLine := small (show 1 ≤ 1000 by decide)
theorem sz2 {a b : V} : [a, b].length ≤ sizeLine := small (show 2 ≤ 1000 by decide)
theorem sz3 {a b c : V} : [a, b, c].length ≤ sizeLine := small (show 3 ≤ 1000 by decide)
inductive Rl (r : T) : List (Bool × T) → List T → Prop
  | done : Rl r [] [r]
  | look {I : List (Bool × T)} {t : T} {ps : List T} : Rl r (t.parts.reverse.map (Prod.mk true) ++ (false, t) :: I) ps → Rl r ((true, t) :: I) ps
  | told {I : List (Bool × T)} {t : T} {ps : List T} : Rl r I (t :: ps) → Rl r ((false, t) :: I) (t.parts ++ ps)
theorem Rl.looks {r : T} {I : List (Bool × T)} : ∀ (ts : List T) (ps : List T), (∀ t ∈ ts, ∀ J qs, Rl r J (t :: qs) → Rl r ((true, t) :: J) qs) → Rl r I (ts.reverse ++ ps) → Rl r (ts.map (Prod.mk true) ++ I) ps
  | [], _, _, h => h
  | t :: ts, ps, ih, h => ih t (List.mem_cons_self ..) _ _ (Rl.looks ts (t :: ps) (fun u hu => ih u (List.mem_cons_of_mem _ hu)) (by simpa using h))
theorem Rl.all {r : T} : ∀ (n : Nat) (t : T), t.size ≤ n → ∀ J qs, Rl r J (t :: qs) → Rl r ((true, t) :: J) qs
  | 0, t, h => absurd t.pos (by omega)
  | n + 1, t, h => fun J qs k => by
    refine .look (Rl.looks _ _ (fun u hu J2 q2 k2 => Rl.all n u ?_ J2 q2 k2) ?_)
    · have := kid_le (List.mem_reverse.mp hu)
      omega
    · rw [List.reverse_reverse]
      exact .told k
theorem Rl.start (r : T) : Rl r [(true, r)] [] := Rl.all r.size r (Nat.le_refl _) _ _ .done
def meas (I : List (Bool × T)) : Nat := (I.map fun x => if x.1 = true then 2 * x.2.size else 1).sum
theorem meas_cons {b : Bool} {t : T} {I : List (Bool × T)} : meas ((b, t) :: I) = (if b = true then 2 * t.size else 1) + meas I := rfl
theorem meas_app {I J : List (Bool × T)} : meas (I ++ J) = meas I + meas J := by
  unfold meas
  rw [List.map_append, List.sum_append]
theorem meas_looks : ∀ ts : List T, meas (ts.map (Prod.mk true)) = 2 * (ts.map T.size).sum
  | [] => rfl
  | t :: ts => by
    rw [List.map_cons, meas_cons, meas_looks ts, List.map_cons, List.sum_cons, if_pos rfl]
    omega
theorem sum_rev (l : List Nat) : l.reverse.sum = l.sum := by
  induction l with
  | nil => rfl
  | cons a l ih => rw [List.reverse_cons, List.sum_append, ih, List.sum_cons]; simp; omega
theorem meas_look {t : T} {I : List (Bool × T)} : meas (t.parts.reverse.map (Prod.mk true) ++ (false, t) :: I) + 1 = meas ((true, t) :: I) := by
  rw [meas_app, meas_cons, meas_cons, meas_looks, List.map_reverse, sum_rev, if_pos rfl, if_neg (by decide), t.size_eq]
  unfold T.kids
  omega
theorem len_meas : ∀ I : List (Bool × T), I.length ≤ meas I
  | [] => Nat.le_refl _
  | (b, t) :: I => by
    have := len_meas I
    have := t.pos
    rw [meas_cons, List.length_cons]
    split <;> omega
def Its2 (H : Hp) (i : Bool × T) (x : V) : Prop := ∃ q y, x = .ref q ∧ H q = some (.tup [.str (if i.1 = true then "look" else "told"), y]) ∧ At H i.2 y
theorem Its2.on {H H' : Hp} (k : KT H H') {i : Bool × T} {x : V} : Its2 H i x → Its2 H' i x
  | ⟨q, y, e, h, a⟩ => ⟨q, y, e, k _ _ h, a.on k⟩
theorem paired_rev {α β : Type} {R : α → β → Prop} : ∀ {a : List α} {b : List β}, Paired R a b → Paired R a.reverse b.reverse
  | _, _, .nil => .nil
  | _, _, .cons r t => by
    rw [List.reverse_cons, List.reverse_cons]
    exact paired_appB (paired_rev t) (.cons r .nil)
theorem paired_split {α β : Type} {R : α → β → Prop} : ∀ {a a' : List α} {b : List β}, Paired R (a ++ a') b → ∃ c d, b = c ++ d ∧ Paired R a c ∧ Paired R a' d
  | [], _, b, h => ⟨[], b, rfl, .nil, h⟩
  | x :: a, a', _, .cons r t => by
    obtain ⟨c, d, e, h1, h2⟩ := paired_split t
    exact ⟨_ :: c, d, by rw [e]; rfl, .cons r h1, h2⟩
/-- all trees are good and small -/
def Good (t : T) : Prop := t.ok ∧ t.size ≤ 400
theorem Good.part {t p : T} (h : Good t) (hp : p ∈ t.parts) : Good p := ⟨T.ok_parts h.1 p hp, by have := kid_le hp; have := h.2; omega⟩
end K1
set_option Elab.async false
set_option linter.all false
set_option maxRecDepth 100000
set_option maxHeartbeats 4000000
namespace K1
open PySem PySem.Spec PyProof.Rows L2 RZ
abbrev nscTx : List Str := ["tree", "pile", "left", "what", "own", "parts", "texts", "part"]
theorem scTx : FnScope nscTx ["tree"] (defScope (top 150)) := ⟨rfl, rfl, rfl, by decide +kernel, rfl, by decide +kernel, by decide +kernel⟩
def spText : Sp := fun vs H Q _ => ∃ (v : V) (t : T), vs = [v] ∧ At H t v ∧ t.ok ∧ t.size ≤ 400 ∧ ∀ H' s, Same H H' → Tx (36 * t.size) s → Q (.str s) H'
section
variable {P : Program} {w : World} {K : PySem.W.Frag} {mg : Str → Option Value} {base : Heap} {f : Addr} {fd : FuncData}
theorem ok_text {fP fL fT : Addr} {fdP fdL fdT : FuncData} (F : FnP K "_law_text" (top 150) f fd) (B : Bn mg) (F_law_parts : FnP K "_law_parts" (top 141) fP fdP) (g_law_parts : mg "_law_parts" = some (.ref fP)) (F_law_told : FnP K "_law_told" (top 151) fL fdL) (g_law_told : mg "_law_told" = some (.ref fL)) (F_law_is_tight : FnP K "_law_is_tight" (top 149) fT fdT) (g_law_is_tight : mg "_law_is_tight" = some (.ref fT)) : FnOk P w K mg base CX0 3 f fd ["tree"] spText := by
  have G_law_parts : FnOk P w K mg base CX0 1 fP fdP ["tree"] spParts := ok_parts F_law_parts B
  have b_law_parts : Binds K fdP ["tree"] [] := F_law_parts.bindsN fun _ _ _ _ _ _ us hl => match us, hl with | [_], _ => rfl
  have G_law_told : FnOk P w K mg base CX0 2 fL fdL ["own", "parts", "texts"] spTold := ok_told F_law_told B F_law_is_tight g_law_is_tight
  have b_law_told : Binds K fdL ["own", "parts", "texts"] [] := F_law_told.bindsN fun _ _ _ _ _ _ us hl => match us, hl with | [_, _, _], _ => rfl
  refine F.ok scTx (fun vs H Q E h => ?_) ?_
  · obtain ⟨v, t, rfl, _⟩ := h
    rfl
  intro cdv A outer s H vs Q E hr h
  refine' ⟨_, PSs.nox ?p, ?q⟩
  case p =>
    refine' pss_cons (ps_asg (pe_tup (pa_cons (pe_lst pa_nil) (pa_cons (pe_lst (pa_cons (pe_tup (pa_cons pe_str (pa_cons (pv 0) pa_nil))) pa_nil)) pa_nil))) (pg_tup rfl (pgs_cons (pg_name (i := 1) scTx.nd rfl (Or.inr rfl)) (pgs_cons (pg_name (i := 2) scTx.nd rfl (Or.inl rfl)) pgs_nil)))) ?w0
    case w0 =>
    refine' pss_cons (ps_while PassesOwn.never (pt_cmpR (r := rNeE K) (op_neE hr.units) (pv 2) (pe_lst pa_nil) (nomark _)) (pss_cons (ps_asg (pe_bm0 PySem.F.plainAttrs_list PySem.F.slot_list_pop PySem.F.type_list_pop mt_pop (pv 2)) (pg_tup rfl (pgs_cons (pg_name (i := 3) scTx.nd rfl (Or.inl rfl)) (pgs_cons (pg_name (i := 4) scTx.nd rfl (Or.inl rfl)) pgs_nil)))) (pss_cons (ps_set (i := 5) scTx.nd rfl (Or.inl rfl) (pe_call G_law_parts (hr.mono (by decide)) rfl g_law_parts F_law_parts.kp b_law_parts .nil pass0 (pa_cons (pv 4) pa_nil))) (pss_one (ps_if (pt_cmpR op_eq (pv 3) pe_str (nomark _)) (pss_one (ps_set (i := 2) scTx.nd rfl (Or.inl rfl) (pe_op op_cat (pe_op op_cat (pv 2) (pe_lst (pa_cons (pe_tup (pa_cons pe_str (pa_cons (pv 4) pa_nil))) pa_nil))) (pe_lc (own := [("part", 7)]) (g := gName 7) (tt := tYes) rfl scTx.nd (pi_list (pv 5)) (blkOk_by (N := nscTx) (sc := defScope (top 150)) (by decide +kernel)) (fun _ _ _ _ _ => pg_name (i := 7) scTx.nd rfl (Or.inl rfl)) (fun _ _ _ _ _ => pts_nil) (fun _ _ _ _ _ => (pe_tup (pa_cons pe_str (pa_cons (pv 7) pa_nil)))))))) (pss_cons (ps_setLc (i := 6) (own := [("part", 7)]) (g := gName 7) (tt := tYes) (te := tBM0 K "list" rPop (tVar 1)) rfl scTx.nd rfl rfl (sw_true rfl rfl rfl (by decide +kernel)) (pi_list (pv 5)) (blkOk_by (N := nscTx) (sc := defScope (top 150)) (by decide +kernel)) (fun _ _ _ _ _ => pg_name (i := 7) scTx.nd rfl (Or.inl rfl)) (fun _ _ _ _ _ => pts_nil) (fun _ _ _ _ _ => (pe_bm0 PySem.F.plainAttrs_list PySem.F.slot_list_pop PySem.F.type_list_pop mt_pop (pv 1)))) (pss_one (ps_expr (pe_bm PySem.F.plainAttrs_list PySem.F.slot_list_append PySem.F.type_list_append mt_append (pv 1) (pa_cons (pe_call G_law_told (hr.mono (by decide)) rfl g_law_told F_law_told.kp b_law_told .nil pass0 (pa_cons (pv 4) (pa_cons (pv 5) (pa_cons (pv 6) pa_nil)))) pa_nil)))))))))) ?w1
    case w1 =>
    exact pss_one (ps_ret (pe_ix (r := rIxL K) ix_list (pv 1) pe_int (fun _ _ => rfl)))

  case q =>
    obtain ⟨v, t, rfl, ht, hok, hsz, q⟩ := h
    refine ⟨small (by decide), fun pl hpl => ⟨_, rfl, sz2, fun c1 hc1 => ⟨sz1, fun lf hlf => ⟨sz2, fun c2 hc2 => ⟨c2, _, rfl, .inl (.inl upd_same), rfl, _, _, rfl, _, _, rfl, rfl, ?_⟩⟩⟩⟩⟩
    have u1 : Same H (upd H pl (.lst [])) := Same.new hpl
    have u2 := sameU (o := .tup [.str "look", v]) u1 hc1
    have u3 := sameU (o := .lst [.ref c1]) u2 hlf
    have u4 := sameU (o := .tup [.ref pl, .ref lf]) u3 hc2
    have npl : pl ≠ lf := ne_of_none (by rw [upd_ne (ne_of_none upd_same hc1)]; exact upd_same) hlf
    refine ⟨fun m σ H' => ∃ (I : List (Bool × T)) (ps : List T) (xs ys : List V) (o3 o4 o5 o6 o7 : Option V) (lf' : Addr), σ = [some v, some (.ref pl), some (.ref lf'), o3, o4, o5, o6, o7] ∧ m = meas I ∧ Same H H' ∧ H lf' = none ∧ pl ≠ lf' ∧ H' lf' = some (.lst xs.reverse) ∧ Paired (Its2 H') I xs ∧ H' pl = some (.lst ys.reverse) ∧ Paired (TxA 0) ps ys ∧ Rl t I ps ∧ (∀ i ∈ I, Good i.2) ∧ (∀ u ∈ ps, Good u) ∧ ps.length + m ≤ 2 * t.size, ⟨2 * t.size, ?_⟩, ?_⟩
    · refine ⟨[(true, t)], [], [.ref c1], [], none, none, none, none, none, lf, rfl, ?_, u4, ?_, npl, ?_, .cons ⟨c1, v, rfl, ?_, ht.on (KT.same u4)⟩ .nil, ?_, .nil, Rl.start t, fun i hi => ?_, fun u hu => absurd hu (by simp), by simp⟩
      · simp [meas]
      · exact u2.free hlf
      · rw [upd_ne (ne_of_none upd_same hc2)]
        exact upd_same
      · rw [upd_ne (ne_of_none (by rw [upd_ne (ne_of_none upd_same hlf)]; exact upd_same) hc2), upd_ne (ne_of_none upd_same hlf)]
        exact upd_same
      · rw [upd_ne (ne_of_none (by rw [upd_ne npl, upd_ne (ne_of_none upd_same hc1)]; exact upd_same) hc2), upd_ne npl, upd_ne (ne_of_none upd_same hc1)]
        exact upd_same
      · rw [List.mem_singleton] at hi
        rw [hi]
        exact ⟨hok, hsz⟩
    · rintro m σ H' ⟨I, ps, xs, ys, o3, o4, o5, o6, o7, lf', rfl, rfl, sm, hlf0, npl', hxs, hI, hys, hps, hrl, gI, gps, hm⟩
      refine ⟨_, rfl, small (by decide), fun c hc => ⟨lf', c, _, rfl, rfl, SqL.of (by rw [upd_ne (ne_of_none hxs hc)]; exact hxs), SqL.of upd_same, _, rfl, ?_⟩⟩
      have sm1 := sameU (o := .lst []) sm hc
      have hxs1 : upd H' c (.lst []) lf' = some (.lst xs.reverse) := by rw [upd_ne (ne_of_none hxs hc)]; exact hxs
      have hys1 : upd H' c (.lst []) pl = some (.lst ys.reverse) := by rw [upd_ne (ne_of_none hys hc)]; exact hys
      have hI1 : Paired (Its2 (upd H' c (.lst []))) I xs := paired_mono (fun _ _ z => z.on (KT.new hc)) hI
      generalize upd H' c (.lst []) = H1 at sm1 hxs1 hys1 hI1
      match I, hI1, hrl, gI, hm with
      | [], hI1, hrl, gI, hm =>
        cases pc_nil hI1
        refine ifF rfl ?_
        cases hrl
        obtain ⟨y, r, rfl, ⟨sx, rfl, hx⟩, hr⟩ := pc_cons hps
        cases pc_nil hr
        exact ⟨_, rfl, pl, _, 0, .str sx, rfl, rfl, SqL.of hys1, rfl, q _ sx sm1 hx⟩
      | (b, t') :: I, hI1, hrl, gI, hm =>
        obtain ⟨x, xr, rfl, ⟨tq, y, rfl, htq, hat⟩, hr⟩ := pc_cons hI1
        have gt : Good t' := gI (b, t') (List.mem_cons_self ..)
        have gI' : ∀ i ∈ I, Good i.2 := fun i hi => gI i (List.mem_cons_of_mem _ hi)
        refine ifT (by simp) ?_
        refine ⟨fun σ' H'' => ∃ m', m' < meas ((b, t') :: I) ∧ ∃ (I : List (Bool × T)) (ps : List T) (xs ys : List V) (o3 o4 o5 o6 o7 : Option V) (lf' : Addr), σ' = [some v, some (.ref pl), some (.ref lf'), o3, o4, o5, o6, o7] ∧ m' = meas I ∧ Same H H'' ∧ H lf' = none ∧ pl ≠ lf' ∧ H'' lf' = some (.lst xs.reverse) ∧ Paired (Its2 H'') I xs ∧ H'' pl = some (.lst ys.reverse) ∧ Paired (TxA 0) ps ys ∧ Rl t I ps ∧ (∀ i ∈ I, Good i.2) ∧ (∀ u ∈ ps, Good u) ∧ ps.length + m' ≤ 2 * t.size, fun σ' H'' h => h, ?_⟩
        have e1 : (V.ref tq :: xr).reverse = xr.reverse ++ [V.ref tq] := List.reverse_cons
        rw [e1] at hxs1
        refine ⟨_, rfl, .inl ⟨rfl, _, SqL.of hxs1⟩, lf', _, .ref tq, rfl, rfl, hxs1, by simp, ?_⟩
        rw [List.dropLast_concat]
        have ntq : tq ≠ lf' := fun z => by rw [z, hxs1] at htq; cases htq
        have sm2 : Same H (upd H1 lf' (.lst xr.reverse)) := sameN sm1 hlf0
        have k2 : KT H1 (upd H1 lf' (.lst xr.reverse)) := KT.lst hxs1
        have hys2 : upd H1 lf' (.lst xr.reverse) pl = some (.lst ys.reverse) := by rw [upd_ne npl']; exact hys1
        have hxs2 : upd H1 lf' (.lst xr.reverse) lf' = some (.lst xr.reverse) := upd_same
        have hr2 : Paired (Its2 (upd H1 lf' (.lst xr.reverse))) I xr := paired_mono (fun _ _ z => z.on k2) hr
        have htq2 := k2 _ _ htq
        have hat2 := hat.on k2
        generalize upd H1 lf' (.lst xr.reverse) = H2 at sm2 hys2 hxs2 hr2 htq2 hat2
        refine ⟨tq, _, rfl, .inl (.inl htq2), rfl, _, _, rfl, _, _, rfl, rfl, ?_⟩
        refine ⟨_, rfl, y, t', rfl, hat2, fun H3 pp zs s3 hn hz hp => ?_⟩
        have sm3 : Same H H3 := fun b o e => s3 b o (sm2 b o e)
        have k3 := KT.same s3
        have hys3 := s3 _ _ hys2
        have hxs3 := s3 _ _ hxs2
        have hr3 : Paired (Its2 H3) I xr := paired_mono (fun _ _ z => z.on k3) hr2
        have hat3 := hat2.on k3
        have npq : pp ≠ pl := fun z => by rw [z, hys2] at hn; cases hn
        clear s3 sm2 hys2 hxs2 hr2 htq2 hat2 k3 hn
        have n3 := kids3 t'
        have lI := len_meas I
        have lIx := hr3.length
        have lps := hps.length
        have fT : decide (V.str "look" = V.str "look") = true := by decide +kernel
        have fF : decide (V.str "told" = V.str "look") = false := by decide +kernel
        cases b with
        | true =>
          refine ⟨_, rfl, rfl, _, rfl, ifT fT ?_⟩
          have bm : xr.length + 10 ≤ 1000 := by
            rw [meas_cons] at hm
            omega
          refine ⟨_, rfl, _, rfl, sz2, fun d1 hd1 => ⟨sz1, fun d2 hd2 => ⟨lf', d2, _, _, rfl, rfl, (by rw [upd_ne (ne_of_none (by rw [upd_ne (ne_of_none hxs3 hd1)]; exact hxs3) hd2), upd_ne (ne_of_none hxs3 hd1)]; exact hxs3), upd_same, small (by rw [List.length_reverse, List.length_singleton]; omega), fun d3 hd3 => ?_⟩⟩⟩
          have w1 := Same.new (o := .tup [.str "told", y]) hd1
          have w2 := sameU (o := .lst [.ref d1]) w1 hd2
          have w3 := sameU (o := .lst (xr.reverse ++ [.ref d1])) w2 hd3
          have g3 : upd (upd (upd H3 d1 (.tup [.str "told", y])) d2 (.lst [.ref d1])) d3 (.lst (xr.reverse ++ [.ref d1])) d3 = some (.lst (xr.reverse ++ [.ref d1])) := upd_same
          have g1 : upd (upd (upd H3 d1 (.tup [.str "told", y])) d2 (.lst [.ref d1])) d3 (.lst (xr.reverse ++ [.ref d1])) d1 = some (.tup [.str "told", y]) := by
            rw [upd_ne (ne_of_none (by rw [upd_ne (ne_of_none upd_same hd2)]; exact upd_same) hd3), upd_ne (ne_of_none upd_same hd2)]
            exact upd_same
          have f3 : H d3 = none := (sameU (o := .lst [.ref d1]) (sameU (o := .tup [.str "told", y]) sm3 hd1) hd2).free hd3
          generalize upd (upd (upd H3 d1 (.tup [.str "told", y])) d2 (.lst [.ref d1])) d3 (.lst (xr.reverse ++ [.ref d1])) = H6 at w3 g3 g1
          refine ⟨_, rfl, pp, rfl, ⟨_, SqL.of (w3 _ _ hz)⟩, fun D hD => ?_⟩
          have lz := hp.length
          refine lc_list (K := K) (a := pp) (xs := zs) (fun n H7 => Same H6 H7 ∧ ∃ ws, H7 D = some (.lst ws) ∧ Paired (Its2 H7) ((t'.parts.take n).map (Prod.mk true)) ws) ⟨Same.new hD, [], upd_same, .nil⟩ (fun n H7 _ z => SqL.of (z.1 _ _ (w3 _ _ hz))) ?_ ?_
          · rintro n x H7 hn7 ⟨s7, ws, hw, hpw⟩
            obtain ⟨u, hu, hau⟩ := paired_backB hp hn7
            have lw := hpw.length
            refine ⟨rfl, iteT (B := (fun n H7 => Same H6 H7 ∧ ∃ ws, H7 D = some (.lst ws) ∧ Paired (Its2 H7) ((t'.parts.take n).map (Prod.mk true)) ws) (n + 1) H7) ⟨_, rfl, sz2, fun p7 hp7 => ⟨ws, by rw [upd_ne (ne_of_none hw hp7)]; exact hw, ?_, ?_, _, upd_same, ?_⟩⟩⟩
            · rw [← lw, List.length_map, sizeLine_eq]
              have := List.length_take_le' n t'.parts
              omega
            · intro b2 o2 e2
              rw [upd_ne (ne_of_none e2 hD), upd_ne (ne_of_none (s7 _ _ e2) hp7)]
              exact s7 _ _ e2
            · have nDp : p7 ≠ D := fun z => by rw [z, hw] at hp7; cases hp7
              have kk : KT H7 (upd (upd H7 p7 (.tup [.str "look", x])) D (.lst (ws ++ [.ref p7]))) := (KT.new hp7).trans (KT.lst (xs := ws) (by rw [upd_ne (Ne.symm nDp)]; exact hw))
              rw [List.take_add_one, hu, List.map_append]
              refine paired_appB (paired_mono (fun _ _ z => z.on kk) hpw) (.cons ⟨p7, x, rfl, ?_, ?_⟩ .nil)
              · rw [upd_ne nDp]
                exact upd_same
              · exact hau.on ((KT.same w3).trans ((KT.same s7).trans kk))
          · rintro H7 ⟨s7, ws, hw, hpw⟩
            rw [show t'.parts.take zs.length = t'.parts by rw [← lz]; simp] at hpw
            have lw := hpw.length
            rw [List.length_map] at lw
            refine ⟨d3, D, _, _, rfl, rfl, s7 _ _ g3, hw, small (by rw [List.length_append, List.length_reverse, List.length_singleton]; omega), fun d5 hd5 => ?_⟩
            have s9 := sameU (o := .lst (xr.reverse ++ [.ref d1] ++ ws)) s7 hd5
            have k9 : KT H3 (upd H7 d5 (.lst (xr.reverse ++ [.ref d1] ++ ws))) := (KT.same w3).trans (KT.same s9)
            have s57 : Same H H7 := fun b o e => s7 b o (w3 b o (sm3 b o e))
            have f5 : H d5 = none := s57.free hd5
            refine ⟨meas (t'.parts.reverse.map (Prod.mk true) ++ (false, t') :: I), by rw [← meas_look]; omega, _, ps, ws.reverse ++ .ref d1 :: xr, ys, _, _, _, _, _, d5, rfl, rfl, fun b o e => s9 b o (w3 b o (sm3 b o e)), f5, fun z => ?_, ?_, ?_, s9 _ _ (w3 _ _ hys3), hps, ?_, ?_, gps, by have := meas_look (t := t') (I := I); omega⟩
            · have := s7 _ _ (w3 _ _ hys3)
              rw [z, hd5] at this
              cases this
            · rw [upd_same]
              simp
            · refine paired_appB ?_ (.cons ⟨d1, y, rfl, s9 _ _ g1, hat3.on k9⟩ (paired_mono (fun _ _ z => z.on k9) hr3))
              rw [List.map_reverse]
              exact paired_rev (paired_mono (fun _ _ z => z.on (KT.new hd5)) hpw)
            · cases hrl with
              | look k => exact k
            · intro i hi
              rcases List.mem_append.mp hi with h1 | h1
              · obtain ⟨u, hu, rfl⟩ := List.mem_map.mp h1
                exact gt.part (List.mem_reverse.mp hu)
              · rcases List.mem_cons.mp h1 with rfl | h1
                · exact gt
                · exact gI' i h1
        | false =>
          refine ⟨_, rfl, rfl, _, rfl, ifF fF ?_⟩
          cases hrl with
          | @told _ _ ps' k =>
          obtain ⟨yc, yd, rfl, hyc, hyd⟩ := paired_split hps
          have lc := hyc.length
          have lz := hp.length
          have ld := hyd.length
          rw [List.length_append] at hm lps
          rw [List.reverse_append] at hys3
          refine ⟨_, rfl, pp, rfl, ⟨_, SqL.of hz⟩, fun D hD => ?_⟩
          have nD : pl ≠ D := ne_of_none hys3 hD
          have npp : pp ≠ D := ne_of_none hz hD
          refine lc_list (K := K) (a := pp) (xs := zs) (fun n H7 => (∀ b o, b ≠ pl → H3 b = some o → H7 b = some o) ∧ H7 pl = some (.lst (yd.reverse ++ (yc.drop n).reverse)) ∧ H7 D = some (.lst (yc.take n))) ⟨fun b o _ e => by rw [upd_ne (ne_of_none e hD)]; exact e, by rw [upd_ne nD]; exact hys3, upd_same⟩ (fun n H7 _ z => SqL.of (z.1 _ _ npq hz)) ?_ ?_
          · rintro n x H7 hn7 ⟨s7, h7, hD7⟩
            have hn : n < yc.length := by
              have := (List.getElem?_eq_some_iff.mp hn7).1
              omega
            have ed : yc.drop n = yc[n] :: yc.drop (n + 1) := List.drop_eq_getElem_cons hn
            rw [ed, List.reverse_cons, ← List.append_assoc] at h7
            refine ⟨rfl, iteT (B := (fun n H7 => (∀ b o, b ≠ pl → H3 b = some o → H7 b = some o) ∧ H7 pl = some (.lst (yd.reverse ++ (yc.drop n).reverse)) ∧ H7 D = some (.lst (yc.take n))) (n + 1) H7) ⟨_, rfl, .inl ⟨rfl, _, SqL.of h7⟩, pl, _, yc[n], rfl, rfl, h7, by simp, yc.take n, by rw [upd_ne (Ne.symm nD)]; exact hD7, ?_, ?_, ?_, ?_⟩⟩
            · rw [sizeLine_eq]
              have := List.length_take_le' n yc
              omega
            · intro b o hb e
              rw [upd_ne (ne_of_none e hD), upd_ne hb]
              exact s7 b o hb e
            · rw [upd_ne nD, upd_same, List.dropLast_concat]
            · rw [upd_same, List.take_add_one, List.getElem?_eq_getElem hn]
              rfl
          · rintro H7 ⟨s7, h7, hD7⟩
            rw [show yc.drop zs.length = [] by rw [← lz, lc]; simp, List.reverse_nil, List.append_nil] at h7
            rw [show yc.take zs.length = yc by rw [← lz, lc]; simp] at hD7
            have k7 : KT H3 H7 := fun b xs e => s7 b _ (fun z => by rw [z, hys3] at e; cases e) e
            refine ⟨_, rfl, .inl ⟨rfl, _, SqL.of h7⟩, _, rfl, _, rfl, _, rfl, y, t', pp, D, zs, yc, rfl, hat3.on k7, gt.1, gt.2, s7 _ _ npq hz, At.all k7 hp, hD7, hyc, fun H8 sx s8 hx => ⟨pl, _, .str sx, rfl, rfl, s8 _ _ h7, ?_, ?_⟩⟩
            · rw [List.length_reverse, sizeLine_eq]
              omega
            · have k8 : KT H3 (upd H8 pl (.lst (yd.reverse ++ [.str sx]))) := (k7.trans (KT.same s8)).trans (KT.lst (s8 _ _ h7))
              refine ⟨meas I, by rw [meas_cons]; simp, I, t' :: ps', xr, .str sx :: yd, _, _, _, _, _, lf', rfl, rfl, ?_, hlf0, npl', ?_, paired_mono (fun _ _ z => z.on k8) hr3, ?_, .cons ⟨sx, rfl, hx⟩ hyd, k, gI', ?_, ?_⟩
              · intro b o e
                have nb : b ≠ pl := ne_of_none e hpl
                rw [upd_ne nb]
                exact s8 _ _ (s7 _ _ nb (sm3 _ _ e))
              · rw [upd_ne (Ne.symm npl')]
                exact s8 _ _ (s7 _ _ (Ne.symm npl') hxs3)
              · rw [upd_same, List.reverse_cons]
              · intro u hu
                rcases List.mem_cons.mp hu with rfl | hu
                · exact gt
                · exact gps u (List.mem_append_right _ hu)
              · rw [meas_cons, if_neg (by decide)] at hm
                rw [List.length_cons]
                omega
end
end K1
set_option Elab.async false
set_option linter.all false
set_option maxRecDepth 100000
set_option maxHeartbeats 4000000
namespace K1
open PySem PySem.Spec PyProof.Rows L2 RZ
/-- rows of a drawn program -/
inductive Rw where
  | give (x : Str) | lt (x : Str) (t : T) | tell (t : T)
def RwAt (H : Hp) : Rw → V → Prop
  | .give x, v => ∃ p, v = .ref p ∧ H p = some (.tup [.str "give", .str x])
  | .lt x t, v => ∃ p y, v = .ref p ∧ H p = some (.tup [.str "let", .str x, y]) ∧ At H t y
  | .tell t, v => ∃ p y, v = .ref p ∧ H p = some (.tup [.str "tell", y]) ∧ At H t y
theorem RwAt.on {H H' : Hp} (k : KT H H') : ∀ {r : Rw} {v : V}, RwAt H r v → RwAt H' r v
  | .give x, v, ⟨p, e, h⟩ => ⟨p, e, k _ _ h⟩
  | .lt x t, v, ⟨p, y, e, h, a⟩ => ⟨p, y, e, k _ _ h, a.on k⟩
  | .tell t, v, ⟨p, y, e, h, a⟩ => ⟨p, y, e, k _ _ h, a.on k⟩
/-- a row that is good: short enough -/
def Rw.ok : Rw → Prop
  | .give x => Nm x
  | .lt x t => Nm x ∧ t.ok ∧ t.size ≤ 100
  | .tell t => t.ok ∧ t.size ≤ 100
/-- lines put one below another -/
def nlS : Str := "\n"
def noS : Str := ""
def pgf (ls : List Str) : Str := ls.foldl (fun a l => a ++ l ++ nlS) noS
theorem pgf_snoc (ls : List Str) (l : Str) : pgf (ls ++ [l]) = pgf ls ++ l ++ nlS := by
  unfold pgf
  rw [List.foldl_append]
  rfl
theorem str_ext {a b : Str} (h : a.cps.toList = b.cps.toList) : a = b := by
  cases a with
  | mk x =>
  cases b with
  | mk y =>
  congr 1
  exact Array.toList_inj.mp h
theorem cps_app (a b : Str) : (a ++ b).cps.toList = a.cps.toList ++ b.cps.toList := by
  show (a.cps ++ b.cps).toList = _
  simp
theorem app_assoc (a b c : Str) : a ++ b ++ c = a ++ (b ++ c) := str_ext (by simp only [cps_app, List.append_assoc])
theorem app_no (a : Str) : a ++ noS = a := str_ext (by rw [cps_app]; show _ ++ [] = _; rw [List.append_nil])
theorem no_app (a : Str) : noS ++ a = a := str_ext (by rw [cps_app]; rfl)
theorem pgf_join (ls : List Str) : pgf ls = Txt.join nlS (ls ++ [noS]) := by
  rw [TL.join_eq]
  have gen : ∀ (ls : List Str) (a : Str), ls.foldl (fun a l => a ++ l ++ nlS) a = a ++ Str.join nlS (ls ++ [noS]) := by
    intro ls
    induction ls with
    | nil => intro a; show a = a ++ noS; rw [app_no]
    | cons l ls ih =>
      intro a
      rw [List.foldl_cons, ih]
      have e : Str.join nlS (l :: ls ++ [noS]) = l ++ nlS ++ Str.join nlS (ls ++ [noS]) := by
        cases ls with
        | nil => rfl
        | cons m ls => rfl
      rw [e, app_assoc, app_assoc, app_assoc]
  rw [pgf, gen, no_app]
theorem split_page {ls : List Str} (h : ∀ l ∈ ls, NoNl l) : Txt.split (pgf ls) nlS = ls ++ [noS] := by
  rw [pgf_join]
  refine TL.split_join (s := 10) (S := []) (by decide +kernel) (by decide +kernel) (by simp) fun p hp => ?_
  rcases List.mem_append.mp hp with hp | hp
  · exact fun z => (h p hp 10 z).1 rfl
  · rw [List.mem_singleton] at hp
    rw [hp]
    decide +kernel
theorem nl_len : nlS.length = 1 := by decide +kernel
theorem pgf_len {ls : List Str} {n : Nat} (h : ∀ l ∈ ls, l.length ≤ n) : (pgf ls).length ≤ ls.length * (n + 1) := by
  have gen : ∀ (ls : List Str) (a : Str), (∀ l ∈ ls, l.length ≤ n) → (ls.foldl (fun a l => a ++ l ++ nlS) a).length ≤ a.length + ls.length * (n + 1) := by
    intro ls
    induction ls with
    | nil => intro a _; simp
    | cons l ls ih =>
      intro a h
      have h1 := ih (a ++ l ++ nlS) fun x hx => h x (List.mem_cons_of_mem _ hx)
      have h2 := h l (List.mem_cons_self ..)
      rw [List.foldl_cons, List.length_cons, Nat.succ_mul]
      rw [Str.length_append, Str.length_append, nl_len] at h1
      omega
  have := gen ls noS h
  have e : noS.length = 0 := rfl
  unfold pgf
  omega
abbrev nscPg : List Str := ["program", "found", "row", "head"]
theorem scPg : FnScope nscPg ["program"] (defScope (top 152)) := ⟨rfl, rfl, rfl, by decide +kernel, rfl, by decide +kernel, by decide +kernel⟩
def spPage : Sp := fun vs H Q _ => ∃ (p : Addr) (rs : List Rw) (xs : List V), vs = [.ref p] ∧ H p = some (.tup xs) ∧ Paired (RwAt H) rs xs ∧ (∀ r ∈ rs, r.ok) ∧ rs.length ≤ 4 ∧ ∀ H' ls, Same H H' → ls.length = rs.length → (∀ l ∈ ls, Tx 4000 l) → Q (.str (pgf ls)) H'
def PgI (H : Hp) (p : Addr) (n : Nat) (σ : L2.St) (H' : Hp) : Prop := ∃ (ls : List Str) (o2 o3 : Option V), σ = [some (.ref p), some (.str (pgf ls)), o2, o3] ∧ Same H H' ∧ ls.length = n ∧ ∀ l ∈ ls, Tx 4000 l
theorem dTT : decide (V.str "tell" = V.str "tell") = true := by decide +kernel
theorem dGT : decide (V.str "give" = V.str "tell") = false := by decide +kernel
theorem dLT : decide (V.str "let" = V.str "tell") = false := by decide +kernel
theorem dLL : decide (V.str "let" = V.str "let") = true := by decide +kernel
theorem dGL : decide (V.str "give" = V.str "let") = false := by decide +kernel
theorem nTG : (!decide (V.str "tell" = V.str "give")) = true := by decide +kernel
theorem nGG : (!decide (V.str "give" = V.str "give")) = false := by decide +kernel
theorem nLG : (!decide (V.str "let" = V.str "give")) = true := by decide +kernel
section
variable {P : Program} {w : World} {K : PySem.W.Frag} {mg : Str → Option Value} {base : Heap} {f : Addr} {fd : FuncData}
theorem ok_page {fX fP fL fT : Addr} {fdX fdP fdL fdT : FuncData} (F : FnP K "_law_page" (top 152) f fd) (B : Bn mg) (F_law_text : FnP K "_law_text" (top 150) fX fdX) (g_law_text : mg "_law_text" = some (.ref fX)) (G_law_text : FnOk P w K mg base CX0 3 fX fdX ["tree"] spText) : FnOk P w K mg base CX0 4 f fd ["program"] spPage := by
  have b_law_text : Binds K fdX ["tree"] [] := F_law_text.bindsN fun _ _ _ _ _ _ us hl => match us, hl with | [_], _ => rfl
  refine F.ok scPg (fun vs H Q E h => ?_) ?_
  · obtain ⟨p, rs, xs, rfl, _⟩ := h
    rfl
  intro cdv A outer s H vs Q E hr h
  refine' ⟨_, PSs.nox ?p, ?q⟩
  case p =>
    refine' pss_cons (ps_set (i := 1) scPg.nd rfl (Or.inl rfl) pe_str) ?w0
    case w0 =>
    refine' pss_cons (ps_for PassesOwn.never rfl (pi_tup (pv 0)) (pg_name (i := 2) scPg.nd rfl (Or.inl rfl))
      (pss_cons (ps_set (i := 3) scPg.nd rfl (Or.inl rfl) (pe_ifExp (pt_cmpR op_eq (pe_ix (r := rIxT K) ix_tup (pv 2) pe_int (fun _ _ => rfl)) pe_str (nomark _)) pe_str (pe_op op_add_str (pe_op op_add_str (pe_op op_add_str (pe_ix (r := rIxT K) ix_tup (pv 2) pe_int (fun _ _ => rfl)) pe_str) (pe_ix (r := rIxT K) ix_tup (pv 2) pe_int (fun _ _ => rfl))) (pe_ifExp (pt_cmpR op_eq (pe_ix (r := rIxT K) ix_tup (pv 2) pe_int (fun _ _ => rfl)) pe_str (nomark _)) pe_str pe_str)))) (pss_one (ps_set (i := 1) scPg.nd rfl (Or.inl rfl) (pe_op op_add_str (pe_op op_add_str (pe_op op_add_str (pv 1) (pv 3)) (pe_ifExp (pt_cmpR op_ne (pe_ix (r := rIxT K) ix_tup (pv 2) pe_int (fun _ _ => rfl)) pe_str (nomark _)) (pe_call G_law_text (hr.mono (by decide)) rfl g_law_text F_law_text.kp b_law_text .nil pass0 (pa_cons (pe_ix (r := rIxT K) ix_tup (pv 2) (pe_un un_neg pe_int) (fun _ _ => rfl)) pa_nil)) pe_str)) pe_str))))) ?w1
    case w1 =>
    exact pss_one (ps_ret (pv 1))

  case q =>
    obtain ⟨p, rs, xs, rfl, hp, hrs, hok, h4, q⟩ := h
    refine ⟨_, rfl, p, rfl, ⟨_, .inl (.inl hp)⟩, ?_⟩
    have lx := hrs.length
    refine for_tup (K := K) (a := p) (xs := xs) (PgI H p) ⟨[], none, none, rfl, fun _ _ e => e, rfl, fun l hl => absurd hl (by simp)⟩ (fun n σ H' _ ⟨_, _, _, _, s1, _⟩ => .inl (.inl (s1 _ _ hp))) ?_ ?_
    · rintro n x σ H' hn ⟨ls, o2, o3, rfl, s1, hl, hls⟩
      obtain ⟨r, hr1, hat⟩ := paired_backB hrs hn
      have hro := hok r (List.mem_of_getElem? hr1)
      have hat1 := hat.on (KT.same s1)
      have hn4 : n < 4 := by
        have := (List.getElem?_eq_some_iff.mp hn).1
        omega
      have lp : (pgf ls).length ≤ 4 * 4001 := Nat.le_trans (pgf_len fun l h => (hls l h).1) (by rw [hl]; exact Nat.mul_le_mul_right _ (by omega))
      have fin : ∀ H2 (a b : Str), Same H' H2 → Tx 4000 (a ++ b) → PgI H p (n + 1) [some (.ref p), some (.str (pgf ls ++ a ++ b ++ nlS)), some x, some (.str a)] H2 := fun H2 a b s2 t2 => ⟨ls ++ [a ++ b], _, _, by rw [pgf_snoc, app_assoc (pgf ls) a b], fun b o e => s2 b o (s1 b o e), by simp [hl], fun l h => by
        rcases List.mem_append.mp h with h | h
        · exact hls l h
        · rw [List.mem_singleton] at h
          rw [h]
          exact t2⟩
      clear hat hn hr1 hrs lx hp
      have c1 : Tx 1 (" " : Str) := tx_of (by decide +kernel)
      have c0 : Tx 0 ("" : Str) := tx_of (by decide +kernel)
      have c3 : Tx 3 (" = " : Str) := tx_of (by decide +kernel)
      have cg : Tx 4 ("give" : Str) := tx_of (by decide +kernel)
      have cl : Tx 3 ("let" : Str) := tx_of (by decide +kernel)
      have ct : Tx 5 ("tell " : Str) := tx_of (by decide +kernel)
      have ll : ∀ {a b : Str} {m : Nat}, Tx m (a ++ b) → m ≤ 4000 → a.length + b.length ≤ sizeLine := fun h k => by rw [← Str.length_append]; exact lenS h.1 (by omega)
      have lf : ∀ {a b : Str} {m : Nat}, Tx m b → m ≤ 3990 → a.length ≤ 30000 → a.length + b.length ≤ sizeLine := fun h k l => by have := h.1; rw [sizeLine_eq]; omega
      match r, hat1, hro with
      | .give x0, ⟨tq, e, ht⟩, hro =>
        cases e
        have a1 := Tx.app cg c1
        have a2 := Tx.app a1 hro
        have a3 := Tx.app a2 c0
        refine ⟨_, rfl, tq, _, 0, .str "give", rfl, rfl, .inl (.inl ht), rfl, rfl, _, rfl, ifF dGT ?_⟩
        refine ⟨_, rfl, tq, _, 0, .str "give", rfl, rfl, .inl (.inl ht), rfl, _, _, rfl, rfl, ll a1 (by decide), _, rfl, tq, _, 1, .str x0, rfl, rfl, .inl (.inl ht), rfl, _, _, rfl, rfl, ll a2 (by decide), _, rfl, tq, _, 0, .str "give", rfl, rfl, .inl (.inl ht), rfl, rfl, _, rfl, ifF dGL ⟨_, _, rfl, rfl, ll a3 (by decide), ?_⟩⟩
        refine ⟨_, rfl, _, rfl, _, _, rfl, rfl, lf a3 (by decide) (by omega), _, rfl, tq, _, 0, .str "give", rfl, rfl, .inl (.inl ht), rfl, rfl, _, rfl, ifF nGG ⟨_, _, rfl, rfl, ?_, _, _, rfl, rfl, ?_, fin H' _ "" (fun _ _ e => e) ((Tx.app a3 c0).le (by decide))⟩⟩
        · refine lf c0 (by decide) ?_
          rw [Str.length_append]
          have := a3.1
          omega
        · show _ + nlS.length ≤ sizeLine
          rw [nl_len, sizeLine_eq, Str.length_append, Str.length_append]
          have := a3.1
          have := c0.1
          omega
      | .lt x0 t, ⟨tq, y, e, ht, hat⟩, hro =>
        cases e
        have a1 := Tx.app cl c1
        have a2 := Tx.app a1 hro.1
        have a3 := Tx.app a2 c3
        refine ⟨_, rfl, tq, _, 0, .str "let", rfl, rfl, .inl (.inl ht), rfl, rfl, _, rfl, ifF dLT ?_⟩
        refine ⟨_, rfl, tq, _, 0, .str "let", rfl, rfl, .inl (.inl ht), rfl, _, _, rfl, rfl, ll a1 (by decide), _, rfl, tq, _, 1, .str x0, rfl, rfl, .inl (.inl ht), rfl, _, _, rfl, rfl, ll a2 (by decide), _, rfl, tq, _, 0, .str "let", rfl, rfl, .inl (.inl ht), rfl, rfl, _, rfl, ifT dLL ⟨_, _, rfl, rfl, ll a3 (by decide), ?_⟩⟩
        refine ⟨_, rfl, _, rfl, _, _, rfl, rfl, lf a3 (by decide) (by omega), _, rfl, tq, _, 0, .str "let", rfl, rfl, .inl (.inl ht), rfl, rfl, _, rfl, ifT nLG ⟨_, rfl, _, rfl, tq, _, -1, y, rfl, rfl, .inl (.inl ht), rfl, y, t, rfl, hat, hro.2.1, by have := hro.2.2; omega, fun H2 sx s2 hx => ⟨_, _, rfl, rfl, ?_, _, _, rfl, rfl, ?_, fin H2 _ sx s2 ((Tx.app a3 hx).le (by have := hro.2.2; omega))⟩⟩⟩
        · refine lf hx (by have := hro.2.2; omega) ?_
          rw [Str.length_append]
          have := a3.1
          omega
        · show _ + nlS.length ≤ sizeLine
          rw [nl_len, sizeLine_eq, Str.length_append, Str.length_append]
          have := a3.1
          have := hx.1
          have := hro.2.2
          omega
      | .tell t, ⟨tq, y, e, ht, hat⟩, hro =>
        cases e
        refine ⟨_, rfl, tq, _, 0, .str "tell", rfl, rfl, .inl (.inl ht), rfl, rfl, _, rfl, ifT dTT ?_⟩
        refine ⟨_, rfl, _, rfl, _, _, rfl, rfl, lf ct (by decide) (by omega), _, rfl, tq, _, 0, .str "tell", rfl, rfl, .inl (.inl ht), rfl, rfl, _, rfl, ifT nTG ⟨_, rfl, _, rfl, tq, _, -1, y, rfl, rfl, .inl (.inl ht), rfl, y, t, rfl, hat, hro.1, by have := hro.2; omega, fun H2 sx s2 hx => ⟨_, _, rfl, rfl, ?_, _, _, rfl, rfl, ?_, fin H2 _ sx s2 ((Tx.app ct hx).le (by have := hro.2; omega))⟩⟩⟩
        · refine lf hx (by have := hro.2; omega) ?_
          rw [Str.length_append]
          have := ct.1
          omega
        · show _ + nlS.length ≤ sizeLine
          rw [nl_len, sizeLine_eq, Str.length_append, Str.length_append]
          have := ct.1
          have := hx.1
          have := hro.2
          omega
    · rintro σ H' ⟨ls, o2, o3, rfl, s1, hl, hls⟩
      exact ⟨_, rfl, q H' ls s1 (by omega) hls⟩
end
end K1
set_option Elab.async false
set_option linter.all false
set_option maxRecDepth 100000
set_option maxHeartbeats 2000000
/-! list(s) of a text. -/
namespace K1
open PySem PySem.Spec PyProof.Rows L2
def signsV (z : Str) : List V := z.cps.toList.map fun c => V.str ⟨#[c]⟩
def rListS : List V → Hp → VK → Prop := fun xs H Q => ∃ z : Str, xs = [.str z] ∧ z.length ≤ sizeLine ∧ ∀ q, H q = none → Q (.ref q) (upd H q (.lst (signsV z)))
theorem vals_signs {z : Str} {acc : Array Value} (h : ItemsOf (SignAt z) acc z.cps.size) : Vals (signsV z) acc.toList := by
  have e : acc.toList.length = z.cps.size := by rw [Array.length_toList]; exact h.1
  have e2 : signsV z = (List.range acc.toList.length).map fun j => V.str ⟨#[z.cps.getD j 0]⟩ := by
    unfold signsV
    refine List.ext_getElem (by simp [e]) fun j h1 h2 => ?_
    have hj : j < z.cps.size := by simpa using h1
    simp [hj]
  rw [e2]
  refine vals_of_get acc.toList _ fun j u hj => ?_
  obtain ⟨c, t, hc, rfl⟩ := h.2 j u (by rw [← hj, Array.getElem?_toList])
  have : z.cps.getD j 0 = c := by
    rw [Array.getD_eq_getD_getElem?, hc]
    rfl
  rw [this]
  exact ⟨t, rfl⟩
theorem call_listS {X : Cx} (hc : X.calm = true) : CallR X (.type "list") rListS := by
  intro pins s σ H xs us Q I r h
  obtain ⟨z, rfl, hz, q⟩ := h
  obtain ⟨u, rfl, rx⟩ := vals1 r
  obtain ⟨t, rfl⟩ := rx
  refine call_list_str (I.ok.hd hc) z t (hn := hz) fun h' tk acc c' hk e' hi => ?_
  refine ⟨.ref s.heap.objs.size, upd H s.heap.objs.size (.lst (signsV z)), I.laid hk (Nat.le_refl _) (show ObjOk X.prog X.w _ _ _ (.lst (signsV z)) from ⟨?_, acc.toList, c', vals_signs hi, ?_⟩), rfl, q _ (I.hok.fresh (Nat.le_refl _))⟩
  · unfold signsV
    rw [List.length_map, Array.length_toList]
    exact hz
  · rw [Array.toArray_toList]
    exact e'
/-- len of a list or tuple -/
def rLen (K : PySem.W.Frag) : List V → Hp → VK → Prop := fun xs H Q => ∃ p ys, xs = [V.ref p] ∧ (SqL K H p ys ∨ SqT K H p ys) ∧ Q (V.int ys.length) H
end K1
set_option Elab.async false
set_option linter.all false
set_option maxRecDepth 100000
set_option maxHeartbeats 4000000
namespace K1
open PySem PySem.Spec PyProof.Rows L2 RZ
abbrev nscSt : List Str := ["loom", "hat", "one", "two", "lap"]
theorem scSt : FnScope nscSt ["loom"] (defScope (top 143)) := ⟨rfl, rfl, rfl, by decide +kernel, rfl, by decide +kernel, by decide +kernel⟩
/-- all stands but for what stands at one place -/
def SB (l : Addr) (H H' : Hp) : Prop := ∀ b o, b ≠ l → H b = some o → H' b = some o
def NmV (v : V) : Prop := ∃ x, v = .str x ∧ Nm x
def nmB : V → Bool
  | .str x => decide (x.length ≤ 6) && noNlB x
  | _ => false
theorem nmV_of {v : V} (h : nmB v = true) : NmV v := by
  cases v with
  | str x => exact ⟨x, rfl, tx_of h⟩
  | _ => exact absurd h Bool.false_ne_true
theorem nmAll {xs : List V} (h : xs.all nmB = true) : ∀ x ∈ xs, NmV x := fun x hx => nmV_of (List.all_eq_true.mp h x hx)
theorem sign_tx {z : Str} {n c : Nat} (h : noNlB z = true) (hc : z.cps[n]? = some c) : Tx 1 (⟨#[c]⟩ : Str) := by
  refine ⟨Nat.le_refl _, fun d hd => ?_⟩
  have : d = c := by simpa using hd
  rw [this]
  refine noNl_of h c ?_
  rw [Array.mem_toList_iff]
  exact Array.mem_of_getElem? hc
def spStock : Sp := fun vs H Q _ => ∃ l : Addr, vs = [.ref l] ∧ Lm H l ∧ ∀ H' p xs, SB l H H' → Lm H' l → H p = none → p ≠ l → H' p = some (.lst xs) → (∀ x ∈ xs, NmV x) → xs.length = 103 → Q (.ref p) H'
section
variable {P : Program} {w : World} {K : PySem.W.Frag} {mg : Str → Option Value} {base : Heap} {f : Addr} {fd : FuncData}
theorem ok_stock {fS : Addr} {fdS : FuncData} (F : FnP K "_law_stock" (top 143) f fd) (B : Bn mg) (F_law_shed : FnP K "_law_shed" (top 138) fS fdS) (g_law_shed : mg "_law_shed" = some (.ref fS)) : FnOk P w K mg base CX0 2 f fd ["loom"] spStock := by
  have G_law_shed : FnOk P w K mg base CX0 1 fS fdS ["loom", "ends"] spShed := ok_shed F_law_shed B.int
  have b_law_shed : Binds K fdS ["loom", "ends"] [] := F_law_shed.bindsN fun _ _ _ _ _ _ us hl => match us, hl with | [_, _], _ => rfl
  refine F.ok scSt (fun vs H Q E h => ?_) ?_
  · obtain ⟨l, rfl, _⟩ := h
    rfl
  intro cdv A outer s H vs Q E hr h
  refine' ⟨_, PSs.nox ?p, ?q⟩
  case p =>
    refine' pss_cons (ps_set (i := 1) scSt.nd rfl (Or.inr rfl) (pe_op op_cat (pe_callTy (call_listS rfl) rfl B.list boot_list (pa_cons pe_str pa_nil)) (pe_lst (pa_cons pe_str (pa_cons pe_str (pa_cons pe_str (pa_cons pe_str (pa_cons pe_str (pa_cons pe_str (pa_cons pe_str (pa_cons pe_str (pa_cons pe_str (pa_cons pe_str pa_nil))))))))))))) ?w0
    case w0 =>
    refine' pss_cons (ps_for PassesOwn.never rfl (pi_str pe_str) (pg_name (i := 2) scSt.nd rfl (Or.inr rfl))
      (pss_one (ps_set (i := 1) scSt.nd rfl (Or.inr rfl) (pe_op op_cat (pv 1) (pe_lc (own := [("two", 3)]) (g := gName 3) (tt := tYes) rfl scSt.nd (pi_str pe_str) (blkOk_by (N := nscSt) (sc := defScope (top 143)) (by decide +kernel)) (fun _ _ _ _ _ => pg_name (i := 3) scSt.nd rfl (Or.inl rfl)) (fun _ _ _ _ _ => pts_nil) (fun _ _ _ _ _ => (pe_op op_add_str (pv 2) (pv 3)))))))) ?w1
    case w1 =>
    exact pss_one (ps_ret (pe_lc (own := [("lap", 4)]) (g := gName 4) (tt := tYes) (te := tBM K "list" rPopAt (tVar 1) _) rfl scSt.nd (pi_range1 rfl B.range (pa_cons (pe_callB (r := rLen K) call_len_seq rfl B.len boot_len (pa_cons (pv 1) pa_nil)) pa_nil)) (blkOk_by (N := nscSt) (sc := defScope (top 143)) (by decide +kernel)) (fun _ _ _ _ _ => pg_name (i := 4) scSt.nd rfl (Or.inl rfl)) (fun _ _ _ _ _ => pts_nil) (fun _ _ _ _ _ => (pe_bm PySem.F.plainAttrs_list PySem.F.slot_list_pop PySem.F.type_list_pop mt_popAt (pv 1) (pa_cons (pe_call G_law_shed (hr.mono (by decide)) rfl g_law_shed F_law_shed.kp b_law_shed .nil pass0 (pa_cons (pv 0) (pa_cons (pe_callB (r := rLen K) call_len_seq rfl B.len boot_len (pa_cons (pv 1) pa_nil)) pa_nil))) pa_nil)))))

  case q =>
    obtain ⟨l, rfl, hl, q⟩ := h
    refine ⟨_, rfl, by rw [sizeLine_eq]; decide +kernel, fun q1 h1 => ⟨small (by decide), fun q2 h2 => ⟨q1, q2, _, _, rfl, rfl, by rw [upd_ne (ne_of_none upd_same h2)]; exact upd_same, upd_same, by rw [sizeLine_eq]; decide +kernel, fun q3 h3 => ?_⟩⟩⟩
    have u3 := sameU (o := .lst (signsV "xyzuvwkmpqhstbcdeagjl" ++ [V.str "acc", .str "tail", .str "abcdef", .str "nil", .str "left", .str "low", .str "mid", .str "top", .str "oo", .str "zz"])) (sameU (o := .lst [V.str "acc", .str "tail", .str "abcdef", .str "nil", .str "left", .str "low", .str "mid", .str "top", .str "oo", .str "zz"]) (Same.new (o := .lst (signsV "xyzuvwkmpqhstbcdeagjl")) h1) h2) h3
    have f3 : H q3 = none := (sameU (o := .lst [V.str "acc", .str "tail", .str "abcdef", .str "nil", .str "left", .str "low", .str "mid", .str "top", .str "oo", .str "zz"]) (Same.new (o := .lst (signsV "xyzuvwkmpqhstbcdeagjl")) h1) h2).free h3
    refine ⟨_, rfl, for_it walk_str (fun n σ H' => ∃ (hp : Addr) (xs : List V) (o2 o3 o4 : Option V), σ = [some (.ref l), some (.ref hp), o2, o3, o4] ∧ Same H H' ∧ H hp = none ∧ H' hp = some (.lst xs) ∧ xs.length = 31 + 8 * n ∧ ∀ x ∈ xs, NmV x) ⟨q3, _, none, none, none, rfl, u3, f3, upd_same, by decide +kernel, nmAll (by decide +kernel)⟩ (fun _ _ _ _ _ => trivial) ?_ ?_⟩
    · rintro n x σ H' H2 hn ⟨hp, xs, o2, o3, o4, rfl, s1, f1, hx, hlen, hnm⟩ ⟨rfl, c, hc, rfl⟩
      have t1 : Tx 1 (⟨#[c]⟩ : Str) := sign_tx (by decide +kernel) hc
      have hn9 : n < 9 := hn
      refine ⟨_, rfl, _, rfl, fun D hD => lc_it walk_str (fun m H4 => Same H2 H4 ∧ ∃ ws, H4 D = some (.lst ws) ∧ ws.length = m ∧ ∀ x ∈ ws, NmV x) ⟨Same.new hD, [], upd_same, rfl, fun x hx => absurd hx (by simp)⟩ (fun _ _ _ _ => trivial) ?_ ?_⟩
      · rintro m y H4 H5 hm ⟨s4, ws, hw, lw, nw⟩ ⟨rfl, c2, hc2, rfl⟩
        have t2 : Tx 1 (⟨#[c2]⟩ : Str) := sign_tx (by decide +kernel) hc2
        have t3 := Tx.app t1 t2
        have hm8 : m < 8 := hm
        refine ⟨rfl, iteT (B := (fun m H4 => Same H2 H4 ∧ ∃ ws, H4 D = some (.lst ws) ∧ ws.length = m ∧ ∀ x ∈ ws, NmV x) (m + 1) H5) ⟨_, rfl, _, rfl, _, _, rfl, rfl, by rw [← Str.length_append]; exact lenS t3.1 (by decide), ws, hw, by rw [lw, sizeLine_eq]; omega, fun b o e => by rw [upd_ne (ne_of_none e hD)]; exact s4 b o e, _, upd_same, by simp [lw], fun x hx => ?_⟩⟩
        rcases List.mem_append.mp hx with hx | hx
        · exact nw x hx
        · rw [List.mem_singleton] at hx
          exact ⟨_, hx, t3.le (by decide)⟩
      · rintro H4 ⟨s4, ws, hw, lw, nw⟩
        have lw8 : ws.length = 8 := lw
        refine ⟨hp, D, xs, ws, rfl, rfl, s4 _ _ hx, hw, by rw [hlen, lw8, sizeLine_eq]; omega, fun p5 h5 => ⟨p5, xs ++ ws, _, _, _, rfl, fun b o e => ?_, ?_, upd_same, by rw [List.length_append, hlen, lw8]; omega, fun x hx => ?_⟩⟩
        · rw [upd_ne (ne_of_none (s4 _ _ (s1 _ _ e)) h5)]
          exact s4 _ _ (s1 _ _ e)
        · have : Same H H4 := fun b o e => s4 b o (s1 b o e)
          exact this.free h5
        · exact (List.mem_append.mp hx).elim (hnm x) (nw x)
    · rintro σ H' ⟨hp, xs, o2, o3, o4, rfl, s1, f1, hx, hlen, hnm⟩
      have h103 : xs.length = 103 := by rw [hlen]; decide +kernel
      refine ⟨_, rfl, hp, xs, rfl, .inl (SqL.of hx), _, rfl, by omega, by omega, fun D hD => ?_⟩
      rw [h103]
      have nl : hp ≠ l := fun z => by
        obtain ⟨a, b, c, e, _⟩ := hl
        rw [z, e] at f1
        cases f1
      have hl1 : Lm H' l := by
        obtain ⟨a, b, c, e, r⟩ := hl
        exact ⟨a, b, c, s1 _ _ e, r⟩
      have nDl : D ≠ l := fun z => by
        obtain ⟨a, b, c, e, _⟩ := hl1
        rw [z, e] at hD
        cases hD
      have nDh : D ≠ hp := fun z => by
        rw [z, hx] at hD
        cases hD
      have fD : H D = none := s1.free hD
      refine lc_range (lo := 0) (n := 103) (fun n H4 => ∃ (rest acc : List V), (∀ b o, b ≠ l → H b = some o → H4 b = some o) ∧ Lm H4 l ∧ H4 hp = some (.lst rest) ∧ rest.length + n = 103 ∧ (∀ x ∈ rest, NmV x) ∧ H4 D = some (.lst acc) ∧ acc.length = n ∧ ∀ x ∈ acc, NmV x) ⟨xs, [], fun b o _ e => by rw [upd_ne (ne_of_none (s1 _ _ e) hD)]; exact s1 _ _ e, ?_, by rw [upd_ne (Ne.symm nDh)]; exact hx, h103, hnm, upd_same, rfl, fun x hx => absurd hx (by simp)⟩ ?_ ?_
      · obtain ⟨a, b, c, e, r⟩ := hl1
        exact ⟨a, b, c, by rw [upd_ne (Ne.symm nDl)]; exact e, r⟩
      · rintro n H4 hn ⟨rest, acc, s4, l4, hr4, hlr, nr, hD4, la, na⟩
        refine ⟨rfl, iteT (B := (fun n H4 => ∃ (rest acc : List V), (∀ b o, b ≠ l → H b = some o → H4 b = some o) ∧ Lm H4 l ∧ H4 hp = some (.lst rest) ∧ rest.length + n = 103 ∧ (∀ x ∈ rest, NmV x) ∧ H4 D = some (.lst acc) ∧ acc.length = n ∧ ∀ x ∈ acc, NmV x) (n + 1) H4) ⟨_, rfl, .inl ⟨rfl, _, SqL.of hr4⟩, _, rfl, _, rfl, hp, rest, rfl, .inl (SqL.of hr4), l, rest.length, rfl, by omega, by omega, l4, fun k a b c k0 k1 a0 a1 b0 b1 c0 => ?_⟩⟩
        have hk : k.toNat < rest.length := by omega
        have hr5 : upd H4 l (.lst [.int a, .int b, .int c]) hp = some (.lst rest) := by rw [upd_ne nl]; exact hr4
        refine ⟨hp, rest, k, k.toNat, rest[k.toNat], rfl, rfl, hr5, by omega, by omega, seqIndex_at k0 k1, List.getElem?_eq_getElem hk, acc, ?_, by rw [la, sizeLine_eq]; omega, rest.eraseIdx k.toNat, acc ++ [rest[k.toNat]], ?_, ?_, ?_, ?_, ?_, upd_same, by simp [la], ?_⟩
        · rw [upd_ne nDh, upd_ne nDl]
          exact hD4
        · intro b2 o2 hb e2
          rw [upd_ne (ne_of_none e2 fD), upd_ne (ne_of_none e2 f1), upd_ne hb]
          exact s4 b2 o2 hb e2
        · exact ⟨a, b, c, by rw [upd_ne (Ne.symm nDl), upd_ne (Ne.symm nl)]; exact upd_same, a0, a1, b0, b1, c0⟩
        · rw [upd_ne (Ne.symm nDh)]
          exact upd_same
        · rw [List.length_eraseIdx_of_lt hk]
          omega
        · exact fun x hx => nr x (List.mem_of_mem_eraseIdx hx)
        · intro x hx
          rcases List.mem_append.mp hx with hx | hx
          · exact na x hx
          · rw [List.mem_singleton] at hx
            rw [hx]
            exact nr _ (List.getElem_mem hk)
      · rintro H4 ⟨rest, acc, s4, l4, hr4, hlr, nr, hD4, la, na⟩
        exact q H4 D acc s4 l4 fD nDl hD4 na la
end
end K1
set_option Elab.async false
set_option linter.all false
set_option maxRecDepth 100000
set_option maxHeartbeats 4000000
namespace K1
open PySem PySem.Spec PyProof.Rows L2 RZ
def So (s : Str) : Prop := s = "n" ∨ s = "f" ∨ s = "r"
/-- the loom and the stock of names, so many there at least -/
structure DS (l s : Addr) (N : Nat) (H : Hp) : Prop where
  lm : Lm H l
  ne : l ≠ s
  st : ∃ ns, H s = some (.lst ns) ∧ (∀ x ∈ ns, NmV x) ∧ N ≤ ns.length ∧ ns.length ≤ 103
def SX2 (l s : Addr) (H H' : Hp) : Prop := ∀ b o, b ≠ l → b ≠ s → H b = some o → H' b = some o
section
variable {l s : Addr} {N M : Nat} {H H' H'' : Hp} {p : Addr} {o : HO}
theorem SX2.refl : SX2 l s H H := fun _ _ _ _ e => e
theorem SX2.trans (a : SX2 l s H H') (b : SX2 l s H' H'') : SX2 l s H H'' := fun c u h1 h2 e => b c u h1 h2 (a c u h1 h2 e)
theorem SX2.new (h : H p = none) : SX2 l s H (upd H p o) := fun b u _ _ e => by rw [upd_ne (ne_of_none e h)]; exact e
theorem SX2.atl : SX2 l s H (upd H l o) := fun b u h _ e => by rw [upd_ne h]; exact e
theorem SX2.ats : SX2 l s H (upd H s o) := fun b u _ h e => by rw [upd_ne h]; exact e
theorem DS.le (d : DS l s N H) (h : M ≤ N) : DS l s M H := ⟨d.lm, d.ne, let ⟨ns, a, b, c, e⟩ := d.st; ⟨ns, a, b, Nat.le_trans h c, e⟩⟩
theorem DS.pl (d : DS l s N H) (h : H p = none) : p ≠ l := fun z => by
  obtain ⟨a, b, c, e, _⟩ := d.lm
  rw [z, e] at h
  cases h
theorem DS.ps (d : DS l s N H) (h : H p = none) : p ≠ s := fun z => by
  obtain ⟨ns, e, _⟩ := d.st
  rw [z, e] at h
  cases h
theorem DS.tl {xs : List V} (d : DS l s N H) (h : H p = some (.tup xs)) : p ≠ l := fun z => by
  obtain ⟨a, b, c, e, _⟩ := d.lm
  rw [z, e] at h
  cases h
theorem DS.ts {xs : List V} (d : DS l s N H) (h : H p = some (.tup xs)) : p ≠ s := fun z => by
  obtain ⟨ns, e, _⟩ := d.st
  rw [z, e] at h
  cases h
theorem DS.new (d : DS l s N H) (h : H p = none) : DS l s N (upd H p o) := by
  have h1 := d.pl h
  have h2 := d.ps h
  obtain ⟨⟨a, b, c, e, r⟩, ne, ns, e2, r2⟩ := d
  exact ⟨⟨a, b, c, by rw [upd_ne (Ne.symm h1)]; exact e, r⟩, ne, ns, by rw [upd_ne (Ne.symm h2)]; exact e2, r2⟩
/-- after a draw -/
theorem DS.shed {a b c : Int} (d : DS l s N H) (a0 : 0 ≤ a) (a1 : a < 4294967296) (b0 : 0 ≤ b) (b1 : b < 4294967296) (c0 : 0 ≤ c) : DS l s N (upd H l (.lst [.int a, .int b, .int c])) := by
  obtain ⟨_, ne, ns, e2, r2⟩ := d
  exact ⟨⟨a, b, c, upd_same, a0, a1, b0, b1, c0⟩, ne, ns, by rw [upd_ne (Ne.symm ne)]; exact e2, r2⟩
theorem KT.of (d : DS l s N H) (x : SX2 l s H H') : KT H H' := fun q xs e => x q _ (d.tl e) (d.ts e) e
/-- stock.pop() -/
theorem DS.pop {σ : L2.St} {i : Nat} {K : PySem.W.Frag} {Q : VK} (d : DS l s (N + 1) H) (hs : σ[i]? = some (some (.ref s))) (q : ∀ x H', Nm x → DS l s N H' → SX2 l s H H' → (∀ b, H b = none → H' b = none) → Q (.str x) H') : tBM0 K "list" rPop (tVar i) σ H Q := by
  obtain ⟨lm, ne, ns, e, nm, hN, hm⟩ := d
  have h0 : ns.length - 1 < ns.length := by omega
  obtain ⟨x, ex, hx⟩ := nm ns[ns.length - 1] (List.getElem_mem h0)
  refine ⟨_, hs, .inl ⟨rfl, _, SqL.of e⟩, s, ns, .str x, rfl, rfl, e, by rw [List.getElem?_eq_getElem h0, ex], q x _ hx ⟨?_, ne, ns.dropLast, upd_same, fun y hy => nm y ((List.dropLast_sublist ns).subset hy), ?_, ?_⟩ SX2.ats fun b hb => ?_⟩
  · obtain ⟨a, b, c, e2, r⟩ := lm
    exact ⟨a, b, c, by rw [upd_ne ne]; exact e2, r⟩
  · rw [List.length_dropLast]; omega
  · rw [List.length_dropLast]; omega
  · rw [upd_ne (fun z => by rw [z, e] at hb; cases hb)]
    exact hb
end
def FrV (H : Hp) (v : V) : Prop := ∃ q x so, v = .ref q ∧ H q = some (.tup [.str x, .str so]) ∧ Nm x ∧ So so
theorem FrV.on {H H' : Hp} (k : KT H H') {v : V} : FrV H v → FrV H' v
  | ⟨q, x, so, e, h, r⟩ => ⟨q, x, so, e, k _ _ h, r⟩
/-- a list of free names -/
def FrL (l s : Addr) (H : Hp) (k : Nat) (v : V) : Prop := ∃ fr fs, v = .ref fr ∧ fr ≠ l ∧ fr ≠ s ∧ H fr = some (.lst fs) ∧ fs.length ≤ k ∧ ∀ x ∈ fs, FrV H x
theorem FrL.on {l s : Addr} {N k : Nat} {H H' : Hp} {v : V} (d : DS l s N H) (x : SX2 l s H H') : FrL l s H k v → FrL l s H' k v
  | ⟨fr, fs, e, n1, n2, h, hk, hf⟩ => ⟨fr, fs, e, n1, n2, x _ _ n1 n2 h, hk, fun y hy => (hf y hy).on (KT.of d x)⟩
/-- a piece: its sort, a tree of at most so many places, at most so many free names -/
def PcAt (l s : Addr) (H : Hp) (n k : Nat) (v : V) : Prop := ∃ p t so y fr, v = .ref p ∧ H p = some (.tup [.str so, y, fr]) ∧ So so ∧ At H t y ∧ t.ok ∧ t.size ≤ n ∧ FrL l s H k fr
theorem PcAt.on {l s : Addr} {N n k : Nat} {H H' : Hp} {v : V} (d : DS l s N H) (x : SX2 l s H H') : PcAt l s H n k v → PcAt l s H' n k v
  | ⟨p, t, so, y, fr, e, h, hs, a, ok, sz, f⟩ => ⟨p, t, so, y, fr, e, KT.of d x _ _ h, hs, a.on (KT.of d x), ok, sz, f.on d x⟩
abbrev nscAs : List Str := ["loom", "stock", "piece", "sort", "fib", "have", "tree", "frees"]
theorem scAs : FnScope nscAs ["loom", "stock", "piece", "sort", "fib"] (defScope (top 144)) := ⟨rfl, rfl, rfl, by decide +kernel, rfl, by decide +kernel, by decide +kernel⟩
def spAs : Sp := fun vs H Q _ => ∃ (l s : Addr) (v : V) (so : Str) (fib : Bool) (N n k : Nat), vs = [.ref l, .ref s, v, .str so, .bl fib] ∧ (so = "f" ∨ so = "n") ∧ DS l s (N + 1) H ∧ PcAt l s H n k v ∧
  ∀ H' v', DS l s N H' → SX2 l s H H' → PcAt l s H' (n + 2) k v' → Q v' H'
theorem dff : decide (V.str "f" = V.str "f") = true := by decide +kernel
theorem dnf : decide (V.str "n" = V.str "f") = false := by decide +kernel
section
variable {P : Program} {w : World} {K : PySem.W.Frag} {mg : Str → Option Value} {base : Heap} {f : Addr} {fd : FuncData}
theorem ok_as {fS : Addr} {fdS : FuncData} (F : FnP K "_law_as" (top 144) f fd) (B : Bn mg) (F_law_shed : FnP K "_law_shed" (top 138) fS fdS) (g_law_shed : mg "_law_shed" = some (.ref fS)) : FnOk P w K mg base CX0 2 f fd ["loom", "stock", "piece", "sort", "fib"] spAs := by
  have G_law_shed : FnOk P w K mg base CX0 1 fS fdS ["loom", "ends"] spShed := ok_shed F_law_shed B.int
  have b_law_shed : Binds K fdS ["loom", "ends"] [] := F_law_shed.bindsN fun _ _ _ _ _ _ us hl => match us, hl with | [_, _], _ => rfl
  refine F.ok scAs (fun vs H Q E h => ?_) ?_
  · obtain ⟨l, s, v, so, fib, N, n, k, rfl, _⟩ := h
    rfl
  intro cdv A outer s0 H vs Q E hr h
  refine' ⟨_, PSs.nox ?p, ?q⟩
  case p =>
    refine' pss_cons (ps_asg (pv 2) (pg_tup rfl (pgs_cons (pg_name (i := 5) scAs.nd rfl (Or.inl rfl)) (pgs_cons (pg_name (i := 6) scAs.nd rfl (Or.inl rfl)) (pgs_cons (pg_name (i := 7) scAs.nd rfl (Or.inl rfl)) pgs_nil))))) ?w0
    case w0 =>
    refine' pss_cons (ps_if (PW.pt (pw_or (pt_cmpR op_eq (pv 5) (pv 3) (nomark _)) (pw_or1 (PW.pt (pw_and (pt_val (pv 4)) (pw_and1 (pt_cmpR op_eq (pe_call G_law_shed (hr.mono (by decide)) rfl g_law_shed F_law_shed.kp b_law_shed .nil pass0 (pa_cons (pv 0) (pa_cons pe_int pa_nil))) pe_int (nomark _)))))))) (pss_one (ps_ret (pe_tup (pa_cons (pv 3) (pa_cons (pv 6) (pa_cons (pv 7) pa_nil)))))) (pss_nil)) ?w1
    case w1 =>
    refine' pss_cons (ps_if (pt_cmpR op_eq (pv 3) pe_str (nomark _)) (pss_one (ps_ret (pe_tup (pa_cons pe_str (pa_cons (pe_tup (pa_cons pe_str (pa_cons (pe_bm0 PySem.F.plainAttrs_list PySem.F.slot_list_pop PySem.F.type_list_pop mt_pop (pv 1)) (pa_cons (pe_ifExp (pt_cmpR op_eq (pv 5) pe_str (nomark _)) (pv 6) (pe_tup (pa_cons pe_str (pa_cons (pv 6) (pa_cons pe_str pa_nil))))) pa_nil)))) (pa_cons (pv 7) pa_nil)))))) (pss_nil)) ?w2
    case w2 =>
    refine' pss_cons (ps_if (pt_cmpR op_eq (pv 5) pe_str (nomark _)) (pss_one (ps_ret (pe_tup (pa_cons pe_str (pa_cons (pe_tup (pa_cons pe_str (pa_cons (pv 6) (pa_cons pe_str pa_nil)))) (pa_cons (pv 7) pa_nil)))))) (pss_nil)) ?w3
    case w3 =>
    exact pss_one (ps_ret (pe_tup (pa_cons pe_str (pa_cons (pe_tup (pa_cons pe_str (pa_cons (pv 6) (pa_cons (pe_tup (pa_cons pe_str (pa_cons (pe_call G_law_shed (hr.mono (by decide)) rfl g_law_shed F_law_shed.kp b_law_shed .nil pass0 (pa_cons (pv 0) (pa_cons pe_int pa_nil))) pa_nil))) pa_nil)))) (pa_cons (pv 7) pa_nil)))))

  case q =>
    obtain ⟨l, s, v, so, fib, N, n, k, rfl, hso, d, ⟨p, t, hv, y, fr, rfl, hp, shv, ha, hok, hsz, hf⟩, q⟩ := h
    refine ⟨_, rfl, p, _, rfl, .inl (.inl hp), rfl, _, _, rfl, _, _, rfl, _, _, rfl, rfl, ?_⟩
    have fin : ∀ H1 so' t' y', DS l s N H1 → SX2 l s H H1 → So so' → At H1 t' y' → t'.ok → t'.size ≤ n + 2 → ∀ p2, H1 p2 = none → Q (.ref p2) (upd H1 p2 (.tup [.str so', y', fr])) := fun H1 so' t' y' d1 x1 h1 a1 k1 z1 p2 h2 =>
      q _ _ (d1.new h2) (x1.trans (SX2.new h2)) ⟨p2, t', so', y', fr, rfl, upd_same, h1, a1.on (KT.new h2), k1, z1, (hf.on d x1).on d1 (SX2.new h2)⟩
    have hSo : So so := hso.elim (fun z => .inr (.inl z)) .inl
    have dd := d.le (M := N) (by omega)
    refine ⟨_, rfl, _, rfl, rfl, _, rfl, ?_⟩
    by_cases he : V.str hv = V.str so
    · refine ifT (decide_eq_true he) (ifT rfl ⟨_, rfl, _, rfl, _, rfl, sz3, fun p2 h2 => fin H so t y dd SX2.refl hSo ha hok (by omega) p2 h2⟩)
    · refine ifF (decide_eq_false he) ⟨_, rfl, fib, rfl, ?_⟩
      cases fib with
      | true =>
        refine ifT rfl ⟨_, rfl, l, 3, rfl, by decide, by decide, d.lm, fun j a b c j0 j1 b1 b2 b3 b4 b5 => ?_⟩
        have d1 := d.shed b1 b2 b3 b4 b5
        have x1 : SX2 l s H (upd H l (.lst [.int a, .int b, .int c])) := SX2.atl
        have ha1 := ha.on (KT.of d x1)
        generalize upd H l (.lst [.int a, .int b, .int c]) = H1 at d1 x1 ha1
        refine ⟨rfl, _, rfl, ?_⟩
        by_cases hj : V.int j = V.int 0
        · refine ifT (decide_eq_true hj) ?_
          exact ⟨_, rfl, _, rfl, _, rfl, sz3, fun p2 h2 => fin H1 so t y (d1.le (by omega)) x1 hSo ha1 hok (by omega) p2 h2⟩
        · refine ifF (decide_eq_false hj) ?_
          refine ⟨_, rfl, rfl, _, rfl, ?_⟩
          rcases hso with rfl | rfl
          · refine ifT dff ?_
            refine DS.pop (K := K) (i := 1) d1 rfl fun x H2 nx d2 x2 f2 => ?_
            have k2 := KT.of d1 x2
            have a2 := ha1.on k2
            have X2 := x1.trans x2
            refine ⟨_, rfl, rfl, _, rfl, ?_⟩
            by_cases hn : V.str hv = V.str "n"
            · refine ifT (decide_eq_true hn) ⟨_, rfl, sz3, fun p1 h1 => ⟨_, rfl, sz3, fun p2 h2 => ?_⟩⟩
              exact fin _ "f" (.fn x t) (.ref p1) (d2.new h1) (X2.trans (SX2.new h1)) (.inr (.inl rfl)) ⟨p1, y, rfl, upd_same, a2.on (KT.new h1)⟩ ⟨nx, hok⟩ (show t.size + 1 ≤ n + 2 by omega) p2 h2
            · refine ifF (decide_eq_false hn) ⟨_, rfl, sz3, fun p0 h0 => ⟨sz3, fun p1 h1 => ⟨_, rfl, sz3, fun p2 h2 => ?_⟩⟩⟩
              have e0 : upd (upd H2 p0 (.tup [.str "field", y, .str "a"])) p1 (.tup [.str "fn", .str x, .ref p0]) p0 = some (.tup [.str "field", y, .str "a"]) := KT.new h1 _ _ upd_same
              exact fin _ "f" (.fn x (.fld t)) (.ref p1) ((d2.new h0).new h1) ((X2.trans (SX2.new h0)).trans (SX2.new h1)) (.inr (.inl rfl)) ⟨p1, _, rfl, upd_same, p0, y, rfl, e0, a2.on ((KT.new h0).trans (KT.new h1))⟩ ⟨nx, hok⟩ (show t.size + 1 + 1 ≤ n + 2 by omega) p2 h2
          · refine ifF dnf ?_
            have d0 := d1.le (M := N) (by omega)
            refine ⟨_, rfl, rfl, _, rfl, ?_⟩
            by_cases hn : V.str hv = V.str "r"
            · refine ifT (decide_eq_true hn) ⟨_, rfl, sz3, fun p1 h1 => ⟨_, rfl, sz3, fun p2 h2 => ?_⟩⟩
              exact fin _ "n" (.fld t) (.ref p1) (d0.new h1) (x1.trans (SX2.new h1)) (.inl rfl) ⟨p1, y, rfl, upd_same, ha1.on (KT.new h1)⟩ hok (show t.size + 1 ≤ n + 2 by omega) p2 h2
            · refine ifF (decide_eq_false hn) ⟨_, rfl, _, rfl, l, 5, rfl, by decide, by decide, d1.lm, fun j a b c j0 j1 b1 b2 b3 b4 b5 => ⟨sz2, fun p0 h0 => ⟨sz3, fun p1 h1 => ⟨_, rfl, sz3, fun p2 h2 => ?_⟩⟩⟩⟩
              have d2 := d0.shed b1 b2 b3 b4 b5
              have x2 : SX2 l s H1 (upd H1 l (.lst [.int a, .int b, .int c])) := SX2.atl
              have a2 := ha1.on (KT.of d1 x2)
              generalize upd H1 l (.lst [.int a, .int b, .int c]) = H2 at d2 x2 a2 h0 h1 h2
              exact fin _ "n" (.bin 2 t (.num j)) (.ref p1) ((d2.new h0).new h1) (((x1.trans x2).trans (SX2.new h0)).trans (SX2.new h1)) (.inl rfl) ⟨p1, _, _, rfl, upd_same, a2.on ((KT.new h0).trans (KT.new h1)), p0, rfl, KT.new h1 _ _ upd_same⟩ ⟨by decide, hok, j0, by omega⟩ (show t.size + 1 + 1 ≤ n + 2 by omega) p2 h2
      | false =>
        refine ifF rfl ?_
        refine ifF rfl ?_
        have d1 := d
        have x1 : SX2 l s H H := SX2.refl
        have ha1 := ha
        refine ⟨_, rfl, rfl, _, rfl, ?_⟩
        rcases hso with rfl | rfl
        · refine ifT dff ?_
          refine DS.pop (K := K) (i := 1) d1 rfl fun x H2 nx d2 x2 f2 => ?_
          have k2 := KT.of d1 x2
          have a2 := ha1.on k2
          have X2 := x1.trans x2
          refine ⟨_, rfl, rfl, _, rfl, ?_⟩
          by_cases hn : V.str hv = V.str "n"
          · refine ifT (decide_eq_true hn) ⟨_, rfl, sz3, fun p1 h1 => ⟨_, rfl, sz3, fun p2 h2 => ?_⟩⟩
            exact fin _ "f" (.fn x t) (.ref p1) (d2.new h1) (X2.trans (SX2.new h1)) (.inr (.inl rfl)) ⟨p1, y, rfl, upd_same, a2.on (KT.new h1)⟩ ⟨nx, hok⟩ (show t.size + 1 ≤ n + 2 by omega) p2 h2
          · refine ifF (decide_eq_false hn) ⟨_, rfl, sz3, fun p0 h0 => ⟨sz3, fun p1 h1 => ⟨_, rfl, sz3, fun p2 h2 => ?_⟩⟩⟩
            have e0 : upd (upd H2 p0 (.tup [.str "field", y, .str "a"])) p1 (.tup [.str "fn", .str x, .ref p0]) p0 = some (.tup [.str "field", y, .str "a"]) := KT.new h1 _ _ upd_same
            exact fin _ "f" (.fn x (.fld t)) (.ref p1) ((d2.new h0).new h1) ((X2.trans (SX2.new h0)).trans (SX2.new h1)) (.inr (.inl rfl)) ⟨p1, _, rfl, upd_same, p0, y, rfl, e0, a2.on ((KT.new h0).trans (KT.new h1))⟩ ⟨nx, hok⟩ (show t.size + 1 + 1 ≤ n + 2 by omega) p2 h2
        · refine ifF dnf ?_
          have d0 := d1.le (M := N) (by omega)
          refine ⟨_, rfl, rfl, _, rfl, ?_⟩
          by_cases hn : V.str hv = V.str "r"
          · refine ifT (decide_eq_true hn) ⟨_, rfl, sz3, fun p1 h1 => ⟨_, rfl, sz3, fun p2 h2 => ?_⟩⟩
            exact fin _ "n" (.fld t) (.ref p1) (d0.new h1) (x1.trans (SX2.new h1)) (.inl rfl) ⟨p1, y, rfl, upd_same, ha1.on (KT.new h1)⟩ hok (show t.size + 1 ≤ n + 2 by omega) p2 h2
          · refine ifF (decide_eq_false hn) ⟨_, rfl, _, rfl, l, 5, rfl, by decide, by decide, d1.lm, fun j a b c j0 j1 b1 b2 b3 b4 b5 => ⟨sz2, fun p0 h0 => ⟨sz3, fun p1 h1 => ⟨_, rfl, sz3, fun p2 h2 => ?_⟩⟩⟩⟩
            have d2 := d0.shed b1 b2 b3 b4 b5
            have x2 : SX2 l s H (upd H l (.lst [.int a, .int b, .int c])) := SX2.atl
            have a2 := ha1.on (KT.of d1 x2)
            generalize upd H l (.lst [.int a, .int b, .int c]) = H2 at d2 x2 a2 h0 h1 h2
            exact fin _ "n" (.bin 2 t (.num j)) (.ref p1) ((d2.new h0).new h1) (((x1.trans x2).trans (SX2.new h0)).trans (SX2.new h1)) (.inl rfl) ⟨p1, _, _, rfl, upd_same, a2.on ((KT.new h0).trans (KT.new h1)), p0, rfl, KT.new h1 _ _ upd_same⟩ ⟨by decide, hok, j0, by omega⟩ (show t.size + 1 + 1 ≤ n + 2 by omega) p2 h2
end
end K1
set_option Elab.async false
set_option linter.all false
set_option maxRecDepth 100000
set_option maxHeartbeats 4000000
namespace K1
open PySem PySem.Spec PyProof.Rows L2 RZ
abbrev nscBo : List Str := ["loom", "stock", "piece", "sort", "own", "free", "other"]
theorem scBo : FnScope nscBo ["loom", "stock", "piece", "sort"] (defScope (top 145)) := ⟨rfl, rfl, rfl, by decide +kernel, rfl, by decide +kernel, by decide +kernel⟩
def spBound : Sp := fun vs H Q _ => ∃ (l s : Addr) (v : V) (so : Str) (N n k : Nat), vs = [.ref l, .ref s, v, .str so] ∧ So so ∧ DS l s (N + 1) H ∧ PcAt l s H n k v ∧ k ≤ 9 ∧
  ∀ H' p x fr, DS l s N H' → SX2 l s H H' → H' p = some (.tup [.str x, fr]) → Nm x → FrL l s H' k fr → Q (.ref p) H'
theorem shp2 {a b : Str} (ha : NoNl a) (hb : NoNl b) : SeqAt.shaped (.tuple [.str a, .str b]) = true := by
  have ok : ∀ {x : Str}, NoNl x → PyData.strOk x = true := fun {x} h => by
    unfold PyData.strOk
    rw [Array.all_eq_true]
    intro i hi
    exact decide_eq_true (h x.cps[i] (by rw [Array.mem_toList_iff]; exact Array.getElem_mem hi)).2
  unfold SeqAt.shaped
  simp [PyData.canLay0, PyData.depth, PyData.canLayAll0, PyData.depthAll]
  exact ⟨ok ha, ok hb⟩
theorem So.nn {s : Str} (h : So s) : NoNl s := by
  rcases h with rfl | rfl | rfl <;> exact noNl_of (by decide +kernel)
section
variable {P : Program} {w : World} {K : PySem.W.Frag} {mg : Str → Option Value} {base : Heap} {f : Addr} {fd : FuncData}
theorem ok_bound {fS fA : Addr} {fdS fdA : FuncData} (F : FnP K "_law_bound" (top 145) f fd) (B : Bn mg) (F_law_shed : FnP K "_law_shed" (top 138) fS fdS) (g_law_shed : mg "_law_shed" = some (.ref fS)) (F_law_among : FnP K "_law_among" (top 139) fA fdA) (g_law_among : mg "_law_among" = some (.ref fA)) : FnOk P w K mg base CX0 3 f fd ["loom", "stock", "piece", "sort"] spBound := by
  have G_law_among : FnOk P w K mg base CX0 2 fA fdA ["loom", "things"] (spAmong K) := ok_among F_law_among F_law_shed g_law_shed B.int B.len
  have b_law_among : Binds K fdA ["loom", "things"] [] := F_law_among.bindsN fun _ _ _ _ _ _ us hl => match us, hl with | [_, _], _ => rfl
  refine F.ok scBo (fun vs H Q E h => ?_) ?_
  · obtain ⟨l, s, v, so, N, n, k, rfl, _⟩ := h
    rfl
  intro cdv A outer s0 H vs Q E hr h
  refine' ⟨_, PSs.nox ?p, ?q⟩
  case p =>
    refine' pss_cons (ps_setLc (i := 5) (own := [("own", 4)]) (g := gName 4) (tt := tTest (tOp rEq (tOp (rIxT K) (tVar 4) (tC (.int 1))) (tVar 3))) rfl scBo.nd rfl rfl (sw_true rfl rfl rfl (by decide +kernel)) (pi_list (pe_ix (r := rIxT K) ix_tup (pv 2) pe_int (fun _ _ => rfl))) (blkOk_by (N := nscBo) (sc := defScope (top 145)) (by decide +kernel)) (fun _ _ _ _ _ => pg_name (i := 4) scBo.nd rfl (Or.inl rfl)) (fun _ _ _ _ _ => pts_one (pt_cmpR op_eq (pe_ix (r := rIxT K) ix_tup (pv 4) pe_int (fun _ _ => rfl)) (pv 3) (nomark _))) (fun _ _ _ _ _ => (pv 4))) ?w0
    case w0 =>
    refine' pss_cons (ps_set (i := 4) scBo.nd rfl (Or.inr rfl) (pe_ifExp (pt_cmpR (r := rNeE K) (op_neE hr.units) (pv 5) (pe_lst pa_nil) (nomark _)) (pe_call G_law_among (hr.mono (by decide)) rfl g_law_among F_law_among.kp b_law_among .nil pass0 (pa_cons (pv 0) (pa_cons (pv 5) pa_nil))) (pe_tup (pa_cons (pe_bm0 PySem.F.plainAttrs_list PySem.F.slot_list_pop PySem.F.type_list_pop mt_pop (pv 1)) (pa_cons (pv 3) pa_nil))))) ?w1
    case w1 =>
    exact pss_one (ps_ret (pe_tup (pa_cons (pe_ix (r := rIxT K) ix_tup (pv 4) pe_int (fun _ _ => rfl)) (pa_cons (pe_lc (own := [("other", 6)]) (g := gName 6) (tt := tTest (tOp (rNeD K) (tVar 6) (tVar 4))) rfl scBo.nd (pi_list (pe_ix (r := rIxT K) ix_tup (pv 2) pe_int (fun _ _ => rfl))) (blkOk_by (N := nscBo) (sc := defScope (top 145)) (by decide +kernel)) (fun _ _ _ _ _ => pg_name (i := 6) scBo.nd rfl (Or.inl rfl)) (fun _ _ _ _ _ => pts_one (pt_cmpR (op_neD hr.units) (pv 6) (pv 4) (nomark _))) (fun _ _ _ _ _ => (pv 6))) pa_nil))))

  case q =>
    obtain ⟨l, s, v, so, N, n, k, rfl, hso, d, ⟨p, t, hv, y, fr, rfl, hp, shv, ha, hok, hsz, hf⟩, hk9, q⟩ := h
    obtain ⟨fa, fs, rfl, nf1, nf2, hfs, hfk, hfv⟩ := id hf
    refine ⟨_, rfl, p, _, 2, .ref fa, rfl, rfl, .inl (.inl hp), rfl, fa, rfl, ⟨_, SqL.of hfs⟩, fun D hD => ?_⟩
    refine lc_list (K := K) (a := fa) (xs := fs) (fun n H4 => ∃ ws, H4 = upd H D (.lst ws) ∧ ws.length ≤ n ∧ ∀ x ∈ ws, FrV H x) ⟨[], rfl, Nat.le_refl _, fun x hx => absurd hx (by simp)⟩ (fun n H4 _ ⟨ws, e, _⟩ => by rw [e]; exact SqL.of (by rw [upd_ne (ne_of_none hfs hD)]; exact hfs)) ?_ ?_
    · rintro n y H4 hn ⟨ws, rfl, lw, nw⟩
      obtain ⟨q1, x1', s1, rfl, hq1, nx1, sx1⟩ := hfv y (List.mem_of_getElem? hn)
      have ln : n < fs.length := (List.getElem?_eq_some_iff.mp hn).1
      have e1 : upd H D (.lst ws) q1 = some (.tup [.str x1', .str s1]) := by rw [upd_ne (ne_of_none hq1 hD)]; exact hq1
      refine ⟨rfl, _, rfl, q1, _, 1, .str s1, rfl, rfl, .inl (.inl e1), rfl, _, rfl, rfl, _, rfl, ?_⟩
      cases (decide (V.str s1 = V.str so)) with
      | true =>
        refine ifTT ⟨_, rfl, ws, upd_same, by rw [sizeLine_eq]; omega, ws ++ [.ref q1], by rw [upd_upd], by simp; omega, fun z hz => ?_⟩
        rcases List.mem_append.mp hz with hz | hz
        · exact nw z hz
        · rw [List.mem_singleton] at hz
          rw [hz]
          exact ⟨q1, x1', s1, rfl, hq1, nx1, sx1⟩
      | false => exact ifF rfl ⟨ws, rfl, by omega, nw⟩
    · rintro H4 ⟨ws, rfl, lw, nw⟩
      refine ⟨_, rfl, small (by decide), fun c hc => ⟨D, c, ws, rfl, rfl, SqL.of (by rw [upd_ne (ne_of_none upd_same hc)]; exact upd_same), SqL.of upd_same, _, rfl, ?_⟩⟩
      have d2 := (d.new (o := .lst ws) hD).new (o := .lst []) hc
      have x2 : SX2 l s H (upd (upd H D (.lst ws)) c (.lst [])) := (SX2.new hD).trans (SX2.new hc)
      have hD2 : upd (upd H D (.lst ws)) c (.lst []) D = some (.lst ws) := by rw [upd_ne (ne_of_none upd_same hc)]; exact upd_same
      have nDl := d.pl hD
      generalize upd (upd H D (.lst ws)) c (.lst []) = H2 at d2 x2 hD2
      match ws, lw, nw, hD2 with
      | [], lw, nw, hD2 =>
        refine ifF rfl ?_
        have hs0 := hso
        refine DS.pop (K := K) (i := 1) d2 rfl fun x H5 nx d5 x5 f5 => ?_
        refine ⟨_, rfl, sz2, fun q0 h0 => ?_⟩
        have d3 := d5.new (o := .tup [.str x, .str so]) h0
        have x3 : SX2 l s H (upd H5 q0 (.tup [.str x, .str so])) := (x2.trans x5).trans (SX2.new h0)
        have hq0 : upd H5 q0 (.tup [.str x, .str so]) q0 = some (.tup [.str x, .str so]) := upd_same
        generalize upd H5 q0 (.tup [.str x, .str so]) = H3 at d3 x3 hq0
        have hfs3 := x3 fa _ nf1 nf2 hfs
        have hp3 := KT.of d x3 p _ hp
        refine ⟨_, rfl, q0, _, 0, .str x, rfl, rfl, .inl (.inl hq0), rfl, _, rfl, p, _, 2, .ref fa, rfl, rfl, .inl (.inl hp3), rfl, fa, rfl, ⟨_, SqL.of hfs3⟩, fun D2 hD2 => ?_⟩
        refine lc_list (K := K) (a := fa) (xs := fs) (fun n H4 => ∃ ws, H4 = upd H3 D2 (.lst ws) ∧ ws.length ≤ n ∧ ∀ x ∈ ws, FrV H3 x) ⟨[], rfl, Nat.le_refl _, fun x hx => absurd hx (by simp)⟩ (fun n H4 _ ⟨ws, e, _⟩ => by rw [e]; exact SqL.of (by rw [upd_ne (ne_of_none hfs3 hD2)]; exact hfs3)) ?_ ?_
        · rintro n y H4 hn ⟨ws2, rfl, lw2, nw2⟩
          obtain ⟨q1, x1', s1, rfl, hq1, nx1, sx1⟩ := (hfv y (List.mem_of_getElem? hn)).on (KT.of d x3)
          have ln : n < fs.length := (List.getElem?_eq_some_iff.mp hn).1
          have e1 : upd H3 D2 (.lst ws2) q1 = some (.tup [.str x1', .str s1]) := by rw [upd_ne (ne_of_none hq1 hD2)]; exact hq1
          have e0 : upd H3 D2 (.lst ws2) q0 = some (.tup [.str x, .str so]) := by rw [upd_ne (ne_of_none hq0 hD2)]; exact hq0
          refine ⟨rfl, _, rfl, _, rfl, .tuple [.str x1', .str s1], .tuple [.str x, .str so], .tup (.inl (.inl e1)) (.cons (.str _) (.cons (.str _) .nil)), .tup (.inl (.inl e0)) (.cons (.str _) (.cons (.str _) .nil)), shp2 nx1.2 sx1.nn, shp2 nx.2 hs0.nn, _, rfl, ?_⟩
          cases (!PyData.eqv (.tuple [.str x1', .str s1]) (.tuple [.str x, .str so])) with
          | true =>
            refine ifTT ⟨_, rfl, ws2, upd_same, by rw [sizeLine_eq]; omega, ws2 ++ [.ref q1], by rw [upd_upd], by simp; omega, fun z hz => ?_⟩
            rcases List.mem_append.mp hz with hz | hz
            · exact nw2 z hz
            · rw [List.mem_singleton] at hz
              rw [hz]
              exact ⟨q1, x1', s1, rfl, hq1, nx1, sx1⟩
          | false => exact ifF rfl ⟨ws2, rfl, by omega, nw2⟩
        · rintro H4 ⟨ws2, rfl, lw2, nw2⟩
          refine ⟨sz2, fun p9 h9 => q _ p9 x (.ref D2) ((d3.new hD2).new h9) ((x3.trans (SX2.new hD2)).trans (SX2.new h9)) upd_same nx ⟨D2, ws2, rfl, d3.pl hD2, d3.ps hD2, ?_, by omega, fun z hz => ((nw2 z hz).on (KT.new hD2)).on (KT.new h9)⟩⟩
          rw [upd_ne (ne_of_none upd_same h9)]
          exact upd_same
      | w0 :: ws, lw, nw, hD2 =>
        refine ifTT ⟨_, rfl, _, rfl, l, D, w0 :: ws, rfl, hD2, by simp, by simp at lw ⊢; omega, d2.lm, nDl, fun j v a b c hj a0 a1 b0 b1 c0 => ?_⟩
        obtain ⟨q0, x, so', rfl, hq0, nx, hs0⟩ := (nw v (List.mem_of_getElem? hj)).on ((KT.of d x2).trans (KT.of d2 (SX2.atl (o := .lst [.int a, .int b, .int c]))))
        have d3 := (d2.le (M := N) (by omega)).shed a0 a1 b0 b1 c0
        have x3 : SX2 l s H (upd H2 l (.lst [.int a, .int b, .int c])) := x2.trans SX2.atl
        generalize upd H2 l (.lst [.int a, .int b, .int c]) = H3 at d3 x3 hq0
        have hfs3 := x3 fa _ nf1 nf2 hfs
        have hp3 := KT.of d x3 p _ hp
        refine ⟨_, rfl, q0, _, 0, .str x, rfl, rfl, .inl (.inl hq0), rfl, _, rfl, p, _, 2, .ref fa, rfl, rfl, .inl (.inl hp3), rfl, fa, rfl, ⟨_, SqL.of hfs3⟩, fun D2 hD2 => ?_⟩
        refine lc_list (K := K) (a := fa) (xs := fs) (fun n H4 => ∃ ws, H4 = upd H3 D2 (.lst ws) ∧ ws.length ≤ n ∧ ∀ x ∈ ws, FrV H3 x) ⟨[], rfl, Nat.le_refl _, fun x hx => absurd hx (by simp)⟩ (fun n H4 _ ⟨ws, e, _⟩ => by rw [e]; exact SqL.of (by rw [upd_ne (ne_of_none hfs3 hD2)]; exact hfs3)) ?_ ?_
        · rintro n y H4 hn ⟨ws2, rfl, lw2, nw2⟩
          obtain ⟨q1, x1', s1, rfl, hq1, nx1, sx1⟩ := (hfv y (List.mem_of_getElem? hn)).on (KT.of d x3)
          have ln : n < fs.length := (List.getElem?_eq_some_iff.mp hn).1
          have e1 : upd H3 D2 (.lst ws2) q1 = some (.tup [.str x1', .str s1]) := by rw [upd_ne (ne_of_none hq1 hD2)]; exact hq1
          have e0 : upd H3 D2 (.lst ws2) q0 = some (.tup [.str x, .str so']) := by rw [upd_ne (ne_of_none hq0 hD2)]; exact hq0
          refine ⟨rfl, _, rfl, _, rfl, .tuple [.str x1', .str s1], .tuple [.str x, .str so'], .tup (.inl (.inl e1)) (.cons (.str _) (.cons (.str _) .nil)), .tup (.inl (.inl e0)) (.cons (.str _) (.cons (.str _) .nil)), shp2 nx1.2 sx1.nn, shp2 nx.2 hs0.nn, _, rfl, ?_⟩
          cases (!PyData.eqv (.tuple [.str x1', .str s1]) (.tuple [.str x, .str so'])) with
          | true =>
            refine ifTT ⟨_, rfl, ws2, upd_same, by rw [sizeLine_eq]; omega, ws2 ++ [.ref q1], by rw [upd_upd], by simp; omega, fun z hz => ?_⟩
            rcases List.mem_append.mp hz with hz | hz
            · exact nw2 z hz
            · rw [List.mem_singleton] at hz
              rw [hz]
              exact ⟨q1, x1', s1, rfl, hq1, nx1, sx1⟩
          | false => exact ifF rfl ⟨ws2, rfl, by omega, nw2⟩
        · rintro H4 ⟨ws2, rfl, lw2, nw2⟩
          refine ⟨sz2, fun p9 h9 => q _ p9 x (.ref D2) ((d3.new hD2).new h9) ((x3.trans (SX2.new hD2)).trans (SX2.new h9)) upd_same nx ⟨D2, ws2, rfl, d3.pl hD2, d3.ps hD2, ?_, by omega, fun z hz => ((nw2 z hz).on (KT.new hD2)).on (KT.new h9)⟩⟩
          rw [upd_ne (ne_of_none upd_same h9)]
          exact upd_same
end
end K1
set_option Elab.async false
set_option linter.all false
set_option maxRecDepth 100000
set_option maxHeartbeats 8000000
namespace K1
open PySem PySem.Spec PyProof.Rows L2 RZ
abbrev nscGr : List Str := ["loom", "stock", "bag", "fib", "kind", "one", "two", "a", "b", "trees", "tree", "name", "rest", "own", "again"]
theorem scGr : FnScope nscGr ["loom", "stock", "bag", "fib"] (defScope (top 146)) := ⟨rfl, rfl, rfl, by decide +kernel, rfl, by decide +kernel, by decide +kernel⟩
theorem seqA {σ : L2.St} {te : TE} {D : Ends} {i : Nat} {H : Hp} {rest : TS} (h : te σ H fun v H' => rest D (σ.set i (some v)) H') : tSeq (tAsg te (gName i)) rest D σ H := h
theorem seqL {σ : L2.St} {te : TE} {D : Ends} {i : Nat} {H : Hp} {rest : TS} (f : V → L2.St) (hs : ∀ v, σ.set i (some v) = f v) (h : te σ H fun v H' => rest D (f v) H') : tSeq (tAsg te (gName i)) rest D σ H := by
  have e : (fun v H' => rest D (f v) H') = fun v H' => rest D (σ.set i (some v)) H' := by
    funext v H'
    rw [hs]
  rw [e] at h
  exact h
theorem seqP {σ : L2.St} {ta : TA} {D : Ends} {i j : Nat} {H : Hp} {rest : TS} (f : V → V → L2.St) (hs : ∀ v w, (σ.set i (some v)).set j (some w) = f v w) (h : ta σ H fun vs H' => ∃ v w, vs = [v, w] ∧ rest D (f v w) H') : tSeq (tPar i j ta) rest D σ H := by
  have e : (fun (vs : List V) H' => ∃ v w, vs = [v, w] ∧ rest D (f v w) H') = fun vs H' => ∃ v w, vs = [v, w] ∧ rest D ((σ.set i (some v)).set j (some w)) H' := by
    funext vs H'
    congr 1
    funext v
    congr 1
    funext w
    rw [hs]
  rw [e] at h
  exact h
/-- a bag of pieces: at most so many places, so many free names in all -/
inductive BagL (l s : Addr) (H : Hp) : List V → Nat → Nat → Prop
  | nil : BagL l s H [] 0 0
  | cons {v : V} {vs : List V} {n k T K : Nat} : PcAt l s H n k v → BagL l s H vs T K → BagL l s H (v :: vs) (n + T) (k + K)
section
variable {l s : Addr} {N T K : Nat} {H H' : Hp} {xs ys : List V}
theorem BagL.on (d : DS l s N H) (x : SX2 l s H H') : ∀ {xs : List V} {T K : Nat}, BagL l s H xs T K → BagL l s H' xs T K
  | _, _, _, .nil => .nil
  | _, _, _, .cons p b => .cons (p.on d x) (BagL.on d x b)
theorem BagL.app : ∀ {xs ys : List V} {T K T' K' : Nat}, BagL l s H xs T K → BagL l s H ys T' K' → BagL l s H (xs ++ ys) (T + T') (K + K')
  | _, _, _, _, _, _, .nil, h => by simpa using h
  | _, _, _, _, _, _, .cons p b, h => by
    rw [List.cons_append, Nat.add_assoc, Nat.add_assoc]
    exact .cons p (BagL.app b h)
theorem BagL.at : ∀ {xs : List V} {T K i : Nat} {v : V}, BagL l s H xs T K → xs[i]? = some v → ∃ n k T' K', PcAt l s H n k v ∧ BagL l s H (xs.eraseIdx i) T' K' ∧ n + T' = T ∧ k + K' = K
  | _, _, _, _, _, .nil, h => by simp at h
  | _, _, _, 0, _, .cons p b, h => by
    simp at h
    subst h
    exact ⟨_, _, _, _, p, by simpa using b, rfl, rfl⟩
  | _, _, _, i + 1, v, @BagL.cons _ _ _ u vs n k T K p b, h => by
    obtain ⟨n', k', T', K', h1, h2, h3, h4⟩ := BagL.at (i := i) b (by simpa using h)
    exact ⟨n', k', n + T', k + K', h1, by rw [List.eraseIdx_cons_succ]; exact .cons p h2, by omega, by omega⟩
theorem BagL.le (b : BagL l s H xs T K) {T' K' : Nat} (h : T' = T) (k : K' = K) : BagL l s H xs T' K' := by rw [h, k]; exact b
theorem PcAt.le {n k n' k' : Nat} {v : V} : PcAt l s H n k v → n ≤ n' → k ≤ k' → PcAt l s H n' k' v
  | ⟨p, t, so, y, fr, e, h, hs, a, ok, sz, ⟨fa, fs, e2, n1, n2, h2, hk, hf⟩⟩, h3, h4 => ⟨p, t, so, y, fr, e, h, hs, a, ok, by omega, ⟨fa, fs, e2, n1, n2, h2, by omega, hf⟩⟩
end
/-- one = one if kind == c1 else _law_as(.., "f" if kind == c2 else "n", fib) -/
theorem as_or {σ : L2.St} {H : Hp} {Q : VK} {E : XK} {i : Nat} {c1 c2 kd : Int} {v : V} {fib : Bool} {l s : Addr} {N n k : Nat} (h0 : σ[0]? = some (some (.ref l))) (h1 : σ[1]? = some (some (.ref s))) (h3 : σ[3]? = some (some (.bl fib))) (h4 : σ[4]? = some (some (.int kd))) (hi : σ[i]? = some (some v)) (d : DS l s (N + 1) H) (pc : PcAt l s H n k v)
    (q : ∀ H' v', DS l s N H' → SX2 l s H H' → PcAt l s H' (n + 2) k v' → Q v' H') :
    tIf (tTest (tOp rEq (tVar 4) (tC (.int c1)))) (tVar i) (tCall spAs [] E (tCons (tVar 0) (tCons (tVar 1) (tCons (tVar i) (tCons (tIf (tTest (tOp rEq (tVar 4) (tC (.int c2)))) (tC (.str "f")) (tC (.str "n"))) (tCons (tVar 3) tNil)))))) σ H Q := by
  refine ⟨_, h4, rfl, _, rfl, ?_⟩
  cases (decide (V.int kd = V.int c1)) with
  | true => exact ifTT ⟨_, hi, q H v (d.le (by omega)) SX2.refl (pc.le (by omega) (Nat.le_refl _))⟩
  | false =>
    refine ifF rfl ⟨_, h0, _, h1, _, hi, _, h4, rfl, _, rfl, ?_⟩
    cases (decide (V.int kd = V.int c2)) with
    | true => exact ifTT ⟨_, h3, l, s, v, "f", fib, N, n, k, rfl, .inl rfl, d, pc, q⟩
    | false => exact ifF rfl ⟨_, h3, l, s, v, "n", fib, N, n, k, rfl, .inr rfl, d, pc, q⟩
theorem as_or2 {K : PySem.W.Frag} {σ : L2.St} {H : Hp} {Q : VK} {E : XK} {i : Nat} {c1 c2 c3 c4 kd : Int} {v : V} {fib : Bool} {l s : Addr} {N n k : Nat} (h0 : σ[0]? = some (some (.ref l))) (h1 : σ[1]? = some (some (.ref s))) (h3 : σ[3]? = some (some (.bl fib))) (h4 : σ[4]? = some (some (.int kd))) (hi : σ[i]? = some (some v)) (d : DS l s (N + 1) H) (pc : PcAt l s H n k v)
    (q : ∀ H' v', DS l s N H' → SX2 l s H H' → PcAt l s H' (n + 2) k v' → Q v' H') :
    tIf (tTest (tOp (rIn K false) (tVar 4) (tTup (tCons (tC (.int c1)) (tCons (tC (.int c3)) (tCons (tC (.int c4)) tNil)))))) (tVar i) (tCall spAs [] E (tCons (tVar 0) (tCons (tVar 1) (tCons (tVar i) (tCons (tIf (tTest (tOp rEq (tVar 4) (tC (.int c2)))) (tC (.str "f")) (tC (.str "n"))) (tCons (tVar 3) tNil)))))) σ H Q := by
  refine ⟨_, h4, sz3, fun c hc => ⟨c, _, rfl, .inr (.inl (.inl upd_same)), rfl, rfl, _, rfl, ?_⟩⟩
  have d2 := d.new (o := .tup [.int c1, .int c3, .int c4]) hc
  have x2 : SX2 l s H (upd H c (.tup [.int c1, .int c3, .int c4])) := SX2.new hc
  have p2 := pc.on d x2
  generalize upd H c (.tup [.int c1, .int c3, .int c4]) = H2 at d2 x2 p2
  have q2 : ∀ H' v', DS l s N H' → SX2 l s H2 H' → PcAt l s H' (n + 2) k v' → Q v' H' := fun H' v' a b c => q H' v' a (x2.trans b) c
  cases (inV (V.int kd) [V.int c1, V.int c3, V.int c4]) with
  | true => exact ifTT ⟨_, hi, q2 H2 v (d2.le (by omega)) SX2.refl (p2.le (by omega) (Nat.le_refl _))⟩
  | false =>
    refine ifF rfl ⟨_, h0, _, h1, _, hi, _, h4, rfl, _, rfl, ?_⟩
    cases (decide (V.int kd = V.int c2)) with
    | true => exact ifTT ⟨_, h3, l, s, v, "f", fib, N, n, k, rfl, .inl rfl, d2, p2, q2⟩
    | false => exact ifF rfl ⟨_, h3, l, s, v, "n", fib, N, n, k, rfl, .inr rfl, d2, p2, q2⟩
theorem d4 {a b c d : V} : [a, b, c, d].length ≤ sizeLine := small (show 4 ≤ 1000 by decide)
/-- the four trees -/
theorem fourF {H : Hp} {x y : V} {ta tb : T} {l s p0 p1 p2 p3 p4 p5 : Addr} {N : Nat} (d : DS l s N H) (ha : At H ta x) (hb : At H tb y) (oa : ta.ok) (ob : tb.ok) (n0 : H p0 = none) (n1 : upd H p0 (.tup [.str "add", x, y]) p1 = none) (n2 : upd (upd H p0 (.tup [.str "add", x, y])) p1 (.tup [.str "less", x, y]) p2 = none) (n3 : upd (upd (upd H p0 (.tup [.str "add", x, y])) p1 (.tup [.str "less", x, y])) p2 (.tup [.str "number", .int 9]) p3 = none)
    (n4 : upd (upd (upd (upd H p0 (.tup [.str "add", x, y])) p1 (.tup [.str "less", x, y])) p2 (.tup [.str "number", .int 9])) p3 (.tup [.str "if", x, y, .ref p2]) p4 = none) (n5 : upd (upd (upd (upd (upd H p0 (.tup [.str "add", x, y])) p1 (.tup [.str "less", x, y])) p2 (.tup [.str "number", .int 9])) p3 (.tup [.str "if", x, y, .ref p2])) p4 (.tup [.str "call", x, y]) p5 = none) (G : Hp) (hG : G = upd (upd (upd (upd (upd (upd H p0 (.tup [.str "add", x, y])) p1 (.tup [.str "less", x, y])) p2 (.tup [.str "number", .int 9])) p3 (.tup [.str "if", x, y, .ref p2])) p4 (.tup [.str "call", x, y])) p5 (.lst [.ref p0, .ref p1, .ref p3, .ref p4])) :
    DS l s N G ∧ SX2 l s H G ∧ G p5 = some (.lst [.ref p0, .ref p1, .ref p3, .ref p4]) ∧ ∀ i : Nat, i < 4 → ∃ z t, [V.ref p0, .ref p1, .ref p3, .ref p4][i]? = some z ∧ At G t z ∧ t.ok ∧ t.size ≤ ta.size + tb.size + 2 := by
  subst hG
  have k0 : KT H _ := KT.new (o := .tup [.str "add", x, y]) n0
  have k1 := KT.new (o := .tup [.str "less", x, y]) n1
  have k2 := KT.new (o := .tup [.str "number", .int 9]) n2
  have k3 := KT.new (o := .tup [.str "if", x, y, .ref p2]) n3
  have k4 := KT.new (o := .tup [.str "call", x, y]) n4
  have k5 := KT.new (o := .lst [.ref p0, .ref p1, .ref p3, .ref p4]) n5
  have e0 := (k1.trans (k2.trans (k3.trans (k4.trans k5)))) p0 _ upd_same
  have e1 := (k2.trans (k3.trans (k4.trans k5))) p1 _ upd_same
  have e2 := (k3.trans (k4.trans k5)) p2 _ upd_same
  have e3 := (k4.trans k5) p3 _ upd_same
  have e4 := k5 p4 _ upd_same
  have kk := k0.trans (k1.trans (k2.trans (k3.trans (k4.trans k5))))
  refine ⟨((((((d.new n0).new n1).new n2).new n3).new n4).new n5), ((SX2.new n0).trans ((SX2.new n1).trans ((SX2.new n2).trans ((SX2.new n3).trans ((SX2.new n4).trans (SX2.new n5)))))), upd_same, fun i hi => ?_⟩
  have a' := ha.on kk
  have b' := hb.on kk
  match i, hi with
  | 0, _ => exact ⟨_, .bin 0 ta tb, rfl, ⟨p0, x, y, rfl, e0, a', b'⟩, ⟨by decide, oa, ob⟩, show _ + _ + 1 ≤ _ by omega⟩
  | 1, _ => exact ⟨_, .bin 1 ta tb, rfl, ⟨p1, x, y, rfl, e1, a', b'⟩, ⟨by decide, oa, ob⟩, show _ + _ + 1 ≤ _ by omega⟩
  | 2, _ => exact ⟨_, .ite ta tb (.num 9), rfl, ⟨p3, x, y, _, rfl, e3, a', b', p2, rfl, e2⟩, ⟨oa, ob, (show (0 : Int) ≤ 9 ∧ (9 : Int) ≤ 1000 by decide)⟩, show _ + _ + 1 + 1 ≤ _ by omega⟩
  | 3, _ => exact ⟨_, .bin 2 ta tb, rfl, ⟨p4, x, y, rfl, e4, a', b'⟩, ⟨by decide, oa, ob⟩, show _ + _ + 1 ≤ _ by omega⟩
theorem DS.atb {l s b : Addr} {N : Nat} {H : Hp} {o : HO} (d : DS l s N H) (h1 : b ≠ l) (h2 : b ≠ s) : DS l s N (upd H b o) := by
  obtain ⟨⟨a, b', c, e, r⟩, ne, ns, e2, r2⟩ := d
  exact ⟨⟨a, b', c, by rw [upd_ne (Ne.symm h1)]; exact e, r⟩, ne, ns, by rw [upd_ne (Ne.symm h2)]; exact e2, r2⟩
/-- a piece stands where the bag, which holds a piece, is changed -/
theorem PcAt.ub {l s bg : Addr} {H : Hp} {xs zs : List V} {i n k n' k' : Nat} {w v : V} (hb : H bg = some (.lst xs)) (hi : xs[i]? = some w) (hw : PcAt l s H n' k' w) : PcAt l s H n k v → PcAt l s (upd H bg (.lst zs)) n k v
  | ⟨p, t, so, y, fr, e, h, hs, a, ok, sz, ⟨fa, fs, e2, n1, n2, h2, hk, hf⟩⟩ => by
    have kk : KT H (upd H bg (.lst zs)) := KT.lst hb
    have nb : fa ≠ bg := fun z => by
      rw [z, hb] at h2
      cases h2
      obtain ⟨q, x, so2, e3, h3, _⟩ := hf w (List.mem_of_getElem? hi)
      obtain ⟨q', _, _, _, _, e4, h4, _⟩ := hw
      rw [e3] at e4
      cases e4
      rw [h3] at h4
      cases h4
    exact ⟨p, t, so, y, fr, e, kk _ _ h, hs, a.on kk, ok, sz, ⟨fa, fs, e2, n1, n2, by rw [upd_ne nb]; exact h2, hk, fun z hz => (hf z hz).on kk⟩⟩
theorem BagL.map {l s : Addr} {H H' : Hp} (h : ∀ n k v, PcAt l s H n k v → PcAt l s H' n k v) : ∀ {xs : List V} {T K : Nat}, BagL l s H xs T K → BagL l s H' xs T K
  | _, _, _, .nil => .nil
  | _, _, _, .cons p b => .cons (h _ _ _ p) (BagL.map h b)
/-- all stands but the loom, the stock, the bag -/
def SX3 (l s g : Addr) (H H' : Hp) : Prop := ∀ b o, b ≠ l → b ≠ s → b ≠ g → H b = some o → H' b = some o
theorem SX3.trans {l s g : Addr} {H H' H'' : Hp} (a : SX3 l s g H H') (b : SX3 l s g H' H'') : SX3 l s g H H'' := fun c u h1 h2 h3 e => b c u h1 h2 h3 (a c u h1 h2 h3 e)
theorem SX2.three {l s g : Addr} {H H' : Hp} (a : SX2 l s H H') : SX3 l s g H H' := fun c u h1 h2 _ e => a c u h1 h2 e
theorem newP {l s g p : Addr} {N : Nat} {H H' : Hp} {xs : List V} (x : SX3 l s g H H') (d : DS l s N H') (h : H' p = none) (hg : H' g = some (.lst xs)) : H p = none := by
  cases e : H p with
  | none => rfl
  | some o =>
    have := x p o (d.pl h) (d.ps h) (fun z => by rw [z, hg] at h; cases h) e
    rw [h] at this
    cases this
theorem BagL.mapm {l s : Addr} {H H' : Hp} : ∀ {xs : List V} {T K : Nat}, (∀ n k v, v ∈ xs → PcAt l s H n k v → PcAt l s H' n k v) → BagL l s H xs T K → BagL l s H' xs T K
  | _, _, _, _, .nil => .nil
  | _, _, _, h, .cons p b => .cons (h _ _ _ (List.mem_cons_self ..) p) (BagL.mapm (fun n k v hv => h n k v (List.mem_cons_of_mem _ hv)) b)
/-- bag.pop(_law_shed(loom, len(bag))) -/
theorem pop_te {P : Program} {Kf : PySem.W.Frag} {σ : L2.St} {H : Hp} {Q : VK} {E : XK} {l s bg : Addr} {N T K : Nat} {xs : List V} (h0 : σ[0]? = some (some (.ref l))) (h2 : σ[2]? = some (some (.ref bg))) (d : DS l s N H) (nl : bg ≠ l) (ns : bg ≠ s) (hb : H bg = some (.lst xs)) (hx : 0 < xs.length) (hx2 : xs.length ≤ 20) (b : BagL l s H xs T K)
    (q : ∀ H' v rest n k T' K', DS l s N H' → SX3 l s bg H H' → (∀ n k v, PcAt l s H n k v → PcAt l s H' n k v) → H' bg = some (.lst rest) → rest.length + 1 = xs.length → BagL l s H' rest T' K' → PcAt l s H' n k v → n + T' = T → k + K' = K → Q v H') :
    tBM Kf "list" rPopAt (tVar 2) (tCons (tCall spShed [] E (tCons (tVar 0) (tCons (tCB (rLen Kf) (tCons (tVar 2) tNil)) tNil))) tNil) σ H Q := by
  refine ⟨_, h2, .inl ⟨rfl, _, SqL.of hb⟩, _, h0, _, h2, bg, xs, rfl, .inl (SqL.of hb), l, xs.length, rfl, by omega, by omega, d.lm, fun j a b' c j0 j1 a0 a1 b0 b1 c0 => ?_⟩
  have hj : j.toNat < xs.length := by omega
  have d1 := d.shed a0 a1 b0 b1 c0
  have x1 : SX2 l s H (upd H l (.lst [.int a, .int b', .int c])) := SX2.atl
  have b1' := b.on d x1
  have hb1 := x1 bg _ nl ns hb
  have pk1 : ∀ n k v, PcAt l s H n k v → PcAt l s (upd H l (.lst [.int a, .int b', .int c])) n k v := fun n k v p => p.on d x1
  generalize upd H l (.lst [.int a, .int b', .int c]) = H1 at d1 x1 b1' hb1 pk1
  have hg : xs[j.toNat]? = some xs[j.toNat] := List.getElem?_eq_getElem hj
  obtain ⟨n, k, T', K', p1, br, e1, e2⟩ := b1'.at hg
  have pk : ∀ n k v, PcAt l s H1 n k v → PcAt l s (upd H1 bg (.lst (xs.eraseIdx j.toNat))) n k v := fun n k v p => PcAt.ub hb1 hg p1 p
  refine ⟨bg, xs, j, j.toNat, xs[j.toNat], rfl, rfl, hb1, by omega, by omega, seqIndex_at j0 j1, hg, ?_⟩
  exact q _ _ (xs.eraseIdx j.toNat) n k T' K' (d1.atb nl ns) (fun b2 o2 g1 g2 g3 e => by rw [upd_ne g3]; exact x1 _ _ g1 g2 e) (fun n k v p => pk _ _ _ (pk1 _ _ _ p)) upd_same (by rw [List.length_eraseIdx_of_lt hj]; omega) (br.map pk) (pk _ _ _ p1) e1 e2
/-- .. if bag != [] else ("n", ("number", 4), []) -/
theorem snd_te {P : Program} {Kf : PySem.W.Frag} {σ : L2.St} {H : Hp} {Q : VK} {E : XK} {l s bg : Addr} {N T K : Nat} {xs : List V} (h0 : σ[0]? = some (some (.ref l))) (h2 : σ[2]? = some (some (.ref bg))) (d : DS l s N H) (nl : bg ≠ l) (ns : bg ≠ s) (hb : H bg = some (.lst xs)) (hx2 : xs.length ≤ 20) (b : BagL l s H xs T K)
    (q : ∀ H' v rest n k T' K', DS l s N H' → SX3 l s bg H H' → (∀ n k v, PcAt l s H n k v → PcAt l s H' n k v) → H' bg = some (.lst rest) → rest.length ≤ xs.length → BagL l s H' rest T' K' → PcAt l s H' n k v → n + T' ≤ T + 1 → k + K' = K → Q v H') :
    tIf (tTest (tOp (rNeE Kf) (tVar 2) (tLst tNil))) (tBM Kf "list" rPopAt (tVar 2) (tCons (tCall spShed [] E (tCons (tVar 0) (tCons (tCB (rLen Kf) (tCons (tVar 2) tNil)) tNil))) tNil)) (tTup (tCons (tC (.str "n")) (tCons (tTup (tCons (tC (.str "number")) (tCons (tC (.int 4)) tNil))) (tCons (tLst tNil) tNil)))) σ H Q := by
  refine ⟨_, h2, small (by decide), fun c hc => ⟨bg, c, xs, rfl, rfl, SqL.of (by rw [upd_ne (ne_of_none hb hc)]; exact hb), SqL.of upd_same, _, rfl, ?_⟩⟩
  have d1 := d.new (o := .lst []) hc
  have x1 : SX2 l s H (upd H c (.lst [])) := SX2.new hc
  have b1 := b.on d x1
  have hb1 := x1 bg _ nl ns hb
  have pk1 : ∀ n k v, PcAt l s H n k v → PcAt l s (upd H c (.lst [])) n k v := fun n k v p => p.on d x1
  generalize upd H c (.lst []) = H1 at d1 x1 b1 hb1 pk1
  match xs, b1, hb1, hx2 with
  | [], b1, hb1, hx2 =>
    refine ifF rfl ⟨sz2, fun t0 g0 => ⟨small (by decide), fun e0 g1 => ⟨sz3, fun t1 g2 => ?_⟩⟩⟩
    have d2 := ((d1.new (o := .tup [.str "number", .int 4]) g0).new (o := .lst []) g1).new (o := .tup [.str "n", .ref t0, .ref e0]) g2
    have x2 := ((SX2.new (l := l) (s := s) (o := .tup [.str "number", .int 4]) g0).trans (SX2.new (o := .lst []) g1)).trans (SX2.new (o := .tup [.str "n", .ref t0, .ref e0]) g2)
    have f0 := ((KT.new (o := .lst []) g1).trans (KT.new (o := .tup [.str "n", .ref t0, .ref e0]) g2)) t0 _ upd_same
    have f1 : upd (upd (upd H1 t0 (.tup [.str "number", .int 4])) e0 (.lst [])) t1 (.tup [.str "n", .ref t0, .ref e0]) e0 = some (.lst []) := by rw [upd_ne (ne_of_none upd_same g2)]; exact upd_same
    cases b1
    exact q _ _ [] 1 0 0 0 d2 ((x1.trans x2).three) (fun n k v p => (pk1 n k v p).on d1 x2) (x2 bg _ nl ns hb1) (Nat.le_refl _) .nil ⟨t1, .num 4, "n", .ref t0, .ref e0, rfl, upd_same, .inl rfl, ⟨t0, rfl, f0⟩, (show (0 : Int) ≤ 4 ∧ (4 : Int) ≤ 1000 by decide), Nat.le_refl _, ⟨e0, [], rfl, (d1.new (o := .tup [.str "number", .int 4]) g0).pl g1, (d1.new (o := .tup [.str "number", .int 4]) g0).ps g1, f1, Nat.le_refl _, fun x hx => absurd hx (by simp)⟩⟩ (by omega) rfl
  | x :: xs, b1, hb1, hx2 =>
    refine ifTT (pop_te (P := P) (N := N) h0 h2 d1 nl ns hb1 (by simp) hx2 b1 fun H' v rest n k T' K' d' x' pk' hb' hl' br' p' e1 e2 => ?_)
    exact q H' v rest n k T' K' d' (x1.three.trans x') (fun n k v p => pk' _ _ _ (pk1 _ _ _ p)) hb' (by omega) br' p' (by omega) e2
theorem atI_of {xs : List V} {i : Int} {z : V} (h0 : 0 ≤ i) (h1 : i < xs.length) (h : xs[i.toNat]? = some z) : atI xs i = some z := by
  unfold atI ixN
  rw [if_pos h0, if_pos h1]
  exact h
def spGrown : Sp := fun vs H Q _ => ∃ (l s bg : Addr) (xs : List V) (fib : Bool) (N T K : Nat), vs = [.ref l, .ref s, .ref bg, .bl fib] ∧ DS l s (N + 4) H ∧ bg ≠ l ∧ bg ≠ s ∧ H bg = some (.lst xs) ∧ 0 < xs.length ∧ xs.length ≤ 20 ∧ BagL l s H xs T K ∧ K ≤ 3 ∧
  ∀ H' p ys, DS l s N H' → (∀ b o, b ≠ l → b ≠ s → b ≠ bg → H b = some o → H' b = some o) → H' p = some (.lst ys) → H p = none → p ≠ l → p ≠ s → 0 < ys.length → ys.length ≤ xs.length + 1 → (∃ T' K', BagL l s H' ys T' K' ∧ T' ≤ T + 15 ∧ K' ≤ K) → Q (.ref p) H'
section
variable {P : Program} {w : World} {K : PySem.W.Frag} {mg : Str → Option Value} {base : Heap} {f : Addr} {fd : FuncData}
theorem ok_grown {fS fA fX fB : Addr} {fdS fdA fdX fdB : FuncData} (F : FnP K "_law_grown" (top 146) f fd) (B : Bn mg) (F_law_shed : FnP K "_law_shed" (top 138) fS fdS) (g_law_shed : mg "_law_shed" = some (.ref fS)) (F_law_among : FnP K "_law_among" (top 139) fA fdA) (g_law_among : mg "_law_among" = some (.ref fA)) (F_law_as : FnP K "_law_as" (top 144) fX fdX) (g_law_as : mg "_law_as" = some (.ref fX)) (F_law_bound : FnP K "_law_bound" (top 145) fB fdB) (g_law_bound : mg "_law_bound" = some (.ref fB)) : FnOk P w K mg base CX0 4 f fd ["loom", "stock", "bag", "fib"] spGrown := by
  have G_law_shed : FnOk P w K mg base CX0 1 fS fdS ["loom", "ends"] spShed := ok_shed F_law_shed B.int
  have b_law_shed : Binds K fdS ["loom", "ends"] [] := F_law_shed.bindsN fun _ _ _ _ _ _ us hl => match us, hl with | [_, _], _ => rfl
  have G_law_as : FnOk P w K mg base CX0 2 fX fdX ["loom", "stock", "piece", "sort", "fib"] spAs := ok_as F_law_as B F_law_shed g_law_shed
  have b_law_as : Binds K fdX ["loom", "stock", "piece", "sort", "fib"] [] := F_law_as.bindsN fun _ _ _ _ _ _ us hl => match us, hl with | [_, _, _, _, _], _ => rfl
  have G_law_bound : FnOk P w K mg base CX0 3 fB fdB ["loom", "stock", "piece", "sort"] spBound := ok_bound F_law_bound B F_law_shed g_law_shed F_law_among g_law_among
  have b_law_bound : Binds K fdB ["loom", "stock", "piece", "sort"] [] := F_law_bound.bindsN fun _ _ _ _ _ _ us hl => match us, hl with | [_, _, _, _], _ => rfl
  refine F.ok scGr (fun vs H Q E h => ?_) ?_
  · obtain ⟨l, s, bg, xs, fib, N, T, K, rfl, _⟩ := h
    rfl
  intro cdv A outer s0 H vs Q E hr h
  refine' ⟨_, PSs.nox ?p, ?q⟩
  case p =>
    refine' pss_cons (ps_par (i := 4) (j := 5) rfl scGr.nd rfl rfl (by decide) rfl rfl (pa_cons (pe_call G_law_shed (hr.mono (by decide)) rfl g_law_shed F_law_shed.kp b_law_shed .nil pass0 (pa_cons (pv 0) (pa_cons pe_int pa_nil))) (pa_cons (pe_bm PySem.F.plainAttrs_list PySem.F.slot_list_pop PySem.F.type_list_pop mt_popAt (pv 2) (pa_cons (pe_call G_law_shed (hr.mono (by decide)) rfl g_law_shed F_law_shed.kp b_law_shed .nil pass0 (pa_cons (pv 0) (pa_cons (pe_callB (r := rLen K) call_len_seq rfl B.len boot_len (pa_cons (pv 2) pa_nil)) pa_nil))) pa_nil)) pa_nil)) rfl) ?w0
    case w0 =>
    refine' pss_cons (ps_set (i := 6) scGr.nd rfl (Or.inl rfl) (pe_ifExp (pt_cmpR (r := rNeE K) (op_neE hr.units) (pv 2) (pe_lst pa_nil) (nomark _)) (pe_bm PySem.F.plainAttrs_list PySem.F.slot_list_pop PySem.F.type_list_pop mt_popAt (pv 2) (pa_cons (pe_call G_law_shed (hr.mono (by decide)) rfl g_law_shed F_law_shed.kp b_law_shed .nil pass0 (pa_cons (pv 0) (pa_cons (pe_callB (r := rLen K) call_len_seq rfl B.len boot_len (pa_cons (pv 2) pa_nil)) pa_nil))) pa_nil)) (pe_tup (pa_cons pe_str (pa_cons (pe_tup (pa_cons pe_str (pa_cons pe_int pa_nil))) (pa_cons (pe_lst pa_nil) pa_nil)))))) ?w1
    case w1 =>
    refine' pss_cons (ps_set (i := 5) scGr.nd rfl (Or.inl rfl) (pe_ifExp (pt_cmpR op_eq (pv 4) pe_int (nomark _)) (pv 5) (pe_call G_law_as (hr.mono (by decide)) rfl g_law_as F_law_as.kp b_law_as .nil pass0 (pa_cons (pv 0) (pa_cons (pv 1) (pa_cons (pv 5) (pa_cons (pe_ifExp (pt_cmpR op_eq (pv 4) pe_int (nomark _)) pe_str pe_str) (pa_cons (pv 3) pa_nil)))))))) ?w2
    case w2 =>
    refine' pss_cons (ps_set (i := 6) scGr.nd rfl (Or.inl rfl) (pe_ifExp (pt_cmpR op_in_seq (pv 4) (pe_tup (pa_cons pe_int (pa_cons pe_int (pa_cons pe_int pa_nil)))) (by rfl)) (pv 6) (pe_call G_law_as (hr.mono (by decide)) rfl g_law_as F_law_as.kp b_law_as .nil pass0 (pa_cons (pv 0) (pa_cons (pv 1) (pa_cons (pv 6) (pa_cons (pe_ifExp (pt_cmpR op_eq (pv 4) pe_int (nomark _)) pe_str pe_str) (pa_cons (pv 3) pa_nil)))))))) ?w3
    case w3 =>
    refine' pss_cons (ps_par (i := 7) (j := 8) rfl scGr.nd rfl rfl (by decide) rfl rfl (pa_cons (pe_ix (r := rIxT K) ix_tup (pv 5) pe_int (fun _ _ => rfl)) (pa_cons (pe_ix (r := rIxT K) ix_tup (pv 6) pe_int (fun _ _ => rfl)) pa_nil)) rfl) ?w4
    case w4 =>
    refine' pss_cons (ps_set (i := 9) scGr.nd rfl (Or.inl rfl) (pe_lst (pa_cons (pe_tup (pa_cons pe_str (pa_cons (pv 7) (pa_cons (pv 8) pa_nil)))) (pa_cons (pe_tup (pa_cons pe_str (pa_cons (pv 7) (pa_cons (pv 8) pa_nil)))) (pa_cons (pe_tup (pa_cons pe_str (pa_cons (pv 7) (pa_cons (pv 8) (pa_cons (pe_tup (pa_cons pe_str (pa_cons pe_int pa_nil))) pa_nil))))) (pa_cons (pe_tup (pa_cons pe_str (pa_cons (pv 7) (pa_cons (pv 8) pa_nil)))) pa_nil)))))) ?w5
    case w5 =>
    refine' pss_cons (ps_if (PW.pt (pw_or (pt_cmpR op_lt (pv 4) pe_int (nomark _)) (pw_or1 (pt_cmpR op_eq (pv 4) pe_int (nomark _))))) (pss_cons (ps_set (i := 10) scGr.nd rfl (Or.inl rfl) (pe_ifExp (pt_cmpR op_lt (pv 4) pe_int (nomark _)) (pe_ix (r := rIxL K) ix_list (pv 9) (pv 4) (fun _ _ => rfl)) (pe_tup (pa_cons pe_str (pa_cons (pe_tup (pa_cons (pe_tup (pa_cons pe_str (pa_cons (pv 7) pa_nil))) (pa_cons (pe_tup (pa_cons pe_str (pa_cons (pv 8) pa_nil))) pa_nil))) pa_nil))))) (pss_one (ps_ret (pe_op op_cat (pv 2) (pe_lst (pa_cons (pe_tup (pa_cons (pe_ifExp (pt_cmpR op_lt (pv 4) pe_int (nomark _)) pe_str pe_str) (pa_cons (pv 10) (pa_cons (pe_op op_cat (pe_ix (r := rIxT K) ix_tup (pv 5) pe_int (fun _ _ => rfl)) (pe_ix (r := rIxT K) ix_tup (pv 6) pe_int (fun _ _ => rfl))) pa_nil)))) pa_nil)))))) (pss_nil)) ?w6
    case w6 =>
    refine' pss_cons (ps_if (pt_cmpR op_eq (pv 4) pe_int (nomark _)) (pss_cons (ps_asg (pe_call G_law_bound (hr.mono (by decide)) rfl g_law_bound F_law_bound.kp b_law_bound .nil pass0 (pa_cons (pv 0) (pa_cons (pv 1) (pa_cons (pv 6) (pa_cons (pe_ix (r := rIxT K) ix_tup (pv 5) pe_int (fun _ _ => rfl)) pa_nil))))) (pg_tup rfl (pgs_cons (pg_name (i := 11) scGr.nd rfl (Or.inl rfl)) (pgs_cons (pg_name (i := 12) scGr.nd rfl (Or.inl rfl)) pgs_nil)))) (pss_one (ps_ret (pe_op op_cat (pv 2) (pe_lst (pa_cons (pe_tup (pa_cons (pe_ix (r := rIxT K) ix_tup (pv 6) pe_int (fun _ _ => rfl)) (pa_cons (pe_tup (pa_cons pe_str (pa_cons (pv 11) (pa_cons (pv 7) (pa_cons (pv 8) pa_nil))))) (pa_cons (pe_op op_cat (pe_ix (r := rIxT K) ix_tup (pv 5) pe_int (fun _ _ => rfl)) (pv 12)) pa_nil)))) pa_nil)))))) (pss_nil)) ?w7
    case w7 =>
    refine' pss_cons (ps_asg (pe_call G_law_bound (hr.mono (by decide)) rfl g_law_bound F_law_bound.kp b_law_bound .nil pass0 (pa_cons (pv 0) (pa_cons (pv 1) (pa_cons (pv 5) (pa_cons pe_str pa_nil))))) (pg_tup rfl (pgs_cons (pg_name (i := 11) scGr.nd rfl (Or.inl rfl)) (pgs_cons (pg_name (i := 12) scGr.nd rfl (Or.inl rfl)) pgs_nil)))) ?w8
    case w8 =>
    refine' pss_cons (ps_par (i := 10) (j := 13) rfl scGr.nd rfl rfl (by decide) rfl rfl (pa_cons (pe_tup (pa_cons pe_str (pa_cons (pv 11) (pa_cons (pv 7) pa_nil)))) (pa_cons (pe_bm0 PySem.F.plainAttrs_list PySem.F.slot_list_pop PySem.F.type_list_pop mt_pop (pv 1)) pa_nil)) rfl) ?w9
    case w9 =>
    refine' pss_cons (ps_if (pt_cmpR op_eq (pv 4) pe_int (nomark _)) (pss_cons (ps_set (i := 14) scGr.nd rfl (Or.inl rfl) (pe_tup (pa_cons pe_str (pa_cons (pe_tup (pa_cons pe_str (pa_cons (pv 13) pa_nil))) (pa_cons (pe_tup (pa_cons pe_str (pa_cons (pe_tup (pa_cons pe_str (pa_cons (pv 11) pa_nil))) (pa_cons (pe_tup (pa_cons pe_str (pa_cons pe_int pa_nil))) pa_nil)))) pa_nil))))) (pss_one (ps_set (i := 10) scGr.nd rfl (Or.inl rfl) (pe_tup (pa_cons pe_str (pa_cons (pv 13) (pa_cons (pv 11) (pa_cons (pe_tup (pa_cons pe_str (pa_cons (pe_tup (pa_cons pe_str (pa_cons (pv 11) pa_nil))) (pa_cons (pv 7) (pa_cons (pe_tup (pa_cons pe_str (pa_cons (pv 14) (pa_cons (pe_tup (pa_cons pe_str (pa_cons pe_int pa_nil))) pa_nil)))) pa_nil))))) pa_nil)))))))) (pss_nil)) ?w10
    case w10 =>
    exact pss_one (ps_ret (pe_op op_cat (pv 2) (pe_lst (pa_cons (pv 6) (pa_cons (pe_tup (pa_cons pe_str (pa_cons (pv 10) (pa_cons (pv 12) pa_nil)))) pa_nil)))))

  case q =>
    obtain ⟨l, s, bg, xs, fib, N, T0, K', rfl, d, nl, ns, hb, hx, hx2, bl, hK, q⟩ := h
    refine seqP (fun v w => [some (.ref l), some (.ref s), some (.ref bg), some (.bl fib), some v, some w, none, none, none, none, none, none, none, none, none]) (fun _ _ => rfl) ?_
    refine ⟨_, rfl, l, 8, rfl, by decide, by decide, d.lm, fun kd a b c k0 k1 a0 a1 b0 b1 c0 => ?_⟩
    have d1 := d.shed a0 a1 b0 b1 c0
    have x1 : SX2 l s H (upd H l (.lst [.int a, .int b, .int c])) := SX2.atl
    have hb1 := x1 bg _ nl ns hb
    have bl1 := bl.on d x1
    generalize upd H l (.lst [.int a, .int b, .int c]) = H1 at d1 x1 hb1 bl1
    refine pop_te (P := P) rfl rfl d1 nl ns hb1 hx hx2 bl1 fun H2 one rest n1 f1 T1 K1 d2 x2 pk2 hb2 hl2 bl2 p1 e1 e2 => ?_
    refine ⟨_, _, rfl, ?_⟩
    refine seqL (fun v => [some (.ref l), some (.ref s), some (.ref bg), some (.bl fib), some (.int kd), some one, some v, none, none, none, none, none, none, none, none]) (fun _ => rfl) ?_
    refine snd_te (P := P) rfl rfl d2 nl ns hb2 (by omega) bl2 fun H3 two rest3 n2 f2 T2 K2 d3 x3 pk3 hb3 hl3 bl3 p2 e3 e4 => ?_
    have q1 := pk3 _ _ _ p1
    refine seqL (fun v => [some (.ref l), some (.ref s), some (.ref bg), some (.bl fib), some (.int kd), some v, some two, none, none, none, none, none, none, none, none]) (fun _ => rfl) ?_
    refine as_or (N := N + 3) rfl rfl rfl rfl rfl d3 q1 fun H4 one4 d4' x4 p4 => ?_
    have p2' := p2.on d3 x4
    refine seqL (fun v => [some (.ref l), some (.ref s), some (.ref bg), some (.bl fib), some (.int kd), some one4, some v, none, none, none, none, none, none, none, none]) (fun _ => rfl) ?_
    refine as_or2 (N := N + 2) rfl rfl rfl rfl rfl d4' p2' fun H5 two5 d5 x5 p5 => ?_
    have p4' := p4.on d4' x5
    have X5 : SX3 l s bg H H5 := (x1.three.trans x2).trans (x3.trans (x4.trans x5).three)
    have hb5 : H5 bg = some (.lst rest3) := (x4.trans x5) bg _ nl ns hb3
    have bl5 : BagL l s H5 rest3 T2 K2 := (bl3.on d3 x4).on d4' x5
    have hT : n1 + n2 + T2 ≤ T0 + 1 := by omega
    have hF : f1 + f2 + K2 = K' := by omega
    have hL : rest3.length + 1 ≤ xs.length := by omega
    clear p2 p2' q1 p1 pk2 pk3 hb2 bl2 bl3 hb3 x1 x2 x3 x4 x5 d2 d3 d4' d1 hb1 bl1 p4 e1 e2 e3 e4
    obtain ⟨t1, u1, so1, y1, fr1, rfl, ht1, hs1, hu1, ok1, sz1', hf1⟩ := p4'
    obtain ⟨t2, u2, so2, y2, fr2, rfl, ht2, hs2, hu2, ok2, sz2', hf2⟩ := p5
    refine seqP (fun v w => [some (.ref l), some (.ref s), some (.ref bg), some (.bl fib), some (.int kd), some (.ref t1), some (.ref t2), some v, some w, none, none, none, none, none, none]) (fun _ _ => rfl) ?_
    refine ⟨_, rfl, t1, _, 1, y1, rfl, rfl, .inl (.inl ht1), rfl, _, rfl, t2, _, 1, y2, rfl, rfl, .inl (.inl ht2), rfl, _, _, rfl, ?_⟩
    refine seqL (fun v => [some (.ref l), some (.ref s), some (.ref bg), some (.bl fib), some (.int kd), some (.ref t1), some (.ref t2), some y1, some y2, some v, none, none, none, none, none]) (fun _ => rfl) ?_
    refine ⟨_, rfl, _, rfl, sz3, fun p0 n0 => ⟨_, rfl, _, rfl, sz3, fun p1 n1 => ⟨_, rfl, _, rfl, sz2, fun p2 n2 => ⟨d4, fun p3 n3 => ⟨_, rfl, _, rfl, sz3, fun p4 n4 => ⟨d4, fun tl n5 => ?_⟩⟩⟩⟩⟩⟩
    obtain ⟨H6, hH6⟩ : ∃ H6, H6 = upd (upd (upd (upd (upd (upd H5 p0 (.tup [.str "add", y1, y2])) p1 (.tup [.str "less", y1, y2])) p2 (.tup [.str "number", .int 9])) p3 (.tup [.str "if", y1, y2, .ref p2])) p4 (.tup [.str "call", y1, y2])) tl (.lst [.ref p0, .ref p1, .ref p3, .ref p4]) := ⟨_, rfl⟩
    obtain ⟨d6, x6, htl, hts⟩ := fourF d5 hu1 hu2 ok1 ok2 n0 n1 n2 n3 n4 n5 H6 hH6
    rw [← hH6]
    clear n0 n1 n2 n3 n4 n5 hH6
    have X6 : SX3 l s bg H H6 := X5.trans x6.three
    have hb6 := x6 bg _ nl ns hb5
    have bl6 := bl5.on d5 x6
    have kk6 := KT.of d5 x6
    have ht16 := kk6 _ _ ht1
    have ht26 := kk6 _ _ ht2
    have hu16 := hu1.on kk6
    have hu26 := hu2.on kk6
    have hf16 := hf1.on d5 x6
    have hf26 := hf2.on d5 x6
    clear hb5 bl5 ht1 ht2 hu1 hu2 hf1 hf2 kk6 x6 X5 d5
    have fin : ∀ (H7 : Hp) (so : Str) (t : T) (z fr : V) (M : Nat), DS l s (N + M) H7 → SX2 l s H6 H7 → So so → At H7 t z → t.ok → t.size + T2 ≤ T0 + 15 → FrL l s H7 (f1 + f2) fr → ∀ p7 p8 p9, H7 p7 = none → upd H7 p7 (.tup [.str so, z, fr]) p8 = none → upd (upd H7 p7 (.tup [.str so, z, fr])) p8 (.lst [.ref p7]) p9 = none → Q (.ref p9) (upd (upd (upd H7 p7 (.tup [.str so, z, fr])) p8 (.lst [.ref p7])) p9 (.lst (rest3 ++ [.ref p7]))) := fun H7 so t z fr M d7 x7 hso hz hok hsz hfr p7 p8 p9 g7 g8 g9 => by
      have e7 := d7.new (o := .tup [.str so, z, fr]) g7
      have e8 := e7.new (o := .lst [.ref p7]) g8
      have e9 := e8.new (o := .lst (rest3 ++ [.ref p7])) g9
      have y7 : SX2 l s H7 _ := SX2.new (o := .tup [.str so, z, fr]) g7
      have y8 : SX2 l s _ _ := SX2.new (o := .lst [.ref p7]) g8
      have y9 : SX2 l s _ _ := SX2.new (o := .lst (rest3 ++ [.ref p7])) g9
      have pc : PcAt l s (upd H7 p7 (.tup [.str so, z, fr])) t.size (f1 + f2) (.ref p7) := ⟨p7, t, so, z, fr, rfl, upd_same, hso, hz.on (KT.new g7), hok, Nat.le_refl _, hfr.on d7 y7⟩
      have hp9 := newP (X6.trans (x7.trans (y7.trans y8)).three) e8 g9 ((x7.trans (y7.trans y8)) bg _ nl ns hb6)
      refine q _ p9 _ (e9.le (by omega)) (X6.trans (x7.trans (y7.trans (y8.trans y9))).three) upd_same hp9 (e8.pl g9) (e8.ps g9) (by simp) (by simp; omega) ⟨T2 + (t.size + 0), K2 + (f1 + f2 + 0), ?_, by omega, by omega⟩
      exact ((((bl6.on d6 x7).on d7 y7).app (.cons pc .nil)).on e7 y8).on e8 y9
    have fin2 : ∀ (H7 : Hp) (t : T) (z fr : V), DS l s N H7 → SX2 l s H6 H7 → At H7 t z → t.ok → t.size ≤ n1 + 12 → FrL l s H7 f1 fr → PcAt l s H7 (n2 + 2) f2 (.ref t2) → ∀ p7 p8 p9, H7 p7 = none → upd H7 p7 (.tup [.str "f", z, fr]) p8 = none → upd (upd H7 p7 (.tup [.str "f", z, fr])) p8 (.lst [.ref t2, .ref p7]) p9 = none → Q (.ref p9) (upd (upd (upd H7 p7 (.tup [.str "f", z, fr])) p8 (.lst [.ref t2, .ref p7])) p9 (.lst (rest3 ++ [.ref t2, .ref p7]))) := fun H7 t z fr d7 x7 hz hok hsz hfr hpc p7 p8 p9 g7 g8 g9 => by
      have e7 := d7.new (o := .tup [.str "f", z, fr]) g7
      have e8 := e7.new (o := .lst [.ref t2, .ref p7]) g8
      have e9 := e8.new (o := .lst (rest3 ++ [.ref t2, .ref p7])) g9
      have y7 : SX2 l s H7 _ := SX2.new (o := .tup [.str "f", z, fr]) g7
      have y8 : SX2 l s _ _ := SX2.new (o := .lst [.ref t2, .ref p7]) g8
      have y9 : SX2 l s _ _ := SX2.new (o := .lst (rest3 ++ [.ref t2, .ref p7])) g9
      have pc : PcAt l s (upd H7 p7 (.tup [.str "f", z, fr])) t.size f1 (.ref p7) := ⟨p7, t, "f", z, fr, rfl, upd_same, .inr (.inl rfl), hz.on (KT.new g7), hok, Nat.le_refl _, hfr.on d7 y7⟩
      have hp9 := newP (X6.trans (x7.trans (y7.trans y8)).three) e8 g9 ((x7.trans (y7.trans y8)) bg _ nl ns hb6)
      refine q _ p9 _ e9 (X6.trans (x7.trans (y7.trans (y8.trans y9))).three) upd_same hp9 (e8.pl g9) (e8.ps g9) (by simp) (by simp; omega) ⟨T2 + ((n2 + 2) + (t.size + 0)), K2 + (f2 + (f1 + 0)), ?_, by omega, by omega⟩
      exact ((((bl6.on d6 x7).on d7 y7).app (.cons (hpc.on d7 y7) (.cons pc .nil))).on e7 y8).on e8 y9
    have cat2 : ∀ (H7 : Hp) (M : Nat) (Q2 : VK) (g1 g2 : V), DS l s (N + M) H7 → FrL l s H7 f1 g1 → FrL l s H7 f2 g2 → (∀ p z, H7 p = none → FrL l s (upd H7 p (.lst z)) (f1 + f2) (.ref p) → Q2 (.ref p) (upd H7 p (.lst z))) → rCat g1 g2 H7 Q2 := fun H7 M Q2 g1 g2 d7 ⟨fa, fs, e1, a1, a2, h1, k1, v1⟩ ⟨fb, gs, e2, b1, b2, h2, k2, v2⟩ k => by
      refine ⟨fa, fb, fs, gs, e1, e2, h1, h2, by rw [sizeLine_eq]; omega, fun p hp => k p _ hp ⟨p, _, rfl, d7.pl hp, d7.ps hp, upd_same, by rw [List.length_append]; omega, fun z hz => ?_⟩⟩
      exact ((List.mem_append.mp hz).elim (v1 z) (v2 z)).on (KT.new hp)
    have bgAt : ∀ {H7 H8 : Hp}, SX2 l s H6 H7 → SX2 l s H7 H8 → H8 bg = some (.lst rest3) := fun a b => b bg _ nl ns (a bg _ nl ns hb6)
    refine ⟨_, rfl, _, _, rfl, rfl, _, rfl, ?_⟩
    by_cases h4 : kd < 4
    · refine ifT (decide_eq_true h4) ?_
      obtain ⟨z, tr, hz, haz, okz, szz⟩ := hts kd.toNat (by omega)
      refine seqL (fun v => [some (.ref l), some (.ref s), some (.ref bg), some (.bl fib), some (.int kd), some (.ref t1), some (.ref t2), some y1, some y2, some (.ref tl), some v, none, none, none, none]) (fun _ => rfl) ?_
      refine ⟨_, rfl, _, _, rfl, rfl, _, rfl, ifT (decide_eq_true h4) ⟨_, rfl, _, rfl, tl, _, kd, z, rfl, rfl, SqL.of htl, atI_of k0 (show kd < 4 by exact h4) hz, ?_⟩⟩
      refine ⟨_, rfl, _, rfl, _, _, rfl, rfl, _, rfl, ifT (decide_eq_true h4) ⟨_, rfl, _, rfl, t1, _, 2, fr1, rfl, rfl, .inl (.inl ht16), rfl, _, rfl, t2, _, 2, fr2, rfl, rfl, .inl (.inl ht26), rfl, cat2 H6 2 _ fr1 fr2 d6 hf16 hf26 fun p6 zz g6 hfr => ⟨sz3, fun p7 g7 => ⟨sz1, fun p8 g8 => ⟨bg, p8, rest3, _, rfl, rfl, bgAt (SX2.new g6) ((SX2.new g7).trans (SX2.new g8)), upd_same, small (by simp; omega), fun p9 g9 => ?_⟩⟩⟩⟩⟩
      exact fin _ "n" tr z (.ref p6) 2 (d6.new g6) (SX2.new g6) (.inl rfl) (haz.on (KT.new g6)) okz (by omega) hfr p7 p8 p9 g7 g8 g9
    · refine ifF (decide_eq_false h4) ⟨_, rfl, rfl, _, rfl, ?_⟩
      by_cases h5 : V.int kd = V.int 5
      · refine ifT (decide_eq_true h5) ?_
        refine seqL (fun v => [some (.ref l), some (.ref s), some (.ref bg), some (.bl fib), some (.int kd), some (.ref t1), some (.ref t2), some y1, some y2, some (.ref tl), some v, none, none, none, none]) (fun _ => rfl) ?_
        refine ⟨_, rfl, _, _, rfl, rfl, _, rfl, ifF (decide_eq_false h4) ⟨_, rfl, sz2, fun r0 w0 => ⟨_, rfl, sz2, fun r1 w1 => ⟨sz2, fun r2 w2 => ⟨sz2, fun r3 w3 => ?_⟩⟩⟩⟩⟩
        have y0 : SX2 l s H6 _ := SX2.new (o := .tup [.str "a", y1]) w0
        have y1' : SX2 l s _ _ := SX2.new (o := .tup [.str "go", y2]) w1
        have y2' : SX2 l s _ _ := SX2.new (o := .tup [.ref r0, .ref r1]) w2
        have y3 : SX2 l s _ _ := SX2.new (o := .tup [.str "record", .ref r2]) w3
        have k0' := KT.new (o := .tup [.str "a", y1]) w0
        have k1' := KT.new (o := .tup [.str "go", y2]) w1
        have k2' := KT.new (o := .tup [.ref r0, .ref r1]) w2
        have k3' := KT.new (o := .tup [.str "record", .ref r2]) w3
        have g0 := (k1'.trans (k2'.trans k3')) r0 _ upd_same
        have g1 := (k2'.trans k3') r1 _ upd_same
        have g2 := k3' r2 _ upd_same
        have kk := k0'.trans (k1'.trans (k2'.trans k3'))
        have d7 := (((d6.new (o := .tup [.str "a", y1]) w0).new (o := .tup [.str "go", y2]) w1).new (o := .tup [.ref r0, .ref r1]) w2).new (o := .tup [.str "record", .ref r2]) w3
        have x7 := y0.trans (y1'.trans (y2'.trans y3))
        have at7 : At (upd (upd (upd (upd H6 r0 (.tup [.str "a", y1])) r1 (.tup [.str "go", y2])) r2 (.tup [.ref r0, .ref r1])) r3 (.tup [.str "record", .ref r2])) (.r2 "go" u1 u2) (.ref r3) := ⟨r3, r2, r0, r1, y1, y2, rfl, upd_same, g2, g0, g1, hu16.on kk, hu26.on kk⟩
        have ht17 := kk _ _ ht16
        have ht27 := kk _ _ ht26
        have hf17 := hf16.on d6 x7
        have hf27 := hf26.on d6 x7
        have go6 : Nm "go" := tx_of (by decide +kernel)
        generalize upd (upd (upd (upd H6 r0 (.tup [.str "a", y1])) r1 (.tup [.str "go", y2])) r2 (.tup [.ref r0, .ref r1])) r3 (.tup [.str "record", .ref r2]) = H7 at d7 x7 at7 ht17 ht27 hf17 hf27
        refine ⟨_, rfl, _, rfl, _, _, rfl, rfl, _, rfl, ifF (decide_eq_false h4) ⟨_, rfl, _, rfl, t1, _, 2, fr1, rfl, rfl, .inl (.inl ht17), rfl, _, rfl, t2, _, 2, fr2, rfl, rfl, .inl (.inl ht27), rfl, cat2 H7 2 _ fr1 fr2 d7 hf17 hf27 fun p6 zz g6 hfr => ⟨sz3, fun p7 g7 => ⟨sz1, fun p8 g8 => ⟨bg, p8, rest3, _, rfl, rfl, bgAt (x7.trans (SX2.new g6)) ((SX2.new g7).trans (SX2.new g8)), upd_same, small (by simp; omega), fun p9 g9 => ?_⟩⟩⟩⟩⟩
        exact fin _ "r" (.r2 "go" u1 u2) (.ref r3) (.ref p6) 2 (d7.new g6) (x7.trans (SX2.new g6)) (.inr (.inr rfl)) (at7.on (KT.new g6)) ⟨go6, ok1, ok2⟩ (show u1.size + u2.size + 1 + T2 ≤ T0 + 15 by omega) hfr p7 p8 p9 g7 g8 g9
      · refine ifF (decide_eq_false h5) ?_
        refine ⟨_, rfl, rfl, _, rfl, ?_⟩
        by_cases h6 : V.int kd = V.int 6
        · refine ifT (decide_eq_true h6) ?_
          refine ⟨_, rfl, _, rfl, _, rfl, _, rfl, t1, _, 0, .str so1, rfl, rfl, .inl (.inl ht16), rfl, l, s, .ref t2, so1, N + 1, n2 + 2, f2, rfl, hs1, d6, ⟨t2, u2, so2, y2, fr2, rfl, ht26, hs2, hu26, ok2, sz2', hf26⟩, by omega, fun H7 pt x fr d7 x7 hpt nx hfr => ⟨pt, _, rfl, .inl (.inl hpt), rfl, _, _, rfl, _, _, rfl, rfl, ?_⟩⟩
          have kk := KT.of d6 x7
          have ht17 := kk _ _ ht16
          have ht27 := kk _ _ ht26
          have hf17 := hf16.on d6 x7
          refine ⟨_, rfl, _, rfl, t2, _, 0, .str so2, rfl, rfl, .inl (.inl ht27), rfl, _, rfl, _, rfl, _, rfl, d4, fun r0 w0 => ⟨_, rfl, t1, _, 2, fr1, rfl, rfl, .inl (.inl (KT.new w0 _ _ ht17)), rfl, _, rfl, cat2 _ 1 _ fr1 fr (d7.new w0) (hf17.on d7 (SX2.new w0)) (hfr.on d7 (SX2.new w0)) fun p6 zz g6 hfr2 => ⟨sz3, fun p7 g7 => ⟨sz1, fun p8 g8 => ⟨bg, p8, rest3, _, rfl, rfl, bgAt (x7.trans ((SX2.new w0).trans (SX2.new g6))) ((SX2.new g7).trans (SX2.new g8)), upd_same, small (by simp; omega), fun p9 g9 => ?_⟩⟩⟩⟩⟩
          exact fin _ so2 (.lt x u1 u2) (.ref r0) (.ref p6) 1 ((d7.new w0).new g6) (x7.trans ((SX2.new w0).trans (SX2.new g6))) hs2 (At.on (KT.new g6) ⟨r0, y1, y2, rfl, upd_same, (hu16.on kk).on (KT.new w0), (hu26.on kk).on (KT.new w0)⟩) ⟨nx, ok1, ok2⟩ (show u1.size + u2.size + 1 + T2 ≤ T0 + 15 by omega) hfr2 p7 p8 p9 g7 g8 g9
        · refine ifF (decide_eq_false h6) ?_
          refine ⟨_, rfl, _, rfl, _, rfl, l, s, .ref t1, "n", N + 1, n1 + 2, f1, rfl, .inl rfl, d6, ⟨t1, u1, so1, y1, fr1, rfl, ht16, hs1, hu16, ok1, sz1', hf16⟩, by omega, fun H7 pt x fr d7 x7 hpt nx hfr => ⟨pt, _, rfl, .inl (.inl hpt), rfl, _, _, rfl, _, _, rfl, rfl, ?_⟩⟩
          have kk := KT.of d6 x7
          refine ⟨_, rfl, _, rfl, sz3, fun r0 w0 => ?_⟩
          have d8 := d7.new (o := .tup [.str "fn", .str x, y1]) w0
          have x8 := x7.trans (SX2.new (l := l) (s := s) (o := .tup [.str "fn", .str x, y1]) w0)
          have kk8 := KT.new (o := .tup [.str "fn", .str x, y1]) w0
          have at8 : At (upd H7 r0 (.tup [.str "fn", .str x, y1])) (.fn x u1) (.ref r0) := ⟨r0, y1, rfl, upd_same, (hu16.on kk).on kk8⟩
          have hfr8 := hfr.on d7 (SX2.new (o := .tup [.str "fn", .str x, y1]) w0)
          generalize upd H7 r0 (.tup [.str "fn", .str x, y1]) = H8 at d8 x8 at8 hfr8
          refine DS.pop (K := K) (i := 1) d8 rfl fun own H9 nown d9 x9 _ => ⟨_, _, rfl, ?_⟩
          have at9 := at8.on (KT.of d8 x9)
          have hfr9 := hfr8.on d8 x9
          have X9 := x8.trans x9
          have hu19 := hu16.on (KT.of d6 X9)
          have pc9 : PcAt l s H9 (n2 + 2) f2 (.ref t2) := PcAt.on d6 X9 ⟨t2, u2, so2, y2, fr2, rfl, ht26, hs2, hu26, ok2, sz2', hf26⟩
          refine ⟨_, rfl, rfl, _, rfl, ?_⟩
          by_cases h7 : V.int kd = V.int 7
          · refine ifT (decide_eq_true h7) ?_
            refine seqL (fun v => [some (.ref l), some (.ref s), some (.ref bg), some (.bl fib), some (.int kd), some (.ref t1), some (.ref t2), some y1, some y2, some (.ref tl), some (.ref r0), some (.str x), some fr, some (.str own), some v]) (fun _ => rfl) ?_
            refine ⟨_, rfl, sz2, fun a0 w0 => ⟨_, rfl, sz2, fun a1 w1 => ⟨sz2, fun a2 w2 => ⟨sz3, fun a3 w3 => ⟨sz3, fun a4 w4 => ?_⟩⟩⟩⟩⟩
            have k0' := KT.new (o := .tup [.str "name", .str own]) w0
            have k1' := KT.new (o := .tup [.str "name", .str x]) w1
            have k2' := KT.new (o := .tup [.str "number", .int 1]) w2
            have k3' := KT.new (o := .tup [.str "less", .ref a1, .ref a2]) w3
            have k4' := KT.new (o := .tup [.str "call", .ref a0, .ref a3]) w4
            have g0 := (k1'.trans (k2'.trans (k3'.trans k4'))) a0 _ upd_same
            have g1 := (k2'.trans (k3'.trans k4')) a1 _ upd_same
            have g2 := (k3'.trans k4') a2 _ upd_same
            have g3 := k4' a3 _ upd_same
            have kk := k0'.trans (k1'.trans (k2'.trans (k3'.trans k4')))
            have d10 := ((((d9.new (o := .tup [.str "name", .str own]) w0).new (o := .tup [.str "name", .str x]) w1).new (o := .tup [.str "number", .int 1]) w2).new (o := .tup [.str "less", .ref a1, .ref a2]) w3).new (o := .tup [.str "call", .ref a0, .ref a3]) w4
            have x10 := (SX2.new (l := l) (s := s) (o := .tup [.str "name", .str own]) w0).trans ((SX2.new (o := .tup [.str "name", .str x]) w1).trans ((SX2.new (o := .tup [.str "number", .int 1]) w2).trans ((SX2.new (o := .tup [.str "less", .ref a1, .ref a2]) w3).trans (SX2.new (o := .tup [.str "call", .ref a0, .ref a3]) w4))))
            have at10 : At (upd (upd (upd (upd (upd H9 a0 (.tup [.str "name", .str own])) a1 (.tup [.str "name", .str x])) a2 (.tup [.str "number", .int 1])) a3 (.tup [.str "less", .ref a1, .ref a2])) a4 (.tup [.str "call", .ref a0, .ref a3])) (.bin 2 (.nam own) (.bin 1 (.nam x) (.num 1))) (.ref a4) := ⟨a4, _, _, rfl, upd_same, ⟨a0, rfl, g0⟩, a3, _, _, rfl, g3, ⟨a1, rfl, g1⟩, a2, rfl, g2⟩
            have hu1A := hu19.on kk
            have hfrA := hfr9.on d9 x10
            have pcA := pc9.on d9 x10
            have XA := X9.trans x10
            generalize upd (upd (upd (upd (upd H9 a0 (.tup [.str "name", .str own])) a1 (.tup [.str "name", .str x])) a2 (.tup [.str "number", .int 1])) a3 (.tup [.str "less", .ref a1, .ref a2])) a4 (.tup [.str "call", .ref a0, .ref a3]) = HA at d10 at10 hu1A hfrA pcA XA
            clear k0' k1' k2' k3' k4' g0 g1 g2 g3 kk x10 w0 w1 w2 w3 w4
            refine ⟨_, rfl, _, rfl, _, rfl, sz2, fun b0 w0 => ⟨_, rfl, _, rfl, sz2, fun b1 w1 => ⟨sz3, fun b2 w2 => ⟨d4, fun b3 w3 => ⟨d4, fun b4 w4 => ?_⟩⟩⟩⟩⟩
            have k0' := KT.new (o := .tup [.str "name", .str x]) w0
            have k1' := KT.new (o := .tup [.str "number", .int 2]) w1
            have k2' := KT.new (o := .tup [.str "add", .ref a4, .ref b1]) w2
            have k3' := KT.new (o := .tup [.str "if", .ref b0, y1, .ref b2]) w3
            have k4' := KT.new (o := .tup [.str "rec", .str own, .str x, .ref b3]) w4
            have g0 := (k1'.trans (k2'.trans (k3'.trans k4'))) b0 _ upd_same
            have g1 := (k2'.trans (k3'.trans k4')) b1 _ upd_same
            have g2 := (k3'.trans k4') b2 _ upd_same
            have g3 := k4' b3 _ upd_same
            have kk := k0'.trans (k1'.trans (k2'.trans (k3'.trans k4')))
            have dB := ((((d10.new (o := .tup [.str "name", .str x]) w0).new (o := .tup [.str "number", .int 2]) w1).new (o := .tup [.str "add", .ref a4, .ref b1]) w2).new (o := .tup [.str "if", .ref b0, y1, .ref b2]) w3).new (o := .tup [.str "rec", .str own, .str x, .ref b3]) w4
            have xB := (SX2.new (l := l) (s := s) (o := .tup [.str "name", .str x]) w0).trans ((SX2.new (o := .tup [.str "number", .int 2]) w1).trans ((SX2.new (o := .tup [.str "add", .ref a4, .ref b1]) w2).trans ((SX2.new (o := .tup [.str "if", .ref b0, y1, .ref b2]) w3).trans (SX2.new (o := .tup [.str "rec", .str own, .str x, .ref b3]) w4))))
            have atB : At (upd (upd (upd (upd (upd HA b0 (.tup [.str "name", .str x])) b1 (.tup [.str "number", .int 2])) b2 (.tup [.str "add", .ref a4, .ref b1])) b3 (.tup [.str "if", .ref b0, y1, .ref b2])) b4 (.tup [.str "rec", .str own, .str x, .ref b3])) (.rc own x (.ite (.nam x) u1 (.bin 0 (.bin 2 (.nam own) (.bin 1 (.nam x) (.num 1))) (.num 2)))) (.ref b4) := ⟨b4, _, rfl, upd_same, b3, _, _, _, rfl, g3, ⟨b0, rfl, g0⟩, hu1A.on kk, b2, _, _, rfl, g2, at10.on kk, b1, rfl, g1⟩
            have hfrB := hfrA.on d10 xB
            have pcB := pcA.on d10 xB
            have XB := XA.trans xB
            generalize upd (upd (upd (upd (upd HA b0 (.tup [.str "name", .str x])) b1 (.tup [.str "number", .int 2])) b2 (.tup [.str "add", .ref a4, .ref b1])) b3 (.tup [.str "if", .ref b0, y1, .ref b2])) b4 (.tup [.str "rec", .str own, .str x, .ref b3]) = HB at dB atB hfrB pcB XB
            clear k0' k1' k2' k3' k4' g0 g1 g2 g3 kk xB w0 w1 w2 w3 w4
            refine ⟨_, rfl, _, rfl, _, rfl, _, rfl, sz3, fun p7 g7 => ⟨sz2, fun p8 g8 => ⟨bg, p8, rest3, _, rfl, rfl, bgAt XB ((SX2.new g7).trans (SX2.new g8)), upd_same, small (by simp; omega), fun p9 g9 => ?_⟩⟩⟩
            exact fin2 HB _ (.ref b4) fr dB XB atB ⟨nown, nx, nx, ok1, by decide, ⟨by decide, nown, by decide, nx, (show (0 : Int) ≤ 1 ∧ (1 : Int) ≤ 1000 by decide)⟩, (show (0 : Int) ≤ 2 ∧ (2 : Int) ≤ 1000 by decide)⟩ (by simp only [T.size]; omega) hfrB pcB p7 p8 p9 g7 g8 g9
          · refine ifF (decide_eq_false h7) ?_
            refine ⟨_, rfl, _, rfl, _, rfl, _, rfl, sz3, fun p7 g7 => ⟨sz2, fun p8 g8 => ⟨bg, p8, rest3, _, rfl, rfl, bgAt X9 ((SX2.new g7).trans (SX2.new g8)), upd_same, small (by simp; omega), fun p9 g9 => ?_⟩⟩⟩
            exact fin2 H9 _ (.ref r0) fr d9 X9 at9 ⟨nx, ok1⟩ (by simp only [T.size]; omega) hfr9 pc9 p7 p8 p9 g7 g8 g9
end
end K1
set_option Elab.async false
set_option linter.all false
set_option maxRecDepth 100000
set_option maxHeartbeats 8000000
namespace K1
open PySem PySem.Spec PyProof.Rows L2 RZ
abbrev nscPi : List Str := ["loom", "stock", "tops", "sort", "fib", "bag", "lap", "one", "x", "seeds", "name", "own", "tree", "frees", "other", "inner", "record"]
theorem scPi : FnScope nscPi ["loom", "stock", "tops", "sort", "fib"] (defScope (top 147)) := ⟨rfl, rfl, rfl, by decide +kernel, rfl, by decide +kernel, by decide +kernel⟩
/-- a seed: a small piece, its free names apart from a place -/
def Sd (l s g : Addr) (H : Hp) (v : V) : Prop := ∃ p t so y fa fs, v = .ref p ∧ H p = some (.tup [.str so, y, .ref fa]) ∧ So so ∧ At H t y ∧ t.ok ∧ t.size ≤ 3 ∧ fa ≠ l ∧ fa ≠ s ∧ fa ≠ g ∧ H fa = some (.lst fs) ∧ fs.length ≤ 1 ∧ ∀ x ∈ fs, FrV H x
section
variable {l s g : Addr} {N : Nat} {H H' : Hp}
theorem Sd.on {v : V} (d : DS l s N H) (x : SX2 l s H H') : Sd l s g H v → Sd l s g H' v
  | ⟨p, t, so, y, fa, fs, e, h, hs, a, ok, sz, n1, n2, n3, hf, hl, hv⟩ => ⟨p, t, so, y, fa, fs, e, KT.of d x _ _ h, hs, a.on (KT.of d x), ok, sz, n1, n2, n3, x _ _ n1 n2 hf, hl, fun z hz => (hv z hz).on (KT.of d x)⟩
theorem Sd.ub {v : V} {xs zs : List V} (hb : H g = some (.lst xs)) : Sd l s g H v → PcAt l s (upd H g (.lst zs)) 3 1 v
  | ⟨p, t, so, y, fa, fs, e, h, hs, a, ok, sz, n1, n2, n3, hf, hl, hv⟩ => ⟨p, t, so, y, .ref fa, e, KT.lst hb _ _ h, hs, a.on (KT.lst hb), ok, sz, ⟨fa, fs, rfl, n1, n2, by rw [upd_ne n3]; exact hf, hl, fun z hz => (hv z hz).on (KT.lst hb)⟩⟩
theorem Sd.two {D : Addr} {v : V} {xs zs : List V} (hb : H D = some (.lst xs)) (a : Sd l s g H v) (b : Sd l s D H v) : Sd l s g (upd H D (.lst zs)) v ∧ Sd l s D (upd H D (.lst zs)) v := by
  have ke : KT H (upd H D (.lst zs)) := KT.lst hb
  obtain ⟨p, t, so, y, fa, fs, e, h, hs, a1, ok, sz, n1, n2, n3, hf, hl, hv⟩ := a
  obtain ⟨p', t', so', y', fa', fs', e', h', _, _, _, _, _, _, n3', _⟩ := b
  rw [e] at e'
  cases e'
  rw [h] at h'
  cases h'
  have hf2 : upd H D (.lst zs) fa = some (.lst fs) := by rw [upd_ne n3']; exact hf
  exact ⟨⟨p, t, so, y, fa, fs, e, ke _ _ h, hs, a1.on ke, ok, sz, n1, n2, n3, hf2, hl, fun u hu => (hv u hu).on ke⟩, ⟨p, t, so, y, fa, fs, e, ke _ _ h, hs, a1.on ke, ok, sz, n1, n2, n3', hf2, hl, fun u hu => (hv u hu).on ke⟩⟩
/-- a seed without free names -/
theorem sd0 {t : T} {y : V} {so : Str} {zs : List V} {fa p : Addr} (d : DS l s N H) (hg : H g = some (.lst zs)) (hs : So so) (a : At H t y) (ok : t.ok) (sz : t.size ≤ 3) (n1 : H fa = none) (n2 : upd H fa (.lst []) p = none) (G : Hp) (hG : G = upd (upd H fa (.lst [])) p (.tup [.str so, y, .ref fa])) : DS l s N G ∧ SX2 l s H G ∧ Sd l s g G (.ref p) := by
  subst hG
  refine ⟨(d.new n1).new n2, (SX2.new n1).trans (SX2.new n2), p, t, so, y, fa, [], rfl, upd_same, hs, (a.on (KT.new n1)).on (KT.new n2), ok, sz, d.pl n1, d.ps n1, (fun z => by rw [z, hg] at n1; cases n1), ?_, by simp, fun x hx => absurd hx (by simp)⟩
  rw [upd_ne (ne_of_none upd_same n2)]
  exact upd_same
/-- a seed with one -/
theorem sd1 {t : T} {y : V} {so f : Str} {x : Str} {zs : List V} {q fa p : Addr} (d : DS l s N H) (hg : H g = some (.lst zs)) (hs : So so) (hf : So f) (nx : Nm x) (a : At H t y) (ok : t.ok) (sz : t.size ≤ 3) (n0 : H q = none) (n1 : upd H q (.tup [.str x, .str f]) fa = none) (n2 : upd (upd H q (.tup [.str x, .str f])) fa (.lst [.ref q]) p = none) (G : Hp) (hG : G = upd (upd (upd H q (.tup [.str x, .str f])) fa (.lst [.ref q])) p (.tup [.str so, y, .ref fa])) : DS l s N G ∧ SX2 l s H G ∧ Sd l s g G (.ref p) := by
  subst hG
  have d0 := d.new (o := .tup [.str x, .str f]) n0
  have hg0 : upd H q (.tup [.str x, .str f]) g = some (.lst zs) := by rw [upd_ne (ne_of_none hg n0)]; exact hg
  refine ⟨(d0.new n1).new n2, (SX2.new n0).trans ((SX2.new n1).trans (SX2.new n2)), p, t, so, y, fa, [.ref q], rfl, upd_same, hs, ((a.on (KT.new n0)).on (KT.new n1)).on (KT.new n2), ok, sz, d0.pl n1, d0.ps n1, (fun z => by rw [z, hg0] at n1; cases n1), ?_, by simp, fun z hz => ?_⟩
  · rw [upd_ne (ne_of_none upd_same n2)]
    exact upd_same
  · rw [List.mem_singleton] at hz
    exact ⟨q, x, f, hz, (KT.new n2) _ _ ((KT.new n1) _ _ upd_same), nx, hf⟩
end
/-- the first two seeds -/
theorem pairC {l s g : Addr} {N : Nat} {H : Hp} {x : Str} {j : Int} {px : V} {zs : List V} {a0 a1 a2 b0 b1 b2 b3 c0 : Addr} (d : DS l s N H) (hg : H g = some (.lst zs)) (nx : Nm x) (ax : At H (.nam x) px) (j0 : 0 ≤ j) (j1 : j ≤ 1000) (w0 : H a0 = none) (w1 : upd H a0 (.tup [.str "number", .int j]) a1 = none) (w2 : upd (upd H a0 (.tup [.str "number", .int j])) a1 (.lst []) a2 = none) (A : Hp) (hA : A = upd (upd (upd H a0 (.tup [.str "number", .int j])) a1 (.lst [])) a2 (.tup [.str "n", .ref a0, .ref a1]))
    (v0 : A b0 = none) (v1 : upd A b0 (.tup [.str "add", px, px]) b1 = none) (v2 : upd (upd A b0 (.tup [.str "add", px, px])) b1 (.tup [.str x, .str "n"]) b2 = none) (v3 : upd (upd (upd A b0 (.tup [.str "add", px, px])) b1 (.tup [.str x, .str "n"])) b2 (.lst [.ref b1]) b3 = none) (C : Hp) (hC : C = upd (upd (upd (upd A b0 (.tup [.str "add", px, px])) b1 (.tup [.str x, .str "n"])) b2 (.lst [.ref b1])) b3 (.tup [.str "n", .ref b0, .ref b2])) (u0 : C c0 = none) (G : Hp) (hG : G = upd C c0 (.lst [.ref a2, .ref b3])) :
    DS l s N G ∧ SX2 l s H G ∧ G c0 = some (.lst [.ref a2, .ref b3]) ∧ c0 ≠ l ∧ c0 ≠ s ∧ Sd l s g G (.ref a2) ∧ Sd l s g G (.ref b3) := by
  have d1 := d.new (o := .tup [.str "number", .int j]) w0
  have x1 := SX2.new (l := l) (s := s) (o := .tup [.str "number", .int j]) w0
  have at1 : At (upd H a0 (.tup [.str "number", .int j])) (.num j) (.ref a0) := ⟨a0, rfl, upd_same⟩
  have g1 : upd H a0 (.tup [.str "number", .int j]) g = some (.lst zs) := by rw [upd_ne (ne_of_none hg w0)]; exact hg
  obtain ⟨d2, x2, s2⟩ := sd0 (so := "n") d1 g1 (.inl rfl) at1 ⟨j0, j1⟩ (show 1 ≤ 3 by decide) w1 w2 A hA
  have ax2 := ax.on ((KT.of d x1).trans (KT.of d1 x2))
  have g2 : A g = some (.lst zs) := by
    rw [hA, upd_ne (ne_of_none (by rw [upd_ne (ne_of_none g1 w1)]; exact g1) w2), upd_ne (ne_of_none g1 w1)]
    exact g1
  have d3 := d2.new (o := .tup [.str "add", px, px]) v0
  have x3 := SX2.new (l := l) (s := s) (o := .tup [.str "add", px, px]) v0
  have at3 : At (upd A b0 (.tup [.str "add", px, px])) (.bin 0 (.nam x) (.nam x)) (.ref b0) := ⟨b0, px, px, rfl, upd_same, ax2.on (KT.new v0), ax2.on (KT.new v0)⟩
  have g3 : upd A b0 (.tup [.str "add", px, px]) g = some (.lst zs) := by rw [upd_ne (ne_of_none g2 v0)]; exact g2
  obtain ⟨d4, x4, s4⟩ := sd1 (so := "n") (f := "n") (x := x) d3 g3 (.inl rfl) (.inl rfl) nx at3 ⟨by decide, nx, nx⟩ (Nat.le_refl 3) v1 v2 v3 C hC
  have x5 : SX2 l s C G := by rw [hG]; exact SX2.new u0
  have d5 : DS l s N G := by rw [hG]; exact d4.new u0
  exact ⟨d5, x1.trans (x2.trans (x3.trans (x4.trans x5))), by rw [hG]; exact upd_same, d4.pl u0, d4.ps u0, ((s2.on d2 x3).on d3 x4).on d4 x5, s4.on d4 x5⟩
/-- the next two -/
theorem pairD {l s g : Addr} {N : Nat} {H : Hp} {x : Str} {px : V} {zs : List V} {a0 a1 a2 a3 b0 b1 b2 b3 b4 c0 : Addr} (d : DS l s N H) (hg : H g = some (.lst zs)) (nx : Nm x) (ax : At H (.nam x) px) (w0 : H a0 = none) (w1 : upd H a0 (.tup [.str "field", px, .str "a"]) a1 = none) (w2 : upd (upd H a0 (.tup [.str "field", px, .str "a"])) a1 (.tup [.str x, .str "r"]) a2 = none) (w3 : upd (upd (upd H a0 (.tup [.str "field", px, .str "a"])) a1 (.tup [.str x, .str "r"])) a2 (.lst [.ref a1]) a3 = none) (A : Hp) (hA : A = upd (upd (upd (upd H a0 (.tup [.str "field", px, .str "a"])) a1 (.tup [.str x, .str "r"])) a2 (.lst [.ref a1])) a3 (.tup [.str "n", .ref a0, .ref a2]))
    (v0 : A b0 = none) (v1 : upd A b0 (.tup [.str "number", .int 2]) b1 = none) (v2 : upd (upd A b0 (.tup [.str "number", .int 2])) b1 (.tup [.str "call", px, .ref b0]) b2 = none) (v3 : upd (upd (upd A b0 (.tup [.str "number", .int 2])) b1 (.tup [.str "call", px, .ref b0])) b2 (.tup [.str x, .str "f"]) b3 = none) (v4 : upd (upd (upd (upd A b0 (.tup [.str "number", .int 2])) b1 (.tup [.str "call", px, .ref b0])) b2 (.tup [.str x, .str "f"])) b3 (.lst [.ref b2]) b4 = none) (C : Hp) (hC : C = upd (upd (upd (upd (upd A b0 (.tup [.str "number", .int 2])) b1 (.tup [.str "call", px, .ref b0])) b2 (.tup [.str x, .str "f"])) b3 (.lst [.ref b2])) b4 (.tup [.str "n", .ref b1, .ref b3])) (u0 : C c0 = none) (G : Hp) (hG : G = upd C c0 (.lst [.ref a3, .ref b4])) :
    DS l s N G ∧ SX2 l s H G ∧ G c0 = some (.lst [.ref a3, .ref b4]) ∧ Sd l s g G (.ref a3) ∧ Sd l s g G (.ref b4) := by
  have d1 := d.new (o := .tup [.str "field", px, .str "a"]) w0
  have x1 := SX2.new (l := l) (s := s) (o := .tup [.str "field", px, .str "a"]) w0
  have at1 : At (upd H a0 (.tup [.str "field", px, .str "a"])) (.fld (.nam x)) (.ref a0) := ⟨a0, px, rfl, upd_same, ax.on (KT.new w0)⟩
  have g1 : upd H a0 (.tup [.str "field", px, .str "a"]) g = some (.lst zs) := by rw [upd_ne (ne_of_none hg w0)]; exact hg
  obtain ⟨d2, x2, s2⟩ := sd1 (so := "n") (f := "r") (x := x) d1 g1 (.inl rfl) (.inr (.inr rfl)) nx at1 nx (show 1 + 1 ≤ 3 by decide) w1 w2 w3 A hA
  have ax2 := ax.on ((KT.of d x1).trans (KT.of d1 x2))
  have g2 : A g = some (.lst zs) := by
    rw [hA]
    have e1 : upd (upd H a0 (.tup [.str "field", px, .str "a"])) a1 (.tup [.str x, .str "r"]) g = some (.lst zs) := by rw [upd_ne (ne_of_none g1 w1)]; exact g1
    have e2 : upd (upd (upd H a0 (.tup [.str "field", px, .str "a"])) a1 (.tup [.str x, .str "r"])) a2 (.lst [.ref a1]) g = some (.lst zs) := by rw [upd_ne (ne_of_none e1 w2)]; exact e1
    rw [upd_ne (ne_of_none e2 w3)]
    exact e2
  have d3 := d2.new (o := .tup [.str "number", .int 2]) v0
  have x3 := SX2.new (l := l) (s := s) (o := .tup [.str "number", .int 2]) v0
  have g3 : upd A b0 (.tup [.str "number", .int 2]) g = some (.lst zs) := by rw [upd_ne (ne_of_none g2 v0)]; exact g2
  have d3' := d3.new (o := .tup [.str "call", px, .ref b0]) v1
  have x3' := SX2.new (l := l) (s := s) (o := .tup [.str "call", px, .ref b0]) v1
  have g3' : upd (upd A b0 (.tup [.str "number", .int 2])) b1 (.tup [.str "call", px, .ref b0]) g = some (.lst zs) := by rw [upd_ne (ne_of_none g3 v1)]; exact g3
  have at3 : At (upd (upd A b0 (.tup [.str "number", .int 2])) b1 (.tup [.str "call", px, .ref b0])) (.bin 2 (.nam x) (.num 2)) (.ref b1) := ⟨b1, px, .ref b0, rfl, upd_same, (ax2.on (KT.new v0)).on (KT.new v1), b0, rfl, KT.new v1 _ _ upd_same⟩
  obtain ⟨d4, x4, s4⟩ := sd1 (so := "n") (f := "f") (x := x) d3' g3' (.inl rfl) (.inr (.inl rfl)) nx at3 ⟨by decide, nx, (show (0 : Int) ≤ 2 ∧ (2 : Int) ≤ 1000 by decide)⟩ (Nat.le_refl 3) v2 v3 v4 C hC
  have x5 : SX2 l s C G := by rw [hG]; exact SX2.new u0
  have d5 : DS l s N G := by rw [hG]; exact d4.new u0
  exact ⟨d5, x1.trans (x2.trans (x3.trans (x3'.trans (x4.trans x5)))), by rw [hG]; exact upd_same, (((s2.on d2 x3).on d3 x3').on d3' x4).on d4 x5, s4.on d4 x5⟩
theorem at_last {xs : List V} (h : 0 < xs.length) : atI xs (-1) = some xs[xs.length - 1] := by
  unfold atI ixN
  rw [if_neg (by decide), if_pos (by omega)]
  have e : ((-1 : Int) + (xs.length : Int)).toNat = xs.length - 1 := by omega
  first
    | rw [e]; exact List.getElem?_eq_getElem (by omega)
    | (show xs[_]? = _; rw [List.getElem?_eq_getElem (by omega)]; congr 1; omega)
def spPiece : Sp := fun vs H Q _ => ∃ (l s tp : Addr) (ts : List V) (so : Str) (fib : Bool) (N : Nat), vs = [.ref l, .ref s, .ref tp, .str so, .bl fib] ∧ (so = "f" ∨ so = "n") ∧ DS l s (N + 27) H ∧ tp ≠ l ∧ tp ≠ s ∧ H tp = some (.lst ts) ∧ ts.length ≤ 3 ∧ (∀ x ∈ ts, FrV H x) ∧
  ∀ H' y t, DS l s N H' → SX2 l s H H' → At H' t y → t.ok → t.size ≤ 100 → Q y H'
section
variable {P : Program} {w : World} {K : PySem.W.Frag} {mg : Str → Option Value} {base : Heap} {f : Addr} {fd : FuncData}
theorem ok_piece {fS fA fX fG : Addr} {fdS fdA fdX fdG : FuncData} (F : FnP K "_law_piece" (top 147) f fd) (B : Bn mg) (F_law_shed : FnP K "_law_shed" (top 138) fS fdS) (g_law_shed : mg "_law_shed" = some (.ref fS)) (F_law_among : FnP K "_law_among" (top 139) fA fdA) (g_law_among : mg "_law_among" = some (.ref fA)) (F_law_as : FnP K "_law_as" (top 144) fX fdX) (g_law_as : mg "_law_as" = some (.ref fX)) (F_law_grown : FnP K "_law_grown" (top 146) fG fdG) (g_law_grown : mg "_law_grown" = some (.ref fG)) (G_law_grown : FnOk P w K mg base CX0 4 fG fdG ["loom", "stock", "bag", "fib"] spGrown) : FnOk P w K mg base CX0 5 f fd ["loom", "stock", "tops", "sort", "fib"] spPiece := by
  have G_law_shed : FnOk P w K mg base CX0 1 fS fdS ["loom", "ends"] spShed := ok_shed F_law_shed B.int
  have b_law_shed : Binds K fdS ["loom", "ends"] [] := F_law_shed.bindsN fun _ _ _ _ _ _ us hl => match us, hl with | [_, _], _ => rfl
  have G_law_among : FnOk P w K mg base CX0 2 fA fdA ["loom", "things"] (spAmong K) := ok_among F_law_among F_law_shed g_law_shed B.int B.len
  have b_law_among : Binds K fdA ["loom", "things"] [] := F_law_among.bindsN fun _ _ _ _ _ _ us hl => match us, hl with | [_, _], _ => rfl
  have G_law_as : FnOk P w K mg base CX0 2 fX fdX ["loom", "stock", "piece", "sort", "fib"] spAs := ok_as F_law_as B F_law_shed g_law_shed
  have b_law_as : Binds K fdX ["loom", "stock", "piece", "sort", "fib"] [] := F_law_as.bindsN fun _ _ _ _ _ _ us hl => match us, hl with | [_, _, _, _, _], _ => rfl
  have b_law_grown : Binds K fdG ["loom", "stock", "bag", "fib"] [] := F_law_grown.bindsN fun _ _ _ _ _ _ us hl => match us, hl with | [_, _, _, _], _ => rfl
  refine F.ok scPi (fun vs H Q E h => ?_) ?_
  · obtain ⟨l, s, tp, ts, so, fib, N, rfl, _⟩ := h
    rfl
  intro cdv A outer s0 H vs Q E hr h
  refine' ⟨_, PSs.nox ?p, ?q⟩
  case p =>
    refine' pss_cons (ps_set (i := 5) scPi.nd rfl (Or.inl rfl) (pe_lst pa_nil)) ?w0
    case w0 =>
    refine' pss_cons (ps_for PassesOwn.never rfl (pi_range1 rfl B.range (pa_cons pe_int pa_nil)) (pg_name (i := 6) scPi.nd rfl (Or.inl rfl))
      (pss_cons (ps_set (i := 7) scPi.nd rfl (Or.inl rfl) (pe_bm0 PySem.F.plainAttrs_list PySem.F.slot_list_pop PySem.F.type_list_pop mt_pop (pv 1))) (pss_cons (ps_set (i := 8) scPi.nd rfl (Or.inl rfl) (pe_tup (pa_cons pe_str (pa_cons (pv 7) pa_nil)))) (pss_cons (ps_set (i := 9) scPi.nd rfl (Or.inl rfl) (pe_lst (pa_cons (pe_tup (pa_cons pe_str (pa_cons (pe_tup (pa_cons pe_str (pa_cons (pe_call G_law_shed (hr.mono (by decide)) rfl g_law_shed F_law_shed.kp b_law_shed .nil pass0 (pa_cons (pv 0) (pa_cons pe_int pa_nil))) pa_nil))) (pa_cons (pe_lst pa_nil) pa_nil)))) (pa_cons (pe_tup (pa_cons pe_str (pa_cons (pe_tup (pa_cons pe_str (pa_cons (pv 8) (pa_cons (pv 8) pa_nil)))) (pa_cons (pe_lst (pa_cons (pe_tup (pa_cons (pv 7) (pa_cons pe_str pa_nil))) pa_nil)) pa_nil)))) pa_nil)))) (pss_cons (ps_set (i := 9) scPi.nd rfl (Or.inl rfl) (pe_op op_cat (pv 9) (pe_lst (pa_cons (pe_tup (pa_cons pe_str (pa_cons (pe_tup (pa_cons pe_str (pa_cons (pv 8) (pa_cons pe_str pa_nil)))) (pa_cons (pe_lst (pa_cons (pe_tup (pa_cons (pv 7) (pa_cons pe_str pa_nil))) pa_nil)) pa_nil)))) (pa_cons (pe_tup (pa_cons pe_str (pa_cons (pe_tup (pa_cons pe_str (pa_cons (pv 8) (pa_cons (pe_tup (pa_cons pe_str (pa_cons pe_int pa_nil))) pa_nil)))) (pa_cons (pe_lst (pa_cons (pe_tup (pa_cons (pv 7) (pa_cons pe_str pa_nil))) pa_nil)) pa_nil)))) pa_nil))))) (pss_cons (ps_set (i := 9) scPi.nd rfl (Or.inl rfl) (pe_op op_cat (pe_op op_cat (pv 9) (pe_lst (pa_cons (pe_tup (pa_cons pe_str (pa_cons (pv 8) (pa_cons (pe_lst (pa_cons (pe_tup (pa_cons (pv 7) (pa_cons pe_str pa_nil))) pa_nil)) pa_nil)))) pa_nil))) (pe_op op_rep (pe_lc (own := [("name", 10), ("own", 11)]) (g := (gTup K 2 (gCons (gName 10) (gCons (gName 11) gNil)))) (tt := tYes) rfl scPi.nd (pi_list (pv 2)) (blkOk_by (N := nscPi) (sc := defScope (top 147)) (by decide +kernel)) (fun _ _ _ _ _ => pg_tup rfl (pgs_cons (pg_name (i := 10) scPi.nd rfl (Or.inl rfl) (Or.inr rfl)) (pgs_cons (pg_name (i := 11) scPi.nd rfl (Or.inl rfl) (Or.inr rfl)) pgs_nil))) (fun _ _ _ _ _ => pts_nil) (fun _ _ _ _ _ => (pe_tup (pa_cons (pv 11) (pa_cons (pe_tup (pa_cons pe_str (pa_cons (pv 10) pa_nil))) (pa_cons (pe_lst pa_nil) pa_nil)))))) pe_int))) (pss_one (ps_expr (pe_bm PySem.F.plainAttrs_list PySem.F.slot_list_append PySem.F.type_list_append mt_append (pv 5) (pa_cons (pe_call G_law_among (hr.mono (by decide)) rfl g_law_among F_law_among.kp b_law_among .nil pass0 (pa_cons (pv 0) (pa_cons (pv 9) pa_nil))) pa_nil)))))))))) ?w1
    case w1 =>
    refine' pss_cons (ps_for PassesOwn.never rfl (pi_range1 rfl B.range (pa_cons (pe_op op_add pe_int (pe_call G_law_shed (hr.mono (by decide)) rfl g_law_shed F_law_shed.kp b_law_shed .nil pass0 (pa_cons (pv 0) (pa_cons pe_int pa_nil)))) pa_nil)) (pg_name (i := 6) scPi.nd rfl (Or.inl rfl))
      (pss_one (ps_set (i := 5) scPi.nd rfl (Or.inl rfl) (pe_call G_law_grown (hr.mono (by decide)) rfl g_law_grown F_law_grown.kp b_law_grown .nil pass0 (pa_cons (pv 0) (pa_cons (pv 1) (pa_cons (pv 5) (pa_cons (pv 4) pa_nil)))))))) ?w2
    case w2 =>
    refine' pss_cons (ps_asg (pe_call G_law_as (hr.mono (by decide)) rfl g_law_as F_law_as.kp b_law_as .nil pass0 (pa_cons (pv 0) (pa_cons (pv 1) (pa_cons (pe_ix (r := rIxL K) ix_list (pv 5) (pe_un un_neg pe_int) (fun _ _ => rfl)) (pa_cons (pv 3) (pa_cons (pv 4) pa_nil)))))) (pg_tup rfl (pgs_cons (pg_name (i := 3) scPi.nd rfl (Or.inl rfl)) (pgs_cons (pg_name (i := 12) scPi.nd rfl (Or.inl rfl)) (pgs_cons (pg_name (i := 13) scPi.nd rfl (Or.inl rfl)) pgs_nil))))) ?w3
    case w3 =>
    refine' pss_cons (ps_for PassesOwn.never rfl (pi_list (pv 13)) (pg_tup rfl (pgs_cons (pg_name (i := 10) scPi.nd rfl (Or.inl rfl)) (pgs_cons (pg_name (i := 11) scPi.nd rfl (Or.inl rfl)) pgs_nil)))
      (pss_cons (ps_par (i := 14) (j := 15) rfl scPi.nd rfl rfl (by decide) rfl rfl (pa_cons (pe_bm0 PySem.F.plainAttrs_list PySem.F.slot_list_pop PySem.F.type_list_pop mt_pop (pv 1)) (pa_cons (pe_tup (pa_cons pe_str (pa_cons (pe_call G_law_shed (hr.mono (by decide)) rfl g_law_shed F_law_shed.kp b_law_shed .nil pass0 (pa_cons (pv 0) (pa_cons pe_int pa_nil))) pa_nil))) pa_nil)) rfl) (pss_cons (ps_set (i := 16) scPi.nd rfl (Or.inl rfl) (pe_tup (pa_cons pe_str (pa_cons (pe_tup (pa_cons (pe_tup (pa_cons pe_str (pa_cons (pv 15) pa_nil))) (pa_cons (pe_tup (pa_cons pe_str (pa_cons (pe_tup (pa_cons pe_str (pa_cons (pe_tup pa_nil) pa_nil))) pa_nil))) pa_nil))) pa_nil)))) (pss_one (ps_set (i := 12) scPi.nd rfl (Or.inl rfl) (pe_tup (pa_cons pe_str (pa_cons (pv 10) (pa_cons (pe_dget (hu_of hr) (pe_disp (pps_cons pe_str (pv 15) (pps_cons pe_str (pe_tup (pa_cons pe_str (pa_cons (pv 14) (pa_cons (pe_tup (pa_cons pe_str (pa_cons (pv 14) pa_nil))) pa_nil)))) (pps_cons pe_str (pv 16) pps_nil))) rfl rfl (fun z => by cases z) (by decide)) (pv 11) (fun _ _ => rfl)) (pa_cons (pv 12) pa_nil)))))))))) ?w4
    case w4 =>
    exact pss_one (ps_ret (pv 12))

  case q =>
    obtain ⟨l, s, tp, ts, so, fib, N, rfl, hso, d, nt1, nt2, htp, hts, hfv, q⟩ := h
    refine ⟨small (by decide), fun bg hbg => ?_⟩
    have nbl := d.pl hbg
    have nbs := d.ps hbg
    refine ⟨3, rfl, by decide, by decide, for_range (lo := 0) (n := 3) (fun n σ H' => ∃ (xs : List V) (o6 o7 o8 o9 : Option V), σ = [some (.ref l), some (.ref s), some (.ref tp), some (.str so), some (.bl fib), some (.ref bg), o6, o7, o8, o9, none, none, none, none, none, none, none] ∧ DS l s (N + 24 + (3 - n)) H' ∧ SX2 l s H H' ∧ H' bg = some (.lst xs) ∧ xs.length = n ∧ BagL l s H' xs (3 * n) n) ⟨[], none, none, none, none, rfl, d.new hbg, SX2.new hbg, upd_same, rfl, .nil⟩ ?_ ?_⟩
    · rintro n σ H1 hn ⟨xs, o6, o7, o8, o9, rfl, d1, x1, hb1, hl1, bl1⟩
      refine seqL (fun v => [some (.ref l), some (.ref s), some (.ref tp), some (.str so), some (.bl fib), some (.ref bg), some (.int (0 + n)), some v, o8, o9, none, none, none, none, none, none, none]) (fun _ => rfl) ?_
      have d1' : DS l s ((N + 24 + (3 - (n + 1))) + 1) H1 := d1.le (by omega)
      refine DS.pop (K := K) (i := 1) d1' rfl fun x H2 nx d2 x2 _ => ?_
      have hb2 := x2 bg _ nbl nbs hb1
      have bl2 := bl1.on d1 x2
      have X2 := x1.trans x2
      clear d1 d1' x1 x2 hb1 bl1
      refine seqL (fun v => [some (.ref l), some (.ref s), some (.ref tp), some (.str so), some (.bl fib), some (.ref bg), some (.int (0 + n)), some (.str x), some v, o9, none, none, none, none, none, none, none]) (fun _ => rfl) ?_
      refine ⟨_, rfl, sz2, fun px hpx => ?_⟩
      have d3 := d2.new (o := .tup [.str "name", .str x]) hpx
      have x3 := SX2.new (l := l) (s := s) (o := .tup [.str "name", .str x]) hpx
      have ax : At (upd H2 px (.tup [.str "name", .str x])) (.nam x) (.ref px) := ⟨px, rfl, upd_same⟩
      have hb3 := x3 bg _ nbl nbs hb2
      have bl3 := bl2.on d2 x3
      have X3 := X2.trans x3
      generalize upd H2 px (.tup [.str "name", .str x]) = H3 at d3 ax hb3 bl3 X3
      clear x3 d2 hb2 bl2 X2 hpx
      refine seqL (fun v => [some (.ref l), some (.ref s), some (.ref tp), some (.str so), some (.bl fib), some (.ref bg), some (.int (0 + n)), some (.str x), some (.ref px), some v, none, none, none, none, none, none, none]) (fun _ => rfl) ?_
      refine ⟨_, rfl, l, 1000, rfl, by decide, by decide, d3.lm, fun j a b c k0 k1 m0 m1 m2 m3 m4 => ?_⟩
      have d4 := d3.shed m0 m1 m2 m3 m4
      have x4 : SX2 l s H3 (upd H3 l (.lst [.int a, .int b, .int c])) := SX2.atl
      have ax4 := ax.on (KT.of d3 x4)
      have hb4 := x4 bg _ nbl nbs hb3
      have bl4 := bl3.on d3 x4
      have X4 := X3.trans x4
      generalize upd H3 l (.lst [.int a, .int b, .int c]) = H4 at d4 ax4 hb4 bl4 X4
      clear x4 d3 ax hb3 bl3 X3
      refine ⟨sz2, fun a0 w0 => ⟨small (by decide), fun a1 w1 => ⟨sz3, fun a2 w2 => ⟨_, rfl, _, rfl, sz3, fun b0 v0 => ⟨_, rfl, sz2, fun b1 v1 => ⟨sz1, fun b2 v2 => ⟨sz3, fun b3 v3 => ⟨sz2, fun c0 u0 => ?_⟩⟩⟩⟩⟩⟩⟩⟩
      obtain ⟨G, hG⟩ : ∃ G, G = upd (upd (upd (upd (upd (upd (upd (upd H4 a0 (.tup [.str "number", .int j])) a1 (.lst [])) a2 (.tup [.str "n", .ref a0, .ref a1])) b0 (.tup [.str "add", .ref px, .ref px])) b1 (.tup [.str x, .str "n"])) b2 (.lst [.ref b1])) b3 (.tup [.str "n", .ref b0, .ref b2])) c0 (.lst [.ref a2, .ref b3]) := ⟨_, rfl⟩
      obtain ⟨d5, x5, hc0, nc1, nc2, s1, s2⟩ := pairC d4 hb4 nx ax4 k0 (by omega) w0 w1 w2 _ rfl v0 v1 v2 v3 _ rfl u0 G hG
      rw [← hG]
      have ax5 := ax4.on (KT.of d4 x5)
      have hb5 := x5 bg _ nbl nbs hb4
      have bl5 := bl4.on d4 x5
      have X5 := X4.trans x5
      clear hG w0 w1 w2 v0 v1 v2 v3 u0 d4 ax4 hb4 bl4 X4 x5
      refine seqL (fun v => [some (.ref l), some (.ref s), some (.ref tp), some (.str so), some (.bl fib), some (.ref bg), some (.int (0 + n)), some (.str x), some (.ref px), some v, none, none, none, none, none, none, none]) (fun _ => rfl) ?_
      refine ⟨_, rfl, _, rfl, sz3, fun a0' w0 => ⟨_, rfl, sz2, fun a1' w1 => ⟨sz1, fun a2' w2 => ⟨sz3, fun a3' w3 => ⟨_, rfl, sz2, fun b0' v0 => ⟨sz3, fun b1' v1 => ⟨_, rfl, sz2, fun b2' v2 => ⟨sz1, fun b3' v3 => ⟨sz3, fun b4' v4 => ⟨sz2, fun c1 u0 => ?_⟩⟩⟩⟩⟩⟩⟩⟩⟩⟩
      obtain ⟨G2, hG⟩ : ∃ G2, G2 = upd (upd (upd (upd (upd (upd (upd (upd (upd (upd G a0' (.tup [.str "field", .ref px, .str "a"])) a1' (.tup [.str x, .str "r"])) a2' (.lst [.ref a1'])) a3' (.tup [.str "n", .ref a0', .ref a2'])) b0' (.tup [.str "number", .int 2])) b1' (.tup [.str "call", .ref px, .ref b0'])) b2' (.tup [.str x, .str "f"])) b3' (.lst [.ref b2'])) b4' (.tup [.str "n", .ref b1', .ref b3'])) c1 (.lst [.ref a3', .ref b4']) := ⟨_, rfl⟩
      obtain ⟨d6, x6, hc1, s3, s4⟩ := pairD d5 hb5 nx ax5 w0 w1 w2 w3 _ rfl v0 v1 v2 v3 v4 _ rfl u0 G2 hG
      rw [← hG]
      have ax6 := ax5.on (KT.of d5 x6)
      have hb6 := x6 bg _ nbl nbs hb5
      have bl6 := bl5.on d5 x6
      have X6 := X5.trans x6
      have hc06 := x6 c0 _ nc1 nc2 hc0
      have s16 := s1.on d5 x6
      have s26 := s2.on d5 x6
      clear hG w0 w1 w2 w3 v0 v1 v2 v3 v4 u0 d5 ax5 hb5 bl5 X5 x6 hc0 s1 s2
      refine ⟨c0, c1, _, _, rfl, rfl, hc06, hc1, small (show 4 ≤ 1000 by decide), fun e0 t0 => ?_⟩
      have d7 := d6.new (o := .lst ([V.ref a2, V.ref b3] ++ [V.ref a3', V.ref b4'])) t0
      have x7 := SX2.new (l := l) (s := s) (o := .lst ([V.ref a2, V.ref b3] ++ [V.ref a3', V.ref b4'])) t0
      have he0 : upd G2 e0 (.lst ([V.ref a2, V.ref b3] ++ [V.ref a3', V.ref b4'])) e0 = some (.lst ([V.ref a2, V.ref b3] ++ [V.ref a3', V.ref b4'])) := upd_same
      have ne1 := d6.pl t0
      have ne2 := d6.ps t0
      have sall : ∀ z ∈ [V.ref a2, V.ref b3] ++ [V.ref a3', V.ref b4'], Sd l s bg (upd G2 e0 (.lst ([V.ref a2, V.ref b3] ++ [V.ref a3', V.ref b4']))) z := fun z hz => by
        simp only [List.cons_append, List.nil_append, List.mem_cons, List.not_mem_nil, or_false] at hz
        rcases hz with rfl | rfl | rfl | rfl
        · exact s16.on d6 x7
        · exact s26.on d6 x7
        · exact s3.on d6 x7
        · exact s4.on d6 x7
      have l4 : ([V.ref a2, V.ref b3] ++ [V.ref a3', V.ref b4']).length = 4 := rfl
      have ax7 := ax6.on (KT.of d6 x7)
      have hb7 := x7 bg _ nbl nbs hb6
      have bl7 := bl6.on d6 x7
      have X7 := X6.trans x7
      generalize upd G2 e0 (.lst ([V.ref a2, V.ref b3] ++ [V.ref a3', V.ref b4'])) = H7 at d7 he0 sall ax7 hb7 bl7 X7
      generalize [V.ref a2, V.ref b3] ++ [V.ref a3', V.ref b4'] = zs4 at he0 sall l4
      clear d6 x7 t0 ax6 hb6 bl6 X6 hc06 hc1 s16 s26 s3 s4
      refine seqL (fun v => [some (.ref l), some (.ref s), some (.ref tp), some (.str so), some (.bl fib), some (.ref bg), some (.int (0 + n)), some (.str x), some (.ref px), some v, none, none, none, none, none, none, none]) (fun _ => rfl) ?_
      refine ⟨_, rfl, _, rfl, _, rfl, sz2, fun q1 w0 => ⟨sz1, fun q2 w1 => ⟨sz3, fun q3 w2 => ⟨sz1, fun c2 u0 => ?_⟩⟩⟩⟩
      obtain ⟨C, hC⟩ : ∃ C, C = upd (upd (upd H7 q1 (.tup [.str x, .str "n"])) q2 (.lst [.ref q1])) q3 (.tup [.str "n", .ref px, .ref q2]) := ⟨_, rfl⟩
      obtain ⟨d8, x8, s5⟩ := sd1 (so := "n") (f := "n") (x := x) d7 hb7 (.inl rfl) (.inl rfl) nx ax7 nx (show 1 ≤ 3 by decide) w0 w1 w2 C hC
      rw [← hC] at u0 ⊢
      have d9 := d8.new (o := .lst [.ref q3]) u0
      have x9 := SX2.new (l := l) (s := s) (o := .lst [.ref q3]) u0
      have Y9 := x8.trans x9
      have s59 := s5.on d8 x9
      have hc2 : upd C c2 (.lst [.ref q3]) c2 = some (.lst [.ref q3]) := upd_same
      have hb9 := Y9 bg _ nbl nbs hb7
      have bl9 := bl7.on d7 Y9
      have X9 := X7.trans Y9
      have he9 := Y9 e0 _ ne1 ne2 he0
      have sall9 : ∀ z ∈ zs4, Sd l s bg (upd C c2 (.lst [.ref q3])) z := fun z hz => (sall z hz).on d7 Y9
      generalize upd C c2 (.lst [.ref q3]) = H9 at d9 s59 hc2 hb9 bl9 X9 he9 sall9
      clear hC w0 w1 w2 u0 d7 d8 x8 x9 Y9 s5 hb7 bl7 X7 he0 sall ax7
      refine ⟨e0, c2, _, _, rfl, rfl, he9, hc2, small (by rw [l4]; simp), fun e1 t1 => ?_⟩
      have d10 := d9.new (o := .lst (zs4 ++ [.ref q3])) t1
      have x10 := SX2.new (l := l) (s := s) (o := .lst (zs4 ++ [.ref q3])) t1
      have he1 : upd H9 e1 (.lst (zs4 ++ [.ref q3])) e1 = some (.lst (zs4 ++ [.ref q3])) := upd_same
      have sall10 : ∀ z ∈ zs4 ++ [.ref q3], Sd l s bg (upd H9 e1 (.lst (zs4 ++ [.ref q3]))) z := fun z hz => by
        rcases List.mem_append.mp hz with hz | hz
        · exact (sall9 z hz).on d9 x10
        · rw [List.mem_singleton] at hz
          rw [hz]
          exact s59.on d9 x10
      have l5 : (zs4 ++ [V.ref q3]).length = 5 := by rw [List.length_append, l4]; rfl
      have nf1 := d9.pl t1
      have nf2 := d9.ps t1
      have hb10 := x10 bg _ nbl nbs hb9
      have bl10 := bl9.on d9 x10
      have X10 := X9.trans x10
      generalize upd H9 e1 (.lst (zs4 ++ [.ref q3])) = H10 at d10 he1 sall10 hb10 bl10 X10
      generalize zs4 ++ [V.ref q3] = zs5 at he1 sall10 l5
      clear x10 t1 d9 s59 hc2 hb9 bl9 X9 he9 sall9
      refine ⟨_, rfl, tp, rfl, ⟨_, SqL.of (X10 tp _ nt1 nt2 htp)⟩, fun D hD => ?_⟩
      have nD1 := d10.pl hD
      have nD2 := d10.ps hD
      refine lc_list (K := K) (a := tp) (xs := ts) (fun k H' => DS l s (N + 24 + (3 - (n + 1))) H' ∧ SX2 l s H10 H' ∧ ∃ acc, H' D = some (.lst acc) ∧ acc.length = k ∧ ∀ z ∈ acc, Sd l s bg H' z ∧ Sd l s D H' z) ⟨d10.new hD, SX2.new hD, [], upd_same, rfl, fun z hz => absurd hz (by simp)⟩ (fun k H' _ z => SqL.of (z.2.1 tp _ nt1 nt2 (X10 tp _ nt1 nt2 htp))) ?_ ?_
      · rintro k y H11 hk ⟨d11, x11, acc, hacc, lacc, nacc⟩
        obtain ⟨f1, xf, sf, rfl, hf1, nxf, sxf⟩ := (hfv y (List.mem_of_getElem? hk)).on (KT.of d (X10.trans x11))
        refine ⟨f1, _, rfl, .inl (.inl hf1), rfl, _, _, rfl, _, _, rfl, rfl, rfl, iteT (B := (fun k H' => DS l s (N + 24 + (3 - (n + 1))) H' ∧ SX2 l s H10 H' ∧ ∃ acc, H' D = some (.lst acc) ∧ acc.length = k ∧ ∀ z ∈ acc, Sd l s bg H' z ∧ Sd l s D H' z) (k + 1) H11) ⟨_, rfl, _, rfl, sz2, fun m0 w0 => ⟨small (by decide), fun m1 w1 => ⟨sz3, fun m2 w2 => ?_⟩⟩⟩⟩
        have dA := d11.new (o := .tup [.str "name", .str xf]) w0
        have xA := SX2.new (l := l) (s := s) (o := .tup [.str "name", .str xf]) w0
        have hbA := (x11.trans xA) bg _ nbl nbs hb10
        obtain ⟨G3, hG3⟩ : ∃ G3, G3 = upd (upd (upd H11 m0 (.tup [.str "name", .str xf])) m1 (.lst [])) m2 (.tup [.str sf, .ref m0, .ref m1]) := ⟨_, rfl⟩
        obtain ⟨dB, xB, sB⟩ := sd0 (so := sf) (t := .nam xf) dA hbA sxf ⟨m0, rfl, upd_same⟩ nxf (show 1 ≤ 3 by decide) w1 w2 G3 hG3
        have hDA := xA D _ nD1 nD2 hacc
        obtain ⟨_, _, sB2⟩ := sd0 (so := sf) (t := .nam xf) dA hDA sxf ⟨m0, rfl, upd_same⟩ nxf (show 1 ≤ 3 by decide) w1 w2 G3 hG3
        have hD3 := (xA.trans xB) D _ nD1 nD2 hacc
        rw [← hG3]
        have nDb : D ≠ bg := fun z => by rw [z, hb10] at hD; cases hD
        have lk : k < ts.length := (List.getElem?_eq_some_iff.mp hk).1
        have ke : KT G3 (upd G3 D (.lst (acc ++ [.ref m2]))) := KT.lst hD3
        refine ⟨acc, hD3, by rw [sizeLine_eq]; omega, ?_, ?_, _, upd_same, by simp [lacc], fun z hz => ?_⟩
        · exact dB.atb nD1 nD2
        · intro b o g1 g2 e
          rw [upd_ne (ne_of_none e hD)]
          exact xB _ _ g1 g2 (xA _ _ g1 g2 (x11 _ _ g1 g2 e))
        · rcases List.mem_append.mp hz with hz | hz
          · exact Sd.two hD3 (((nacc z hz).1.on d11 xA).on dA xB) (((nacc z hz).2.on d11 xA).on dA xB)
          · rw [List.mem_singleton] at hz
            rw [hz]
            exact Sd.two hD3 sB sB2
      · rintro H11 ⟨d11, x11, acc, hacc, lacc, nacc⟩
        refine ⟨D, 2, acc, rfl, rfl, hacc, by decide, by decide, small (by show acc.length * 2 ≤ 1000; omega), fun e2 t2 => ?_⟩
        have d12 := d11.new (o := .lst (List.replicate (2 : Int).toNat acc).flatten) t2
        have x12 := SX2.new (l := l) (s := s) (o := .lst (List.replicate (2 : Int).toNat acc).flatten) t2
        have he2 : upd H11 e2 (.lst (List.replicate (2 : Int).toNat acc).flatten) e2 = some (.lst (List.replicate (2 : Int).toNat acc).flatten) := upd_same
        have er : (List.replicate (2 : Int).toNat acc).flatten = acc ++ acc := by simp [List.replicate]
        rw [er] at d12 x12 he2 ⊢
        have nacc2 : ∀ z ∈ acc ++ acc, Sd l s bg (upd H11 e2 (.lst (acc ++ acc))) z := fun z hz => by
          rcases List.mem_append.mp hz with hz | hz
          · exact (nacc z hz).1.on d11 x12
          · exact (nacc z hz).1.on d11 x12
        have Y12 := x11.trans x12
        have he12 := Y12 e1 _ nf1 nf2 he1
        have sall12 : ∀ z ∈ zs5, Sd l s bg (upd H11 e2 (.lst (acc ++ acc))) z := fun z hz => (sall10 z hz).on d10 Y12
        have hb12 := Y12 bg _ nbl nbs hb10
        have bl12 := bl10.on d10 Y12
        have X12 := X10.trans Y12
        generalize upd H11 e2 (.lst (acc ++ acc)) = H12 at d12 he2 nacc2 he12 sall12 hb12 bl12 X12
        refine ⟨e1, e2, _, _, rfl, rfl, he12, he2, small (by rw [l5, List.length_append]; omega), fun e3 t3 => ?_⟩
        have d13 := d12.new (o := .lst (zs5 ++ (acc ++ acc))) t3
        have x13 := SX2.new (l := l) (s := s) (o := .lst (zs5 ++ (acc ++ acc))) t3
        have he3 : upd H12 e3 (.lst (zs5 ++ (acc ++ acc))) e3 = some (.lst (zs5 ++ (acc ++ acc))) := upd_same
        have nn1 := d12.pl t3
        have sall13 : ∀ z ∈ zs5 ++ (acc ++ acc), Sd l s bg (upd H12 e3 (.lst (zs5 ++ (acc ++ acc)))) z := fun z hz => (List.mem_append.mp hz).elim (fun h => (sall12 z h).on d12 x13) (fun h => (nacc2 z h).on d12 x13)
        have hb13 := x13 bg _ nbl nbs hb12
        have bl13 := bl12.on d12 x13
        have X13 := X12.trans x13
        have l13 : (zs5 ++ (acc ++ acc)).length = 5 + 2 * ts.length := by rw [List.length_append, List.length_append, l5, lacc]; omega
        generalize upd H12 e3 (.lst (zs5 ++ (acc ++ acc))) = H13 at d13 he3 sall13 hb13 bl13 X13
        generalize zs5 ++ (acc ++ acc) = zs at he3 sall13 l13
        refine ⟨_, rfl, .inl ⟨rfl, _, SqL.of hb13⟩, _, rfl, _, rfl, l, e3, zs, rfl, he3, by omega, by omega, d13.lm, nn1, fun k v a b c hk m0 m1 m2 m3 m4 => ?_⟩
        have d14 := d13.shed m0 m1 m2 m3 m4
        have x14 : SX2 l s H13 (upd H13 l (.lst [.int a, .int b, .int c])) := SX2.atl
        have sv := (sall13 v (List.mem_of_getElem? hk)).on d13 x14
        have hb14 := x14 bg _ nbl nbs hb13
        have bl14 := bl13.on d13 x14
        have X14 := X13.trans x14
        generalize upd H13 l (.lst [.int a, .int b, .int c]) = H14 at d14 sv hb14 bl14 X14
        have pk : ∀ n k u, u ∈ xs → PcAt l s H14 n k u → PcAt l s (upd H14 bg (.lst (xs ++ [v]))) n k u := fun n' k' u hu pc => by
          obtain ⟨iw, hiw⟩ := List.getElem?_of_mem hu
          exact PcAt.ub hb14 hiw pc pc
        refine ⟨bg, xs, v, rfl, rfl, hb14, by rw [hl1, sizeLine_eq]; omega, xs ++ [v], _, _, _, _, rfl, (d14.atb nbl nbs).le (by omega), ?_, upd_same, by simp [hl1], ?_⟩
        · intro b2 o2 g1 g2 e
          rw [upd_ne (ne_of_none e hbg)]
          exact X14 _ _ g1 g2 e
        · exact (((bl14.mapm pk).app (.cons (Sd.ub hb14 sv) .nil)).le (by omega) (by omega))
    · rintro σ H1 ⟨xs, o6, o7, o8, o9, rfl, d1, x1, hb1, hl1, bl1⟩
      refine ⟨_, rfl, l, 3, rfl, by decide, by decide, d1.lm, fun j a b c k0 k1 m0 m1 m2 m3 m4 => ?_⟩
      have d2 := d1.shed m0 m1 m2 m3 m4
      have x2 : SX2 l s H1 (upd H1 l (.lst [.int a, .int b, .int c])) := SX2.atl
      have hb2 := x2 bg _ nbl nbs hb1
      have bl2 := bl1.on d1 x2
      have X2 := x1.trans x2
      generalize upd H1 l (.lst [.int a, .int b, .int c]) = H2 at d2 hb2 bl2 X2
      clear d1 x1 x2 hb1 bl1
      refine ⟨_, _, rfl, rfl, _, rfl, by omega, by omega, for_range (lo := 0) (n := (2 + j).toNat) (fun k σ H' => ∃ (bk : Addr) (xs : List V) (o6 : Option V) (T0 K0 : Nat), σ = [some (.ref l), some (.ref s), some (.ref tp), some (.str so), some (.bl fib), some (.ref bk), o6, o7, o8, o9, none, none, none, none, none, none, none] ∧ DS l s (N + 8 + 4 * (4 - k)) H' ∧ SX2 l s H H' ∧ H bk = none ∧ bk ≠ l ∧ bk ≠ s ∧ H' bk = some (.lst xs) ∧ 0 < xs.length ∧ xs.length ≤ 3 + k ∧ BagL l s H' xs T0 K0 ∧ T0 ≤ 9 + 15 * k ∧ K0 ≤ 3) ⟨bg, xs, o6, _, _, rfl, d2.le (by omega), X2, hbg, nbl, nbs, hb2, by omega, by omega, bl2, by omega, by omega⟩ ?_ ?_⟩
      · rintro k σ H3 hk ⟨bk, xs, o6, T0, K0, rfl, d3, x3, nb0, nb1, nb2, hb3, hp3, hl3, bl3, hT, hK⟩
        refine ⟨_, rfl, _, rfl, _, rfl, _, rfl, l, s, bk, xs, fib, N + 8 + 4 * (4 - (k + 1)), T0, K0, rfl, d3.le (by omega), nb1, nb2, hb3, hp3, by omega, bl3, hK, fun H4 p ys d4 x4 hp4 np n1 n2 hl4 hl5 ⟨T1, K1, bl4, hT1, hK1⟩ => ⟨p, ys, _, T1, K1, rfl, d4, ?_, ?_, n1, n2, hp4, hl4, by omega, bl4, by omega, by omega⟩⟩
        · intro b2 o2 g1 g2 e
          exact x4 _ _ g1 g2 (ne_of_none e nb0) (x3 _ _ g1 g2 e)
        · cases e : H p with
          | none => rfl
          | some o =>
            have := x3 p o n1 n2 e
            rw [np] at this
            cases this
      · rintro σ H3 ⟨bk, xs, o6, T0, K0, rfl, d3, x3, nb0, nb1, nb2, hb3, hp3, hl3, bl3, hT, hK⟩
        have hlast := List.getElem?_eq_getElem (l := xs) (i := xs.length - 1) (by omega)
        obtain ⟨nv, kv, T', K', pv', _, eT, eK⟩ := bl3.at hlast
        have d3' : DS l s ((N + 7) + 1) H3 := d3.le (by omega)
        refine ⟨_, rfl, _, rfl, _, rfl, _, rfl, bk, xs, -1, _, rfl, rfl, SqL.of hb3, at_last (by omega), _, rfl, _, rfl, l, s, _, so, fib, N + 7, nv, kv, rfl, hso, d3', pv', fun H4 v4 d4 x4 p4 => ?_⟩
        obtain ⟨p, t, so4, y, fr, rfl, hp4, hs4, ha4, ok4, sz4, ⟨fa, fs, rfl, nf1, nf2, hfs, hfk, hfv4⟩⟩ := p4
        refine ⟨p, _, rfl, .inl (.inl hp4), rfl, _, _, rfl, _, _, rfl, _, _, rfl, rfl, ?_⟩
        have X4 := x3.trans x4
        have hk3 : fs.length ≤ 3 := by omega
        refine ⟨_, rfl, fa, rfl, ⟨_, SqL.of hfs⟩, for_list (K := K) (a := fa) (xs := fs) (fun k σ H' => ∃ (o10 o11 o14 o15 o16 : Option V) (y : V) (t : T), σ = [some (.ref l), some (.ref s), some (.ref tp), some (.str so4), some (.bl fib), some (.ref bk), o6, o7, o8, o9, o10, o11, some y, some (.ref fa), o14, o15, o16] ∧ DS l s (N + 4 + (3 - k)) H' ∧ SX2 l s H4 H' ∧ At H' t y ∧ t.ok ∧ t.size ≤ 80 + 5 * k) ⟨none, none, none, none, none, y, t, rfl, d4.le (by omega), SX2.refl, ha4, ok4, by omega⟩ (fun k σ H' _ ⟨_, _, _, _, _, _, _, _, _, x5, _⟩ => SqL.of (x5 fa _ nf1 nf2 hfs)) ?_ ?_⟩
        · rintro k v σ H5 hk ⟨o10, o11, o14, o15, o16, y5, t5, rfl, d5, x5, a5, ok5, sz5⟩
          have lk : k < fs.length := (List.getElem?_eq_some_iff.mp hk).1
          obtain ⟨q5, xn, sn, rfl, hq5, nxn, hsn⟩ := (hfv4 v (List.mem_of_getElem? hk)).on (KT.of d4 x5)
          refine ⟨q5, _, rfl, .inl (.inl hq5), rfl, _, _, rfl, _, _, rfl, rfl, ?_⟩
          refine seqP (fun v w => [some (.ref l), some (.ref s), some (.ref tp), some (.str so4), some (.bl fib), some (.ref bk), o6, o7, o8, o9, some (.str xn), some (.str sn), some y5, some (.ref fa), some v, some w, o16]) (fun _ _ => rfl) ?_
          have d5' : DS l s ((N + 4 + (3 - (k + 1))) + 1) H5 := d5.le (by omega)
          refine DS.pop (K := K) (i := 1) d5' rfl fun other H6 no d6 x6 _ => ?_
          refine ⟨_, rfl, l, 10, rfl, by decide, by decide, d6.lm, fun j' a b c k0' k1' m0 m1 m2 m3 m4 => ⟨sz2, fun i0 h0 => ⟨_, _, rfl, ?_⟩⟩⟩
          have d7 := d6.shed m0 m1 m2 m3 m4
          have x7 : SX2 l s H6 (upd H6 l (.lst [.int a, .int b, .int c])) := SX2.atl
          have a7 := (a5.on (KT.of d5' x6)).on (KT.of d6 x7)
          have X7 := x5.trans (x6.trans x7)
          generalize upd H6 l (.lst [.int a, .int b, .int c]) = H7 at d7 a7 X7 h0
          clear d5' d5 x5 x6 d6 x7 a5 hq5
          have d8 := d7.new (o := .tup [.str "number", .int j']) h0
          have x8 := SX2.new (l := l) (s := s) (o := .tup [.str "number", .int j']) h0
          have a8 := a7.on (KT.new (o := .tup [.str "number", .int j']) h0)
          have ai : At (upd H7 i0 (.tup [.str "number", .int j'])) (.num j') (.ref i0) := ⟨i0, rfl, upd_same⟩
          have X8 := X7.trans x8
          generalize upd H7 i0 (.tup [.str "number", .int j']) = H8 at d8 a8 ai X8
          clear d7 x8 a7 X7 h0
          refine seqL (fun v => [some (.ref l), some (.ref s), some (.ref tp), some (.str so4), some (.bl fib), some (.ref bk), o6, o7, o8, o9, some (.str xn), some (.str sn), some y5, some (.ref fa), some (.str other), some (.ref i0), some v]) (fun _ => rfl) ?_
          refine ⟨_, rfl, sz2, fun r0 w0 => ⟨small (by decide), fun e0 w1 => ⟨sz2, fun e1 w2 => ⟨sz2, fun r1 w3 => ⟨sz2, fun r2 w4 => ⟨sz2, fun r3 w5 => ?_⟩⟩⟩⟩⟩⟩
          have t0 := KT.new (o := .tup [.str "a", .ref i0]) w0
          have t1 := KT.new (o := .tup []) w1
          have t2 := KT.new (o := .tup [.str "record", .ref e0]) w2
          have t3 := KT.new (o := .tup [.str "b", .ref e1]) w3
          have t4 := KT.new (o := .tup [.ref r0, .ref r1]) w4
          have t5' := KT.new (o := .tup [.str "record", .ref r2]) w5
          have g0 := (t1.trans (t2.trans (t3.trans (t4.trans t5')))) r0 _ upd_same
          have g1 := (t2.trans (t3.trans (t4.trans t5'))) e0 _ upd_same
          have g2 := (t3.trans (t4.trans t5')) e1 _ upd_same
          have g3 := (t4.trans t5') r1 _ upd_same
          have g4 := t5' r2 _ upd_same
          have kk := t0.trans (t1.trans (t2.trans (t3.trans (t4.trans t5'))))
          have d9 := (((((d8.new (o := .tup [.str "a", .ref i0]) w0).new (o := .tup []) w1).new (o := .tup [.str "record", .ref e0]) w2).new (o := .tup [.str "b", .ref e1]) w3).new (o := .tup [.ref r0, .ref r1]) w4).new (o := .tup [.str "record", .ref r2]) w5
          have x9 := (SX2.new (l := l) (s := s) (o := .tup [.str "a", .ref i0]) w0).trans ((SX2.new (o := .tup []) w1).trans ((SX2.new (o := .tup [.str "record", .ref e0]) w2).trans ((SX2.new (o := .tup [.str "b", .ref e1]) w3).trans ((SX2.new (o := .tup [.ref r0, .ref r1]) w4).trans (SX2.new (o := .tup [.str "record", .ref r2]) w5)))))
          have ar : At (upd (upd (upd (upd (upd (upd H8 r0 (.tup [.str "a", .ref i0])) e0 (.tup [])) e1 (.tup [.str "record", .ref e0])) r1 (.tup [.str "b", .ref e1])) r2 (.tup [.ref r0, .ref r1])) r3 (.tup [.str "record", .ref r2])) (.r2 "b" (.num j') .r0) (.ref r3) := ⟨r3, r2, r0, r1, _, _, rfl, upd_same, g4, g0, g3, ai.on kk, e1, e0, rfl, g2, g1⟩
          have a9 := a8.on kk
          have ai9 := ai.on kk
          have X9 := X8.trans x9
          generalize upd (upd (upd (upd (upd (upd H8 r0 (.tup [.str "a", .ref i0])) e0 (.tup [])) e1 (.tup [.str "record", .ref e0])) r1 (.tup [.str "b", .ref e1])) r2 (.tup [.ref r0, .ref r1])) r3 (.tup [.str "record", .ref r2]) = H9 at d9 ar a9 ai9 X9
          clear t0 t1 t2 t3 t4 t5' g0 g1 g2 g3 g4 kk x9 d8 a8 ai X8 w0 w1 w2 w3 w4 w5
          have b6 : Nm "b" := tx_of (by decide +kernel)
          refine ⟨_, rfl, fun dp hdp => ⟨_, rfl, _, rfl, _, rfl, sz2, fun f0 w0 => ⟨sz3, fun f1 w1 => ⟨_, rfl, ?_⟩⟩⟩⟩
          have d10 := ((d9.new (o := .dK []) hdp).new (o := .tup [.str "name", .str other]) w0).new (o := .tup [.str "fn", .str other, .ref f0]) w1
          have x10 := (SX2.new (l := l) (s := s) (o := .dK []) hdp).trans ((SX2.new (o := .tup [.str "name", .str other]) w0).trans (SX2.new (o := .tup [.str "fn", .str other, .ref f0]) w1))
          have af : At (upd (upd (upd H9 dp (.dK [])) f0 (.tup [.str "name", .str other])) f1 (.tup [.str "fn", .str other, .ref f0])) (.fn other (.nam other)) (.ref f1) := ⟨f1, _, rfl, upd_same, f0, rfl, KT.new w1 _ _ upd_same⟩
          have hdk : upd (upd (upd H9 dp (.dK [])) f0 (.tup [.str "name", .str other])) f1 (.tup [.str "fn", .str other, .ref f0]) dp = some (.dK []) := by
            have e1 : upd (upd H9 dp (.dK [])) f0 (.tup [.str "name", .str other]) dp = some (.dK []) := by rw [upd_ne (ne_of_none upd_same w0)]; exact upd_same
            rw [upd_ne (ne_of_none e1 w1)]
            exact e1
          have k10 := KT.of d9 x10
          have a10 := a9.on k10
          have ai10 := ai9.on k10
          have ar10 := ar.on k10
          have X10 := X9.trans x10
          have ndl := d9.pl hdp
          have nds := d9.ps hdp
          generalize upd (upd (upd H9 dp (.dK [])) f0 (.tup [.str "name", .str other])) f1 (.tup [.str "fn", .str other, .ref f0]) = H10 at d10 af hdk a10 ai10 ar10 X10
          refine ⟨hdk, [(.inr "n", .ref i0), (.inr "f", .ref f1), (.inr "r", .ref r3)], rfl, (show 3 ≤ 15 by decide), ?_⟩
          have em : mergeK [] [((.inr "n" : Key), V.ref i0), (.inr "f", .ref f1), (.inr "r", .ref r3)] = [(.inr "n", .ref i0), (.inr "f", .ref f1), (.inr "r", .ref r3)] := rfl
          rw [em]
          have kd : KT H10 (upd H10 dp (.dK [(.inr "n", .ref i0), (.inr "f", .ref f1), (.inr "r", .ref r3)])) := fun q' xs' e => by
            rw [upd_ne (fun z => by rw [z, hdk] at e; cases e)]
            exact e
          have d11 := d10.atb (o := .dK [(.inr "n", .ref i0), (.inr "f", .ref f1), (.inr "r", .ref r3)]) ndl nds
          have hget : upd H10 dp (.dK [(.inr "n", .ref i0), (.inr "f", .ref f1), (.inr "r", .ref r3)]) dp = some (.dK [(.inr "n", .ref i0), (.inr "f", .ref f1), (.inr "r", .ref r3)]) := upd_same
          have a11 := a10.on kd
          have ai11 := ai10.on kd
          have ar11 := ar10.on kd
          have af11 := af.on kd
          have pick : ∃ z t', valV [((.inr "n" : Key), V.ref i0), (.inr "f", .ref f1), (.inr "r", .ref r3)] (.inr sn) = some z ∧ At (upd H10 dp (.dK [(.inr "n", .ref i0), (.inr "f", .ref f1), (.inr "r", .ref r3)])) t' z ∧ t'.ok ∧ t'.size ≤ 3 := by
            rcases hsn with rfl | rfl | rfl
            · exact ⟨_, _, rfl, ai11, ⟨k0', by omega⟩, show 1 ≤ 3 by decide⟩
            · exact ⟨_, _, rfl, af11, ⟨no, no⟩, show 2 ≤ 3 by decide⟩
            · exact ⟨_, _, rfl, ar11, ⟨b6, ⟨k0', by omega⟩, trivial⟩, show 3 ≤ 3 by decide⟩
          obtain ⟨z, t', hz, haz, okz, szz⟩ := pick
          have XD : ∀ b o, b ≠ l → b ≠ s → b ≠ dp → H10 b = some o → upd H10 dp (.dK [(.inr "n", .ref i0), (.inr "f", .ref f1), (.inr "r", .ref r3)]) b = some o := fun b o _ _ g e => by rw [upd_ne g]; exact e
          generalize upd H10 dp (.dK [(.inr "n", .ref i0), (.inr "f", .ref f1), (.inr "r", .ref r3)]) = H11 at d11 hget a11 haz XD
          refine ⟨_, rfl, dp, z, rfl, by rw [← hz]; exact DGet.k (k := .inr sn) hget, _, rfl, K1.d4, fun z0 hz0 => ⟨_, _, _, _, _, .ref z0, .lt xn t' t5, rfl, d11.new hz0, ?_, ⟨z0, _, _, rfl, upd_same, haz.on (KT.new hz0), a11.on (KT.new hz0)⟩, ⟨nxn, okz, ok5⟩, show t'.size + t5.size + 1 ≤ _ by omega⟩⟩
          have hdp4 : H4 dp = none := by
            cases e : H4 dp with
            | none => rfl
            | some o =>
              have := X9 dp o ndl nds e
              rw [hdp] at this
              cases this
          exact SX2.trans (H' := H11) (fun b o g1 g2 e => XD b o g1 g2 (ne_of_none e hdp4) (X10 b o g1 g2 e)) (SX2.new hz0)
        · rintro σ H5 ⟨o10, o11, o14, o15, o16, y5, t5, rfl, d5, x5, a5, ok5, sz5⟩
          exact ⟨_, rfl, q H5 y5 t5 (d5.le (by omega)) (X4.trans x5) a5 ok5 (by omega)⟩
end
end K1
set_option Elab.async false
set_option linter.all false
set_option maxRecDepth 100000
set_option maxHeartbeats 8000000
namespace K1
open PySem PySem.Spec PyProof.Rows L2 RZ
abbrev nscPl : List Str := ["program", "found", "row", "left", "path", "tree", "home", "here", "parts", "nth"]
theorem scPl : FnScope nscPl ["program"] (defScope (top 142)) := ⟨rfl, rfl, rfl, by decide +kernel, rfl, by decide +kernel, by decide +kernel⟩
/-- what is still to be gone through: a tree, how long its path may be -/
def ItP (H : Hp) (L : Nat) (i : T × Nat) (x : V) : Prop := ∃ (q pp : Addr) (ps : List V) (tv : V) (h : Int), x = .ref q ∧ H q = some (.tup [.ref pp, tv, .int h]) ∧ H pp = some (.tup ps) ∧ ps.length ≤ i.2 ∧ i.2 + i.1.size ≤ 101 ∧ At H i.1 tv ∧ -1 ≤ h ∧ h < L
theorem ItP.on {H H' : Hp} {L L' : Nat} {i : T × Nat} {x : V} (k : KT H H') (hl : L ≤ L') : ItP H L i x → ItP H' L' i x
  | ⟨q, pp, ps, tv, h, e, h1, h2, l1, l2, a, b, c⟩ => ⟨q, pp, ps, tv, h, e, k _ _ h1, k _ _ h2, l1, l2, a.on k, b, by omega⟩
/-- a found place -/
def FE (H0 : Hp) (fd lf : Addr) (H : Hp) (M : Nat) (v : V) : Prop := ∃ (q : Addr) (a b c : V) (fl : Addr) (zs : List V), v = .ref q ∧ H q = some (.tup [a, b, c, .ref fl]) ∧ H0 fl = none ∧ fl ≠ fd ∧ fl ≠ lf ∧ H fl = some (.lst zs) ∧ zs.length ≤ M
theorem FE.on {H0 H H' : Hp} {fd lf g : Addr} {M M' : Nat} {v : V} (k : KT H H') (x : ∀ b zs, b ≠ fd → b ≠ lf → H b = some (.lst zs) → zs.length ≤ M → ∃ zs', H' b = some (.lst zs') ∧ zs'.length ≤ M') (hg : ∀ fl zs, H fl = some (.lst zs) → fl ≠ fd → fl ≠ lf → fl ≠ g) : FE H0 fd lf H M v → FE H0 fd g H' M' v
  | ⟨q, a, b, c, fl, zs, e, h, n0, n1, n2, hf, hl⟩ => by
    obtain ⟨zs', h', l'⟩ := x fl zs n1 n2 hf hl
    exact ⟨q, a, b, c, fl, zs', e, k _ _ h, n0, n1, hg fl zs hf n1 n2, h', l'⟩
def szI (I : List (T × Nat)) : Nat := (I.map fun i => i.1.size).sum
theorem szI_app {I J : List (T × Nat)} : szI (I ++ J) = szI I + szI J := by
  unfold szI
  rw [List.map_append, List.sum_append]
theorem szI_map (ts : List T) (d : Nat) : szI (ts.map fun t => (t, d)) = (ts.map T.size).sum := by
  unfold szI
  rw [List.map_map]
  rfl
theorem len_szI : ∀ I : List (T × Nat), I.length ≤ szI I
  | [] => Nat.le_refl _
  | (t, d) :: I => by
    have := len_szI I
    have := t.pos
    show I.length + 1 ≤ t.size + szI I
    omega
def WP (H : Hp) (p fd : Addr) (row : V) (B : Nat) (m : Nat) (σ : L2.St) (H' : Hp) : Prop := ∃ (I : List (T × Nat)) (xs ys : List V) (lf : Addr) (o4 o5 o6 o7 o8 o9 : Option V), σ = [some (.ref p), some (.ref fd), some row, some (.ref lf), o4, o5, o6, o7, o8, o9] ∧ m = szI I ∧ Same H H' ∧ H lf = none ∧ lf ≠ fd ∧ H' lf = some (.lst xs.reverse) ∧ Paired (ItP H' ys.length) I xs ∧ H' fd = some (.lst ys) ∧ (∀ v ∈ ys, FE H fd lf H' ys.length v) ∧ ys.length + m ≤ B
def spPlaces : Sp := fun vs H Q _ => ∃ (p : Addr) (rs : List Rw) (xs : List V), vs = [.ref p] ∧ H p = some (.lst xs) ∧ Paired (RwAt H) rs xs ∧ (∀ r ∈ rs, r.ok) ∧ rs.length ≤ 4 ∧ ∀ H' q ys, Same H H' → H' q = some (.lst ys) → Q (.ref q) H'
section
variable {P : Program} {w : World} {K : PySem.W.Frag} {mg : Str → Option Value} {base : Heap} {f : Addr} {fd : FuncData}
theorem ok_places {fP : Addr} {fdP : FuncData} (F : FnP K "_law_places" (top 142) f fd) (B : Bn mg) (F_law_parts : FnP K "_law_parts" (top 141) fP fdP) (g_law_parts : mg "_law_parts" = some (.ref fP)) : FnOk P w K mg base CX0 2 f fd ["program"] spPlaces := by
  have G_law_parts : FnOk P w K mg base CX0 1 fP fdP ["tree"] spParts := ok_parts F_law_parts B
  have b_law_parts : Binds K fdP ["tree"] [] := F_law_parts.bindsN fun _ _ _ _ _ _ us hl => match us, hl with | [_], _ => rfl
  refine F.ok scPl (fun vs H Q E h => ?_) ?_
  · obtain ⟨p, rs, xs, rfl, _⟩ := h
    rfl
  intro cdv A outer s0 H vs Q E hr h
  refine' ⟨_, PSs.nox ?p, ?q⟩
  case p =>
    refine' pss_cons (ps_set (i := 1) scPl.nd rfl (Or.inl rfl) (pe_lst pa_nil)) ?w0
    case w0 =>
    refine' pss_cons (ps_for PassesOwn.never rfl (pi_range1 rfl B.range (pa_cons (pe_callB (r := rLen K) call_len_seq rfl B.len boot_len (pa_cons (pv 0) pa_nil)) pa_nil)) (pg_name (i := 2) scPl.nd rfl (Or.inl rfl))
      (pss_cons (ps_set (i := 3) scPl.nd rfl (Or.inl rfl) (pe_ifExp (pt_cmpR op_ne (pe_ix (r := rIxT K) ix_tup (pe_ix (r := rIxL K) ix_list (pv 0) (pv 2) (fun _ _ => rfl)) pe_int (fun _ _ => rfl)) pe_str (nomark _)) (pe_lst (pa_cons (pe_tup (pa_cons (pe_tup pa_nil) (pa_cons (pe_ix (r := rIxT K) ix_tup (pe_ix (r := rIxL K) ix_list (pv 0) (pv 2) (fun _ _ => rfl)) (pe_un un_neg pe_int) (fun _ _ => rfl)) (pa_cons (pe_un un_neg pe_int) pa_nil)))) pa_nil)) (pe_lst pa_nil))) (pss_one (ps_while PassesOwn.never (pt_cmpR (r := rNeE K) (op_neE hr.units) (pv 3) (pe_lst pa_nil) (nomark _)) (pss_cons (ps_asg (pe_bm0 PySem.F.plainAttrs_list PySem.F.slot_list_pop PySem.F.type_list_pop mt_pop (pv 3)) (pg_tup rfl (pgs_cons (pg_name (i := 4) scPl.nd rfl (Or.inr rfl)) (pgs_cons (pg_name (i := 5) scPl.nd rfl (Or.inl rfl)) (pgs_cons (pg_name (i := 6) scPl.nd rfl (Or.inl rfl)) pgs_nil))))) (pss_cons (ps_set (i := 7) scPl.nd rfl (Or.inr rfl) (pe_callB (r := rLen K) call_len_seq rfl B.len boot_len (pa_cons (pv 1) pa_nil))) (pss_cons (ps_expr (pe_bm PySem.F.plainAttrs_list PySem.F.slot_list_append PySem.F.type_list_append mt_append (pv 1) (pa_cons (pe_tup (pa_cons (pv 2) (pa_cons (pv 4) (pa_cons (pv 5) (pa_cons (pe_lst pa_nil) pa_nil))))) pa_nil))) (pss_cons (ps_if (pt_cmpR op_ge (pv 6) pe_int (nomark _)) (pss_one (ps_expr (pe_bm PySem.F.plainAttrs_list PySem.F.slot_list_append PySem.F.type_list_append mt_append (pe_ix (r := rIxT K) ix_tup (pe_ix (r := rIxL K) ix_list (pv 1) (pv 6) (fun _ _ => rfl)) pe_int (fun _ _ => rfl)) (pa_cons (pv 7) pa_nil)))) (pss_nil)) (pss_cons (ps_set (i := 8) scPl.nd rfl (Or.inr rfl) (pe_call G_law_parts (hr.mono (by decide)) rfl g_law_parts F_law_parts.kp b_law_parts .nil pass0 (pa_cons (pv 5) pa_nil))) (pss_one (ps_set (i := 3) scPl.nd rfl (Or.inl rfl) (pe_op op_cat (pv 3) (pe_revL (pe_lc (own := [("nth", 9)]) (g := gName 9) (tt := tYes) (te := tTup (tCons (tOp (rCatA K) (tVar 4) (tTup (tCons (tVar 9) tNil))) (tCons (tOp (rIxL K) (tVar 8) (tVar 9)) (tCons (tVar 7) tNil)))) rfl scPl.nd (pi_range1 rfl B.range (pa_cons (pe_callB (r := rLen K) call_len_seq rfl B.len boot_len (pa_cons (pv 8) pa_nil)) pa_nil)) (blkOk_by (N := nscPl) (sc := defScope (top 142)) (by decide +kernel)) (fun _ _ _ _ _ => pg_name (i := 9) scPl.nd rfl (Or.inl rfl)) (fun _ _ _ _ _ => pts_nil) (fun _ _ _ _ _ => (pe_tup (pa_cons (pe_op op_catA (pv 4) (pe_tup (pa_cons (pv 9) pa_nil))) (pa_cons (pe_ix (r := rIxL K) ix_list (pv 8) (pv 9) (fun _ _ => rfl)) (pa_cons (pv 7) pa_nil))))))))))))))))))) ?w1
    case w1 =>
    exact pss_one (ps_ret (pv 1))

  case q =>
    obtain ⟨p, rs, xs, rfl, hp, hrs, hok, h4, q⟩ := h
    refine ⟨small (by decide), fun fd hfd => ?_⟩
    have lx := hrs.length
    have hp0 : upd H fd (.lst []) p = some (.lst xs) := by rw [upd_ne (ne_of_none hp hfd)]; exact hp
    refine ⟨_, rfl, p, xs, rfl, .inl (SqL.of hp0), _, rfl, by omega, by omega, ?_⟩
    rw [Int.toNat_natCast]
    refine for_range (lo := 0) (n := xs.length) (fun n σ H' => ∃ (ys : List V) (o2 o3 o4 o5 o6 o7 o8 o9 : Option V), σ = [some (.ref p), some (.ref fd), o2, o3, o4, o5, o6, o7, o8, o9] ∧ Same H H' ∧ H' fd = some (.lst ys) ∧ ys.length ≤ 100 * n ∧ ∀ v ∈ ys, FE H fd fd H' ys.length v) ⟨[], none, none, none, none, none, none, none, none, rfl, Same.new hfd, upd_same, Nat.zero_le _, fun v hv => absurd hv (by simp)⟩ ?_ ?_
    · rintro n σ H1 hn ⟨ys, o2, o3, o4, o5, o6, o7, o8, o9, rfl, s1, hf1, hl1, hfe⟩
      obtain ⟨r, hr1, hat⟩ := paired_backB hrs (List.getElem?_eq_getElem hn)
      have hro := hok r (List.mem_of_getElem? hr1)
      have hat1 := hat.on (KT.same s1)
      have hn4 : n < 4 := by omega
      have hxat : atI xs (0 + (n : Int)) = some xs[n] := by
        rw [show (0 : Int) + (n : Int) = (n : Int) by omega]
        exact atI_of (by omega) (by omega) (by rw [Int.toNat_natCast]; exact List.getElem?_eq_getElem hn)
      refine seqL (fun v => [some (.ref p), some (.ref fd), some (.int (0 + n)), some v, o4, o5, o6, o7, o8, o9]) (fun _ => rfl) ?_
      match r, hat1, hro with
      | .give x0, ⟨tq, e, ht⟩, hro =>
        rw [e] at hxat
        refine ⟨_, rfl, _, rfl, p, xs, _, _, rfl, rfl, SqL.of (s1 _ _ hp), hxat, tq, _, 0, .str "give", rfl, rfl, .inl (.inl ht), rfl, rfl, _, rfl, ifF nGG ?_⟩
        refine ⟨small (by decide), fun lf g2 => ?_⟩
        have hWP : WP H p fd (.int (0 + n)) (100 * (n + 1)) (szI []) [some (.ref p), some (.ref fd), some (.int (0 + n)), some (.ref lf), o4, o5, o6, o7, o8, o9] (upd H1 lf (.lst [])) := by
          have v3 := sameU (o := .lst []) s1 g2
          have w3 : Same H1 (upd H1 lf (.lst [])) := Same.new g2
          have nlf : lf ≠ fd := fun z => by
            rw [z, hf1] at g2
            cases g2
          refine ⟨[], [], ys, lf, _, _, _, _, _, _, rfl, rfl, v3, s1.free g2, nlf, upd_same, .nil, w3 _ _ hf1, fun v hv => ?_, ?_⟩
          · refine (hfe v hv).on (KT.same w3) (fun b zs' _ _ hb hl => ⟨zs', w3 _ _ hb, hl⟩) fun fl zs' hfl _ _ z => ?_
            rw [z, g2] at hfl
            cases hfl
          · show ys.length + 0 ≤ _
            omega
        generalize upd H1 lf (.lst []) = H2 at hWP
        refine ⟨WP H p fd (.int (0 + n)) (100 * (n + 1)), ⟨_, hWP⟩, ?_⟩
        rintro m σ HA ⟨I, ws, zs, lf, q4, q5, q6, q7, q8, q9, rfl, rfl, sA, nlf, nlfd, hlf, hI, hfd2, hfe2, hB⟩
        refine ⟨_, rfl, small (by decide), fun c hc => ⟨lf, c, _, rfl, rfl, SqL.of (by rw [upd_ne (ne_of_none hlf hc)]; exact hlf), SqL.of upd_same, _, rfl, ?_⟩⟩
        have sB := sameU (o := .lst []) sA hc
        have kB := KT.new (o := .lst []) hc
        have hlfB : upd HA c (.lst []) lf = some (.lst ws.reverse) := by rw [upd_ne (ne_of_none hlf hc)]; exact hlf
        have hfdB : upd HA c (.lst []) fd = some (.lst zs) := by rw [upd_ne (ne_of_none hfd2 hc)]; exact hfd2
        have hIB : Paired (ItP (upd HA c (.lst [])) zs.length) I ws := paired_mono (fun _ _ z => z.on kB (Nat.le_refl _)) hI
        have hfeB : ∀ v ∈ zs, FE H fd lf (upd HA c (.lst [])) zs.length v := fun v hv => (hfe2 v hv).on kB (fun b zs' _ _ hb hl => ⟨zs', by rw [upd_ne (ne_of_none hb hc)]; exact hb, hl⟩) (fun fl zs' hfl _ hne => hne)
        generalize upd HA c (.lst []) = HB at sB hlfB hfdB hIB hfeB
        clear sA hlf hI hfd2 hfe2 hc kB
        match I, hIB, hB with
        | [], hIB, hB =>
          cases pc_nil hIB
          refine ifF rfl ?_
          exact ⟨zs, _, _, _, _, _, _, _, _, rfl, sB, hfdB, by simpa [szI] using hB, fun v hv => (hfeB v hv).on KT.refl (fun b zs' _ _ hb hl => ⟨zs', hb, hl⟩) (fun fl zs' hfl hne _ => hne)⟩
        | (t, dd) :: I, hIB, hB =>
          obtain ⟨x, wr, rfl, ⟨tq2, pp, ps, tv, hh, rfl, htq2, hpp, lps, ldd, hat2, hh0, hh1⟩, hIr⟩ := pc_cons hIB
          refine ifT (by simp) ?_
          have ldd' : dd + t.size ≤ 101 := ldd
          have lps' : ps.length ≤ dd := lps
          have lwr : wr.length ≤ 400 := by
            have := hIr.length
            have := len_szI I
            have e1 : szI ((t, dd) :: I) = t.size + szI I := rfl
            omega
          have ews : (V.ref tq2 :: wr).reverse = wr.reverse ++ [V.ref tq2] := List.reverse_cons
          rw [ews] at hlfB
          refine ⟨fun σ' H'' => ∃ m', m' < szI ((t, dd) :: I) ∧ WP H p fd (.int (0 + n)) (100 * (n + 1)) m' σ' H'', fun σ' H'' h => h, ?_⟩
          refine ⟨_, rfl, .inl ⟨rfl, _, SqL.of hlfB⟩, lf, _, .ref tq2, rfl, rfl, hlfB, by simp, ?_⟩
          rw [List.dropLast_concat]
          have kC : KT HB (upd HB lf (.lst wr.reverse)) := KT.lst hlfB
          have s3 : Same H (upd HB lf (.lst wr.reverse)) := sameN sB nlf
          have hlf3 : upd HB lf (.lst wr.reverse) lf = some (.lst wr.reverse) := upd_same
          have hfd3 : upd HB lf (.lst wr.reverse) fd = some (.lst zs) := by rw [upd_ne (Ne.symm nlfd)]; exact hfdB
          have hI3 : Paired (ItP (upd HB lf (.lst wr.reverse)) zs.length) I wr := paired_mono (fun _ _ z => z.on kC (Nat.le_refl _)) hIr
          have hfe3 : ∀ v ∈ zs, FE H fd lf (upd HB lf (.lst wr.reverse)) zs.length v := fun v hv => (hfeB v hv).on kC (fun b zs' _ hb2 hb hl => ⟨zs', by rw [upd_ne hb2]; exact hb, hl⟩) (fun fl zs' hfl _ hne => hne)
          have htq3 := kC _ _ htq2
          have hpp3 := kC _ _ hpp
          have hat3 := hat2.on kC
          generalize upd HB lf (.lst wr.reverse) = H3 at s3 hlf3 hfd3 hI3 hfe3 htq3 hpp3 hat3
          clear sB hlfB hfdB hIB hfeB hIr htq2 hpp hat2 kC
          refine ⟨tq2, _, rfl, .inl (.inl htq3), rfl, _, _, rfl, _, _, rfl, _, _, rfl, rfl, ?_⟩
          refine ⟨_, rfl, fd, zs, rfl, .inl (SqL.of hfd3), ?_⟩
          have lzs : zs.length ≤ 400 := by omega
          refine ⟨_, rfl, .inl ⟨rfl, _, SqL.of hfd3⟩, _, rfl, _, rfl, _, rfl, small (by decide), fun fl hfl => ⟨K1.d4, fun nq hnq => ⟨fd, zs, .ref nq, rfl, rfl, ?_, by rw [sizeLine_eq]; omega, ?_⟩⟩⟩
          · rw [upd_ne (ne_of_none (by rw [upd_ne (ne_of_none hfd3 hfl)]; exact hfd3) hnq), upd_ne (ne_of_none hfd3 hfl)]
            exact hfd3
          have hfdx : upd (upd H3 fl (.lst [])) nq (.tup [.int (0 + n), .ref pp, tv, .ref fl]) fd = some (.lst zs) := by
            rw [upd_ne (ne_of_none (by rw [upd_ne (ne_of_none hfd3 hfl)]; exact hfd3) hnq), upd_ne (ne_of_none hfd3 hfl)]
            exact hfd3
          have sx : Same H3 (upd (upd H3 fl (.lst [])) nq (.tup [.int (0 + n), .ref pp, tv, .ref fl])) := sameU (Same.new hfl) hnq
          have ky : KT _ (upd (upd (upd H3 fl (.lst [])) nq (.tup [.int (0 + n), .ref pp, tv, .ref fl])) fd (.lst (zs ++ [.ref nq]))) := KT.lst hfdx
          have kD := (KT.same sx).trans ky
          have keep : ∀ b o, b ≠ fd → H3 b = some o → upd (upd (upd H3 fl (.lst [])) nq (.tup [.int (0 + n), .ref pp, tv, .ref fl])) fd (.lst (zs ++ [.ref nq])) b = some o := fun b o hb e => by rw [upd_ne hb]; exact sx _ _ e
          have nfl1 : fl ≠ fd := fun z => by rw [z, hfd3] at hfl; cases hfl
          have nfl2 : fl ≠ lf := fun z => by rw [z, hlf3] at hfl; cases hfl
          have s6 : Same H (upd (upd (upd H3 fl (.lst [])) nq (.tup [.int (0 + n), .ref pp, tv, .ref fl])) fd (.lst (zs ++ [.ref nq]))) := fun b o e => keep b o (ne_of_none e hfd) (s3 _ _ e)
          have hnew : FE H fd lf (upd (upd (upd H3 fl (.lst [])) nq (.tup [.int (0 + n), .ref pp, tv, .ref fl])) fd (.lst (zs ++ [.ref nq]))) zs.length (.ref nq) := ⟨nq, _, _, _, fl, [], rfl, ky _ _ upd_same, s3.free hfl, nfl1, nfl2, by rw [upd_ne nfl1, upd_ne (ne_of_none upd_same hnq)]; exact upd_same, Nat.zero_le _⟩
          have hfe6 : ∀ v ∈ zs ++ [.ref nq], FE H fd lf (upd (upd (upd H3 fl (.lst [])) nq (.tup [.int (0 + n), .ref pp, tv, .ref fl])) fd (.lst (zs ++ [.ref nq]))) zs.length v := fun v hv => by
            rcases List.mem_append.mp hv with hv | hv
            · exact (hfe3 v hv).on kD (fun b zs' hb1 _ hb hl => ⟨zs', keep _ _ hb1 hb, hl⟩) (fun fl zs' hfl _ hne => hne)
            · rw [List.mem_singleton] at hv
              rw [hv]
              exact hnew
          have hlf6 := keep _ _ nlfd hlf3
          have hfd6 : upd (upd (upd H3 fl (.lst [])) nq (.tup [.int (0 + n), .ref pp, tv, .ref fl])) fd (.lst (zs ++ [.ref nq])) fd = some (.lst (zs ++ [.ref nq])) := upd_same
          have hI6 : Paired (ItP (upd (upd (upd H3 fl (.lst [])) nq (.tup [.int (0 + n), .ref pp, tv, .ref fl])) fd (.lst (zs ++ [.ref nq]))) (zs.length + 1)) I wr := paired_mono (fun _ _ z => z.on kD (Nat.le_succ _)) hI3
          have hat6 := hat3.on kD
          have hpp6 := kD _ _ hpp3
          generalize upd (upd (upd H3 fl (.lst [])) nq (.tup [.int (0 + n), .ref pp, tv, .ref fl])) fd (.lst (zs ++ [.ref nq])) = H6 at s6 hfe6 hlf6 hfd6 hI6 hat6 hpp6
          clear hnew keep kD ky sx hfdx hfl hnq s3 hlf3 hfd3 hI3 hfe3 htq3 hpp3 hat3 nfl1 nfl2
          refine ⟨_, rfl, _, _, rfl, rfl, _, rfl, ?_⟩
          by_cases hge : hh ≥ 0
          · refine ifT (decide_eq_true hge) ?_
            have hlt : hh.toNat < (zs ++ [V.ref nq]).length := by rw [List.length_append, List.length_singleton]; omega
            obtain ⟨eq', ea, eb, ec, efl, ezs, ev, heq, hn0, hn1, hn2, hefl, hel⟩ := hfe6 _ (List.getElem_mem hlt)
            have hate : atI (zs ++ [V.ref nq]) hh = some (.ref eq') := by
              rw [← ev]
              exact atI_of hge (by omega) (List.getElem?_eq_getElem hlt)
            refine ⟨_, rfl, _, rfl, fd, _, hh, _, rfl, rfl, SqL.of hfd6, hate, eq', _, 3, .ref efl, rfl, rfl, .inl (.inl heq), rfl, .inl ⟨rfl, _, SqL.of hefl⟩, _, rfl, efl, ezs, _, rfl, rfl, hefl, by rw [sizeLine_eq]; omega, ?_⟩
            have k7 : KT H6 (upd H6 efl (.lst (ezs ++ [.int (zs.length : Nat)]))) := KT.lst hefl
            have s7 : Same H (upd H6 efl (.lst (ezs ++ [.int (zs.length : Nat)]))) := sameN s6 hn0
            have hlf7 : upd H6 efl (.lst (ezs ++ [.int (zs.length : Nat)])) lf = some (.lst wr.reverse) := by rw [upd_ne (Ne.symm hn2)]; exact hlf6
            have hfd7 : upd H6 efl (.lst (ezs ++ [.int (zs.length : Nat)])) fd = some (.lst (zs ++ [.ref nq])) := by rw [upd_ne (Ne.symm hn1)]; exact hfd6
            have hI7 : Paired (ItP (upd H6 efl (.lst (ezs ++ [.int (zs.length : Nat)]))) (zs.length + 1)) I wr := paired_mono (fun _ _ z => z.on k7 (Nat.le_refl _)) hI6
            have hfe7 : ∀ v ∈ zs ++ [.ref nq], FE H fd lf (upd H6 efl (.lst (ezs ++ [.int (zs.length : Nat)]))) (zs.length + 1) v := fun v hv => (hfe6 v hv).on k7 (fun b zs' _ _ hb hl => by
              by_cases hbe : b = efl
              · rw [hbe, hefl] at hb
                cases hb
                exact ⟨_, by rw [hbe]; exact upd_same, by rw [List.length_append, List.length_singleton]; omega⟩
              · exact ⟨zs', by rw [upd_ne hbe]; exact hb, by omega⟩) (fun fl zs' hfl _ hne => hne)
            have hat7 := hat6.on k7
            have hpp7 := k7 _ _ hpp6
            generalize upd H6 efl (.lst (ezs ++ [.int (zs.length : Nat)])) = H7 at s7 hlf7 hfd7 hI7 hfe7 hat7 hpp7
            refine ⟨_, rfl, tv, t, rfl, hat7, fun H8 pl ts s8 np hpl hps => ?_⟩
            have k8 := KT.same s8
            have sC : Same H H8 := fun b o e => s8 b o (s7 b o e)
            have hlf8 := s8 _ _ hlf7
            have hfd8 := s8 _ _ hfd7
            have hI8 : Paired (ItP H8 (zs.length + 1)) I wr := paired_mono (fun _ _ z => z.on k8 (Nat.le_refl _)) hI7
            have hfe8 : ∀ v ∈ zs ++ [.ref nq], FE H fd lf H8 (zs.length + 1) v := fun v hv => (hfe7 v hv).on k8 (fun b zs' _ _ hb hl => ⟨zs', s8 _ _ hb, hl⟩) (fun fl zs' hfl _ hne => hne)
            have hpp8 := k8 _ _ hpp7
            have lp := hps.length
            have n3 := kids3 t
            refine ⟨_, rfl, _, rfl, pl, ts, rfl, .inl (SqL.of hpl), _, rfl, by omega, by omega, fun D hD => ?_⟩
            rw [Int.toNat_natCast]
            have nDs : ∀ {b o}, H8 b = some o → b ≠ D := fun e => ne_of_none e hD
            refine lc_range (lo := 0) (n := ts.length) (fun k H9 => Same H8 H9 ∧ ∃ as, H9 D = some (.lst as) ∧ as.length = k ∧ Paired (ItP H9 (zs.length + 1)) ((t.parts.take k).map fun u => (u, dd + 1)) as) ⟨Same.new hD, [], upd_same, rfl, .nil⟩ ?_ ?_
            · rintro k H9 hk ⟨s9, as, has, las, pas⟩
              obtain ⟨u, hu, hau⟩ := paired_backB hps (List.getElem?_eq_getElem hk)
              have hum : u ∈ t.parts := List.mem_of_getElem? hu
              have ule := kid_le hum
              have hpp9 := s9 _ _ hpp8
              have hpl9 := s9 _ _ hpl
              have fin3 : ∀ (Hx : Hp) (pw : Addr) (psw : List V), Same H9 Hx → Hx pw = some (.tup psw) → psw.length ≤ dd + 1 → ∀ x1, Hx x1 = none → (fun k H9 => Same H8 H9 ∧ ∃ as, H9 D = some (.lst as) ∧ as.length = k ∧ Paired (ItP H9 (zs.length + 1)) ((t.parts.take k).map fun u => (u, dd + 1)) as) (k + 1) (upd (upd Hx x1 (.tup [.ref pw, ts[k], .int (zs.length : Nat)])) D (.lst (as ++ [.ref x1]))) := fun Hx pw psw sx hpw lpw x1 gx => by
                have hasx : upd Hx x1 (.tup [.ref pw, ts[k], .int (zs.length : Nat)]) D = some (.lst as) := by rw [upd_ne (ne_of_none (sx _ _ has) gx)]; exact sx _ _ has
                have ky : KT (upd Hx x1 (.tup [.ref pw, ts[k], .int (zs.length : Nat)])) (upd (upd Hx x1 (.tup [.ref pw, ts[k], .int (zs.length : Nat)])) D (.lst (as ++ [.ref x1]))) := KT.lst hasx
                have kx := (KT.new (o := .tup [.ref pw, ts[k], .int (zs.length : Nat)]) gx).trans ky
                have k9x := (KT.same sx).trans kx
                refine ⟨fun b o e => ?_, as ++ [.ref x1], upd_same, by simp [las], ?_⟩
                · rw [upd_ne (nDs e), upd_ne (ne_of_none (sx _ _ (s9 _ _ e)) gx)]
                  exact sx _ _ (s9 _ _ e)
                · rw [List.take_add_one, hu, List.map_append]
                  exact paired_appB (paired_mono (fun _ _ z => z.on k9x (Nat.le_refl _)) pas) (.cons ⟨x1, pw, psw, ts[k], _, rfl, ky _ _ upd_same, kx _ _ hpw, lpw, by show dd + 1 + u.size ≤ 101; omega, hau.on ((KT.same s9).trans k9x), by omega, by omega⟩ .nil)
              have hat9 : atI ts (0 + (k : Int)) = some ts[k] := by
                rw [show (0 : Int) + (k : Int) = (k : Int) by omega]
                exact atI_of (by omega) (by omega) (by rw [Int.toNat_natCast]; exact List.getElem?_eq_getElem hk)
              have szas : as.length < sizeLine := by rw [las, sizeLine_eq]; omega
              refine ⟨rfl, iteT (B := (fun k H9 => Same H8 H9 ∧ ∃ as, H9 D = some (.lst as) ∧ as.length = k ∧ Paired (ItP H9 (zs.length + 1)) ((t.parts.take k).map fun u => (u, dd + 1)) as) (k + 1) H9) ⟨_, rfl, _, rfl, sz1, fun u1 g1 => ?_⟩⟩
              have su := Same.new (o := .tup [.int (0 + (k : Int))]) g1
              refine ⟨pp, u1, ps, _, rfl, rfl, .inl (.inl (su _ _ hpp9)), .inl (.inl upd_same), small (by show ps.length + 1 ≤ 1000; omega), fun hz => ?_, fun _ hz => absurd hz (by simp), fun hz _ pn gn => ?_⟩
              · refine ⟨_, rfl, _, rfl, pl, ts, _, _, rfl, rfl, SqL.of (su _ _ hpl9), hat9, _, rfl, sz3, fun x1 gx => ⟨as, by rw [upd_ne (ne_of_none (su _ _ has) gx)]; exact su _ _ has, szas, ?_⟩⟩
                exact fin3 _ u1 _ su upd_same (by simp) x1 gx
              · have sv := sameU (o := .tup (ps ++ [.int (0 + (k : Int))])) su gn
                refine ⟨_, rfl, _, rfl, pl, ts, _, _, rfl, rfl, SqL.of (sv _ _ hpl9), hat9, _, rfl, sz3, fun x1 gx => ⟨as, by rw [upd_ne (ne_of_none (sv _ _ has) gx)]; exact sv _ _ has, szas, ?_⟩⟩
                exact fin3 _ pn _ sv upd_same (by rw [List.length_append, List.length_singleton]; omega) x1 gx
            · rintro H9 ⟨s9, as, has, las, pas⟩
              rw [show t.parts.take ts.length = t.parts by rw [← lp]; simp] at pas
              refine ⟨D, as, rfl, SqL.of has, fun rv grv => ⟨lf, rv, _, _, rfl, rfl, by rw [upd_ne (ne_of_none (s9 _ _ hlf8) grv)]; exact s9 _ _ hlf8, upd_same, small (by rw [List.length_reverse, List.length_reverse]; omega), fun nl gnl => ?_⟩⟩
              have sr : Same H9 (upd H9 rv (.lst as.reverse)) := Same.new grv
              have sn := sameU (o := .lst (wr.reverse ++ as.reverse)) sr gnl
              have s89 : Same H8 (upd (upd H9 rv (.lst as.reverse)) nl (.lst (wr.reverse ++ as.reverse))) := fun b o e => sn b o (s9 b o e)
              have kn := KT.same sn
              have f5 : H nl = none := (show Same H (upd H9 rv (.lst as.reverse)) from fun b o e => sr b o (s9 b o (sC b o e))).free gnl
              have nne : ∀ {b o}, H8 b = some o → nl ≠ b := fun e z => by
                have := sr _ _ (s9 _ _ e)
                rw [← z, gnl] at this
                cases this
              refine ⟨szI (t.parts.map (fun u => (u, dd + 1)) ++ I), ?_, t.parts.map (fun u => (u, dd + 1)) ++ I, as ++ wr, zs ++ [.ref nq], nl, _, _, _, _, _, _, rfl, rfl, fun b o e => s89 b o (sC b o e), f5, nne hfd8, ?_, ?_, s89 _ _ hfd8, fun v hv => ?_, ?_⟩
              · rw [szI_app, szI_map]
                show _ < t.size + szI I
                rw [t.size_eq]
                unfold T.kids
                omega
              · rw [upd_same, List.reverse_append]
              · rw [List.length_append, List.length_singleton]
                exact paired_appB (paired_mono (fun _ _ z => z.on kn (Nat.le_refl _)) pas) (paired_mono (fun _ _ z => z.on (KT.same s89) (Nat.le_refl _)) hI8)
              · rw [List.length_append, List.length_singleton]
                exact (hfe8 v hv).on (KT.same s89) (fun b zs' _ _ hb hl => ⟨zs', s89 _ _ hb, hl⟩) fun fl zs' hfl _ _ z => (nne hfl) z.symm
              · rw [szI_app, szI_map, List.length_append, List.length_singleton]
                have e1 : szI ((t, dd) :: I) = t.size + szI I := rfl
                rw [e1, t.size_eq] at hB
                unfold T.kids at hB
                omega
          · refine ifF (decide_eq_false hge) ?_
            have s7 := s6
            have hlf7 := hlf6
            have hfd7 := hfd6
            have hI7 := hI6
            have hfe7 : ∀ v ∈ zs ++ [.ref nq], FE H fd lf H6 (zs.length + 1) v := fun v hv => (hfe6 v hv).on KT.refl (fun b zs' _ _ hb hl => ⟨zs', hb, by omega⟩) (fun fl zs' hfl _ hne => hne)
            have hat7 := hat6
            have hpp7 := hpp6
            refine ⟨_, rfl, tv, t, rfl, hat7, fun H8 pl ts s8 np hpl hps => ?_⟩
            have k8 := KT.same s8
            have sC : Same H H8 := fun b o e => s8 b o (s7 b o e)
            have hlf8 := s8 _ _ hlf7
            have hfd8 := s8 _ _ hfd7
            have hI8 : Paired (ItP H8 (zs.length + 1)) I wr := paired_mono (fun _ _ z => z.on k8 (Nat.le_refl _)) hI7
            have hfe8 : ∀ v ∈ zs ++ [.ref nq], FE H fd lf H8 (zs.length + 1) v := fun v hv => (hfe7 v hv).on k8 (fun b zs' _ _ hb hl => ⟨zs', s8 _ _ hb, hl⟩) (fun fl zs' hfl _ hne => hne)
            have hpp8 := k8 _ _ hpp7
            have lp := hps.length
            have n3 := kids3 t
            refine ⟨_, rfl, _, rfl, pl, ts, rfl, .inl (SqL.of hpl), _, rfl, by omega, by omega, fun D hD => ?_⟩
            rw [Int.toNat_natCast]
            have nDs : ∀ {b o}, H8 b = some o → b ≠ D := fun e => ne_of_none e hD
            refine lc_range (lo := 0) (n := ts.length) (fun k H9 => Same H8 H9 ∧ ∃ as, H9 D = some (.lst as) ∧ as.length = k ∧ Paired (ItP H9 (zs.length + 1)) ((t.parts.take k).map fun u => (u, dd + 1)) as) ⟨Same.new hD, [], upd_same, rfl, .nil⟩ ?_ ?_
            · rintro k H9 hk ⟨s9, as, has, las, pas⟩
              obtain ⟨u, hu, hau⟩ := paired_backB hps (List.getElem?_eq_getElem hk)
              have hum : u ∈ t.parts := List.mem_of_getElem? hu
              have ule := kid_le hum
              have hpp9 := s9 _ _ hpp8
              have hpl9 := s9 _ _ hpl
              have fin3 : ∀ (Hx : Hp) (pw : Addr) (psw : List V), Same H9 Hx → Hx pw = some (.tup psw) → psw.length ≤ dd + 1 → ∀ x1, Hx x1 = none → (fun k H9 => Same H8 H9 ∧ ∃ as, H9 D = some (.lst as) ∧ as.length = k ∧ Paired (ItP H9 (zs.length + 1)) ((t.parts.take k).map fun u => (u, dd + 1)) as) (k + 1) (upd (upd Hx x1 (.tup [.ref pw, ts[k], .int (zs.length : Nat)])) D (.lst (as ++ [.ref x1]))) := fun Hx pw psw sx hpw lpw x1 gx => by
                have hasx : upd Hx x1 (.tup [.ref pw, ts[k], .int (zs.length : Nat)]) D = some (.lst as) := by rw [upd_ne (ne_of_none (sx _ _ has) gx)]; exact sx _ _ has
                have ky : KT (upd Hx x1 (.tup [.ref pw, ts[k], .int (zs.length : Nat)])) (upd (upd Hx x1 (.tup [.ref pw, ts[k], .int (zs.length : Nat)])) D (.lst (as ++ [.ref x1]))) := KT.lst hasx
                have kx := (KT.new (o := .tup [.ref pw, ts[k], .int (zs.length : Nat)]) gx).trans ky
                have k9x := (KT.same sx).trans kx
                refine ⟨fun b o e => ?_, as ++ [.ref x1], upd_same, by simp [las], ?_⟩
                · rw [upd_ne (nDs e), upd_ne (ne_of_none (sx _ _ (s9 _ _ e)) gx)]
                  exact sx _ _ (s9 _ _ e)
                · rw [List.take_add_one, hu, List.map_append]
                  exact paired_appB (paired_mono (fun _ _ z => z.on k9x (Nat.le_refl _)) pas) (.cons ⟨x1, pw, psw, ts[k], _, rfl, ky _ _ upd_same, kx _ _ hpw, lpw, by show dd + 1 + u.size ≤ 101; omega, hau.on ((KT.same s9).trans k9x), by omega, by omega⟩ .nil)
              have hat9 : atI ts (0 + (k : Int)) = some ts[k] := by
                rw [show (0 : Int) + (k : Int) = (k : Int) by omega]
                exact atI_of (by omega) (by omega) (by rw [Int.toNat_natCast]; exact List.getElem?_eq_getElem hk)
              have szas : as.length < sizeLine := by rw [las, sizeLine_eq]; omega
              refine ⟨rfl, iteT (B := (fun k H9 => Same H8 H9 ∧ ∃ as, H9 D = some (.lst as) ∧ as.length = k ∧ Paired (ItP H9 (zs.length + 1)) ((t.parts.take k).map fun u => (u, dd + 1)) as) (k + 1) H9) ⟨_, rfl, _, rfl, sz1, fun u1 g1 => ?_⟩⟩
              have su := Same.new (o := .tup [.int (0 + (k : Int))]) g1
              refine ⟨pp, u1, ps, _, rfl, rfl, .inl (.inl (su _ _ hpp9)), .inl (.inl upd_same), small (by show ps.length + 1 ≤ 1000; omega), fun hz => ?_, fun _ hz => absurd hz (by simp), fun hz _ pn gn => ?_⟩
              · refine ⟨_, rfl, _, rfl, pl, ts, _, _, rfl, rfl, SqL.of (su _ _ hpl9), hat9, _, rfl, sz3, fun x1 gx => ⟨as, by rw [upd_ne (ne_of_none (su _ _ has) gx)]; exact su _ _ has, szas, ?_⟩⟩
                exact fin3 _ u1 _ su upd_same (by simp) x1 gx
              · have sv := sameU (o := .tup (ps ++ [.int (0 + (k : Int))])) su gn
                refine ⟨_, rfl, _, rfl, pl, ts, _, _, rfl, rfl, SqL.of (sv _ _ hpl9), hat9, _, rfl, sz3, fun x1 gx => ⟨as, by rw [upd_ne (ne_of_none (sv _ _ has) gx)]; exact sv _ _ has, szas, ?_⟩⟩
                exact fin3 _ pn _ sv upd_same (by rw [List.length_append, List.length_singleton]; omega) x1 gx
            · rintro H9 ⟨s9, as, has, las, pas⟩
              rw [show t.parts.take ts.length = t.parts by rw [← lp]; simp] at pas
              refine ⟨D, as, rfl, SqL.of has, fun rv grv => ⟨lf, rv, _, _, rfl, rfl, by rw [upd_ne (ne_of_none (s9 _ _ hlf8) grv)]; exact s9 _ _ hlf8, upd_same, small (by rw [List.length_reverse, List.length_reverse]; omega), fun nl gnl => ?_⟩⟩
              have sr : Same H9 (upd H9 rv (.lst as.reverse)) := Same.new grv
              have sn := sameU (o := .lst (wr.reverse ++ as.reverse)) sr gnl
              have s89 : Same H8 (upd (upd H9 rv (.lst as.reverse)) nl (.lst (wr.reverse ++ as.reverse))) := fun b o e => sn b o (s9 b o e)
              have kn := KT.same sn
              have f5 : H nl = none := (show Same H (upd H9 rv (.lst as.reverse)) from fun b o e => sr b o (s9 b o (sC b o e))).free gnl
              have nne : ∀ {b o}, H8 b = some o → nl ≠ b := fun e z => by
                have := sr _ _ (s9 _ _ e)
                rw [← z, gnl] at this
                cases this
              refine ⟨szI (t.parts.map (fun u => (u, dd + 1)) ++ I), ?_, t.parts.map (fun u => (u, dd + 1)) ++ I, as ++ wr, zs ++ [.ref nq], nl, _, _, _, _, _, _, rfl, rfl, fun b o e => s89 b o (sC b o e), f5, nne hfd8, ?_, ?_, s89 _ _ hfd8, fun v hv => ?_, ?_⟩
              · rw [szI_app, szI_map]
                show _ < t.size + szI I
                rw [t.size_eq]
                unfold T.kids
                omega
              · rw [upd_same, List.reverse_append]
              · rw [List.length_append, List.length_singleton]
                exact paired_appB (paired_mono (fun _ _ z => z.on kn (Nat.le_refl _)) pas) (paired_mono (fun _ _ z => z.on (KT.same s89) (Nat.le_refl _)) hI8)
              · rw [List.length_append, List.length_singleton]
                exact (hfe8 v hv).on (KT.same s89) (fun b zs' _ _ hb hl => ⟨zs', s89 _ _ hb, hl⟩) fun fl zs' hfl _ _ z => (nne hfl) z.symm
              · rw [szI_app, szI_map, List.length_append, List.length_singleton]
                have e1 : szI ((t, dd) :: I) = t.size + szI I := rfl
                rw [e1, t.size_eq] at hB
                unfold T.kids at hB
                omega
      | .lt x0 t, ⟨tq, y, e, ht, hay⟩, hro =>
        rw [e] at hxat
        refine ⟨_, rfl, _, rfl, p, xs, _, _, rfl, rfl, SqL.of (s1 _ _ hp), hxat, tq, _, 0, .str "let", rfl, rfl, .inl (.inl ht), rfl, rfl, _, rfl, ifT nLG ?_⟩
        refine ⟨small (by decide), fun u0 g0 => ⟨_, rfl, _, rfl, p, xs, _, _, rfl, rfl, SqL.of ((sameU s1 g0) _ _ hp), hxat, _, rfl, tq, _, -1, y, rfl, rfl, .inl (.inl (KT.new g0 _ _ ht)), rfl, _, rfl, sz3, fun u1 g1 => ⟨sz1, fun lf g2 => ?_⟩⟩⟩
        have hWP : WP H p fd (.int (0 + n)) (100 * (n + 1)) (szI [(t, 0)]) [some (.ref p), some (.ref fd), some (.int (0 + n)), some (.ref lf), o4, o5, o6, o7, o8, o9] (upd (upd (upd H1 u0 (.tup [])) u1 (.tup [.ref u0, y, .int (-1)])) lf (.lst [.ref u1])) := by
          have v1 := sameU (o := .tup []) s1 g0
          have v2 := sameU (o := .tup [.ref u0, y, .int (-1)]) v1 g1
          have v3 := sameU (o := .lst [.ref u1]) v2 g2
          have w3 : Same H1 (upd (upd (upd H1 u0 (.tup [])) u1 (.tup [.ref u0, y, .int (-1)])) lf (.lst [.ref u1])) := sameU (sameU (Same.new g0) g1) g2
          have nlf : lf ≠ fd := fun z => by
            have := (sameU (o := .tup [.ref u0, y, .int (-1)]) (Same.new (o := .tup []) g0) g1) _ _ hf1
            rw [← z, g2] at this
            cases this
          refine ⟨[(t, 0)], [.ref u1], ys, lf, _, _, _, _, _, _, rfl, rfl, v3, v2.free g2, nlf, upd_same, .cons ⟨u1, u0, [], y, -1, rfl, KT.new g2 _ _ upd_same, (KT.new g1 |>.trans (KT.new g2)) _ _ upd_same, Nat.le_refl _, by have := hro.2.2; show 0 + t.size ≤ 101; omega, hay.on (KT.same w3), by decide, by omega⟩ .nil, w3 _ _ hf1, fun v hv => ?_, ?_⟩
          · refine (hfe v hv).on (KT.same w3) (fun b zs' _ _ hb hl => ⟨zs', w3 _ _ hb, hl⟩) fun fl zs' hfl _ _ z => ?_
            have := (sameU (o := .tup [.ref u0, y, .int (-1)]) (Same.new (o := .tup []) g0) g1) _ _ hfl
            rw [z, g2] at this
            cases this
          · have := hro.2.2
            show ys.length + (t.size + 0) ≤ _
            omega
        generalize upd (upd (upd H1 u0 (.tup [])) u1 (.tup [.ref u0, y, .int (-1)])) lf (.lst [.ref u1]) = H2 at hWP
        refine ⟨WP H p fd (.int (0 + n)) (100 * (n + 1)), ⟨_, hWP⟩, ?_⟩
        rintro m σ HA ⟨I, ws, zs, lf, q4, q5, q6, q7, q8, q9, rfl, rfl, sA, nlf, nlfd, hlf, hI, hfd2, hfe2, hB⟩
        refine ⟨_, rfl, small (by decide), fun c hc => ⟨lf, c, _, rfl, rfl, SqL.of (by rw [upd_ne (ne_of_none hlf hc)]; exact hlf), SqL.of upd_same, _, rfl, ?_⟩⟩
        have sB := sameU (o := .lst []) sA hc
        have kB := KT.new (o := .lst []) hc
        have hlfB : upd HA c (.lst []) lf = some (.lst ws.reverse) := by rw [upd_ne (ne_of_none hlf hc)]; exact hlf
        have hfdB : upd HA c (.lst []) fd = some (.lst zs) := by rw [upd_ne (ne_of_none hfd2 hc)]; exact hfd2
        have hIB : Paired (ItP (upd HA c (.lst [])) zs.length) I ws := paired_mono (fun _ _ z => z.on kB (Nat.le_refl _)) hI
        have hfeB : ∀ v ∈ zs, FE H fd lf (upd HA c (.lst [])) zs.length v := fun v hv => (hfe2 v hv).on kB (fun b zs' _ _ hb hl => ⟨zs', by rw [upd_ne (ne_of_none hb hc)]; exact hb, hl⟩) (fun fl zs' hfl _ hne => hne)
        generalize upd HA c (.lst []) = HB at sB hlfB hfdB hIB hfeB
        clear sA hlf hI hfd2 hfe2 hc kB
        match I, hIB, hB with
        | [], hIB, hB =>
          cases pc_nil hIB
          refine ifF rfl ?_
          exact ⟨zs, _, _, _, _, _, _, _, _, rfl, sB, hfdB, by simpa [szI] using hB, fun v hv => (hfeB v hv).on KT.refl (fun b zs' _ _ hb hl => ⟨zs', hb, hl⟩) (fun fl zs' hfl hne _ => hne)⟩
        | (t, dd) :: I, hIB, hB =>
          obtain ⟨x, wr, rfl, ⟨tq2, pp, ps, tv, hh, rfl, htq2, hpp, lps, ldd, hat2, hh0, hh1⟩, hIr⟩ := pc_cons hIB
          refine ifT (by simp) ?_
          have ldd' : dd + t.size ≤ 101 := ldd
          have lps' : ps.length ≤ dd := lps
          have lwr : wr.length ≤ 400 := by
            have := hIr.length
            have := len_szI I
            have e1 : szI ((t, dd) :: I) = t.size + szI I := rfl
            omega
          have ews : (V.ref tq2 :: wr).reverse = wr.reverse ++ [V.ref tq2] := List.reverse_cons
          rw [ews] at hlfB
          refine ⟨fun σ' H'' => ∃ m', m' < szI ((t, dd) :: I) ∧ WP H p fd (.int (0 + n)) (100 * (n + 1)) m' σ' H'', fun σ' H'' h => h, ?_⟩
          refine ⟨_, rfl, .inl ⟨rfl, _, SqL.of hlfB⟩, lf, _, .ref tq2, rfl, rfl, hlfB, by simp, ?_⟩
          rw [List.dropLast_concat]
          have kC : KT HB (upd HB lf (.lst wr.reverse)) := KT.lst hlfB
          have s3 : Same H (upd HB lf (.lst wr.reverse)) := sameN sB nlf
          have hlf3 : upd HB lf (.lst wr.reverse) lf = some (.lst wr.reverse) := upd_same
          have hfd3 : upd HB lf (.lst wr.reverse) fd = some (.lst zs) := by rw [upd_ne (Ne.symm nlfd)]; exact hfdB
          have hI3 : Paired (ItP (upd HB lf (.lst wr.reverse)) zs.length) I wr := paired_mono (fun _ _ z => z.on kC (Nat.le_refl _)) hIr
          have hfe3 : ∀ v ∈ zs, FE H fd lf (upd HB lf (.lst wr.reverse)) zs.length v := fun v hv => (hfeB v hv).on kC (fun b zs' _ hb2 hb hl => ⟨zs', by rw [upd_ne hb2]; exact hb, hl⟩) (fun fl zs' hfl _ hne => hne)
          have htq3 := kC _ _ htq2
          have hpp3 := kC _ _ hpp
          have hat3 := hat2.on kC
          generalize upd HB lf (.lst wr.reverse) = H3 at s3 hlf3 hfd3 hI3 hfe3 htq3 hpp3 hat3
          clear sB hlfB hfdB hIB hfeB hIr htq2 hpp hat2 kC
          refine ⟨tq2, _, rfl, .inl (.inl htq3), rfl, _, _, rfl, _, _, rfl, _, _, rfl, rfl, ?_⟩
          refine ⟨_, rfl, fd, zs, rfl, .inl (SqL.of hfd3), ?_⟩
          have lzs : zs.length ≤ 400 := by omega
          refine ⟨_, rfl, .inl ⟨rfl, _, SqL.of hfd3⟩, _, rfl, _, rfl, _, rfl, small (by decide), fun fl hfl => ⟨K1.d4, fun nq hnq => ⟨fd, zs, .ref nq, rfl, rfl, ?_, by rw [sizeLine_eq]; omega, ?_⟩⟩⟩
          · rw [upd_ne (ne_of_none (by rw [upd_ne (ne_of_none hfd3 hfl)]; exact hfd3) hnq), upd_ne (ne_of_none hfd3 hfl)]
            exact hfd3
          have hfdx : upd (upd H3 fl (.lst [])) nq (.tup [.int (0 + n), .ref pp, tv, .ref fl]) fd = some (.lst zs) := by
            rw [upd_ne (ne_of_none (by rw [upd_ne (ne_of_none hfd3 hfl)]; exact hfd3) hnq), upd_ne (ne_of_none hfd3 hfl)]
            exact hfd3
          have sx : Same H3 (upd (upd H3 fl (.lst [])) nq (.tup [.int (0 + n), .ref pp, tv, .ref fl])) := sameU (Same.new hfl) hnq
          have ky : KT _ (upd (upd (upd H3 fl (.lst [])) nq (.tup [.int (0 + n), .ref pp, tv, .ref fl])) fd (.lst (zs ++ [.ref nq]))) := KT.lst hfdx
          have kD := (KT.same sx).trans ky
          have keep : ∀ b o, b ≠ fd → H3 b = some o → upd (upd (upd H3 fl (.lst [])) nq (.tup [.int (0 + n), .ref pp, tv, .ref fl])) fd (.lst (zs ++ [.ref nq])) b = some o := fun b o hb e => by rw [upd_ne hb]; exact sx _ _ e
          have nfl1 : fl ≠ fd := fun z => by rw [z, hfd3] at hfl; cases hfl
          have nfl2 : fl ≠ lf := fun z => by rw [z, hlf3] at hfl; cases hfl
          have s6 : Same H (upd (upd (upd H3 fl (.lst [])) nq (.tup [.int (0 + n), .ref pp, tv, .ref fl])) fd (.lst (zs ++ [.ref nq]))) := fun b o e => keep b o (ne_of_none e hfd) (s3 _ _ e)
          have hnew : FE H fd lf (upd (upd (upd H3 fl (.lst [])) nq (.tup [.int (0 + n), .ref pp, tv, .ref fl])) fd (.lst (zs ++ [.ref nq]))) zs.length (.ref nq) := ⟨nq, _, _, _, fl, [], rfl, ky _ _ upd_same, s3.free hfl, nfl1, nfl2, by rw [upd_ne nfl1, upd_ne (ne_of_none upd_same hnq)]; exact upd_same, Nat.zero_le _⟩
          have hfe6 : ∀ v ∈ zs ++ [.ref nq], FE H fd lf (upd (upd (upd H3 fl (.lst [])) nq (.tup [.int (0 + n), .ref pp, tv, .ref fl])) fd (.lst (zs ++ [.ref nq]))) zs.length v := fun v hv => by
            rcases List.mem_append.mp hv with hv | hv
            · exact (hfe3 v hv).on kD (fun b zs' hb1 _ hb hl => ⟨zs', keep _ _ hb1 hb, hl⟩) (fun fl zs' hfl _ hne => hne)
            · rw [List.mem_singleton] at hv
              rw [hv]
              exact hnew
          have hlf6 := keep _ _ nlfd hlf3
          have hfd6 : upd (upd (upd H3 fl (.lst [])) nq (.tup [.int (0 + n), .ref pp, tv, .ref fl])) fd (.lst (zs ++ [.ref nq])) fd = some (.lst (zs ++ [.ref nq])) := upd_same
          have hI6 : Paired (ItP (upd (upd (upd H3 fl (.lst [])) nq (.tup [.int (0 + n), .ref pp, tv, .ref fl])) fd (.lst (zs ++ [.ref nq]))) (zs.length + 1)) I wr := paired_mono (fun _ _ z => z.on kD (Nat.le_succ _)) hI3
          have hat6 := hat3.on kD
          have hpp6 := kD _ _ hpp3
          generalize upd (upd (upd H3 fl (.lst [])) nq (.tup [.int (0 + n), .ref pp, tv, .ref fl])) fd (.lst (zs ++ [.ref nq])) = H6 at s6 hfe6 hlf6 hfd6 hI6 hat6 hpp6
          clear hnew keep kD ky sx hfdx hfl hnq s3 hlf3 hfd3 hI3 hfe3 htq3 hpp3 hat3 nfl1 nfl2
          refine ⟨_, rfl, _, _, rfl, rfl, _, rfl, ?_⟩
          by_cases hge : hh ≥ 0
          · refine ifT (decide_eq_true hge) ?_
            have hlt : hh.toNat < (zs ++ [V.ref nq]).length := by rw [List.length_append, List.length_singleton]; omega
            obtain ⟨eq', ea, eb, ec, efl, ezs, ev, heq, hn0, hn1, hn2, hefl, hel⟩ := hfe6 _ (List.getElem_mem hlt)
            have hate : atI (zs ++ [V.ref nq]) hh = some (.ref eq') := by
              rw [← ev]
              exact atI_of hge (by omega) (List.getElem?_eq_getElem hlt)
            refine ⟨_, rfl, _, rfl, fd, _, hh, _, rfl, rfl, SqL.of hfd6, hate, eq', _, 3, .ref efl, rfl, rfl, .inl (.inl heq), rfl, .inl ⟨rfl, _, SqL.of hefl⟩, _, rfl, efl, ezs, _, rfl, rfl, hefl, by rw [sizeLine_eq]; omega, ?_⟩
            have k7 : KT H6 (upd H6 efl (.lst (ezs ++ [.int (zs.length : Nat)]))) := KT.lst hefl
            have s7 : Same H (upd H6 efl (.lst (ezs ++ [.int (zs.length : Nat)]))) := sameN s6 hn0
            have hlf7 : upd H6 efl (.lst (ezs ++ [.int (zs.length : Nat)])) lf = some (.lst wr.reverse) := by rw [upd_ne (Ne.symm hn2)]; exact hlf6
            have hfd7 : upd H6 efl (.lst (ezs ++ [.int (zs.length : Nat)])) fd = some (.lst (zs ++ [.ref nq])) := by rw [upd_ne (Ne.symm hn1)]; exact hfd6
            have hI7 : Paired (ItP (upd H6 efl (.lst (ezs ++ [.int (zs.length : Nat)]))) (zs.length + 1)) I wr := paired_mono (fun _ _ z => z.on k7 (Nat.le_refl _)) hI6
            have hfe7 : ∀ v ∈ zs ++ [.ref nq], FE H fd lf (upd H6 efl (.lst (ezs ++ [.int (zs.length : Nat)]))) (zs.length + 1) v := fun v hv => (hfe6 v hv).on k7 (fun b zs' _ _ hb hl => by
              by_cases hbe : b = efl
              · rw [hbe, hefl] at hb
                cases hb
                exact ⟨_, by rw [hbe]; exact upd_same, by rw [List.length_append, List.length_singleton]; omega⟩
              · exact ⟨zs', by rw [upd_ne hbe]; exact hb, by omega⟩) (fun fl zs' hfl _ hne => hne)
            have hat7 := hat6.on k7
            have hpp7 := k7 _ _ hpp6
            generalize upd H6 efl (.lst (ezs ++ [.int (zs.length : Nat)])) = H7 at s7 hlf7 hfd7 hI7 hfe7 hat7 hpp7
            refine ⟨_, rfl, tv, t, rfl, hat7, fun H8 pl ts s8 np hpl hps => ?_⟩
            have k8 := KT.same s8
            have sC : Same H H8 := fun b o e => s8 b o (s7 b o e)
            have hlf8 := s8 _ _ hlf7
            have hfd8 := s8 _ _ hfd7
            have hI8 : Paired (ItP H8 (zs.length + 1)) I wr := paired_mono (fun _ _ z => z.on k8 (Nat.le_refl _)) hI7
            have hfe8 : ∀ v ∈ zs ++ [.ref nq], FE H fd lf H8 (zs.length + 1) v := fun v hv => (hfe7 v hv).on k8 (fun b zs' _ _ hb hl => ⟨zs', s8 _ _ hb, hl⟩) (fun fl zs' hfl _ hne => hne)
            have hpp8 := k8 _ _ hpp7
            have lp := hps.length
            have n3 := kids3 t
            refine ⟨_, rfl, _, rfl, pl, ts, rfl, .inl (SqL.of hpl), _, rfl, by omega, by omega, fun D hD => ?_⟩
            rw [Int.toNat_natCast]
            have nDs : ∀ {b o}, H8 b = some o → b ≠ D := fun e => ne_of_none e hD
            refine lc_range (lo := 0) (n := ts.length) (fun k H9 => Same H8 H9 ∧ ∃ as, H9 D = some (.lst as) ∧ as.length = k ∧ Paired (ItP H9 (zs.length + 1)) ((t.parts.take k).map fun u => (u, dd + 1)) as) ⟨Same.new hD, [], upd_same, rfl, .nil⟩ ?_ ?_
            · rintro k H9 hk ⟨s9, as, has, las, pas⟩
              obtain ⟨u, hu, hau⟩ := paired_backB hps (List.getElem?_eq_getElem hk)
              have hum : u ∈ t.parts := List.mem_of_getElem? hu
              have ule := kid_le hum
              have hpp9 := s9 _ _ hpp8
              have hpl9 := s9 _ _ hpl
              have fin3 : ∀ (Hx : Hp) (pw : Addr) (psw : List V), Same H9 Hx → Hx pw = some (.tup psw) → psw.length ≤ dd + 1 → ∀ x1, Hx x1 = none → (fun k H9 => Same H8 H9 ∧ ∃ as, H9 D = some (.lst as) ∧ as.length = k ∧ Paired (ItP H9 (zs.length + 1)) ((t.parts.take k).map fun u => (u, dd + 1)) as) (k + 1) (upd (upd Hx x1 (.tup [.ref pw, ts[k], .int (zs.length : Nat)])) D (.lst (as ++ [.ref x1]))) := fun Hx pw psw sx hpw lpw x1 gx => by
                have hasx : upd Hx x1 (.tup [.ref pw, ts[k], .int (zs.length : Nat)]) D = some (.lst as) := by rw [upd_ne (ne_of_none (sx _ _ has) gx)]; exact sx _ _ has
                have ky : KT (upd Hx x1 (.tup [.ref pw, ts[k], .int (zs.length : Nat)])) (upd (upd Hx x1 (.tup [.ref pw, ts[k], .int (zs.length : Nat)])) D (.lst (as ++ [.ref x1]))) := KT.lst hasx
                have kx := (KT.new (o := .tup [.ref pw, ts[k], .int (zs.length : Nat)]) gx).trans ky
                have k9x := (KT.same sx).trans kx
                refine ⟨fun b o e => ?_, as ++ [.ref x1], upd_same, by simp [las], ?_⟩
                · rw [upd_ne (nDs e), upd_ne (ne_of_none (sx _ _ (s9 _ _ e)) gx)]
                  exact sx _ _ (s9 _ _ e)
                · rw [List.take_add_one, hu, List.map_append]
                  exact paired_appB (paired_mono (fun _ _ z => z.on k9x (Nat.le_refl _)) pas) (.cons ⟨x1, pw, psw, ts[k], _, rfl, ky _ _ upd_same, kx _ _ hpw, lpw, by show dd + 1 + u.size ≤ 101; omega, hau.on ((KT.same s9).trans k9x), by omega, by omega⟩ .nil)
              have hat9 : atI ts (0 + (k : Int)) = some ts[k] := by
                rw [show (0 : Int) + (k : Int) = (k : Int) by omega]
                exact atI_of (by omega) (by omega) (by rw [Int.toNat_natCast]; exact List.getElem?_eq_getElem hk)
              have szas : as.length < sizeLine := by rw [las, sizeLine_eq]; omega
              refine ⟨rfl, iteT (B := (fun k H9 => Same H8 H9 ∧ ∃ as, H9 D = some (.lst as) ∧ as.length = k ∧ Paired (ItP H9 (zs.length + 1)) ((t.parts.take k).map fun u => (u, dd + 1)) as) (k + 1) H9) ⟨_, rfl, _, rfl, sz1, fun u1 g1 => ?_⟩⟩
              have su := Same.new (o := .tup [.int (0 + (k : Int))]) g1
              refine ⟨pp, u1, ps, _, rfl, rfl, .inl (.inl (su _ _ hpp9)), .inl (.inl upd_same), small (by show ps.length + 1 ≤ 1000; omega), fun hz => ?_, fun _ hz => absurd hz (by simp), fun hz _ pn gn => ?_⟩
              · refine ⟨_, rfl, _, rfl, pl, ts, _, _, rfl, rfl, SqL.of (su _ _ hpl9), hat9, _, rfl, sz3, fun x1 gx => ⟨as, by rw [upd_ne (ne_of_none (su _ _ has) gx)]; exact su _ _ has, szas, ?_⟩⟩
                exact fin3 _ u1 _ su upd_same (by simp) x1 gx
              · have sv := sameU (o := .tup (ps ++ [.int (0 + (k : Int))])) su gn
                refine ⟨_, rfl, _, rfl, pl, ts, _, _, rfl, rfl, SqL.of (sv _ _ hpl9), hat9, _, rfl, sz3, fun x1 gx => ⟨as, by rw [upd_ne (ne_of_none (sv _ _ has) gx)]; exact sv _ _ has, szas, ?_⟩⟩
                exact fin3 _ pn _ sv upd_same (by rw [List.length_append, List.length_singleton]; omega) x1 gx
            · rintro H9 ⟨s9, as, has, las, pas⟩
              rw [show t.parts.take ts.length = t.parts by rw [← lp]; simp] at pas
              refine ⟨D, as, rfl, SqL.of has, fun rv grv => ⟨lf, rv, _, _, rfl, rfl, by rw [upd_ne (ne_of_none (s9 _ _ hlf8) grv)]; exact s9 _ _ hlf8, upd_same, small (by rw [List.length_reverse, List.length_reverse]; omega), fun nl gnl => ?_⟩⟩
              have sr : Same H9 (upd H9 rv (.lst as.reverse)) := Same.new grv
              have sn := sameU (o := .lst (wr.reverse ++ as.reverse)) sr gnl
              have s89 : Same H8 (upd (upd H9 rv (.lst as.reverse)) nl (.lst (wr.reverse ++ as.reverse))) := fun b o e => sn b o (s9 b o e)
              have kn := KT.same sn
              have f5 : H nl = none := (show Same H (upd H9 rv (.lst as.reverse)) from fun b o e => sr b o (s9 b o (sC b o e))).free gnl
              have nne : ∀ {b o}, H8 b = some o → nl ≠ b := fun e z => by
                have := sr _ _ (s9 _ _ e)
                rw [← z, gnl] at this
                cases this
              refine ⟨szI (t.parts.map (fun u => (u, dd + 1)) ++ I), ?_, t.parts.map (fun u => (u, dd + 1)) ++ I, as ++ wr, zs ++ [.ref nq], nl, _, _, _, _, _, _, rfl, rfl, fun b o e => s89 b o (sC b o e), f5, nne hfd8, ?_, ?_, s89 _ _ hfd8, fun v hv => ?_, ?_⟩
              · rw [szI_app, szI_map]
                show _ < t.size + szI I
                rw [t.size_eq]
                unfold T.kids
                omega
              · rw [upd_same, List.reverse_append]
              · rw [List.length_append, List.length_singleton]
                exact paired_appB (paired_mono (fun _ _ z => z.on kn (Nat.le_refl _)) pas) (paired_mono (fun _ _ z => z.on (KT.same s89) (Nat.le_refl _)) hI8)
              · rw [List.length_append, List.length_singleton]
                exact (hfe8 v hv).on (KT.same s89) (fun b zs' _ _ hb hl => ⟨zs', s89 _ _ hb, hl⟩) fun fl zs' hfl _ _ z => (nne hfl) z.symm
              · rw [szI_app, szI_map, List.length_append, List.length_singleton]
                have e1 : szI ((t, dd) :: I) = t.size + szI I := rfl
                rw [e1, t.size_eq] at hB
                unfold T.kids at hB
                omega
          · refine ifF (decide_eq_false hge) ?_
            have s7 := s6
            have hlf7 := hlf6
            have hfd7 := hfd6
            have hI7 := hI6
            have hfe7 : ∀ v ∈ zs ++ [.ref nq], FE H fd lf H6 (zs.length + 1) v := fun v hv => (hfe6 v hv).on KT.refl (fun b zs' _ _ hb hl => ⟨zs', hb, by omega⟩) (fun fl zs' hfl _ hne => hne)
            have hat7 := hat6
            have hpp7 := hpp6
            refine ⟨_, rfl, tv, t, rfl, hat7, fun H8 pl ts s8 np hpl hps => ?_⟩
            have k8 := KT.same s8
            have sC : Same H H8 := fun b o e => s8 b o (s7 b o e)
            have hlf8 := s8 _ _ hlf7
            have hfd8 := s8 _ _ hfd7
            have hI8 : Paired (ItP H8 (zs.length + 1)) I wr := paired_mono (fun _ _ z => z.on k8 (Nat.le_refl _)) hI7
            have hfe8 : ∀ v ∈ zs ++ [.ref nq], FE H fd lf H8 (zs.length + 1) v := fun v hv => (hfe7 v hv).on k8 (fun b zs' _ _ hb hl => ⟨zs', s8 _ _ hb, hl⟩) (fun fl zs' hfl _ hne => hne)
            have hpp8 := k8 _ _ hpp7
            have lp := hps.length
            have n3 := kids3 t
            refine ⟨_, rfl, _, rfl, pl, ts, rfl, .inl (SqL.of hpl), _, rfl, by omega, by omega, fun D hD => ?_⟩
            rw [Int.toNat_natCast]
            have nDs : ∀ {b o}, H8 b = some o → b ≠ D := fun e => ne_of_none e hD
            refine lc_range (lo := 0) (n := ts.length) (fun k H9 => Same H8 H9 ∧ ∃ as, H9 D = some (.lst as) ∧ as.length = k ∧ Paired (ItP H9 (zs.length + 1)) ((t.parts.take k).map fun u => (u, dd + 1)) as) ⟨Same.new hD, [], upd_same, rfl, .nil⟩ ?_ ?_
            · rintro k H9 hk ⟨s9, as, has, las, pas⟩
              obtain ⟨u, hu, hau⟩ := paired_backB hps (List.getElem?_eq_getElem hk)
              have hum : u ∈ t.parts := List.mem_of_getElem? hu
              have ule := kid_le hum
              have hpp9 := s9 _ _ hpp8
              have hpl9 := s9 _ _ hpl
              have fin3 : ∀ (Hx : Hp) (pw : Addr) (psw : List V), Same H9 Hx → Hx pw = some (.tup psw) → psw.length ≤ dd + 1 → ∀ x1, Hx x1 = none → (fun k H9 => Same H8 H9 ∧ ∃ as, H9 D = some (.lst as) ∧ as.length = k ∧ Paired (ItP H9 (zs.length + 1)) ((t.parts.take k).map fun u => (u, dd + 1)) as) (k + 1) (upd (upd Hx x1 (.tup [.ref pw, ts[k], .int (zs.length : Nat)])) D (.lst (as ++ [.ref x1]))) := fun Hx pw psw sx hpw lpw x1 gx => by
                have hasx : upd Hx x1 (.tup [.ref pw, ts[k], .int (zs.length : Nat)]) D = some (.lst as) := by rw [upd_ne (ne_of_none (sx _ _ has) gx)]; exact sx _ _ has
                have ky : KT (upd Hx x1 (.tup [.ref pw, ts[k], .int (zs.length : Nat)])) (upd (upd Hx x1 (.tup [.ref pw, ts[k], .int (zs.length : Nat)])) D (.lst (as ++ [.ref x1]))) := KT.lst hasx
                have kx := (KT.new (o := .tup [.ref pw, ts[k], .int (zs.length : Nat)]) gx).trans ky
                have k9x := (KT.same sx).trans kx
                refine ⟨fun b o e => ?_, as ++ [.ref x1], upd_same, by simp [las], ?_⟩
                · rw [upd_ne (nDs e), upd_ne (ne_of_none (sx _ _ (s9 _ _ e)) gx)]
                  exact sx _ _ (s9 _ _ e)
                · rw [List.take_add_one, hu, List.map_append]
                  exact paired_appB (paired_mono (fun _ _ z => z.on k9x (Nat.le_refl _)) pas) (.cons ⟨x1, pw, psw, ts[k], _, rfl, ky _ _ upd_same, kx _ _ hpw, lpw, by show dd + 1 + u.size ≤ 101; omega, hau.on ((KT.same s9).trans k9x), by omega, by omega⟩ .nil)
              have hat9 : atI ts (0 + (k : Int)) = some ts[k] := by
                rw [show (0 : Int) + (k : Int) = (k : Int) by omega]
                exact atI_of (by omega) (by omega) (by rw [Int.toNat_natCast]; exact List.getElem?_eq_getElem hk)
              have szas : as.length < sizeLine := by rw [las, sizeLine_eq]; omega
              refine ⟨rfl, iteT (B := (fun k H9 => Same H8 H9 ∧ ∃ as, H9 D = some (.lst as) ∧ as.length = k ∧ Paired (ItP H9 (zs.length + 1)) ((t.parts.take k).map fun u => (u, dd + 1)) as) (k + 1) H9) ⟨_, rfl, _, rfl, sz1, fun u1 g1 => ?_⟩⟩
              have su := Same.new (o := .tup [.int (0 + (k : Int))]) g1
              refine ⟨pp, u1, ps, _, rfl, rfl, .inl (.inl (su _ _ hpp9)), .inl (.inl upd_same), small (by show ps.length + 1 ≤ 1000; omega), fun hz => ?_, fun _ hz => absurd hz (by simp), fun hz _ pn gn => ?_⟩
              · refine ⟨_, rfl, _, rfl, pl, ts, _, _, rfl, rfl, SqL.of (su _ _ hpl9), hat9, _, rfl, sz3, fun x1 gx => ⟨as, by rw [upd_ne (ne_of_none (su _ _ has) gx)]; exact su _ _ has, szas, ?_⟩⟩
                exact fin3 _ u1 _ su upd_same (by simp) x1 gx
              · have sv := sameU (o := .tup (ps ++ [.int (0 + (k : Int))])) su gn
                refine ⟨_, rfl, _, rfl, pl, ts, _, _, rfl, rfl, SqL.of (sv _ _ hpl9), hat9, _, rfl, sz3, fun x1 gx => ⟨as, by rw [upd_ne (ne_of_none (sv _ _ has) gx)]; exact sv _ _ has, szas, ?_⟩⟩
                exact fin3 _ pn _ sv upd_same (by rw [List.length_append, List.length_singleton]; omega) x1 gx
            · rintro H9 ⟨s9, as, has, las, pas⟩
              rw [show t.parts.take ts.length = t.parts by rw [← lp]; simp] at pas
              refine ⟨D, as, rfl, SqL.of has, fun rv grv => ⟨lf, rv, _, _, rfl, rfl, by rw [upd_ne (ne_of_none (s9 _ _ hlf8) grv)]; exact s9 _ _ hlf8, upd_same, small (by rw [List.length_reverse, List.length_reverse]; omega), fun nl gnl => ?_⟩⟩
              have sr : Same H9 (upd H9 rv (.lst as.reverse)) := Same.new grv
              have sn := sameU (o := .lst (wr.reverse ++ as.reverse)) sr gnl
              have s89 : Same H8 (upd (upd H9 rv (.lst as.reverse)) nl (.lst (wr.reverse ++ as.reverse))) := fun b o e => sn b o (s9 b o e)
              have kn := KT.same sn
              have f5 : H nl = none := (show Same H (upd H9 rv (.lst as.reverse)) from fun b o e => sr b o (s9 b o (sC b o e))).free gnl
              have nne : ∀ {b o}, H8 b = some o → nl ≠ b := fun e z => by
                have := sr _ _ (s9 _ _ e)
                rw [← z, gnl] at this
                cases this
              refine ⟨szI (t.parts.map (fun u => (u, dd + 1)) ++ I), ?_, t.parts.map (fun u => (u, dd + 1)) ++ I, as ++ wr, zs ++ [.ref nq], nl, _, _, _, _, _, _, rfl, rfl, fun b o e => s89 b o (sC b o e), f5, nne hfd8, ?_, ?_, s89 _ _ hfd8, fun v hv => ?_, ?_⟩
              · rw [szI_app, szI_map]
                show _ < t.size + szI I
                rw [t.size_eq]
                unfold T.kids
                omega
              · rw [upd_same, List.reverse_append]
              · rw [List.length_append, List.length_singleton]
                exact paired_appB (paired_mono (fun _ _ z => z.on kn (Nat.le_refl _)) pas) (paired_mono (fun _ _ z => z.on (KT.same s89) (Nat.le_refl _)) hI8)
              · rw [List.length_append, List.length_singleton]
                exact (hfe8 v hv).on (KT.same s89) (fun b zs' _ _ hb hl => ⟨zs', s89 _ _ hb, hl⟩) fun fl zs' hfl _ _ z => (nne hfl) z.symm
              · rw [szI_app, szI_map, List.length_append, List.length_singleton]
                have e1 : szI ((t, dd) :: I) = t.size + szI I := rfl
                rw [e1, t.size_eq] at hB
                unfold T.kids at hB
                omega
      | .tell t, ⟨tq, y, e, ht, hay⟩, hro =>
        rw [e] at hxat
        refine ⟨_, rfl, _, rfl, p, xs, _, _, rfl, rfl, SqL.of (s1 _ _ hp), hxat, tq, _, 0, .str "tell", rfl, rfl, .inl (.inl ht), rfl, rfl, _, rfl, ifT nTG ?_⟩
        refine ⟨small (by decide), fun u0 g0 => ⟨_, rfl, _, rfl, p, xs, _, _, rfl, rfl, SqL.of ((sameU s1 g0) _ _ hp), hxat, _, rfl, tq, _, -1, y, rfl, rfl, .inl (.inl (KT.new g0 _ _ ht)), rfl, _, rfl, sz3, fun u1 g1 => ⟨sz1, fun lf g2 => ?_⟩⟩⟩
        have hWP : WP H p fd (.int (0 + n)) (100 * (n + 1)) (szI [(t, 0)]) [some (.ref p), some (.ref fd), some (.int (0 + n)), some (.ref lf), o4, o5, o6, o7, o8, o9] (upd (upd (upd H1 u0 (.tup [])) u1 (.tup [.ref u0, y, .int (-1)])) lf (.lst [.ref u1])) := by
          have v1 := sameU (o := .tup []) s1 g0
          have v2 := sameU (o := .tup [.ref u0, y, .int (-1)]) v1 g1
          have v3 := sameU (o := .lst [.ref u1]) v2 g2
          have w3 : Same H1 (upd (upd (upd H1 u0 (.tup [])) u1 (.tup [.ref u0, y, .int (-1)])) lf (.lst [.ref u1])) := sameU (sameU (Same.new g0) g1) g2
          have nlf : lf ≠ fd := fun z => by
            have := (sameU (o := .tup [.ref u0, y, .int (-1)]) (Same.new (o := .tup []) g0) g1) _ _ hf1
            rw [← z, g2] at this
            cases this
          refine ⟨[(t, 0)], [.ref u1], ys, lf, _, _, _, _, _, _, rfl, rfl, v3, v2.free g2, nlf, upd_same, .cons ⟨u1, u0, [], y, -1, rfl, KT.new g2 _ _ upd_same, (KT.new g1 |>.trans (KT.new g2)) _ _ upd_same, Nat.le_refl _, by have := hro.2; show 0 + t.size ≤ 101; omega, hay.on (KT.same w3), by decide, by omega⟩ .nil, w3 _ _ hf1, fun v hv => ?_, ?_⟩
          · refine (hfe v hv).on (KT.same w3) (fun b zs' _ _ hb hl => ⟨zs', w3 _ _ hb, hl⟩) fun fl zs' hfl _ _ z => ?_
            have := (sameU (o := .tup [.ref u0, y, .int (-1)]) (Same.new (o := .tup []) g0) g1) _ _ hfl
            rw [z, g2] at this
            cases this
          · have := hro.2
            show ys.length + (t.size + 0) ≤ _
            omega
        generalize upd (upd (upd H1 u0 (.tup [])) u1 (.tup [.ref u0, y, .int (-1)])) lf (.lst [.ref u1]) = H2 at hWP
        refine ⟨WP H p fd (.int (0 + n)) (100 * (n + 1)), ⟨_, hWP⟩, ?_⟩
        rintro m σ HA ⟨I, ws, zs, lf, q4, q5, q6, q7, q8, q9, rfl, rfl, sA, nlf, nlfd, hlf, hI, hfd2, hfe2, hB⟩
        refine ⟨_, rfl, small (by decide), fun c hc => ⟨lf, c, _, rfl, rfl, SqL.of (by rw [upd_ne (ne_of_none hlf hc)]; exact hlf), SqL.of upd_same, _, rfl, ?_⟩⟩
        have sB := sameU (o := .lst []) sA hc
        have kB := KT.new (o := .lst []) hc
        have hlfB : upd HA c (.lst []) lf = some (.lst ws.reverse) := by rw [upd_ne (ne_of_none hlf hc)]; exact hlf
        have hfdB : upd HA c (.lst []) fd = some (.lst zs) := by rw [upd_ne (ne_of_none hfd2 hc)]; exact hfd2
        have hIB : Paired (ItP (upd HA c (.lst [])) zs.length) I ws := paired_mono (fun _ _ z => z.on kB (Nat.le_refl _)) hI
        have hfeB : ∀ v ∈ zs, FE H fd lf (upd HA c (.lst [])) zs.length v := fun v hv => (hfe2 v hv).on kB (fun b zs' _ _ hb hl => ⟨zs', by rw [upd_ne (ne_of_none hb hc)]; exact hb, hl⟩) (fun fl zs' hfl _ hne => hne)
        generalize upd HA c (.lst []) = HB at sB hlfB hfdB hIB hfeB
        clear sA hlf hI hfd2 hfe2 hc kB
        match I, hIB, hB with
        | [], hIB, hB =>
          cases pc_nil hIB
          refine ifF rfl ?_
          exact ⟨zs, _, _, _, _, _, _, _, _, rfl, sB, hfdB, by simpa [szI] using hB, fun v hv => (hfeB v hv).on KT.refl (fun b zs' _ _ hb hl => ⟨zs', hb, hl⟩) (fun fl zs' hfl hne _ => hne)⟩
        | (t, dd) :: I, hIB, hB =>
          obtain ⟨x, wr, rfl, ⟨tq2, pp, ps, tv, hh, rfl, htq2, hpp, lps, ldd, hat2, hh0, hh1⟩, hIr⟩ := pc_cons hIB
          refine ifT (by simp) ?_
          have ldd' : dd + t.size ≤ 101 := ldd
          have lps' : ps.length ≤ dd := lps
          have lwr : wr.length ≤ 400 := by
            have := hIr.length
            have := len_szI I
            have e1 : szI ((t, dd) :: I) = t.size + szI I := rfl
            omega
          have ews : (V.ref tq2 :: wr).reverse = wr.reverse ++ [V.ref tq2] := List.reverse_cons
          rw [ews] at hlfB
          refine ⟨fun σ' H'' => ∃ m', m' < szI ((t, dd) :: I) ∧ WP H p fd (.int (0 + n)) (100 * (n + 1)) m' σ' H'', fun σ' H'' h => h, ?_⟩
          refine ⟨_, rfl, .inl ⟨rfl, _, SqL.of hlfB⟩, lf, _, .ref tq2, rfl, rfl, hlfB, by simp, ?_⟩
          rw [List.dropLast_concat]
          have kC : KT HB (upd HB lf (.lst wr.reverse)) := KT.lst hlfB
          have s3 : Same H (upd HB lf (.lst wr.reverse)) := sameN sB nlf
          have hlf3 : upd HB lf (.lst wr.reverse) lf = some (.lst wr.reverse) := upd_same
          have hfd3 : upd HB lf (.lst wr.reverse) fd = some (.lst zs) := by rw [upd_ne (Ne.symm nlfd)]; exact hfdB
          have hI3 : Paired (ItP (upd HB lf (.lst wr.reverse)) zs.length) I wr := paired_mono (fun _ _ z => z.on kC (Nat.le_refl _)) hIr
          have hfe3 : ∀ v ∈ zs, FE H fd lf (upd HB lf (.lst wr.reverse)) zs.length v := fun v hv => (hfeB v hv).on kC (fun b zs' _ hb2 hb hl => ⟨zs', by rw [upd_ne hb2]; exact hb, hl⟩) (fun fl zs' hfl _ hne => hne)
          have htq3 := kC _ _ htq2
          have hpp3 := kC _ _ hpp
          have hat3 := hat2.on kC
          generalize upd HB lf (.lst wr.reverse) = H3 at s3 hlf3 hfd3 hI3 hfe3 htq3 hpp3 hat3
          clear sB hlfB hfdB hIB hfeB hIr htq2 hpp hat2 kC
          refine ⟨tq2, _, rfl, .inl (.inl htq3), rfl, _, _, rfl, _, _, rfl, _, _, rfl, rfl, ?_⟩
          refine ⟨_, rfl, fd, zs, rfl, .inl (SqL.of hfd3), ?_⟩
          have lzs : zs.length ≤ 400 := by omega
          refine ⟨_, rfl, .inl ⟨rfl, _, SqL.of hfd3⟩, _, rfl, _, rfl, _, rfl, small (by decide), fun fl hfl => ⟨K1.d4, fun nq hnq => ⟨fd, zs, .ref nq, rfl, rfl, ?_, by rw [sizeLine_eq]; omega, ?_⟩⟩⟩
          · rw [upd_ne (ne_of_none (by rw [upd_ne (ne_of_none hfd3 hfl)]; exact hfd3) hnq), upd_ne (ne_of_none hfd3 hfl)]
            exact hfd3
          have hfdx : upd (upd H3 fl (.lst [])) nq (.tup [.int (0 + n), .ref pp, tv, .ref fl]) fd = some (.lst zs) := by
            rw [upd_ne (ne_of_none (by rw [upd_ne (ne_of_none hfd3 hfl)]; exact hfd3) hnq), upd_ne (ne_of_none hfd3 hfl)]
            exact hfd3
          have sx : Same H3 (upd (upd H3 fl (.lst [])) nq (.tup [.int (0 + n), .ref pp, tv, .ref fl])) := sameU (Same.new hfl) hnq
          have ky : KT _ (upd (upd (upd H3 fl (.lst [])) nq (.tup [.int (0 + n), .ref pp, tv, .ref fl])) fd (.lst (zs ++ [.ref nq]))) := KT.lst hfdx
          have kD := (KT.same sx).trans ky
          have keep : ∀ b o, b ≠ fd → H3 b = some o → upd (upd (upd H3 fl (.lst [])) nq (.tup [.int (0 + n), .ref pp, tv, .ref fl])) fd (.lst (zs ++ [.ref nq])) b = some o := fun b o hb e => by rw [upd_ne hb]; exact sx _ _ e
          have nfl1 : fl ≠ fd := fun z => by rw [z, hfd3] at hfl; cases hfl
          have nfl2 : fl ≠ lf := fun z => by rw [z, hlf3] at hfl; cases hfl
          have s6 : Same H (upd (upd (upd H3 fl (.lst [])) nq (.tup [.int (0 + n), .ref pp, tv, .ref fl])) fd (.lst (zs ++ [.ref nq]))) := fun b o e => keep b o (ne_of_none e hfd) (s3 _ _ e)
          have hnew : FE H fd lf (upd (upd (upd H3 fl (.lst [])) nq (.tup [.int (0 + n), .ref pp, tv, .ref fl])) fd (.lst (zs ++ [.ref nq]))) zs.length (.ref nq) := ⟨nq, _, _, _, fl, [], rfl, ky _ _ upd_same, s3.free hfl, nfl1, nfl2, by rw [upd_ne nfl1, upd_ne (ne_of_none upd_same hnq)]; exact upd_same, Nat.zero_le _⟩
          have hfe6 : ∀ v ∈ zs ++ [.ref nq], FE H fd lf (upd (upd (upd H3 fl (.lst [])) nq (.tup [.int (0 + n), .ref pp, tv, .ref fl])) fd (.lst (zs ++ [.ref nq]))) zs.length v := fun v hv => by
            rcases List.mem_append.mp hv with hv | hv
            · exact (hfe3 v hv).on kD (fun b zs' hb1 _ hb hl => ⟨zs', keep _ _ hb1 hb, hl⟩) (fun fl zs' hfl _ hne => hne)
            · rw [List.mem_singleton] at hv
              rw [hv]
              exact hnew
          have hlf6 := keep _ _ nlfd hlf3
          have hfd6 : upd (upd (upd H3 fl (.lst [])) nq (.tup [.int (0 + n), .ref pp, tv, .ref fl])) fd (.lst (zs ++ [.ref nq])) fd = some (.lst (zs ++ [.ref nq])) := upd_same
          have hI6 : Paired (ItP (upd (upd (upd H3 fl (.lst [])) nq (.tup [.int (0 + n), .ref pp, tv, .ref fl])) fd (.lst (zs ++ [.ref nq]))) (zs.length + 1)) I wr := paired_mono (fun _ _ z => z.on kD (Nat.le_succ _)) hI3
          have hat6 := hat3.on kD
          have hpp6 := kD _ _ hpp3
          generalize upd (upd (upd H3 fl (.lst [])) nq (.tup [.int (0 + n), .ref pp, tv, .ref fl])) fd (.lst (zs ++ [.ref nq])) = H6 at s6 hfe6 hlf6 hfd6 hI6 hat6 hpp6
          clear hnew keep kD ky sx hfdx hfl hnq s3 hlf3 hfd3 hI3 hfe3 htq3 hpp3 hat3 nfl1 nfl2
          refine ⟨_, rfl, _, _, rfl, rfl, _, rfl, ?_⟩
          by_cases hge : hh ≥ 0
          · refine ifT (decide_eq_true hge) ?_
            have hlt : hh.toNat < (zs ++ [V.ref nq]).length := by rw [List.length_append, List.length_singleton]; omega
            obtain ⟨eq', ea, eb, ec, efl, ezs, ev, heq, hn0, hn1, hn2, hefl, hel⟩ := hfe6 _ (List.getElem_mem hlt)
            have hate : atI (zs ++ [V.ref nq]) hh = some (.ref eq') := by
              rw [← ev]
              exact atI_of hge (by omega) (List.getElem?_eq_getElem hlt)
            refine ⟨_, rfl, _, rfl, fd, _, hh, _, rfl, rfl, SqL.of hfd6, hate, eq', _, 3, .ref efl, rfl, rfl, .inl (.inl heq), rfl, .inl ⟨rfl, _, SqL.of hefl⟩, _, rfl, efl, ezs, _, rfl, rfl, hefl, by rw [sizeLine_eq]; omega, ?_⟩
            have k7 : KT H6 (upd H6 efl (.lst (ezs ++ [.int (zs.length : Nat)]))) := KT.lst hefl
            have s7 : Same H (upd H6 efl (.lst (ezs ++ [.int (zs.length : Nat)]))) := sameN s6 hn0
            have hlf7 : upd H6 efl (.lst (ezs ++ [.int (zs.length : Nat)])) lf = some (.lst wr.reverse) := by rw [upd_ne (Ne.symm hn2)]; exact hlf6
            have hfd7 : upd H6 efl (.lst (ezs ++ [.int (zs.length : Nat)])) fd = some (.lst (zs ++ [.ref nq])) := by rw [upd_ne (Ne.symm hn1)]; exact hfd6
            have hI7 : Paired (ItP (upd H6 efl (.lst (ezs ++ [.int (zs.length : Nat)]))) (zs.length + 1)) I wr := paired_mono (fun _ _ z => z.on k7 (Nat.le_refl _)) hI6
            have hfe7 : ∀ v ∈ zs ++ [.ref nq], FE H fd lf (upd H6 efl (.lst (ezs ++ [.int (zs.length : Nat)]))) (zs.length + 1) v := fun v hv => (hfe6 v hv).on k7 (fun b zs' _ _ hb hl => by
              by_cases hbe : b = efl
              · rw [hbe, hefl] at hb
                cases hb
                exact ⟨_, by rw [hbe]; exact upd_same, by rw [List.length_append, List.length_singleton]; omega⟩
              · exact ⟨zs', by rw [upd_ne hbe]; exact hb, by omega⟩) (fun fl zs' hfl _ hne => hne)
            have hat7 := hat6.on k7
            have hpp7 := k7 _ _ hpp6
            generalize upd H6 efl (.lst (ezs ++ [.int (zs.length : Nat)])) = H7 at s7 hlf7 hfd7 hI7 hfe7 hat7 hpp7
            refine ⟨_, rfl, tv, t, rfl, hat7, fun H8 pl ts s8 np hpl hps => ?_⟩
            have k8 := KT.same s8
            have sC : Same H H8 := fun b o e => s8 b o (s7 b o e)
            have hlf8 := s8 _ _ hlf7
            have hfd8 := s8 _ _ hfd7
            have hI8 : Paired (ItP H8 (zs.length + 1)) I wr := paired_mono (fun _ _ z => z.on k8 (Nat.le_refl _)) hI7
            have hfe8 : ∀ v ∈ zs ++ [.ref nq], FE H fd lf H8 (zs.length + 1) v := fun v hv => (hfe7 v hv).on k8 (fun b zs' _ _ hb hl => ⟨zs', s8 _ _ hb, hl⟩) (fun fl zs' hfl _ hne => hne)
            have hpp8 := k8 _ _ hpp7
            have lp := hps.length
            have n3 := kids3 t
            refine ⟨_, rfl, _, rfl, pl, ts, rfl, .inl (SqL.of hpl), _, rfl, by omega, by omega, fun D hD => ?_⟩
            rw [Int.toNat_natCast]
            have nDs : ∀ {b o}, H8 b = some o → b ≠ D := fun e => ne_of_none e hD
            refine lc_range (lo := 0) (n := ts.length) (fun k H9 => Same H8 H9 ∧ ∃ as, H9 D = some (.lst as) ∧ as.length = k ∧ Paired (ItP H9 (zs.length + 1)) ((t.parts.take k).map fun u => (u, dd + 1)) as) ⟨Same.new hD, [], upd_same, rfl, .nil⟩ ?_ ?_
            · rintro k H9 hk ⟨s9, as, has, las, pas⟩
              obtain ⟨u, hu, hau⟩ := paired_backB hps (List.getElem?_eq_getElem hk)
              have hum : u ∈ t.parts := List.mem_of_getElem? hu
              have ule := kid_le hum
              have hpp9 := s9 _ _ hpp8
              have hpl9 := s9 _ _ hpl
              have fin3 : ∀ (Hx : Hp) (pw : Addr) (psw : List V), Same H9 Hx → Hx pw = some (.tup psw) → psw.length ≤ dd + 1 → ∀ x1, Hx x1 = none → (fun k H9 => Same H8 H9 ∧ ∃ as, H9 D = some (.lst as) ∧ as.length = k ∧ Paired (ItP H9 (zs.length + 1)) ((t.parts.take k).map fun u => (u, dd + 1)) as) (k + 1) (upd (upd Hx x1 (.tup [.ref pw, ts[k], .int (zs.length : Nat)])) D (.lst (as ++ [.ref x1]))) := fun Hx pw psw sx hpw lpw x1 gx => by
                have hasx : upd Hx x1 (.tup [.ref pw, ts[k], .int (zs.length : Nat)]) D = some (.lst as) := by rw [upd_ne (ne_of_none (sx _ _ has) gx)]; exact sx _ _ has
                have ky : KT (upd Hx x1 (.tup [.ref pw, ts[k], .int (zs.length : Nat)])) (upd (upd Hx x1 (.tup [.ref pw, ts[k], .int (zs.length : Nat)])) D (.lst (as ++ [.ref x1]))) := KT.lst hasx
                have kx := (KT.new (o := .tup [.ref pw, ts[k], .int (zs.length : Nat)]) gx).trans ky
                have k9x := (KT.same sx).trans kx
                refine ⟨fun b o e => ?_, as ++ [.ref x1], upd_same, by simp [las], ?_⟩
                · rw [upd_ne (nDs e), upd_ne (ne_of_none (sx _ _ (s9 _ _ e)) gx)]
                  exact sx _ _ (s9 _ _ e)
                · rw [List.take_add_one, hu, List.map_append]
                  exact paired_appB (paired_mono (fun _ _ z => z.on k9x (Nat.le_refl _)) pas) (.cons ⟨x1, pw, psw, ts[k], _, rfl, ky _ _ upd_same, kx _ _ hpw, lpw, by show dd + 1 + u.size ≤ 101; omega, hau.on ((KT.same s9).trans k9x), by omega, by omega⟩ .nil)
              have hat9 : atI ts (0 + (k : Int)) = some ts[k] := by
                rw [show (0 : Int) + (k : Int) = (k : Int) by omega]
                exact atI_of (by omega) (by omega) (by rw [Int.toNat_natCast]; exact List.getElem?_eq_getElem hk)
              have szas : as.length < sizeLine := by rw [las, sizeLine_eq]; omega
              refine ⟨rfl, iteT (B := (fun k H9 => Same H8 H9 ∧ ∃ as, H9 D = some (.lst as) ∧ as.length = k ∧ Paired (ItP H9 (zs.length + 1)) ((t.parts.take k).map fun u => (u, dd + 1)) as) (k + 1) H9) ⟨_, rfl, _, rfl, sz1, fun u1 g1 => ?_⟩⟩
              have su := Same.new (o := .tup [.int (0 + (k : Int))]) g1
              refine ⟨pp, u1, ps, _, rfl, rfl, .inl (.inl (su _ _ hpp9)), .inl (.inl upd_same), small (by show ps.length + 1 ≤ 1000; omega), fun hz => ?_, fun _ hz => absurd hz (by simp), fun hz _ pn gn => ?_⟩
              · refine ⟨_, rfl, _, rfl, pl, ts, _, _, rfl, rfl, SqL.of (su _ _ hpl9), hat9, _, rfl, sz3, fun x1 gx => ⟨as, by rw [upd_ne (ne_of_none (su _ _ has) gx)]; exact su _ _ has, szas, ?_⟩⟩
                exact fin3 _ u1 _ su upd_same (by simp) x1 gx
              · have sv := sameU (o := .tup (ps ++ [.int (0 + (k : Int))])) su gn
                refine ⟨_, rfl, _, rfl, pl, ts, _, _, rfl, rfl, SqL.of (sv _ _ hpl9), hat9, _, rfl, sz3, fun x1 gx => ⟨as, by rw [upd_ne (ne_of_none (sv _ _ has) gx)]; exact sv _ _ has, szas, ?_⟩⟩
                exact fin3 _ pn _ sv upd_same (by rw [List.length_append, List.length_singleton]; omega) x1 gx
            · rintro H9 ⟨s9, as, has, las, pas⟩
              rw [show t.parts.take ts.length = t.parts by rw [← lp]; simp] at pas
              refine ⟨D, as, rfl, SqL.of has, fun rv grv => ⟨lf, rv, _, _, rfl, rfl, by rw [upd_ne (ne_of_none (s9 _ _ hlf8) grv)]; exact s9 _ _ hlf8, upd_same, small (by rw [List.length_reverse, List.length_reverse]; omega), fun nl gnl => ?_⟩⟩
              have sr : Same H9 (upd H9 rv (.lst as.reverse)) := Same.new grv
              have sn := sameU (o := .lst (wr.reverse ++ as.reverse)) sr gnl
              have s89 : Same H8 (upd (upd H9 rv (.lst as.reverse)) nl (.lst (wr.reverse ++ as.reverse))) := fun b o e => sn b o (s9 b o e)
              have kn := KT.same sn
              have f5 : H nl = none := (show Same H (upd H9 rv (.lst as.reverse)) from fun b o e => sr b o (s9 b o (sC b o e))).free gnl
              have nne : ∀ {b o}, H8 b = some o → nl ≠ b := fun e z => by
                have := sr _ _ (s9 _ _ e)
                rw [← z, gnl] at this
                cases this
              refine ⟨szI (t.parts.map (fun u => (u, dd + 1)) ++ I), ?_, t.parts.map (fun u => (u, dd + 1)) ++ I, as ++ wr, zs ++ [.ref nq], nl, _, _, _, _, _, _, rfl, rfl, fun b o e => s89 b o (sC b o e), f5, nne hfd8, ?_, ?_, s89 _ _ hfd8, fun v hv => ?_, ?_⟩
              · rw [szI_app, szI_map]
                show _ < t.size + szI I
                rw [t.size_eq]
                unfold T.kids
                omega
              · rw [upd_same, List.reverse_append]
              · rw [List.length_append, List.length_singleton]
                exact paired_appB (paired_mono (fun _ _ z => z.on kn (Nat.le_refl _)) pas) (paired_mono (fun _ _ z => z.on (KT.same s89) (Nat.le_refl _)) hI8)
              · rw [List.length_append, List.length_singleton]
                exact (hfe8 v hv).on (KT.same s89) (fun b zs' _ _ hb hl => ⟨zs', s89 _ _ hb, hl⟩) fun fl zs' hfl _ _ z => (nne hfl) z.symm
              · rw [szI_app, szI_map, List.length_append, List.length_singleton]
                have e1 : szI ((t, dd) :: I) = t.size + szI I := rfl
                rw [e1, t.size_eq] at hB
                unfold T.kids at hB
                omega
          · refine ifF (decide_eq_false hge) ?_
            have s7 := s6
            have hlf7 := hlf6
            have hfd7 := hfd6
            have hI7 := hI6
            have hfe7 : ∀ v ∈ zs ++ [.ref nq], FE H fd lf H6 (zs.length + 1) v := fun v hv => (hfe6 v hv).on KT.refl (fun b zs' _ _ hb hl => ⟨zs', hb, by omega⟩) (fun fl zs' hfl _ hne => hne)
            have hat7 := hat6
            have hpp7 := hpp6
            refine ⟨_, rfl, tv, t, rfl, hat7, fun H8 pl ts s8 np hpl hps => ?_⟩
            have k8 := KT.same s8
            have sC : Same H H8 := fun b o e => s8 b o (s7 b o e)
            have hlf8 := s8 _ _ hlf7
            have hfd8 := s8 _ _ hfd7
            have hI8 : Paired (ItP H8 (zs.length + 1)) I wr := paired_mono (fun _ _ z => z.on k8 (Nat.le_refl _)) hI7
            have hfe8 : ∀ v ∈ zs ++ [.ref nq], FE H fd lf H8 (zs.length + 1) v := fun v hv => (hfe7 v hv).on k8 (fun b zs' _ _ hb hl => ⟨zs', s8 _ _ hb, hl⟩) (fun fl zs' hfl _ hne => hne)
            have hpp8 := k8 _ _ hpp7
            have lp := hps.length
            have n3 := kids3 t
            refine ⟨_, rfl, _, rfl, pl, ts, rfl, .inl (SqL.of hpl), _, rfl, by omega, by omega, fun D hD => ?_⟩
            rw [Int.toNat_natCast]
            have nDs : ∀ {b o}, H8 b = some o → b ≠ D := fun e => ne_of_none e hD
            refine lc_range (lo := 0) (n := ts.length) (fun k H9 => Same H8 H9 ∧ ∃ as, H9 D = some (.lst as) ∧ as.length = k ∧ Paired (ItP H9 (zs.length + 1)) ((t.parts.take k).map fun u => (u, dd + 1)) as) ⟨Same.new hD, [], upd_same, rfl, .nil⟩ ?_ ?_
            · rintro k H9 hk ⟨s9, as, has, las, pas⟩
              obtain ⟨u, hu, hau⟩ := paired_backB hps (List.getElem?_eq_getElem hk)
              have hum : u ∈ t.parts := List.mem_of_getElem? hu
              have ule := kid_le hum
              have hpp9 := s9 _ _ hpp8
              have hpl9 := s9 _ _ hpl
              have fin3 : ∀ (Hx : Hp) (pw : Addr) (psw : List V), Same H9 Hx → Hx pw = some (.tup psw) → psw.length ≤ dd + 1 → ∀ x1, Hx x1 = none → (fun k H9 => Same H8 H9 ∧ ∃ as, H9 D = some (.lst as) ∧ as.length = k ∧ Paired (ItP H9 (zs.length + 1)) ((t.parts.take k).map fun u => (u, dd + 1)) as) (k + 1) (upd (upd Hx x1 (.tup [.ref pw, ts[k], .int (zs.length : Nat)])) D (.lst (as ++ [.ref x1]))) := fun Hx pw psw sx hpw lpw x1 gx => by
                have hasx : upd Hx x1 (.tup [.ref pw, ts[k], .int (zs.length : Nat)]) D = some (.lst as) := by rw [upd_ne (ne_of_none (sx _ _ has) gx)]; exact sx _ _ has
                have ky : KT (upd Hx x1 (.tup [.ref pw, ts[k], .int (zs.length : Nat)])) (upd (upd Hx x1 (.tup [.ref pw, ts[k], .int (zs.length : Nat)])) D (.lst (as ++ [.ref x1]))) := KT.lst hasx
                have kx := (KT.new (o := .tup [.ref pw, ts[k], .int (zs.length : Nat)]) gx).trans ky
                have k9x := (KT.same sx).trans kx
                refine ⟨fun b o e => ?_, as ++ [.ref x1], upd_same, by simp [las], ?_⟩
                · rw [upd_ne (nDs e), upd_ne (ne_of_none (sx _ _ (s9 _ _ e)) gx)]
                  exact sx _ _ (s9 _ _ e)
                · rw [List.take_add_one, hu, List.map_append]
                  exact paired_appB (paired_mono (fun _ _ z => z.on k9x (Nat.le_refl _)) pas) (.cons ⟨x1, pw, psw, ts[k], _, rfl, ky _ _ upd_same, kx _ _ hpw, lpw, by show dd + 1 + u.size ≤ 101; omega, hau.on ((KT.same s9).trans k9x), by omega, by omega⟩ .nil)
              have hat9 : atI ts (0 + (k : Int)) = some ts[k] := by
                rw [show (0 : Int) + (k : Int) = (k : Int) by omega]
                exact atI_of (by omega) (by omega) (by rw [Int.toNat_natCast]; exact List.getElem?_eq_getElem hk)
              have szas : as.length < sizeLine := by rw [las, sizeLine_eq]; omega
              refine ⟨rfl, iteT (B := (fun k H9 => Same H8 H9 ∧ ∃ as, H9 D = some (.lst as) ∧ as.length = k ∧ Paired (ItP H9 (zs.length + 1)) ((t.parts.take k).map fun u => (u, dd + 1)) as) (k + 1) H9) ⟨_, rfl, _, rfl, sz1, fun u1 g1 => ?_⟩⟩
              have su := Same.new (o := .tup [.int (0 + (k : Int))]) g1
              refine ⟨pp, u1, ps, _, rfl, rfl, .inl (.inl (su _ _ hpp9)), .inl (.inl upd_same), small (by show ps.length + 1 ≤ 1000; omega), fun hz => ?_, fun _ hz => absurd hz (by simp), fun hz _ pn gn => ?_⟩
              · refine ⟨_, rfl, _, rfl, pl, ts, _, _, rfl, rfl, SqL.of (su _ _ hpl9), hat9, _, rfl, sz3, fun x1 gx => ⟨as, by rw [upd_ne (ne_of_none (su _ _ has) gx)]; exact su _ _ has, szas, ?_⟩⟩
                exact fin3 _ u1 _ su upd_same (by simp) x1 gx
              · have sv := sameU (o := .tup (ps ++ [.int (0 + (k : Int))])) su gn
                refine ⟨_, rfl, _, rfl, pl, ts, _, _, rfl, rfl, SqL.of (sv _ _ hpl9), hat9, _, rfl, sz3, fun x1 gx => ⟨as, by rw [upd_ne (ne_of_none (sv _ _ has) gx)]; exact sv _ _ has, szas, ?_⟩⟩
                exact fin3 _ pn _ sv upd_same (by rw [List.length_append, List.length_singleton]; omega) x1 gx
            · rintro H9 ⟨s9, as, has, las, pas⟩
              rw [show t.parts.take ts.length = t.parts by rw [← lp]; simp] at pas
              refine ⟨D, as, rfl, SqL.of has, fun rv grv => ⟨lf, rv, _, _, rfl, rfl, by rw [upd_ne (ne_of_none (s9 _ _ hlf8) grv)]; exact s9 _ _ hlf8, upd_same, small (by rw [List.length_reverse, List.length_reverse]; omega), fun nl gnl => ?_⟩⟩
              have sr : Same H9 (upd H9 rv (.lst as.reverse)) := Same.new grv
              have sn := sameU (o := .lst (wr.reverse ++ as.reverse)) sr gnl
              have s89 : Same H8 (upd (upd H9 rv (.lst as.reverse)) nl (.lst (wr.reverse ++ as.reverse))) := fun b o e => sn b o (s9 b o e)
              have kn := KT.same sn
              have f5 : H nl = none := (show Same H (upd H9 rv (.lst as.reverse)) from fun b o e => sr b o (s9 b o (sC b o e))).free gnl
              have nne : ∀ {b o}, H8 b = some o → nl ≠ b := fun e z => by
                have := sr _ _ (s9 _ _ e)
                rw [← z, gnl] at this
                cases this
              refine ⟨szI (t.parts.map (fun u => (u, dd + 1)) ++ I), ?_, t.parts.map (fun u => (u, dd + 1)) ++ I, as ++ wr, zs ++ [.ref nq], nl, _, _, _, _, _, _, rfl, rfl, fun b o e => s89 b o (sC b o e), f5, nne hfd8, ?_, ?_, s89 _ _ hfd8, fun v hv => ?_, ?_⟩
              · rw [szI_app, szI_map]
                show _ < t.size + szI I
                rw [t.size_eq]
                unfold T.kids
                omega
              · rw [upd_same, List.reverse_append]
              · rw [List.length_append, List.length_singleton]
                exact paired_appB (paired_mono (fun _ _ z => z.on kn (Nat.le_refl _)) pas) (paired_mono (fun _ _ z => z.on (KT.same s89) (Nat.le_refl _)) hI8)
              · rw [List.length_append, List.length_singleton]
                exact (hfe8 v hv).on (KT.same s89) (fun b zs' _ _ hb hl => ⟨zs', s89 _ _ hb, hl⟩) fun fl zs' hfl _ _ z => (nne hfl) z.symm
              · rw [szI_app, szI_map, List.length_append, List.length_singleton]
                have e1 : szI ((t, dd) :: I) = t.size + szI I := rfl
                rw [e1, t.size_eq] at hB
                unfold T.kids at hB
                omega
    · rintro σ H1 ⟨ys, o2, o3, o4, o5, o6, o7, o8, o9, rfl, s1, hf1, hl1, hfe⟩
      exact ⟨_, rfl, q H1 fd ys s1 hf1⟩
end
end K1
set_option Elab.async false
set_option linter.all false
set_option maxRecDepth 100000
set_option maxHeartbeats 8000000
namespace K1
open PySem PySem.Spec PyProof.Rows L2 RZ
abbrev nscPr : List Str := ["loom", "stock", "rows", "tops", "fib", "lap"]
theorem scPr : FnScope nscPr ["loom"] (defScope (top 148)) := ⟨rfl, rfl, rfl, by decide +kernel, rfl, by decide +kernel, by decide +kernel⟩
theorem SB.free {l p : Addr} {H H' : Hp} (h : SB l H H') (n : p ≠ l) (f : H' p = none) : H p = none := by
  cases e : H p with
  | none => rfl
  | some o =>
    rw [h _ _ n e] at f
    cases f
def spProgram : Sp := fun vs H Q _ => ∃ l : Addr, vs = [.ref l] ∧ Lm H l ∧ ∀ H' p rs xs, SB l H H' → Lm H' l → H' p = some (.tup xs) → Paired (RwAt H') rs xs → (∀ r ∈ rs, r.ok) → rs.length ≤ 4 → Q (.ref p) H'
/-- the rows and the tops so far -/
structure PgS (l s rw tp : Addr) (H0 : Hp) (N kr kt : Nat) (H : Hp) : Prop where
  d : DS l s N H
  sb : SB l H0 H
  n1 : rw ≠ l
  n2 : rw ≠ s
  n3 : tp ≠ l
  n4 : tp ≠ s
  n5 : rw ≠ tp
  f1 : H0 rw = none
  f2 : H0 tp = none
  f3 : H0 s = none
  rows : ∃ rs xs, H rw = some (.lst xs) ∧ Paired (RwAt H) rs xs ∧ (∀ r ∈ rs, r.ok) ∧ rs.length ≤ kr
  tops : ∃ ts, H tp = some (.lst ts) ∧ ts.length ≤ kt ∧ ∀ x ∈ ts, FrV H x
section
variable {l s rw tp : Addr} {H0 H H' : Hp} {N M kr kt kr' kt' : Nat}
theorem PgS.le (g : PgS l s rw tp H0 N kr kt H) (h : M ≤ N) (h1 : kr ≤ kr') (h2 : kt ≤ kt') : PgS l s rw tp H0 M kr' kt' H := { g with
  d := g.d.le h
  rows := let ⟨rs, xs, a, b, c, e⟩ := g.rows; ⟨rs, xs, a, b, c, Nat.le_trans e h1⟩
  tops := let ⟨ts, a, b, c⟩ := g.tops; ⟨ts, a, Nat.le_trans b h2, c⟩ }
theorem PgS.on (g : PgS l s rw tp H0 N kr kt H) (d : DS l s M H') (x : SX2 l s H H') : PgS l s rw tp H0 M kr kt H' := by
  obtain ⟨rs, xs, h1, h2, h3, h4⟩ := g.rows
  obtain ⟨ts, t1, t2, t3⟩ := g.tops
  exact ⟨d, fun b o hb e => x b o hb (ne_of_none e g.f3) (g.sb b o hb e), g.n1, g.n2, g.n3, g.n4, g.n5, g.f1, g.f2, g.f3, ⟨rs, xs, x _ _ g.n1 g.n2 h1, paired_mono (fun _ _ z => z.on (KT.of g.d x)) h2, h3, h4⟩, ⟨ts, x _ _ g.n3 g.n4 t1, t2, fun y hy => (t3 y hy).on (KT.of g.d x)⟩⟩
/-- a row more -/
theorem PgS.row (g : PgS l s rw tp H0 N kr kt H) {r : Rw} {v : V} (hr : RwAt H r v) (ho : r.ok) {xs : List V} (hx : H rw = some (.lst xs)) : PgS l s rw tp H0 N (kr + 1) kt (upd H rw (.lst (xs ++ [v]))) := by
  obtain ⟨rs, xs', h1, h2, h3, h4⟩ := g.rows
  rw [hx] at h1
  cases h1
  obtain ⟨ts, t1, t2, t3⟩ := g.tops
  have kk : KT H (upd H rw (.lst (xs ++ [v]))) := KT.lst hx
  refine ⟨g.d.atb g.n1 g.n2, fun b o hb e => by rw [upd_ne (ne_of_none e g.f1)]; exact g.sb b o hb e, g.n1, g.n2, g.n3, g.n4, g.n5, g.f1, g.f2, g.f3, ⟨rs ++ [r], xs ++ [v], upd_same, paired_appB (paired_mono (fun _ _ z => z.on kk) h2) (.cons (hr.on kk) .nil), fun r' hr' => ?_, by simp; omega⟩, ⟨ts, by rw [upd_ne (Ne.symm g.n5)]; exact t1, t2, fun y hy => (t3 y hy).on kk⟩⟩
  rcases List.mem_append.mp hr' with h | h
  · exact h3 _ h
  · rw [List.mem_singleton] at h
    rw [h]
    exact ho
/-- a top more -/
theorem PgS.topm (g : PgS l s rw tp H0 N kr kt H) {ts : List V} (ht : H tp = some (.lst ts)) {v : V} (hv : FrV H v) : PgS l s rw tp H0 N kr (kt + 1) (upd H tp (.lst (ts ++ [v]))) := by
  have kk : KT H (upd H tp (.lst (ts ++ [v]))) := KT.lst ht
  obtain ⟨rs, xs, h1, h2, h3, h4⟩ := g.rows
  obtain ⟨ts', t1, t2, t3⟩ := g.tops
  rw [ht] at t1
  cases t1
  exact ⟨g.d.atb g.n3 g.n4, fun b o hb e => by rw [upd_ne (ne_of_none e g.f2)]; exact g.sb b o hb e, g.n1, g.n2, g.n3, g.n4, g.n5, g.f1, g.f2, g.f3, ⟨rs, xs, by rw [upd_ne g.n5]; exact h1, paired_mono (fun _ _ z => z.on kk) h2, h3, h4⟩, ⟨ts ++ [v], upd_same, by simp; omega, fun y hy => by
    rcases List.mem_append.mp hy with h | h
    · exact (t3 y h).on kk
    · rw [List.mem_singleton] at h
      rw [h]
      exact hv.on kk⟩⟩
end
section
variable {P : Program} {w : World} {K : PySem.W.Frag} {mg : Str → Option Value} {base : Heap} {f : Addr} {fd : FuncData}
theorem ok_program {fS fT fC fL : Addr} {fdS fdT fdC fdL : FuncData} (F : FnP K "_law_program" (top 148) f fd) (B : Bn mg) (F_law_shed : FnP K "_law_shed" (top 138) fS fdS) (g_law_shed : mg "_law_shed" = some (.ref fS)) (F_law_stock : FnP K "_law_stock" (top 143) fT fdT) (g_law_stock : mg "_law_stock" = some (.ref fT)) (F_law_piece : FnP K "_law_piece" (top 147) fC fdC) (g_law_piece : mg "_law_piece" = some (.ref fC)) (G_law_piece : FnOk P w K mg base CX0 5 fC fdC ["loom", "stock", "tops", "sort", "fib"] spPiece)
    (F_law_places : FnP K "_law_places" (top 142) fL fdL) (g_law_places : mg "_law_places" = some (.ref fL)) (G_law_places : FnOk P w K mg base CX0 2 fL fdL ["program"] spPlaces) : FnOk P w K mg base CX0 6 f fd ["loom"] spProgram := by
  have G_law_shed : FnOk P w K mg base CX0 1 fS fdS ["loom", "ends"] spShed := ok_shed F_law_shed B.int
  have b_law_shed : Binds K fdS ["loom", "ends"] [] := F_law_shed.bindsN fun _ _ _ _ _ _ us hl => match us, hl with | [_, _], _ => rfl
  have G_law_stock : FnOk P w K mg base CX0 2 fT fdT ["loom"] spStock := ok_stock F_law_stock B F_law_shed g_law_shed
  have b_law_stock : Binds K fdT ["loom"] [] := F_law_stock.bindsN fun _ _ _ _ _ _ us hl => match us, hl with | [_], _ => rfl
  have b_law_piece : Binds K fdC ["loom", "stock", "tops", "sort", "fib"] [] := F_law_piece.bindsN fun _ _ _ _ _ _ us hl => match us, hl with | [_, _, _, _, _], _ => rfl
  have b_law_places : Binds K fdL ["program"] [] := F_law_places.bindsN fun _ _ _ _ _ _ us hl => match us, hl with | [_], _ => rfl
  refine F.ok scPr (fun vs H Q E h => ?_) ?_
  · obtain ⟨l, rfl, _⟩ := h
    rfl
  intro cdv A outer s0 H vs Q E hr h
  refine' ⟨_, PSs.nox ?p, ?q⟩
  case p =>
    refine' pss_cons (ps_asg (pe_tup (pa_cons (pe_call G_law_stock (hr.mono (by decide)) rfl g_law_stock F_law_stock.kp b_law_stock .nil pass0 (pa_cons (pv 0) pa_nil)) (pa_cons (pe_lst pa_nil) (pa_cons (pe_lst pa_nil) (pa_cons (pe_cmpR op_eq (pe_call G_law_shed (hr.mono (by decide)) rfl g_law_shed F_law_shed.kp b_law_shed .nil pass0 (pa_cons (pv 0) (pa_cons pe_int pa_nil))) pe_int (nomark _)) pa_nil))))) (pg_tup rfl (pgs_cons (pg_name (i := 1) scPr.nd rfl (Or.inl rfl)) (pgs_cons (pg_name (i := 2) scPr.nd rfl (Or.inl rfl)) (pgs_cons (pg_name (i := 3) scPr.nd rfl (Or.inl rfl)) (pgs_cons (pg_name (i := 4) scPr.nd rfl (Or.inl rfl)) pgs_nil)))))) ?w0
    case w0 =>
    refine' pss_cons (ps_if (pt_cmpR op_eq (pe_call G_law_shed (hr.mono (by decide)) rfl g_law_shed F_law_shed.kp b_law_shed .nil pass0 (pa_cons (pv 0) (pa_cons pe_int pa_nil))) pe_int (nomark _)) (pss_cons (ps_expr (pe_bm PySem.F.plainAttrs_list PySem.F.slot_list_append PySem.F.type_list_append mt_append (pv 3) (pa_cons (pe_tup (pa_cons (pe_bm0 PySem.F.plainAttrs_list PySem.F.slot_list_pop PySem.F.type_list_pop mt_pop (pv 1)) (pa_cons pe_str pa_nil))) pa_nil))) (pss_one (ps_expr (pe_bm PySem.F.plainAttrs_list PySem.F.slot_list_append PySem.F.type_list_append mt_append (pv 2) (pa_cons (pe_tup (pa_cons pe_str (pa_cons (pe_ix (r := rIxT K) ix_tup (pe_ix (r := rIxL K) ix_list (pv 3) pe_int (fun _ _ => rfl)) pe_int (fun _ _ => rfl)) pa_nil))) pa_nil))))) (pss_nil)) ?w1
    case w1 =>
    refine' pss_cons (ps_for PassesOwn.never rfl (pi_range1 rfl B.range (pa_cons (pe_op op_add pe_int (pe_call G_law_shed (hr.mono (by decide)) rfl g_law_shed F_law_shed.kp b_law_shed .nil pass0 (pa_cons (pv 0) (pa_cons pe_int pa_nil)))) pa_nil)) (pg_name (i := 5) scPr.nd rfl (Or.inl rfl))
      (pss_cons (ps_expr (pe_bm PySem.F.plainAttrs_list PySem.F.slot_list_append PySem.F.type_list_append mt_append (pv 2) (pa_cons (pe_tup (pa_cons pe_str (pa_cons (pe_bm0 PySem.F.plainAttrs_list PySem.F.slot_list_pop PySem.F.type_list_pop mt_pop (pv 1)) (pa_cons (pe_call G_law_piece (hr.mono (by decide)) rfl g_law_piece F_law_piece.kp b_law_piece .nil pass0 (pa_cons (pv 0) (pa_cons (pv 1) (pa_cons (pv 3) (pa_cons pe_str (pa_cons (pv 4) pa_nil)))))) pa_nil)))) pa_nil))) (pss_one (ps_expr (pe_bm PySem.F.plainAttrs_list PySem.F.slot_list_append PySem.F.type_list_append mt_append (pv 3) (pa_cons (pe_tup (pa_cons (pe_ix (r := rIxT K) ix_tup (pe_ix (r := rIxL K) ix_list (pv 2) (pe_un un_neg pe_int) (fun _ _ => rfl)) pe_int (fun _ _ => rfl)) (pa_cons pe_str pa_nil))) pa_nil)))))) ?w2
    case w2 =>
    refine' pss_cons (ps_expr (pe_bm PySem.F.plainAttrs_list PySem.F.slot_list_append PySem.F.type_list_append mt_append (pv 2) (pa_cons (pe_tup (pa_cons pe_str (pa_cons (pe_call G_law_piece (hr.mono (by decide)) rfl g_law_piece F_law_piece.kp b_law_piece .nil pass0 (pa_cons (pv 0) (pa_cons (pv 1) (pa_cons (pv 3) (pa_cons pe_str (pa_cons (pv 4) pa_nil)))))) pa_nil))) pa_nil))) ?w3
    case w3 =>
    exact pss_one (ps_ret (pe_ifExp (pt_cmpR op_lt (pe_callB (r := rLen K) call_len_seq rfl B.len boot_len (pa_cons (pe_call G_law_places (hr.mono (by decide)) rfl g_law_places F_law_places.kp b_law_places .nil pass0 (pa_cons (pv 2) pa_nil)) pa_nil)) pe_int (nomark _)) (pe_callTy call_tuple_of rfl B.tuple (by decide +kernel) (pa_cons (pv 2) pa_nil)) (pe_tup (pa_cons (pe_tup (pa_cons pe_str (pa_cons (pe_tup (pa_cons pe_str (pa_cons pe_int pa_nil))) pa_nil))) pa_nil))))

  case q =>
    obtain ⟨l, rfl, hl, q⟩ := h
    refine ⟨_, rfl, l, rfl, hl, fun H1 s names sb1 lm1 fs nsl hs hnm h103 => ⟨small (by decide), fun rw hrw => ⟨small (by decide), fun tp htp => ?_⟩⟩⟩
    have d1 : DS l s 84 H1 := ⟨lm1, Ne.symm nsl, names, hs, hnm, by omega, by omega⟩
    have nr1 := d1.pl hrw
    have nr2 := d1.ps hrw
    have d2 := d1.new (o := .lst []) hrw
    have nt1 := d2.pl htp
    have nt2 := d2.ps htp
    have htp1 : H1 tp = none := by
      by_cases z : tp = rw
      · rw [z]; exact hrw
      · rw [upd_ne z] at htp; exact htp
    have nrt : rw ≠ tp := fun z => by rw [← z, upd_same] at htp; cases htp
    have d3 := d2.new (o := .lst []) htp
    have g3 : PgS l s rw tp H 84 0 0 (upd (upd H1 rw (.lst [])) tp (.lst [])) := ⟨d3, fun b o hb e => by
      rw [upd_ne (ne_of_none (sb1 _ _ hb e) htp1), upd_ne (ne_of_none (sb1 _ _ hb e) hrw)]
      exact sb1 _ _ hb e, nr1, nr2, nt1, nt2, nrt, sb1.free nr1 hrw, sb1.free nt1 htp1, fs, ⟨[], [], by rw [upd_ne nrt]; exact upd_same, .nil, by simp, Nat.le_refl _⟩, ⟨[], upd_same, Nat.le_refl _, by simp⟩⟩
    generalize upd (upd H1 rw (.lst [])) tp (.lst []) = H3 at g3
    clear d1 d2 d3 htp htp1 hrw sb1 lm1 hs
    refine ⟨_, rfl, l, 2, rfl, by decide, by decide, g3.d.lm, fun j a b c k0 k1 m0 m1 m2 m3 m4 => ?_⟩
    have d4 := g3.d.shed m0 m1 m2 m3 m4
    have g4 := g3.on d4 SX2.atl
    generalize upd H3 l (.lst [.int a, .int b, .int c]) = H4 at g4
    clear d4
    refine ⟨rfl, K1.d4, fun t4 ht4 => ⟨t4, _, rfl, .inl (.inl upd_same), rfl, _, _, rfl, _, _, rfl, _, _, rfl, _, _, rfl, rfl, ?_⟩⟩
    have g5 := g4.on (g4.d.new (o := .tup [.ref s, .ref rw, .ref tp, .bl (decide (V.int j = V.int 0))]) ht4) (SX2.new ht4)
    generalize upd H4 t4 (.tup [.ref s, .ref rw, .ref tp, .bl (decide (V.int j = V.int 0))]) = H5 at g5
    generalize decide (V.int j = V.int 0) = fib
    refine ⟨_, rfl, l, 2, rfl, by decide, by decide, g5.d.lm, fun j a b c k0 k1 m0 m1 m2 m3 m4 => ?_⟩
    have g6 := g5.on (g5.d.shed m0 m1 m2 m3 m4) SX2.atl
    generalize upd H5 l (.lst [.int a, .int b, .int c]) = H6 at g6
    clear g3 g4 g5
    refine' (fun key : ∀ H', PgS l s rw tp H 83 1 1 H' → (?R : Hp → Prop) H' => ?main) ?k
    case main =>
      refine ⟨rfl, _, rfl, ?_⟩
      by_cases hj : V.int j = V.int 0
      · refine ifT (decide_eq_true hj) ?_
        obtain ⟨ts, t1, t2, t3⟩ := g6.tops
        cases ts with
        | cons _ _ => exact absurd t2 (by simp)
        | nil =>
        refine ⟨_, rfl, .inl ⟨rfl, _, SqL.of t1⟩, ?_⟩
        have d6 : DS l s (83 + 1) H6 := g6.d
        refine DS.pop (K := K) (i := 1) d6 rfl fun x H7 nx d7 x7 _ => ?_
        have g7 := g6.on d7 x7
        have t7 := x7 tp _ nt1 nt2 t1
        refine ⟨sz2, fun p0 h0 => ⟨tp, [], .ref p0, rfl, rfl, by rw [upd_ne (ne_of_none t7 h0)]; exact t7, by rw [sizeLine_eq]; exact Nat.succ_le_of_lt (by decide), ?_⟩⟩
        have g8 := g7.on (g7.d.new (o := .tup [.str x, .str "n"]) h0) (SX2.new h0)
        have t8 : upd H7 p0 (.tup [.str x, .str "n"]) tp = some (.lst []) := by rw [upd_ne (ne_of_none t7 h0)]; exact t7
        have v8 : upd H7 p0 (.tup [.str x, .str "n"]) p0 = some (.tup [.str x, .str "n"]) := upd_same
        generalize upd H7 p0 (.tup [.str x, .str "n"]) = H8 at g8 t8 v8
        have g9 := g8.topm t8 (v := .ref p0) ⟨p0, x, _, rfl, v8, nx, .inl rfl⟩
        have v9 := KT.lst (o := .lst ([] ++ [.ref p0])) t8 _ _ v8
        have t9 : upd H8 tp (.lst ([] ++ [.ref p0])) tp = some (.lst [.ref p0]) := upd_same
        generalize upd H8 tp (.lst ([] ++ [.ref p0])) = H9 at g9 v9 t9
        obtain ⟨rs, xs, r1, r2, r3, r4⟩ := g9.rows
        refine ⟨_, rfl, .inl ⟨rfl, _, SqL.of r1⟩, ?_⟩
        refine ⟨_, rfl, tp, _, 0, _, rfl, rfl, SqL.of t9, rfl, p0, _, 0, _, rfl, rfl, .inl (.inl v9), rfl, sz2, fun q0 w0 => ⟨rw, xs, .ref q0, rfl, rfl, by rw [upd_ne (ne_of_none r1 w0)]; exact r1, by rw [sizeLine_eq]; have := r2.length; omega, ?_⟩⟩
        have gA := g9.on (g9.d.new (o := .tup [.str "give", .str x]) w0) (SX2.new w0)
        have rA : upd H9 q0 (.tup [.str "give", .str x]) rw = some (.lst xs) := by rw [upd_ne (ne_of_none r1 w0)]; exact r1
        have vA : RwAt (upd H9 q0 (.tup [.str "give", .str x])) (.give x) (.ref q0) := ⟨q0, rfl, upd_same⟩
        generalize upd H9 q0 (.tup [.str "give", .str x]) = HA at gA rA vA
        have gB := gA.row vA nx rA
        generalize upd HA rw (.lst (xs ++ [.ref q0])) = HB at gB
        exact key _ gB
      · refine ifF (decide_eq_false hj) ?_
        exact key _ (g6.le (show 83 ≤ 84 by decide) (Nat.zero_le _) (Nat.zero_le _))
    case k =>
      intro H1 g1
      refine ⟨_, rfl, l, 2, rfl, by decide, by decide, g1.d.lm, fun j a b c k0 k1 m0 m1 m2 m3 m4 => ?_⟩
      have g2 := g1.on (g1.d.shed m0 m1 m2 m3 m4) SX2.atl
      generalize upd H1 l (.lst [.int a, .int b, .int c]) = H2 at g2
      clear g1 m0 m1 m2 m3 m4
      refine ⟨_, _, rfl, rfl, _, rfl, by omega, by omega, for_range (lo := 0) (n := (1 + j).toNat) (fun k σ H' => ∃ o5 : Option V, σ = [some (.ref l), some (.ref s), some (.ref rw), some (.ref tp), some (.bl fib), o5] ∧ PgS l s rw tp H (27 + 28 * (2 - k)) (1 + k) (1 + k) H') ⟨_, rfl, g2⟩ ?_ ?_⟩
      · rintro k σ H3 hk ⟨o5, rfl, g3⟩
        have hk2 : k < 2 := by omega
        obtain ⟨rs, xs, r1, r2, r3, r4⟩ := g3.rows
        obtain ⟨ts, t1, t2, t3⟩ := g3.tops
        have d3 : DS l s (((27 + 28 * (2 - (k + 1))) + 27) + 1) H3 := g3.d.le (by omega)
        refine ⟨_, rfl, .inl ⟨rfl, _, SqL.of r1⟩, ?_⟩
        refine DS.pop (K := K) (i := 1) d3 rfl fun x H4 nx d4 x4 _ => ?_
        have g4 := g3.on d4 x4
        refine ⟨_, rfl, _, rfl, _, rfl, _, rfl, l, s, tp, ts, "f", fib, _, rfl, .inl rfl, d4, nt1, nt2, x4 _ _ nt1 nt2 t1, by omega, fun y hy => (t3 y hy).on (KT.of d3 x4), fun H5 y t d5 x5 a5 ok5 sz5 => ?_⟩
        have g5 := g4.on d5 x5
        have r5 := x5 _ _ g3.n1 g3.n2 (x4 _ _ g3.n1 g3.n2 r1)
        have t5 := x5 _ _ nt1 nt2 (x4 _ _ nt1 nt2 t1)
        refine ⟨sz3, fun q0 w0 => ⟨rw, xs, .ref q0, rfl, rfl, by rw [upd_ne (ne_of_none r5 w0)]; exact r5, by rw [sizeLine_eq]; have := r2.length; omega, ?_⟩⟩
        have g6 := g5.on (g5.d.new (o := .tup [.str "let", .str x, y]) w0) (SX2.new w0)
        have r6 : upd H5 q0 (.tup [.str "let", .str x, y]) rw = some (.lst xs) := by rw [upd_ne (ne_of_none r5 w0)]; exact r5
        have t6 : upd H5 q0 (.tup [.str "let", .str x, y]) tp = some (.lst ts) := by rw [upd_ne (ne_of_none t5 w0)]; exact t5
        have v6 : upd H5 q0 (.tup [.str "let", .str x, y]) q0 = some (.tup [.str "let", .str x, y]) := upd_same
        have a6 := a5.on (KT.new (o := .tup [.str "let", .str x, y]) w0)
        generalize upd H5 q0 (.tup [.str "let", .str x, y]) = H6 at g6 r6 t6 v6 a6
        have g7 := g6.row (r := .lt x t) ⟨q0, y, rfl, v6, a6⟩ ⟨nx, ok5, sz5⟩ r6
        have r7 : upd H6 rw (.lst (xs ++ [.ref q0])) rw = some (.lst (xs ++ [.ref q0])) := upd_same
        have t7 : upd H6 rw (.lst (xs ++ [.ref q0])) tp = some (.lst ts) := by rw [upd_ne (Ne.symm g3.n5)]; exact t6
        have v7 := KT.lst (o := .lst (xs ++ [.ref q0])) r6 _ _ v6
        generalize upd H6 rw (.lst (xs ++ [.ref q0])) = H7 at g7 r7 t7 v7
        have hlast : atI (xs ++ [V.ref q0]) (-1) = some (.ref q0) := by
          rw [at_last (by simp)]
          simp
        refine ⟨_, rfl, .inl ⟨rfl, _, SqL.of t7⟩, _, rfl, _, rfl, rw, _, -1, _, rfl, rfl, SqL.of r7, hlast, q0, _, 1, _, rfl, rfl, .inl (.inl v7), rfl, sz2, fun p0 h0 => ⟨tp, ts, .ref p0, rfl, rfl, by rw [upd_ne (ne_of_none t7 h0)]; exact t7, by rw [sizeLine_eq]; omega, ?_⟩⟩
        have g8 := g7.on (g7.d.new (o := .tup [.str x, .str "f"]) h0) (SX2.new h0)
        have t8 : upd H7 p0 (.tup [.str x, .str "f"]) tp = some (.lst ts) := by rw [upd_ne (ne_of_none t7 h0)]; exact t7
        have v8 : upd H7 p0 (.tup [.str x, .str "f"]) p0 = some (.tup [.str x, .str "f"]) := upd_same
        generalize upd H7 p0 (.tup [.str x, .str "f"]) = H8 at g8 t8 v8
        exact ⟨_, rfl, g8.topm t8 ⟨p0, x, _, rfl, v8, nx, .inr (.inl rfl)⟩⟩
      · rintro σ H3 ⟨o5, rfl, g3⟩
        have g3 := g3.le (M := 27) (kr' := 3) (kt' := 3) (by omega) (by omega) (by omega)
        obtain ⟨rs, xs, r1, r2, r3, r4⟩ := g3.rows
        obtain ⟨ts, t1, t2, t3⟩ := g3.tops
        refine ⟨_, rfl, .inl ⟨rfl, _, SqL.of r1⟩, ?_⟩
        refine ⟨_, rfl, _, rfl, _, rfl, _, rfl, l, s, tp, ts, "n", fib, 0, rfl, .inr rfl, g3.d, nt1, nt2, t1, by omega, t3, fun H5 y t d5 x5 a5 ok5 sz5 => ?_⟩
        have g5 := g3.on d5 x5
        have r5 := x5 _ _ g3.n1 g3.n2 r1
        refine ⟨sz2, fun q0 w0 => ⟨rw, xs, .ref q0, rfl, rfl, by rw [upd_ne (ne_of_none r5 w0)]; exact r5, by rw [sizeLine_eq]; have := r2.length; omega, ?_⟩⟩
        have g6 := g5.on (g5.d.new (o := .tup [.str "tell", y]) w0) (SX2.new w0)
        have r6 : upd H5 q0 (.tup [.str "tell", y]) rw = some (.lst xs) := by rw [upd_ne (ne_of_none r5 w0)]; exact r5
        have v6 : upd H5 q0 (.tup [.str "tell", y]) q0 = some (.tup [.str "tell", y]) := upd_same
        have a6 := a5.on (KT.new (o := .tup [.str "tell", y]) w0)
        generalize upd H5 q0 (.tup [.str "tell", y]) = H6 at g6 r6 v6 a6
        have g7 := g6.row (r := .tell t) ⟨q0, y, rfl, v6, a6⟩ ⟨ok5, sz5⟩ r6
        generalize upd H6 rw (.lst (xs ++ [.ref q0])) = H7 at g7
        clear g5 g6 r1 r2 r3 r4 t1 t2 t3 r5 r6 v6 a6 a5 x5 d5 w0
        obtain ⟨rs, xs, r1, r2, r3, r4⟩ := g7.rows
        refine ⟨_, rfl, rw, rs, xs, rfl, r1, r2, r3, by omega, fun H8 q8 ys u8 hq8 => ⟨q8, ys, rfl, .inl (SqL.of hq8), _, _, rfl, rfl, ?_⟩⟩
        refine ⟨_, rfl, ?_⟩
        have lm8 : Lm H8 l := by
          obtain ⟨a, b, c, e, z⟩ := g7.d.lm
          exact ⟨a, b, c, u8 _ _ e, z⟩
        have sb8 : SB l H H8 := fun b o hb e => u8 _ _ (g7.sb b o hb e)
        by_cases hlt : (ys.length : Int) < 111
        · refine ifT (decide_eq_true hlt) ?_
          refine ⟨_, rfl, rw, xs, rfl, .inl ⟨SqL.of (u8 _ _ r1), fun p hp => ?_⟩⟩
          exact q _ p rs xs (fun b o hb e => by rw [upd_ne (ne_of_none (sb8 b o hb e) hp)]; exact sb8 b o hb e) (by
            obtain ⟨a, b, c, e, z⟩ := lm8
            exact ⟨a, b, c, by rw [upd_ne (ne_of_none e hp)]; exact e, z⟩) upd_same (paired_mono (fun _ _ z => (z.on (KT.same u8)).on (KT.new hp)) r2) r3 (by omega)
        · refine ifF (decide_eq_false hlt) ?_
          refine ⟨sz2, fun i0 w0 => ⟨sz2, fun i1 w1 => ⟨sz1, fun i2 w2 => ?_⟩⟩⟩
          have s1 := Same.new (o := .tup [.str "number", .int 5]) w0
          have s2 := sameU (o := .tup [.str "tell", .ref i0]) s1 w1
          have s3 := sameU (o := .tup [.ref i1]) s2 w2
          refine q _ i2 [.tell (.num 5)] _ (fun b o hb e => s3 _ _ (sb8 b o hb e)) (by
            obtain ⟨a, b, c, e, z⟩ := lm8
            exact ⟨a, b, c, s3 _ _ e, z⟩) upd_same (.cons ⟨i1, _, rfl, by rw [upd_ne (ne_of_none upd_same w2)]; exact upd_same, i0, rfl, by rw [upd_ne (ne_of_none (by rw [upd_ne (ne_of_none upd_same w1)]; exact upd_same) w2), upd_ne (ne_of_none upd_same w1)]; exact upd_same⟩ .nil) (fun r hr => by
            rw [List.mem_singleton] at hr
            rw [hr]
            exact ⟨⟨by decide, by decide⟩, show 1 ≤ 100 by decide⟩) (by simp)
end
end K1
set_option Elab.async false
set_option linter.all false
set_option maxRecDepth 100000
set_option maxHeartbeats 2000000
/-! An own exception over Exception whose __init__ says super().__init__(x), raised; several clauses with names. -/
namespace K1
open PySem PySem.Spec PyProof.Rows L2
open PySem.HandSPX (excO)
section
variable {X : Cx}
/-- the end of the making, the exception let go -/
theorem mk_fin0 {pins : List (Addr × Obj)} {σ : L2.St} {H : Hp} {hp h2 h' : Heap} {g : Array GenState} {d : Drawn} {t t' : Nat} {os : OsState} {C x dx t1 : Addr} {fs : List (Str × V)} {m1 : Str → Option Value} {Q : XK} (I : Inv X pins σ H ⟨hp, g, d, t, os⟩)
    (hx : hp.objs.size ≤ x) (k2 : ∀ b o, hp.get? b = some o → h2.get? b = some o) (hs : hp.objs.size ≤ h2.objs.size) (E : End1 h2 h' x C dx t1 m1) (r : ∀ f, RelO (fs.lookup f) (m1 f)) (T : Raises X (.ref C)) (q : ∀ dx, H dx = none → Q (.ref C) (some dx) (upd H dx (.xd fs))) :
    MkP X pins σ Q (.ref x) ⟨h', g, d, t', os⟩ := by
  have hd : hp.objs.size ≤ dx := Nat.le_trans hs E.new
  obtain ⟨G, g1, g2⟩ := restrict h' fun b => decide (b ≠ x)
  have gk : ∀ b, b ≠ x → G.get? b = h'.get? b := fun b hb => g1 b (decide_eq_true hb)
  have ge : G.get? x = none := g2 x (by simp)
  have old : ∀ {b : Addr} {o : Obj}, hp.get? b = some o → b ≠ x ∧ b ≠ dx := fun {b o} z => ⟨Nat.ne_of_lt (Nat.lt_of_lt_of_le (Heap.lt_size z) hx), Nat.ne_of_lt (Nat.lt_of_lt_of_le (Heap.lt_size z) hd)⟩
  have nd : H dx = none := I.hok.fresh hd
  have nx : H x = none := I.hok.fresh hx
  have kG : ∀ b o, hp.get? b = some o → G.get? b = some o := fun b o e => by
    rw [gk b (old e).1]
    exact E.keep b o (old e).1 (k2 b o e)
  have up : ∀ {c : Addr} {z : HO}, H c = some z → upd H dx (.xd fs) c = some z := fun {c z} q => by rw [upd_ne (ne_of_none q nd)]; exact q
  have U : Un X.fs [] H (upd H dx (.xd fs)) hp G := ⟨fun c z q _ _ _ => kG c z q, fun c z q _ _ _ => ⟨z.slots, kG c z q⟩, fun c z q n _ => by rw [upd_ne (old q).2]; exact n, fun c z q _ => ⟨z, kG c z q⟩, fun c xs q => up q, fun c z v q => up q, fun c ps q => ⟨#[], by rw [up q]; simp⟩⟩
  have J : Inv X pins σ (upd H dx (.xd fs)) ⟨G, g, d, t', os⟩ := I.un (t' := t') U fun c z q => by
    by_cases e2 : c = dx
    · subst e2
      rw [upd_same] at q
      cases q
      exact ⟨m1, (E.ns.at fun o y => (gk c E.ne).trans y), r⟩
    · rw [upd_ne e2] at q
      exact (I.hok c z q).stay (fun c2 v _ y => kG c2 v y) (fun c2 y => up y) fun c2 xs y => up y
  refine ⟨x, _, _, ⟨G, g, d, t', os⟩, _, .ref C, some dx, rfl, J, fun b o z => ?_, ge, E.obj, ⟨rfl, rfl⟩, rfl, rfl, by rw [upd_ne (Ne.symm E.ne)]; exact nx, rfl, I.bare, T, q dx nd⟩
  by_cases e : b = x
  · rw [e, ge] at z
    cases z
  · exact (gk b e).symm.trans z
/-- the run of C(..) behind its arguments, the exception let go -/
def MkRunX (X : Cx) (C : Addr) (n : Nat) (fl : List V → List (Str × V)) : Prop := ∀ (pins : List (Addr × Obj)) (σ : L2.St) (H : Hp) (s : Shared) (us : List Value) (vs : List V) (Q : XK), Inv X pins σ H s → Vals vs us → vs.length = n →
  (∀ dx, H dx = none → Q (.ref C) (some dx) (upd H dx (.xd (fl vs)))) → wpAny (model X.prog X.w) X.A (call (.ref C) us) (MkP X pins σ Q) X.xe s
theorem run_genX {C fI : Addr} {k : Nat} {pins : List (Addr × Obj)} {σ : L2.St} {H : Hp} {s : Shared} {Q : XK} {ua : List Value} {kw : List (Str × Value)} {m1 : Str → Option Value} {fs : List (Str × V)} (T : XC X.K C) (TR : Raises X (.ref C)) (iC : PySem.W.findIn X.K (.ref C) "__init__" = some (some (.ref fI))) (tI : PySem.W.typeIn X.K (.ref fI) = some (.type "function"))
    (hr : Room k X.A) (hz : ua.length ≤ sizeLine) (D : InitDoes X C fI ua kw m1) (I : Inv X pins σ H s) (r : ∀ f, RelO (fs.lookup f) (m1 f)) (q : ∀ dx, H dx = none → Q (.ref C) (some dx) (upd H dx (.xd fs))) :
    wpAny (model X.prog X.w) X.A (call (.ref C) ua kw) (MkP X pins σ Q) X.xe s := by
  obtain ⟨nm, qn, N, bs, bm, sn, sub, ab, col, dd, k0, k1, k2, k3, k5, hC, hbm⟩ := T.cls
  obtain ⟨mb, hb1, hb2⟩ := I.mod.blt
  have G := I.mod.glob.keeps I.bk
  have B := hb1.keeps I.bk
  have lim := I.nolimit
  have KI := I.kIn
  obtain ⟨hp, g, d, tk, os⟩ := s
  have kk : ∀ b o, hp.get? b = some o → ((hp.push (PySem.W.kdv_tup ua)).push (excO C hp.objs.size)).get? b = some o := fun b o e => Heap.get?_push_of_some _ (Heap.get?_push_of_some _ e)
  have new : ((hp.push (PySem.W.kdv_tup ua)).push (excO C hp.objs.size)).get? (hp.objs.size + 1) = some (excO C hp.objs.size) := by heap_get
  have nk : X.K.lookup (hp.objs.size + 1) = none := by
    cases e : X.K.lookup (hp.objs.size + 1) with
    | none => rfl
    | some o =>
      have z : hp.get? (hp.objs.size + 1) = some o := KI _ _ e
      exact absurd (Nat.lt_of_succ_lt (Heap.lt_size z)) (Nat.lt_irrefl _)
  refine wpAny_call (kw_own F.excBase_Exception (fun Y => upE_has Y bm hbm) (KI _ _ hC) (PySem.W.looks_findIn KI iC) (fun self => PySem.W.bind_fn KI self tI) hz ?_)
  refine D _ _ _ (hp.objs.size + 1) hp.objs.size mb (KI.keeps kk) (G.keeps kk) (B.keeps kk) ((hb2 _ (by decide)).trans boot_super) (lim.keeps kk) new nk ?_ fun h' t' dx t1 E => ?_
  · have := hr.dp
    show X.A.depth + 1 < recursionLimit
    omega
  · exact ⟨rfl, mk_fin0 I (Nat.le_succ _) kk (by rw [Heap.size_push, Heap.size_push]; omega) E r TR q⟩
theorem run1X {C : Addr} {f : Str} {k : Nat} (S : SupOk X.prog X.mg) (hr : Room k X.A) (T : X1 X.prog X.K C f) (TR : Raises X (.ref C)) (hb : ∀ u q1, Bd [f] [q1] [u] [] [u]) (hfs : (("self" : Str) == f) = false := by decide) (hfd : (f == ("__debug__" : Str)) = false := by decide) (hl : (scI [f]).names.lookup f = some .local := by decide) : MkRunX X C 1 fun vs => [f].zip vs := by
  intro pins σ H s us vs Q I r l q
  match vs, us, r, l with
  | [v], [u], .cons rv .nil, _ =>
    obtain ⟨fI, a1, a2, D⟩ := does1 S T (hb u) hfs hfd hl
    exact run_genX T.T TR a1 a2 hr (one_fits _ (by simp)) D I (rel1 rv) q
/-- C(..) that is raised -/
def tPmX (C : Addr) (n : Nat) (fl : List V → List (Str × V)) (ta : TA) : L2.St → Hp → XK → Prop := fun σ H Q => ta σ H fun vs H1 => vs.length = n ∧ ∀ dx, H1 dx = none → Q (.ref C) (some dx) (upd H1 dx (.xd (fl vs)))
theorem pmk_X {C : Addr} {n : Nat} {fl : List V → List (Str × V)} {x : Str} {e : Expr} {es : List Expr} {ta : TA} {p pos : Pos} (M : MkRunX X C n fl) (kC : PySem.W.keepIn X.K (.ref C) = true) (hg : Gl X x) (hm : X.mg x = some (.ref C)) (ha : PA X (e :: es) ta)
    (hdb : (x == ("__debug__" : Str)) = false := by decide) (he : starEach (e :: es) X.env = (false, eval e X.env) :: starEach es X.env := by rfl) (hpl : (backTo pos (starEach es X.env)).any (·.1) = false := by rfl) :
    PMk X (.Call (.Name x p) (e :: es) [] pos) (tPmX C n fl ta) := by
  intro pins s σ H Q I h
  refine wpAny_Call_Name_kw (ld_glob I hg hm ?_ hdb)
  refine PySem.W.callWith_K (h₀ := X.base) I.ok.mod.kin kC (thn (ha.run pos pins s σ H _ I h) fun us s1 ⟨vs, H1, I1, r1, hl, q1⟩ => ⟨I1.kIn, ?_⟩) he hpl
  exact M pins σ H1 s1 us vs Q I1 r1 hl q1
end
/-- what the clauses with names wish of an exception of the body, one after the other -/
def wManyN (K : PySem.W.Frag) (Wout : WX) (D : Ends) : List (Value × Nat × (Addr → Value → Option Addr → TS)) → WX
  | [] => Wout
  | (c, i, ts) :: r => fun cls d σ H => ∃ b, PySem.W.exmOne K cls c = some b ∧
    (b = true → ∀ a, H a = none → ts a cls d { nx := fun σ' H' => D.nx (σ'.set i none) H', rt := D.rt, bk := fun σ' H' => D.bk (σ'.set i none) H', ct := fun σ' H' => D.ct (σ'.set i none) H' } (σ.set i (some (.ref a))) H) ∧ (b = false → wManyN K Wout D r cls d σ H)
inductive HdsN (X : Cx) : List ExceptHandler → List (Value × Nat × (Addr → Value → Option Addr → TS)) → Prop
  | nil : HdsN X [] []
  | cons {x n : Str} {c : Value} {i : Nat} {ts : Addr → Value → Option Addr → TS} {b₀ : Stmt} {suite : List Stmt} {np pos' : Pos} {hds : List ExceptHandler} {l : List (Value × Nat × (Addr → Value → Option Addr → TS))} (hi : X.N[i]? = some n) (hln : X.env.kindOf n = some .local) (hc : Names X x c)
      (hsu : ∀ (a : Addr) (oe : Obj) (cls : Value) (d : Option Addr) (pn : List (Addr × Obj)), Zc cls d oe → (∃ vs, oe.data = .fields vs) → PSs (X.suite a ((a, oe) :: pn)) (b₀ :: suite) (ts a cls d)) (r : HdsN X hds l) :
      HdsN X (.ExceptHandler (some (.Name x np)) (some n) (b₀ :: suite) pos' :: hds) ((c, i, ts) :: l)
section
variable {X : Cx} {body : List Stmt} {h₀ : ExceptHandler} {hds : List ExceptHandler} {l : List (Value × Nat × (Addr → Value → Option Addr → TS))} {pos : Pos} {tb : WX → TS} {Wout : WX}
theorem ps_try_manyN (hs : X.stack = X.env :: X.outer) (hf : X.env.frame = some X.env.locals) (hN : X.N.Nodup) (tk : Takes X Wout)
    (hb : ∀ (W : WX) (pn : List (Addr × Obj)) (xe : Value → Shared → Prop), Takes (X.tr pn xe) W → PassesOwn (model X.prog X.w) X.A X.env xe → PSs (X.tr pn xe) body (tb W))
    (hh : HdsN X (h₀ :: hds) l) : PS X (.Try body (h₀ :: hds) [] [] pos) (fun D σ H => tb (wManyN X.K Wout D l) D σ H) := by
  refine ⟨fun pins s σ H D I h => ?_⟩
  have ok := I.ok
  have hfr : X.A.frames = some (X.env :: X.outer) := by rw [ok.frames, hs]
  refine wpAny_Try_except ?_
  refine wpAny_mono ((hb (wManyN X.K Wout D l) (X.pn ++ pins) (fun e s₁ => wpAny (model X.prog X.w) X.A (noteFrame e X.env) (fun _ s₂ => wpAny (model X.prog X.w) X.A (setFlight e none) (fun _ s₃ =>
    wpAny (model X.prog X.w) X.A (handleBy e X.env (h₀ :: hds)) (SP X pins D) X.xe s₃) X.xe s₂) X.xe s₁) (fun u s' xx => ?_) PassesOwn.looking).run [] s σ H D (I.toTry _) h) (fun f s1 hsp => ?_) (fun e s1 he => he)
  · obtain ⟨a, B, sI, pins', σ', H', cls, d, rfl, J', nb, up, sky, na, os, ag, w⟩ := xx
    have J : Inv X pins σ' H' sI := J'.ofTry ok
    have sky' : Sky B (X.env :: X.outer) a (Zc cls d) X.env.locals s'.heap := by rw [← hs]; exact sky
    show wpAny (model X.prog X.w) X.A (noteFrame (.ref a) X.env) _ _ _
    refine Sky.land Zc.steady hfr hf sky' fun h3 fl3 up3 => ?_
    have J3 : Inv X pins σ' H' { s' with heap := h3 } := J.landed nb fl3.1 (up.trans up3) os ag
    obtain ⟨oe3, vs3, he3, hz3, hd3⟩ := fl3.there
    have notFr : ∀ {h : Heap} {o : Obj} {vs : Array Value}, h.FunFrames B (X.env :: X.outer) → h.get? a = some o → o.data = .fields vs → a ∉ frs (X.env :: X.outer) := fun {h o vs} ff e dd hm => by
      obtain ⟨_, o', e', hnf⟩ := ff.mem hm
      rw [e] at e'; cases e'
      exact hnf _ dd
    have nfr := notFr fl3.2.2.1 he3 hd3
    have nL : a ≠ X.env.locals := fun z => nfr (List.mem_filterMap.mpr ⟨X.env, List.mem_cons_self, by rw [hf, z]⟩)
    have nF : a ∉ X.fs := fun hm => by
      obtain ⟨e, he, q⟩ := List.mem_filterMap.mp hm
      exact nfr (List.mem_filterMap.mpr ⟨e, List.mem_cons_of_mem _ he, q⟩)
    have S3 := J3.suite he3 hd3 na nL nF
    have go : ∀ {hds' : List ExceptHandler} {l' : List (Value × Nat × (Addr → Value → Option Addr → TS))}, HdsN X hds' l' → wManyN X.K Wout D l' cls d σ' H' →
        wpAny (model X.prog X.w) X.A (handleBy (.ref a) X.env hds') (SP X pins D) X.xe { s' with heap := h3 } := by
      intro hds' l' hk
      induction hk with
      | nil =>
        intro w
        refine wpAny_handleBy_nil ?_
        obtain ⟨k1, k2, k3, oe, vs, T, oT, ts', he, hz, hd, h1, hr⟩ := id fl3
        unfold PySem.passOn
        refine wpAny_bind (wpAny_field he hd h1 ?_)
        rw [if_neg (show ¬ ((Value.ref T == Value.none) = true) from by simp)]
        have fin : wpAny (model X.prog X.w) X.A (setFlight (.ref a) X.env.frame) (fun _ s4 => wpAny (model X.prog X.w) X.A (throw (.ref a) : Sem Flow) (SP X pins D) X.xe s4) X.xe { s' with heap := h3 } := by
          rw [hf]
          refine HandSPX.setFlight_upZ fl3 fun h4 hh4 up4 => wpAny_throw (tk _ _ ?_)
          exact ⟨a, B, sI, pins, σ', H', cls, d, rfl, J, nb, (up.trans up3).trans up4, .inr (.inr (by rw [hs]; exact hh4)), na, os, ag, w⟩
        first
          | exact wpAny_bind (wpAny_pure (wpAny_bind fin))
          | exact wpAny_bind fin
      | @cons x n c i ts b₀ suite np pos' hds2 l2 hi hln hc hsu r ih =>
        intro w
        obtain ⟨b, hb1, hyes, hno⟩ := w
        have hloc : Loc X.env.scope n := .inl hln
        refine wpAny_handleBy_cons (codeAny_handlers_test ?_) (by intro q; cases q)
        have LT : PySem.W.Looks (model X.prog X.w) h3 (typeOf (.ref a)) cls := fun A Q E s k q => wpAny_typeOf_ref (k _ _ he3) (by rw [hz3.1]; exact q)
        have LM := PySem.W.exm_one (M := model X.prog X.w) (J3.kIn) LT hb1
        have test : ∀ {Q : Value → Shared → Prop} {E : Value → Shared → Prop}, Q c { s' with heap := h3 } → wpAny (model X.prog X.w) (X.A.mark (some (.ref a))) (eval (.Name x np) X.env) Q E { s' with heap := h3 } := fun {Q E} q => by
          obtain ⟨hg, hdbg, hm | ⟨hm, hv, hnn⟩⟩ := hc
          · exact ld_glob (X := X.suite a ((a, oe3) :: (X.pn ++ pins))) S3 hg hm q hdbg
          · exact ld_blt (X := X.suite a ((a, oe3) :: (X.pn ++ pins))) S3 hg hm hv q hnn hdbg
        refine test (LM.here ?_)
        cases b with
        | true =>
          refine codeAny_handlers_suite_as ?_
          refine HandSPX.lands_againZ fl3 fun h4 fl4 up4 => ?_
          have J4 : Inv X pins σ' H' { s' with heap := h4 } := J.landed nb fl4.1 ((up.trans up3).trans up4) os ag
          obtain ⟨oe4, vs4, he4, hz4, hd4⟩ := fl4.there
          have S4 := J4.suite he4 hd4 na nL nF
          refine store_ok (X := X.suite a ((a, oe4) :: (X.pn ++ pins))) (v := .ref a) S4 hN hi hloc rfl (fun s5 S5 => ?_) (.inr hln)
          refine wpAny_mono ((hsu a oe4 cls d (X.pn ++ pins) hz4 ⟨_, hd4⟩).run [] s5 _ H' _ S5 (hyes rfl a na)) (fun f s6 hsp => ?_) (fun _ _ z => False.elim z)
          have end_ : ∀ {σ6 : L2.St} {H6 : Hp} {Q : Shared → Prop}, Inv (X.suite a ((a, oe4) :: (X.pn ++ pins))) [] σ6 H6 s6 → (∀ s7, Inv X pins (σ6.set i none) H6 s7 → Q s7) →
              wpAny (model X.prog X.w) X.A (do bindName X.env n .none; unbindBehindTheSuite X.env n pos') (fun _ s7 => Q s7) X.xe s6 := fun {σ6 H6 Q} S6 hq => gone_ok (S6.unsuite ok) hN hi hln hq
          cases f with
          | next =>
            obtain ⟨σ6, H6, S6, q6⟩ := hsp
            exact end_ S6 fun s7 J7 => ⟨_, _, J7, q6⟩
          | brk =>
            obtain ⟨σ6, H6, S6, q6⟩ := hsp
            exact end_ S6 fun s7 J7 => ⟨_, _, J7, q6⟩
          | cont =>
            obtain ⟨σ6, H6, S6, q6⟩ := hsp
            exact end_ S6 fun s7 J7 => ⟨_, _, J7, q6⟩
          | ret u =>
            obtain ⟨v6, σ6, H6, S6, r6, q6⟩ := hsp
            exact end_ S6 fun s7 J7 => ⟨_, _, _, J7, r6, q6⟩
        | false =>
          show wpAny _ X.A (handleBy (.ref a) X.env hds2) _ _ _
          exact ih (hno rfl)
    exact go hh w
  · cases f with
    | next =>
      obtain ⟨σ', H', J', q⟩ := hsp
      exact wpAny_execs_nil ⟨σ', H', J'.ofTry ok, q⟩
    | brk =>
      obtain ⟨σ', H', J', q⟩ := hsp
      exact ⟨σ', H', J'.ofTry ok, q⟩
    | cont =>
      obtain ⟨σ', H', J', q⟩ := hsp
      exact ⟨σ', H', J'.ofTry ok, q⟩
    | ret u =>
      obtain ⟨v, σ', H', J', r, q⟩ := hsp
      exact ⟨v, σ', H', J'.ofTry ok, r, q⟩
end
end K1
set_option Elab.async false
set_option linter.all false
set_option maxRecDepth 100000
set_option maxHeartbeats 2000000
/-! x == y, x != y where x has an own __eq__, whatever y is; both answers. -/
namespace K1
open PySem PySem.Spec PyProof.Rows L2
section
open PySem.W
variable {prog : Program} {w : World} {A : Around} {E : Value → Shared → Prop} {s : Shared} {K : PySem.W.Frag} {x C L f : Addr} {h₀ : Heap} {m : Str → Option Value} {ox : Obj} {od : Option Obj} {b tb : Value}
theorem ifBound_B {M : Model} {name : Str} {id : String} {args : List Value} {Q : Option Value → Shared → Prop} (X : K.In s.heap) (I : InstAt s.heap x ox C od) (hs : findIn K (.ref C) name = some (some (.builtin id))) (hb : bindSpecial (.builtin id) (.ref x) = pure (.builtin id, [.ref x]))
    (h : wpAny M A (call (.builtin id) (.ref x :: args)) (fun v => Q (some v)) E s) : wpAny M A (callSpecialIfBound? (.ref x) name args) Q E s := by
  simp only [callSpecialIfBound?, bindSpecialIfBound?]
  refine wpAny_holding (wpAny_bind (wpAny_bind (wpAny_bind (I.type.here ((looks_findIn X hs).here ?_)))))
  refine wpAny_bind (wpAny_askSetting (wpAny_ite ?_))
  have fin : wpAny M A (call (.builtin id) ([.ref x] ++ args) >>= fun v => pure (some v)) Q E s := wpAny_bind (wpAny_mono h (fun v s' h' => wpAny_pure h') fun _ _ h' => h')
  simp only [hb]
  split
  · exact wpAny_bind (wpAny_pure (wpAny_pure fin))
  · exact wpAny_tryCatch (wpAny_bind (wpAny_pure (wpAny_pure fin)))
theorem ne_K {Q : Value → Shared → Prop} (hu : A.units + 1 < cLine) (Fh : Fr h₀ L s.heap m) (X₀ : K.In h₀) (I : InstAt s.heap x ox C od) (hb : Looks (model prog w) s.heap (typeOf b) tb) (hn : notFirst K C tb = true)
    (hs : findIn K (.ref C) "__eq__" = some (some (.ref f))) (hf : isFn K (.ref f) = true) (hne : findIn K (.ref C) "__ne__" = some (some (.builtin "object.__ne__"))) (hob : mroIn K C (.type "object") = some true)
    (h : wpAny (model prog w) A.in1 (call (.ref f) [.ref x, b]) (fun v s' => ∃ r, v = .bool r ∧ Q (.bool (!r)) s') E s) : wpAny (model prog w) A (richCompare .NotEq (.ref x) b) Q E s := by
  have X := X₀.keeps Fh.keep
  have hu0 : A.units < cLine := Nat.lt_of_succ_lt hu
  have sub : Looks (model prog w) s.heap (isInstance (.ref x) (.type "object")) true := I.type.andThen (looks_mroIn X hob)
  have inner : wpAny (model prog w) A.in1 (Builtin.«object.__ne__» ⟨[.ref x, b], []⟩) (fun fin s' => match fin with | .done (.ret v) => (∃ r, v = .bool r ∧ Q (.bool r) s') | _ => False) E s := by
    unfold Builtin.«object.__ne__»
    refine wpAny_bind (wpAny_of_eq (a := ((Value.ref x : Value), [b])) (by first | rfl | (simp only [slotArgs]; rfl)) ?_)
    refine wpAny_bind (wpAny_cRoomFor hu ?_)
    refine wpAny_bind (ifBound_K X I hs hf (wpAny_mono h (fun v s' z => ?_) fun _ _ e => e))
    obtain ⟨r, rfl, q⟩ := z
    refine wpAny_bind (wpAny_of_eq (a := r) (by first | rfl | (cases r <;> rfl)) ?_)
    exact wpAny_pure ⟨!r, rfl, q⟩
  have one : wpAny (model prog w) A (tryCompare (.ref x) (cmpInfo .NotEq).2.1 b) (fun r s' => ∃ v, r = some v ∧ Q v s') E s := by
    unfold tryCompare
    refine wpAny_bind (ifBound_B X I hne (F.cmp_object.ne.bind _) (wpAny_call (codeAny_call_builtin F.cmp_object.ne.plain F.cmpEntry_ne ?_)))
    refine @check_slot (model prog w) _ _ s "object.__ne__" "object" "__ne__" (.ref x) [b] [] _ F.cmpKind_ne F.cmpSplit_ne sub (F.cmpArgs_ne (.ref x) b) ?_
    refine wpAny_mono inner (fun fin s' z => ?_) fun _ _ e => e
    rcases fin with (_ | _ | _ | v) | _ <;> first | exact z.elim | skip
    obtain ⟨r, rfl, q⟩ := z
    exact wpAny_pure ⟨_, rfl, q⟩
  unfold richCompare
  simp only [oneThing_ref]
  refine wpAny_holding (wpAny_bind (wpAny_cRoomFor hu0 ?_))
  refine wpAny_bind (I.type.here (wpAny_bind (hb.here ?_)))
  split
  · rename_i q
    have e : subIn K tb (.ref C) = some false := by
      rcases Bool.or_eq_true_iff.mp hn with e | e
      · rw [beq_iff_eq.mp e] at q; simp at q
      · exact beq_iff_eq.mp e
    refine wpAny_bind ((looks_subIn X e).here ?_)
    simp only [Bool.false_eq_true, if_false]
    refine wpAny_bind (wpAny_mono one (fun r s' z => ?_) fun _ _ e => e)
    obtain ⟨v, rfl, hq⟩ := z
    exact wpAny_pure hq
  · refine wpAny_bind (wpAny_pure ?_)
    simp only [Bool.false_eq_true, if_false]
    refine wpAny_bind (wpAny_mono one (fun r s' z => ?_) fun _ _ e => e)
    obtain ⟨v, rfl, hq⟩ := z
    exact wpAny_pure hq
end
/-- of the class C with the own __eq__ at f -/
structure EqC (K : PySem.W.Frag) (C f : Addr) : Prop where
  eq : PySem.W.findIn K (.ref C) "__eq__" = some (some (.ref f))
  ne : PySem.W.findIn K (.ref C) "__ne__" = some (some (.builtin "object.__ne__"))
  ob : PySem.W.mroIn K C (.type "object") = some true
  fn : PySem.W.isFn K (.ref f) = true
/-- x == y: what the own __eq__ answers; neg: x != y -/
def rOwnEq (K : PySem.W.Frag) (C : Addr) (sp : Sp) (E : XK) (neg : Bool) : R2 := fun x y H Q => ∃ (a dx : Addr) (fs : List (Str × V)) (t : Value), x = .ref a ∧ H a = some (.ins C dx fs) ∧ TyX K H y t ∧ PySem.W.notFirst K C t = true ∧
  sp [x, y] H (fun v H' => ∃ r, v = .bl r ∧ Q (.bl (r != neg)) H') E
section
variable {X : Cx} {n : Nat} {CX : CXT} {C f : Addr} {fd : FuncData} {ps : List Str} {sp : Sp} {E : XK}
theorem own_run (F : FnOk X.prog X.w X.K X.mg X.base CX n f fd ps sp) (hb : Binds X.K fd ps []) (hx : Passes CX X E) {A : Around} (hr : Room n A) (fr : A.frames = X.A.frames) {pins : List (Addr × Obj)} {σ : L2.St} {H : Hp} {s : Shared} {x y : V} {u v : Value} {Q : Bool → Hp → Prop} (I : Inv X pins σ H s) (rx : RelV x u) (ry : RelV y v)
    (hsp : sp [x, y] H (fun v H' => ∃ r, v = .bl r ∧ Q r H') E) : wpAny (model X.prog X.w) A (call (.ref f) [u, v]) (fun v s' => ∃ r, v = .bool r ∧ ∃ H', Inv X pins σ H' s' ∧ Q r H') X.xe s := by
  have e0 : Env0 X.prog X.w X.K X.mg X.base A X.stack s H := by
    have e := I.env0
    exact ⟨by rw [fr]; exact e.frames, e.mod, e.bs, e.bsz, e.funs, e.frf, e.hok, e.bare⟩
  have hl := F.len _ _ _ _ hsp
  have r2 : Vals [x, y] [u, v] := .cons rx (.cons ry .nil)
  refine wpAny_call (codeAny_mono (F.run A X.stack s H ⟨[u, v], []⟩ [u, v] [x, y] _ E hr e0 (by
    have := hb s [u, v] I.kIn (by simpa using hl)
    simpa using this) r2 hsp) fun r s' hq => ?_)
  cases r with
  | error e => exact hx pins σ H s e s' I hq
  | ok fl =>
    cases fl with
    | ret w =>
      obtain ⟨z, H', I', rz, r, ez, q⟩ := I.after hq
      subst ez
      cases rz
      exact ⟨r, rfl, H', I', q⟩
    | next => exact False.elim hq
    | brk => exact False.elim hq
    | cont => exact False.elim hq
theorem op_ownEq (T : EqC X.K C f) (F : FnOk X.prog X.w X.K X.mg X.base CX n f fd ps sp) (hb : Binds X.K fd ps []) (hx : Passes CX X E) (hr : Room (n + 1) X.A) : OpR X (compareOp .Eq) (rOwnEq X.K C sp E false) := by
  intro pins s σ H x y v u Q I rx ry hq
  obtain ⟨a, dx, fs, t, rfl, ha, ty, nf, hsp⟩ := hq
  cases rx
  obtain ⟨mA, J, _⟩ := ins_get I.hok ha
  obtain ⟨od, J, _⟩ := J.look
  obtain ⟨m, hF⟩ := I.fr
  obtain ⟨P, kit, hP, _⟩ := kit_of I ry ty
  show wpAny (model X.prog X.w) X.A (richCompare .Eq (.ref a) u) (EP X pins σ Q) X.xe s
  refine PySem.W.cmp_K (op := .Eq) (tb := t) hr.units0 hF I.ok.mod.kin J (kit.ty _ _ I.kIn hP) nf T.eq T.fn (wpAny_mono (own_run (x := .ref a) (u := .ref a) (Q := fun r H' => Q (.bl (r != false)) H') F hb hx (hr.mono (Nat.le_succ n)) rfl I (show RelV (.ref a) (.ref a) from rfl) ry hsp) (fun v s' z => ?_) fun _ _ e => e)
  obtain ⟨r, rfl, H', I', q⟩ := z
  exact ⟨.bl r, H', I', rfl, by simpa using q⟩
theorem op_ownNe (T : EqC X.K C f) (F : FnOk X.prog X.w X.K X.mg X.base CX n f fd ps sp) (hb : Binds X.K fd ps []) (hx : Passes CX X E) (hr : Room (n + 1) X.A) : OpR X (compareOp .NotEq) (rOwnEq X.K C sp E true) := by
  intro pins s σ H x y v u Q I rx ry hq
  obtain ⟨a, dx, fs, t, rfl, ha, ty, nf, hsp⟩ := hq
  cases rx
  obtain ⟨mA, J, _⟩ := ins_get I.hok ha
  obtain ⟨od, J, _⟩ := J.look
  obtain ⟨m, hF⟩ := I.fr
  obtain ⟨P, kit, hP, _⟩ := kit_of I ry ty
  show wpAny (model X.prog X.w) X.A (richCompare .NotEq (.ref a) u) (EP X pins σ Q) X.xe s
  refine ne_K (tb := t) (by have := hr.in1.units0; exact this) hF I.ok.mod.kin J (kit.ty _ _ I.kIn hP) nf T.eq T.fn T.ne T.ob (wpAny_mono (own_run (x := .ref a) (u := .ref a) (Q := fun r H' => Q (.bl (r != true)) H') F hb hx hr.in1 rfl I (show RelV (.ref a) (.ref a) from rfl) ry hsp) (fun v s' z => ?_) fun _ _ e => e)
  obtain ⟨r, rfl, H', I', q⟩ := z
  exact ⟨r, rfl, .bl (!r), H', I', rfl, by simpa using q⟩
end
end K1
set_option Elab.async false
set_option linter.all false
set_option maxRecDepth 100000
set_option maxHeartbeats 2000000
/-! Methods and makings within a try, at the slots; slices and sums of tuples, wherever the answer stands. -/
namespace K1
open PySem PySem.Spec PyProof.Rows L2
section
variable {X : Cx} {CX : CXT} {k : Nat} {f C : Addr} {fd : FuncData} {ps : List Str} {sp : Sp} {E : L2.St → XK} {x m : Str} {p pos apos : Pos} {e o : Expr} {es : List Expr} {ta : TE} {t : TA}
/-- o.m(..), what is raised wished for at the slots -/
def tMethAt (C : Addr) (m : Str) (sp : Sp) (E : L2.St → XK) (ta : TE) (t : TA) : TE := fun σ H Q => ta σ H fun x H1 => ∃ a dx fs, x = .ref a ∧ H1 a = some (.ins C dx fs) ∧ fs.lookup m = none ∧ t σ H1 fun vs H2 => sp (x :: vs) H2 Q (E σ)
theorem pe_methAt {pl : Sem Bool} (he : PE X o ta) (c : Cls X.K C) (hm : Meth X.K C m f) (G : FnOk X.prog X.w X.K X.mg X.base CX k f fd ps sp) (hr : Room k X.A) (hb : Binds X.K fd ps []) (hx : ∀ σ, PassesAt CX X σ (E σ)) (ha : PA X (e :: es) t)
    (hst : starEach (e :: es) X.env = (false, eval e X.env) :: starEach es X.env := by rfl) (hpl : (backTo pos (starEach es X.env)).any (·.1) = false := by rfl)
    (ht : eval (.Call (.Attribute o m apos) (e :: es) [] pos) X.env = (do let ov ← eval o X.env; standAt apos.atName; let (f, first) ← holding [ov] (getMethod ov m pl); callWith pos f first (backTo pos (starEach (e :: es) X.env)) (backToKw pos (keywordEach [] X.env))) := by rfl) :
    PE X (.Call (.Attribute o m apos) (e :: es) [] pos) (tMethAt C m sp E ta t) := by
  refine ⟨fun pins s σ H Q I h => PySem.W.methodCall_KW (pl := pl) (thn (he.run pins s σ H _ I h) fun u s1 hu => ?_) ht⟩
  obtain ⟨y, H1, I1, ry, a, dx, fs, ey, ea, l, q⟩ := hu
  subst ey
  cases (show u = Value.ref a from ry)
  refine getmeth_ok I1 ea c hm l (PySem.W.callWith_K (first := [.ref a]) (h₀ := X.base) I.ok.mod.kin hm.kp (thn (ha.run pos pins s1 σ H1 _ I1 q) fun us s2 hu2 => ?_) hst hpl)
  obtain ⟨vs, H2, I2, r, q2⟩ := hu2
  exact ⟨I2.kIn, run_fnS (us := .ref a :: us) (vs := .ref a :: vs) G hr hb (hx σ) I2 (.cons rfl r) q2⟩
/-- C(..), what is raised wished for at the slots -/
def tMakeAt (C : Addr) (sp : Sp) (E : L2.St → XK) (t : TA) : TE := fun σ H Q => t σ H fun vs H1 => ∀ x dx, H1 x = none → H1 dx = none → dx ≠ x → sp (.ref x :: vs) (upd (upd H1 dx (.own x)) x (.ins C dx [])) (fun v H2 => v = .non ∧ Q (.ref x) H2) (E σ)
theorem run_makeAt {pins : List (Addr × Obj)} {σ : L2.St} {H : Hp} {s : Shared} {Q : VK} {us : List Value} {vs : List V} (M : Mk X.K C f) (G : FnOk X.prog X.w X.K X.mg X.base CX k f fd ps sp) (hr : Room (k + 1) X.A) (hb : Binds X.K fd ps []) (hx : PassesAt CX X σ (E σ)) (I : Inv X pins σ H s) (r : Vals vs us)
    (h : ∀ x dx, H x = none → H dx = none → dx ≠ x → sp (.ref x :: vs) (upd (upd H dx (.own x)) x (.ins C dx [])) (fun v H2 => v = .non ∧ Q (.ref x) H2) (E σ)) : wpAny (model X.prog X.w) X.A (call (.ref C) us) (EP X pins σ Q) X.xe s := by
  have hq := h (s.heap.objs.size + 1) s.heap.objs.size (I.hok.fresh (Nat.le_succ _)) (I.hok.fresh (Nat.le_refl _)) (Nat.ne_of_lt (Nat.lt_succ_self _))
  have J := Inv.made (C := C) I
  have r2 : Vals (V.ref (s.heap.objs.size + 1) :: vs) (Value.ref (s.heap.objs.size + 1) :: us) := .cons rfl r
  have hl : (Value.ref (s.heap.objs.size + 1) :: us ++ []).length = ps.length := by
    have z := r2.length
    rw [G.len _ _ _ _ hq] at z
    rw [List.append_nil]
    exact z.symm
  have b := hb _ (Value.ref (s.heap.objs.size + 1) :: us) J.kIn hl
  rw [List.append_nil] at b
  refine wpAny_call (make_map (f := f) I.kIn M.makes M.init (beq_iff_eq.mp M.fn) (codeAny_mono (G.run _ X.stack _ _ ⟨Value.ref (s.heap.objs.size + 1) :: us, []⟩ _ _ _ (E σ) (hr.make C us []) (J.env0.make C us []) b r2 hq) fun z s' hz => ?_))
  rcases z with er | _ | _ | _ | u
  · exact hx pins _ _ er s' J hz
  · exact hz.elim
  · exact hz.elim
  · exact hz.elim
  · obtain ⟨v, H', J2, rv, ev, q3⟩ := J.after hz
    subst ev
    exact ⟨rv, V.ref (s.heap.objs.size + 1), H', J2, rfl, q3⟩
theorem pe_makeAt (M : Mk X.K C f) (G : FnOk X.prog X.w X.K X.mg X.base CX k f fd ps sp) (hr : Room (k + 1) X.A) (hg : Gl X x) (hm : X.mg x = some (.ref C)) (hb : Binds X.K fd ps []) (hx : ∀ σ, PassesAt CX X σ (E σ)) (ha : PA X (e :: es) t)
    (hdb : (x == ("__debug__" : Str)) = false := by decide) (he : starEach (e :: es) X.env = (false, eval e X.env) :: starEach es X.env := by rfl) (hpl : (backTo pos (starEach es X.env)).any (·.1) = false := by rfl) :
    PE X (.Call (.Name x p) (e :: es) [] pos) (tMakeAt C sp E t) := by
  refine ⟨fun pins s σ H Q I h => wpAny_Call_Name_kw (ld_glob I hg hm ?_ hdb)⟩
  refine PySem.W.callWith_K (h₀ := X.base) I.ok.mod.kin M.kp (thn (ha.run pos pins s σ H _ I h) fun us s1 hu => ?_) he hpl
  obtain ⟨vs, H1, I1, r, q⟩ := hu
  exact ⟨I1.kIn, run_makeAt M G hr hb (hx σ) I1 r q⟩
end
theorem cut_all {xs : List V} {lo hi : Option Int} (h : HT.sIx xs.length 0 lo = 0 ∧ HT.sIx xs.length xs.length hi = xs.length) : cutV xs lo hi = xs := by
  unfold cutV
  rw [h.1, h.2, List.drop_zero, Nat.sub_zero, List.take_length]
theorem cut_map {xs : List Str} {lo hi : Option Int} : cutV (xs.map V.str) lo hi = ((xs.drop (HT.sIx xs.length 0 lo)).take (HT.sIx xs.length xs.length hi - HT.sIx xs.length 0 lo)).map V.str := by
  unfold cutV
  rw [List.length_map, List.map_take, List.map_drop]
theorem cut_to {xs : List V} (n : Nat) : cutV xs none (some (n : Int)) = xs.take n := by
  unfold cutV
  rw [HT.sIx_nat, HT.sIx_none, List.drop_zero, Nat.sub_zero]
  by_cases h : n ≤ xs.length
  · rw [Nat.min_eq_left h]
  · rw [Nat.min_eq_right (by omega), List.take_length, List.take_of_length_le (by omega)]
theorem cut_from {xs : List V} (n : Nat) : cutV xs (some (n : Int)) none = xs.drop n := by
  unfold cutV
  rw [HT.sIx_nat, HT.sIx_none]
  by_cases h : n ≤ xs.length
  · rw [Nat.min_eq_left h, List.take_of_length_le (Nat.le_of_eq List.length_drop)]
  · rw [Nat.min_eq_right (by omega), List.drop_length, List.drop_of_length_le (by omega), List.take_nil]
theorem cut_butlast {xs : List V} : cutV xs none (some (-1)) = xs.dropLast := by
  unfold cutV
  have e : HT.sIx xs.length xs.length (some (-1)) = xs.length - 1 := by
    show (if (-1 : Int) < 0 then ((-1 : Int) + (xs.length : Int)).toNat else min (-1 : Int).toNat xs.length) = xs.length - 1
    rw [if_pos (by decide)]
    omega
  rw [e, HT.sIx_none, List.drop_zero, Nat.sub_zero, List.dropLast_eq_take]
theorem slA {K : PySem.W.Frag} {a : Addr} {xs : List V} {lo hi : Option Int} {H : Hp} {Q : VK} (h : H a = some (.tup xs)) (q : ∀ p H', Same H H' → H' p = some (.tup (cutV xs lo hi)) → Q (.ref p) H') : rSlA K (.ref a) lo hi H Q :=
  ⟨a, xs, rfl, SqT.of h, fun w => q a H (fun _ _ e => e) (by rw [cut_all w]; exact h), fun _ p hp => q p _ (Same.new hp) upd_same⟩
theorem slN {K : PySem.W.Frag} {σ : L2.St} {a : Addr} {xs : List V} {lo : Option Int} {H : Hp} {Q : VK} (h : H a = some (.tup xs)) (q : ∀ p H', Same H H' → H' p = some (.tup (cutV xs lo none)) → Q (.ref p) H') : tNoPart σ H fun u H3 => rSlA K (.ref a) lo u H3 Q := slA (hi := none) h q
theorem catA {K : PySem.W.Frag} {a b : Addr} {xs ys : List V} {H : Hp} {Q : VK} (h : H a = some (.tup xs)) (h2 : H b = some (.tup ys)) (hz : xs.length + ys.length ≤ 1000) (q : ∀ p H', Same H H' → H' p = some (.tup (xs ++ ys)) → Q (.ref p) H') : rCatA K (.ref a) (.ref b) H Q :=
  ⟨a, b, xs, ys, rfl, rfl, SqT.of h, SqT.of h2, by rw [sizeLine_eq]; omega, fun e => by subst e; exact q b H (fun _ _ e => e) h2, fun _ e => by subst e; exact q a H (fun _ _ e => e) (by rw [List.append_nil]; exact h), fun _ _ p hp => q p _ (Same.new hp) upd_same⟩
end K1
set_option Elab.async false
set_option linter.all false
set_option maxRecDepth 100000
set_option maxHeartbeats 2000000
/-! Deeds and desks: plain; how they stand in memory. -/
namespace K1
open PySem PySem.Spec PyProof.Rows L2
/-- a deed: put, row, out -/
inductive Dd where
  | put (n : Nat) (r : Str) | row (n : Nat) (r : Str) | out (n : Nat)
deriving DecidableEq
def Dd.n : Dd → Nat
  | .put n _ => n
  | .row n _ => n
  | .out n => n
def Dd.vals : Dd → List V
  | .put n r => [.str "put", .int n, .str r]
  | .row n r => [.str "row", .int n, .str r]
  | .out n => [.str "out", .int n]
def Dd.data : Dd → PyData
  | .put n r => .tuple [.str "put", .int n, .str r]
  | .row n r => .tuple [.str "row", .int n, .str r]
  | .out n => .tuple [.str "out", .int n]
def barred (R : List Str) : Dd → Option Str
  | .put n _ => if R.length = 20 then some "full" else if R.length < n then some "far" else none
  | .row n r => if R.length ≤ n then some "none" else if R[n]? = some r then some "same" else none
  | .out n => if R.length ≤ n then some "none" else none
def behind (R : List Str) : Dd → List Str
  | .put n r => R.take n ++ [r] ++ R.drop n
  | .row n r => R.take n ++ [r] ++ R.drop (n + 1)
  | .out n => R.take n ++ R.drop (n + 1)
/-- a row's text -/
abbrev RT (s : Str) : Prop := Tx 4000 s
def Dd.ok : Dd → Prop
  | .put n r => n ≤ 1000 ∧ RT r
  | .row n r => n ≤ 1000 ∧ RT r
  | .out n => n ≤ 1000
structure RsOk (R : List Str) : Prop where
  len : R.length ≤ 20
  txt : ∀ r ∈ R, RT r
theorem RsOk.nil : RsOk [] := ⟨by simp, by simp⟩
theorem RsOk.behind {R : List Str} {d : Dd} (h : RsOk R) (o : d.ok) (b : barred R d = none) : RsOk (behind R d) := by
  have tk : ∀ (n : Nat), ∀ r ∈ R.take n, RT r := fun n r hr => h.txt r (List.mem_of_mem_take hr)
  have dp : ∀ (n : Nat), ∀ r ∈ R.drop n, RT r := fun n r hr => h.txt r (List.mem_of_mem_drop hr)
  have hl := h.len
  cases d with
  | put n x =>
    have o2 : n ≤ 1000 ∧ RT x := o
    have b2 : (if R.length = 20 then some ("full" : Str) else if R.length < n then some "far" else none) = none := b
    have h20 : R.length ≠ 20 := fun z => by rw [if_pos z] at b2; cases b2
    refine ⟨?_, fun r hr => ?_⟩
    · show (R.take n ++ [x] ++ R.drop n).length ≤ 20
      simp only [List.length_append, List.length_take, List.length_drop, List.length_singleton]
      omega
    · rcases List.mem_append.mp hr with hr | hr
      · rcases List.mem_append.mp hr with hr | hr
        · exact tk _ _ hr
        · rw [List.mem_singleton.mp hr]; exact o2.2
      · exact dp _ _ hr
  | row n x =>
    have o2 : n ≤ 1000 ∧ RT x := o
    have b2 : (if R.length ≤ n then some ("none" : Str) else if R[n]? = some x then some "same" else none) = none := b
    have hn : ¬ R.length ≤ n := fun z => by rw [if_pos z] at b2; cases b2
    refine ⟨?_, fun r hr => ?_⟩
    · show (R.take n ++ [x] ++ R.drop (n + 1)).length ≤ 20
      simp only [List.length_append, List.length_take, List.length_drop, List.length_singleton]
      omega
    · rcases List.mem_append.mp hr with hr | hr
      · rcases List.mem_append.mp hr with hr | hr
        · exact tk _ _ hr
        · rw [List.mem_singleton.mp hr]; exact o2.2
      · exact dp _ _ hr
  | out n =>
    have b2 : (if R.length ≤ n then some ("none" : Str) else none) = none := b
    have hn : ¬ R.length ≤ n := fun z => by rw [if_pos z] at b2; cases b2
    refine ⟨?_, fun r hr => ?_⟩
    · show (R.take n ++ R.drop (n + 1)).length ≤ 20
      simp only [List.length_append, List.length_take, List.length_drop]
      omega
    · rcases List.mem_append.mp hr with hr | hr
      · exact tk _ _ hr
      · exact dp _ _ hr
/-- a tuple of texts -/
def TS' (H : Hp) (v : V) (R : List Str) : Prop := ∃ p, v = .ref p ∧ H p = some (.tup (R.map V.str))
theorem TS'.on {H H' : Hp} (k : KT H H') {v : V} {R : List Str} : TS' H v R → TS' H' v R
  | ⟨p, e, h⟩ => ⟨p, e, k _ _ h⟩
def DdAt (H : Hp) (d : Dd) (v : V) : Prop := ∃ p, v = .ref p ∧ H p = some (.tup d.vals)
theorem DdAt.on {H H' : Hp} (k : KT H H') {v : V} {d : Dd} : DdAt H d v → DdAt H' d v
  | ⟨p, e, h⟩ => ⟨p, e, k _ _ h⟩
def flD (b r e q : V) : List (Str × V) := [("begun", b), ("rows", r), ("deeds", e), ("past", q)]
/-- what hangs on a desk's attributes -/
structure DkV (H : Hp) (b r e q : V) (B : List Str) (Ps : List (List Str)) (Ds : List Dd) (R : List Str) : Prop where
  hb : TS' H b B
  hr : TS' H r R
  he : ∃ p xs, e = .ref p ∧ H p = some (.tup xs) ∧ Paired (DdAt H) Ds xs
  hq : ∃ p ys, q = .ref p ∧ H p = some (.tup ys) ∧ Paired (fun R y => TS' H y R) Ps ys
theorem DkV.on {H H' : Hp} (k : KT H H') {b r e q : V} {B : List Str} {Ps : List (List Str)} {Ds : List Dd} {R : List Str} (d : DkV H b r e q B Ps Ds R) : DkV H' b r e q B Ps Ds R :=
  ⟨d.hb.on k, d.hr.on k, let ⟨p, xs, e, h, a⟩ := d.he; ⟨p, xs, e, k _ _ h, paired_mono (fun _ _ z => z.on k) a⟩, let ⟨p, ys, e, h, a⟩ := d.hq; ⟨p, ys, e, k _ _ h, paired_mono (fun _ _ z => z.on k) a⟩⟩
/-- a desk at p -/
def DkAt (C : Addr) (H : Hp) (p : Addr) (B : List Str) (Ps : List (List Str)) (Ds : List Dd) (R : List Str) : Prop := ∃ dx b r e q, H p = some (.ins C dx (flD b r e q)) ∧ DkV H b r e q B Ps Ds R
/-- all stands but the object at p -/
def SP (p : Addr) (H H' : Hp) : Prop := ∀ b o, b ≠ p → H b = some o → H' b = some o
theorem SP.refl {p : Addr} {H : Hp} : SP p H H := fun _ _ _ e => e
theorem SP.trans {p : Addr} {H H' H'' : Hp} (a : SP p H H') (b : SP p H' H'') : SP p H H'' := fun c o n e => b c o n (a c o n e)
theorem SP.same {p : Addr} {H H' : Hp} (a : Same H H') : SP p H H' := fun c o _ e => a c o e
theorem SP.at_ {p : Addr} {H : Hp} {o : HO} : SP p H (upd H p o) := fun c u n e => by rw [upd_ne n]; exact e
/-- what stands at p is no tuple, and no list -/
theorem SP.kt {p C dx : Addr} {fs : List (Str × V)} {H H' : Hp} (a : SP p H H') (h : H p = some (.ins C dx fs)) : KT H H' := fun q xs e => a q _ (fun z => by rw [z, h] at e; cases e) e
theorem KT.ins {p C dx : Addr} {fs : List (Str × V)} {H : Hp} {o : HO} (h : H p = some (.ins C dx fs)) : KT H (upd H p o) := SP.kt SP.at_ h
theorem DkAt.on {C p : Addr} {H H' : Hp} {B : List Str} {Ps : List (List Str)} {Ds : List Dd} {R : List Str} (s : Same H H') : DkAt C H p B Ps Ds R → DkAt C H' p B Ps Ds R
  | ⟨dx, b, r, e, q, h, v⟩ => ⟨dx, b, r, e, q, s _ _ h, v.on (KT.same s)⟩
/-- where another desk is changed -/
theorem DkAt.ne {C C' p p' dx : Addr} {fs : List (Str × V)} {H H' : Hp} {B : List Str} {Ps : List (List Str)} {Ds : List Dd} {R : List Str} (s : SP p' H H') (hp : H p' = some (.ins C' dx fs)) (n : p ≠ p') : DkAt C H p B Ps Ds R → DkAt C H' p B Ps Ds R
  | ⟨dx, b, r, e, q, h, v⟩ => ⟨dx, b, r, e, q, s _ _ n h, v.on (SP.kt s hp)⟩
theorem DkAt.new {C p : Addr} {H : Hp} {B : List Str} {Ps : List (List Str)} {Ds : List Dd} {R : List Str} : DkAt C H p B Ps Ds R → ∃ dx fs, H p = some (.ins C dx fs)
  | ⟨dx, b, r, e, q, h, v⟩ => ⟨dx, _, h⟩
/-! ### the data -/
def rowsD (R : List Str) : PyData := .tuple (R.map .str)
def deedsD (Ds : List Dd) : PyData := .tuple (Ds.map Dd.data)
theorem strOk_of {s : Str} (h : NoNl s) : PyData.strOk s = true := by
  unfold PyData.strOk
  rw [Array.all_eq_true']
  intro c hc
  exact decide_eq_true (h c (by simpa using hc)).2
theorem canAll {α : Type} {f : α → PyData} : ∀ {l : List α}, (∀ a ∈ l, (f a).canLay0 = true) → PyData.canLayAll0 (l.map f) = true
  | [], _ => by simp [PyData.canLayAll0]
  | a :: l, h => by
    rw [List.map_cons]
    unfold PyData.canLayAll0
    rw [h a (List.mem_cons_self ..), canAll (fun b hb => h b (List.mem_cons_of_mem _ hb))]
    rfl
theorem depAll {α : Type} {f : α → PyData} {n : Nat} : ∀ {l : List α}, (∀ a ∈ l, (f a).depth ≤ n) → PyData.depthAll (l.map f) ≤ n
  | [], _ => by simp [PyData.depthAll]
  | a :: l, h => by
    rw [List.map_cons]
    unfold PyData.depthAll
    have h1 := h a (List.mem_cons_self ..)
    have h2 := depAll (fun b hb => h b (List.mem_cons_of_mem _ hb))
    omega
theorem can_str {s : Str} (h : NoNl s) : (PyData.str s).canLay0 = true := by
  unfold PyData.canLay0
  exact strOk_of h
theorem shp_tup {α : Type} {f : α → PyData} {l : List α} {n : Nat} (h : ∀ a ∈ l, (f a).canLay0 = true) (d : ∀ a ∈ l, (f a).depth ≤ n) (hn : n ≤ 60) : SeqAt.shaped (.tuple (l.map f)) = true := by
  unfold SeqAt.shaped
  rw [Bool.and_eq_true]
  constructor
  · unfold PyData.canLay0
    exact canAll h
  · refine decide_eq_true ?_
    unfold PyData.depth
    have := depAll d
    omega
theorem shp_lst {α : Type} {f : α → PyData} {l : List α} {n : Nat} (h : ∀ a ∈ l, (f a).canLay0 = true) (d : ∀ a ∈ l, (f a).depth ≤ n) (hn : n ≤ 60) : SeqAt.shaped (.list (l.map f)) = true := by
  unfold SeqAt.shaped
  rw [Bool.and_eq_true]
  constructor
  · unfold PyData.canLay0
    exact canAll h
  · refine decide_eq_true ?_
    unfold PyData.depth
    have := depAll d
    omega
theorem can_rows {R : List Str} (h : ∀ r ∈ R, NoNl r) : (rowsD R).canLay0 = true := by
  unfold rowsD PyData.canLay0
  exact canAll fun r hr => can_str (h r hr)
theorem dep_rows {R : List Str} : (rowsD R).depth ≤ 1 := by
  unfold rowsD PyData.depth
  have := depAll (f := PyData.str) (n := 0) (l := R) fun r _ => by simp [PyData.depth]
  omega
theorem shp_rows {R : List Str} (h : ∀ r ∈ R, NoNl r) : SeqAt.shaped (rowsD R) = true := shp_tup (n := 0) (fun r hr => can_str (h r hr)) (fun r _ => by simp [PyData.depth]) (by decide)
theorem can_dd {d : Dd} (h : d.ok) : d.data.canLay0 = true := by
  cases d with
  | put n r => simp [Dd.data, PyData.canLay0, PyData.canLayAll0, strOk_of h.2.2, show PyData.strOk "put" = true by decide +kernel]
  | row n r => simp [Dd.data, PyData.canLay0, PyData.canLayAll0, strOk_of h.2.2, show PyData.strOk "row" = true by decide +kernel]
  | out n => simp [Dd.data, PyData.canLay0, PyData.canLayAll0, show PyData.strOk "out" = true by decide +kernel]
theorem dep_dd {d : Dd} : d.data.depth ≤ 1 := by cases d <;> simp [Dd.data, PyData.depth, PyData.depthAll]
theorem shp_deeds {Ds : List Dd} (h : ∀ d ∈ Ds, d.ok) : SeqAt.shaped (deedsD Ds) = true := shp_tup (n := 1) (fun r hr => can_dd (h r hr)) (fun r _ => dep_dd) (by decide)
theorem eqvAll_map {α : Type} [DecidableEq α] {f : α → PyData} (hf : ∀ a b, PyData.eqv (f a) (f b) = decide (a = b)) : ∀ a b : List α, PyData.eqvAll (a.map f) (b.map f) = decide (a = b)
  | [], [] => by simp [PyData.eqvAll]
  | [], _ :: _ => by simp [PyData.eqvAll]
  | _ :: _, [] => by simp [PyData.eqvAll]
  | a :: l, b :: m => by
    simp only [List.map_cons, PyData.eqvAll, hf, eqvAll_map hf l m, List.cons.injEq, Bool.decide_and]
theorem eqv_str (a b : Str) : PyData.eqv (.str a) (.str b) = decide (a = b) := by
  simp only [PyData.eqv]
  by_cases h : a = b
  · subst h; simp
  · simp [h]
theorem eqv_rows (a b : List Str) : PyData.eqv (rowsD a) (rowsD b) = decide (a = b) := by
  unfold rowsD
  simp only [PyData.eqv]
  exact eqvAll_map eqv_str a b
theorem eqv_dd (a b : Dd) : PyData.eqv a.data b.data = decide (a = b) := by
  have e1 : ((("put" : Str) == ("row" : Str)) = false) := by decide +kernel
  have e2 : ((("put" : Str) == ("out" : Str)) = false) := by decide +kernel
  have e3 : ((("row" : Str) == ("put" : Str)) = false) := by decide +kernel
  have e4 : ((("row" : Str) == ("out" : Str)) = false) := by decide +kernel
  have e5 : ((("out" : Str) == ("put" : Str)) = false) := by decide +kernel
  have e6 : ((("out" : Str) == ("row" : Str)) = false) := by decide +kernel
  have si : ∀ i j : Nat, (((i : Int)) == (j : Int)) = decide (i = j) := fun i j => by
    by_cases h : i = j
    · subst h; simp
    · have : ¬ ((i : Int) = (j : Int)) := by omega
      simp [h, this]
  have ss : ∀ a b : Str, (a == b) = decide (a = b) := fun a b => by
    by_cases h : a = b
    · subst h; simp
    · simp [h]
  cases a <;> cases b <;> simp [Dd.data, PyData.eqv, PyData.eqvAll, e1, e2, e3, e4, e5, e6, si, ss]
theorem eqv_deeds (a b : List Dd) : PyData.eqv (deedsD a) (deedsD b) = decide (a = b) := by
  unfold deedsD
  simp only [PyData.eqv]
  exact eqvAll_map eqv_dd a b
theorem TS'.dp {K : PySem.W.Frag} {H : Hp} {v : V} {R : List Str} (h : TS' H v R) : Dp K H v (rowsD R) := by
  obtain ⟨p, rfl, h⟩ := h
  refine .tup (SqT.of h) ?_
  clear h
  induction R with
  | nil => exact .nil
  | cons a l ih => exact .cons (.str a) ih
theorem DdAt.dp {K : PySem.W.Frag} {H : Hp} {v : V} {d : Dd} (h : DdAt H d v) : Dp K H v d.data := by
  obtain ⟨p, rfl, h⟩ := h
  cases d with
  | put n r => exact .tup (SqT.of h) (.cons (.str _) (.cons (.int _) (.cons (.str _) .nil)))
  | row n r => exact .tup (SqT.of h) (.cons (.str _) (.cons (.int _) (.cons (.str _) .nil)))
  | out n => exact .tup (SqT.of h) (.cons (.str _) (.cons (.int _) .nil))
theorem dpAll_of {α : Type} {K : PySem.W.Frag} {H : Hp} {f : α → PyData} {R : α → V → Prop} (hf : ∀ a v, R a v → Dp K H v (f a)) : ∀ {l : List α} {xs : List V}, Paired R l xs → DpAll K H xs (l.map f)
  | _, _, .nil => .nil
  | _, _, .cons r t => .cons (hf _ _ r) (dpAll_of hf t)
theorem deeds_dp {K : PySem.W.Frag} {H : Hp} {p : Addr} {xs : List V} {Ds : List Dd} (h : H p = some (.tup xs)) (a : Paired (DdAt H) Ds xs) : Dp K H (.ref p) (deedsD Ds) := .tup (SqT.of h) (dpAll_of (fun _ _ z => z.dp) a)
theorem TS'.dq {K : PySem.W.Frag} {H : Hp} {v : V} {R : List Str} (h : TS' H v R) : Dq K H v (rowsD R) := by
  obtain ⟨p, rfl, h⟩ := h
  refine .tup (SqT.of h) ?_
  clear h
  induction R with
  | nil => exact .nil
  | cons a l ih => exact .cons (.str a) ih
end K1
set_option Elab.async false
set_option linter.all false
set_option maxRecDepth 100000
set_option maxHeartbeats 2000000
/-! What the top leaves of the desks' module; the small defs below the desks. -/
namespace K1
open PySem PySem.Spec PyProof.Rows L2
open He (ga ma)
/-- constants of the module -/
structure Cn (K : PySem.W.Frag) (w : World) (mg : Str → Option Value) : Prop where
  put : ∃ t, mg "PUT" = some (.str "put" t)
  row : ∃ t, mg "ROW" = some (.str "row" t)
  out : ∃ t, mg "OUT" = some (.str "out" t)
  mostR : ∃ t, mg "MOST_ROWS" = some (.int 20 t)
  mostS : ∃ t, mg "MOST_SIGNS" = some (.int 4000 t)
  deeds : ∃ a, mg "DEEDS" = some (.ref a) ∧ ∀ H, SqT K H a [.str "put", .str "row", .str "out"]
  sizes : ∃ a, mg "SIZES" = some (.ref a) ∧ KDct K w a "put" (.int 3) ∧ KDct K w a "row" (.int 3) ∧ KDct K w a "out" (.int 2)
/-- an own exception class, by name, of one field -/
structure XF (P : Program) (K : PySem.W.Frag) (mg : Str → Option Value) (n f : Str) : Prop where
  g : mg n = some (.ref (ga K n))
  T : X1 P K (ga K n) f
  kp : PySem.W.keepIn K (.ref (ga K n)) = true
  rb : PySem.W.subIn K (.ref (ga K n)) (.type "BaseException") = some true
  rt : PySem.W.typeIn K (.ref (ga K n)) = some (.type "type")
  fld : XfC K (ga K n)
  me : PySem.W.exmOne K (.ref (ga K n)) (.ref (ga K n)) = some true
/-- the class Desk -/
structure DkC (K : PySem.W.Frag) (mg : Str → Option Value) : Prop where
  g : mg "Desk" = some (.ref (ga K "Desk"))
  cl : Cls K (ga K "Desk")
  n1 : NoAttr K (ga K "Desk") "begun"
  n2 : NoAttr K (ga K "Desk") "rows"
  n3 : NoAttr K (ga K "Desk") "deeds"
  n4 : NoAttr K (ga K "Desk") "past"
  mkr : Mk K (ga K "Desk") (ma K (ga K "Desk") "__init__")
  do_ : Meth K (ga K "Desk") "do" (ma K (ga K "Desk") "do")
  undo : Meth K (ga K "Desk") "undo" (ma K (ga K "Desk") "undo")
  eq : EqC K (ga K "Desk") (ma K (ga K "Desk") "__eq__")
  ca : PySem.W.findIn K (.ref (ga K "Desk")) "__class__" = some (some (.builtin "object.__class__"))
  sp : PySem.W.specialIn K (.builtin "object.__class__") "__get__" = some (some (.builtin "getset_descriptor.__get__"))
  tk : PySem.W.takesIn K (.builtin "object.__class__") = some true
  ob : PySem.W.mroIn K (ga K "Desk") (.type "object") = some true
  is1 : PySem.W.kitOne K (.ref (ga K "Desk")) (.ref (ga K "Desk")) = some true
  isS : PySem.W.kitOne K (.ref (ga K "Desk")) (.type "str") = some false
  tys : ∀ s ∈ ["NoneType", "str", "tuple", "int", "list"], PySem.W.kitOne K (.type s) (.ref (ga K "Desk")) = some false ∧ PySem.W.subIn K (.type s) (.ref (ga K "Desk")) = some false
def hasNl (s : Str) : Bool := !(Builtin.Str.occurrences s nlS 0 s.length 1).isEmpty
/-- a def is ready: it keeps its promise, and stands at its name -/
def Rd (P : Program) (w : World) (K : PySem.W.Frag) (mg : Str → Option Value) (base : Heap) (CX : CXT) (n : Nat) (g : Str) (ps : List Str) (sp : Sp) : Prop := ∃ f fd, FnOk P w K mg base CX n f fd ps sp ∧ mg g = some (.ref f) ∧ PySem.W.keepIn K (.ref f) = true ∧ Binds K fd ps []
/-- where a def of the text stands -/
def GF (K : PySem.W.Frag) (mg : Str → Option Value) (g x : Str) (i : Nat) : Prop := ∃ fd, FnP K x (top i) (ga K g) fd ∧ mg g = some (.ref (ga K g))
section
variable {X : Cx} {CX : CXT} {n : Nat} {ps : List Str} {sp : Sp} {E : XK} {x : Str} {p pos : Pos} {e : Expr} {es : List Expr} {t : TA}
theorem pe_cl (R : Rd X.prog X.w X.K X.mg X.base CX n x ps sp) (hr : Room n X.A) (hg : Gl X x) (hx : Passes CX X E) (ha : PA X (e :: es) t) (hdb : (x == ("__debug__" : Str)) = false := by decide) (he : starEach (e :: es) X.env = (false, eval e X.env) :: starEach es X.env := by rfl) (hpl : (backTo pos (starEach es X.env)).any (·.1) = false := by rfl) :
    PE X (.Call (.Name x p) (e :: es) [] pos) (tCall sp [] E t) := by
  obtain ⟨f, fd, F, hm, hk, hb⟩ := R
  exact pe_call F hr hg hm hk hb .nil hx ha hdb he hpl
end
section
variable {P : Program} {w : World} {K : PySem.W.Frag} {mg : Str → Option Value} {base : Heap}
/-- isinstance(value, str) -/
def spIsStr (K : PySem.W.Frag) : Sp := fun vs H Q _ => ∃ v t b, vs = [v] ∧ TyX K H v t ∧ PySem.W.kitOne K t (.type "str") = some b ∧ Q (.bl b) H
theorem sc7 : FnScope ["value"] ["value"] (defScope (top 7)) := ⟨rfl, rfl, rfl, by decide +kernel, rfl, by decide +kernel, by decide +kernel⟩
theorem rd_is_string (G : GF K mg "is_string" "is_string" 7) (B : Bn mg) : Rd P w K mg base CX0 1 "is_string" ["value"] (spIsStr K) := by
  obtain ⟨fd, F, hm⟩ := G
  refine ⟨_, fd, F.ok sc7 (fun vs H Q E h => ?_) fun cdv A outer s H vs Q E hr h => ⟨_, PSs.nox (pss_one (ps_ret (pe_callB (r := rIsi K) call_isi rfl B.isinstance boot_isinstance (pa_cons (pv 0) (pa_cons (pe_bltn (v := .ty "str") rfl B.str (by decide +kernel) rfl) pa_nil))))), ?_⟩, hm, F.kp, F.bindsN fun _ _ _ _ _ _ us hl => match us, hl with | [_], _ => rfl⟩
  · obtain ⟨v, t, b, rfl, _⟩ := h; rfl
  · obtain ⟨v, t, b, rfl, h1, h2, q⟩ := h
    exact ⟨_, rfl, _, _, _, _, _, rfl, .ty _, h1, h2, q⟩
/-- is a number a whole one -/
def spIsNum : Sp := fun vs H Q _ => ∃ i : Int, vs = [.int i] ∧ Q (.bl (decide (0 ≤ i))) H
def spIsWh : Sp := fun vs H Q _ => ∃ i : Int, vs = [.int i] ∧ Q (.bl true) H
theorem sc4 : FnScope ["value"] ["value"] (defScope (top 4)) := ⟨rfl, rfl, rfl, by decide +kernel, rfl, by decide +kernel, by decide +kernel⟩
theorem sc5 : FnScope ["value"] ["value"] (defScope (top 5)) := ⟨rfl, rfl, rfl, by decide +kernel, rfl, by decide +kernel, by decide +kernel⟩
theorem kit_ii (K : PySem.W.Frag) : PySem.W.kitOne K (.type "int") (.type "int") = some true := kit_ty (by decide +kernel)
theorem kit_ib (K : PySem.W.Frag) : PySem.W.kitOne K (.type "int") (.type "bool") = some false := kit_ty (by decide +kernel)
theorem rd_is_whole (G : GF K mg "is_whole" "is_whole" 4) (B : Bn mg) (gB : mg "bool" = none) : Rd P w K mg base CX0 1 "is_whole" ["value"] spIsWh := by
  obtain ⟨fd, F, hm⟩ := G
  refine ⟨_, fd, F.ok sc4 (fun vs H Q E h => ?_) fun cdv A outer s H vs Q E hr h => ⟨_, PSs.nox (pss_one (ps_ret (pe_and (pe_callB (r := rIsi K) call_isi rfl B.isinstance boot_isinstance (pa_cons (pv 0) (pa_cons (pe_bltn (v := .ty "int") rfl B.int (by decide +kernel) rfl) pa_nil))) (pe_one (pe_not (pe_callB (r := rIsi K) call_isi rfl B.isinstance boot_isinstance (pa_cons (pv 0) (pa_cons (pe_bltn (v := .ty "bool") rfl gB (by decide +kernel) rfl) pa_nil)))))))), ?_⟩, hm, F.kp, F.bindsN fun _ _ _ _ _ _ us hl => match us, hl with | [_], _ => rfl⟩
  · obtain ⟨i, rfl, _⟩ := h; rfl
  · obtain ⟨i, rfl, q⟩ := h
    exact ⟨_, rfl, _, _, _, _, _, rfl, .ty _, .base (.int i), kit_ii K, _, rfl, ifTT ⟨_, rfl, _, _, _, _, _, rfl, .ty _, .base (.int i), kit_ib K, _, rfl, q⟩⟩
theorem rd_is_number (G : GF K mg "is_number" "is_number" 5) (R : Rd P w K mg base CX0 1 "is_whole" ["value"] spIsWh) : Rd P w K mg base CX0 2 "is_number" ["value"] spIsNum := by
  obtain ⟨fd, F, hm⟩ := G
  refine ⟨_, fd, F.ok sc5 (fun vs H Q E h => ?_) fun cdv A outer s H vs Q E hr h => ⟨_, PSs.nox (pss_one (ps_ret (pe_and (pe_cl R hr rfl pass0 (pa_cons (pv 0) pa_nil)) (pe_one (pe_cmpR op_ge (pv 0) pe_int (nomark _)))))), ?_⟩, hm, F.kp, F.bindsN fun _ _ _ _ _ _ us hl => match us, hl with | [_], _ => rfl⟩
  · obtain ⟨i, rfl, _⟩ := h; rfl
  · obtain ⟨i, rfl, q⟩ := h
    exact ⟨_, rfl, i, rfl, _, rfl, ifTT ⟨_, rfl, _, _, rfl, rfl, q⟩⟩
/-- is a row's text -/
def spRowTx : Sp := fun vs H Q _ => ∃ s : Str, vs = [.str s] ∧ s.length ≤ 100000 ∧ Q (.bl (decide (s.length ≤ 4000) && !hasNl s)) H
theorem sc128 : FnScope ["value"] ["value"] (defScope (top 128)) := ⟨rfl, rfl, rfl, by decide +kernel, rfl, by decide +kernel, by decide +kernel⟩
theorem kit_ss (K : PySem.W.Frag) : PySem.W.kitOne K (.type "str") (.type "str") = some true := kit_ty (by decide +kernel)
theorem rd_is_row_text (G : GF K mg "is_row_text" "is_row_text" 128) (B : Bn mg) (N : Cn K w mg) (R : Rd P w K mg base CX0 1 "is_string" ["value"] (spIsStr K)) : Rd P w K mg base CX0 2 "is_row_text" ["value"] spRowTx := by
  obtain ⟨fd, F, hm⟩ := G
  obtain ⟨tS, gM⟩ := N.mostS
  refine ⟨_, fd, F.ok sc128 (fun vs H Q E h => ?_) fun cdv A outer s H vs Q E hr h => ⟨_, PSs.nox (pss_one (ps_ret (pe_and (pe_cl R hr rfl pass0 (pa_cons (pv 0) pa_nil)) (pe_and (pe_cmpR op_le (pe_callB call_len_str rfl B.len boot_len (pa_cons (pv 0) pa_nil)) (pe_glob (v := .int 4000) rfl gM ⟨_, rfl⟩) (nomark _)) (pe_one (pe_cmpR op_notIn_str pe_str (pv 0) rfl)))))), ?_⟩, hm, F.kp, F.bindsN fun _ _ _ _ _ _ us hl => match us, hl with | [_], _ => rfl⟩
  · obtain ⟨s, rfl, _⟩ := h; rfl
  · obtain ⟨z, rfl, hz, q⟩ := h
    refine ⟨_, rfl, _, _, _, rfl, .base (.str z), kit_ss K, _, rfl, ifTT ⟨_, rfl, _, rfl, by rw [sizeLine_eq]; omega, _, _, rfl, rfl, _, rfl, ?_⟩⟩
    by_cases h : z.length ≤ 4000
    · have e : decide ((z.length : Int) ≤ 4000) = true := decide_eq_true (by omega)
      refine ifT e ⟨_, rfl, _, _, rfl, rfl, ?_⟩
      have e2 : decide (z.length ≤ 4000) = true := decide_eq_true h
      rw [e2] at q
      exact q
    · have e : decide ((z.length : Int) ≤ 4000) = false := decide_eq_false (by omega)
      refine ifF e ?_
      have e2 : decide (z.length ≤ 4000) = false := decide_eq_false h
      rw [e2] at q
      exact q
end
end K1
set_option Elab.async false
set_option linter.all false
set_option maxRecDepth 100000
set_option maxHeartbeats 2000000
/-! The rows of a text. -/
namespace K1
open PySem PySem.Spec PyProof.Rows L2
open He (ga ma)
abbrev nsc85 : List Str := ["text", "pieces", "found", "piece"]
theorem sc85 : FnScope nsc85 ["text"] (defScope (top 85)) := ⟨rfl, rfl, rfl, by decide +kernel, rfl, by decide +kernel, by decide +kernel⟩
/-- the rows: the last one only if it is not empty -/
def rowsL (ls : List Str) (z : Str) : List Str := ls ++ if z = noS then [] else [z]
/-- a pair of a text and a truth -/
def PrB (H : Hp) (s : Str) (v : V) : Prop := ∃ q b, v = .ref q ∧ H q = some (.tup [.str s, .bl b])
theorem PrB.on {H H' : Hp} (k : KT H H') {s : Str} {v : V} : PrB H s v → PrB H' s v
  | ⟨q, b, e, h⟩ => ⟨q, b, e, k _ _ h⟩
def spRowsOf : Sp := fun vs H Q _ => ∃ (t : Str) (ls : List Str) (z : Str), vs = [.str t] ∧ Txt.split t nlS = ls ++ [z] ∧ t.length ≤ 1000000 ∧ ls.length ≤ 1000 ∧ ∀ H' p xs, Same H H' → H' p = some (.lst xs) → Paired (PrB H') (rowsL ls z) xs → Q (.ref p) H'
theorem at_neg1 {xs : List V} {v : V} : atI (xs ++ [v]) (-1) = some v := by
  rw [at_last (by simp)]
  simp
section
variable {P : Program} {w : World} {K : PySem.W.Frag} {mg : Str → Option Value} {base : Heap}
theorem rd_rows_of (G : GF K mg "rows_of" "rows_of" 85) : Rd P w K mg base CX0 1 "rows_of" ["text"] spRowsOf := by
  obtain ⟨fd, F, hm⟩ := G
  refine ⟨_, fd, F.ok sc85 (fun vs H Q E h => ?_) ?_, hm, F.kp, F.bindsN fun _ _ _ _ _ _ us hl => match us, hl with | [_], _ => rfl⟩
  · obtain ⟨t, ls, z, rfl, _⟩ := h; rfl
  intro cdv A outer s H vs Q E hr h
  refine' ⟨_, PSs.nox ?p, ?q⟩
  case p =>
    refine' pss_cons (ps_set (i := 1) sc85.nd rfl (Or.inl rfl) (pe_bm PySem.F.plainAttrs_str PySem.F.slot_str_split PySem.F.type_str_split mt_split (pv 0) (pa_cons pe_str pa_nil))) ?w0
    case w0 =>
    refine' pss_cons (ps_setLc (i := 2) (own := [("piece", 3)]) (g := gName 3) (tt := tYes) rfl sc85.nd rfl rfl (sw_true rfl rfl rfl (by decide +kernel)) (pi_list (pe_slice sl_list (pv 1) po_none (po_some (pe_un un_neg pe_int)))) (blkOk_by (N := nsc85) (sc := defScope (top 85)) (by decide +kernel)) (fun _ _ _ _ _ => pg_name (i := 3) sc85.nd rfl (Or.inl rfl)) (fun _ _ _ _ _ => pts_nil) (fun _ _ _ _ _ => (pe_tup (pa_cons (pv 3) (pa_cons pe_bl pa_nil))))) ?w1
    case w1 =>
    exact pss_one (ps_ret (pe_op op_cat (pv 2) (pe_ifExp (pt_cmpR op_ne (pe_ix (r := rIxL K) ix_list (pv 1) (pe_un un_neg pe_int) (fun _ _ => rfl)) pe_str (nomark _)) (pe_lst (pa_cons (pe_tup (pa_cons (pe_ix (r := rIxL K) ix_list (pv 1) (pe_un un_neg pe_int) (fun _ _ => rfl)) (pa_cons pe_bl pa_nil))) pa_nil)) (pe_lst pa_nil))))

  case q =>
    obtain ⟨t, ls, z, rfl, hsp, ht, hl, q⟩ := h
    refine ⟨_, rfl, rfl, _, _, rfl, rfl, by decide +kernel, by rw [sizeLine_eq]; omega, ?_⟩
    intro p hp
    rw [show Txt.split t "\n" = ls ++ [z] from hsp]
    have e1 : upd H p (.lst ((ls ++ [z]).map V.str)) p = some (.lst ((ls ++ [z]).map V.str)) := upd_same
    have s1 : Same H (upd H p (.lst ((ls ++ [z]).map V.str))) := Same.new hp
    generalize upd H p (.lst ((ls ++ [z]).map V.str)) = H1 at e1 s1
    have em : ((ls ++ [z]).map V.str) = ls.map V.str ++ [V.str z] := by simp
    rw [em] at e1
    refine ⟨_, rfl, _, rfl, _, rfl, p, _, rfl, SqL.of e1, fun c hc => ⟨c, rfl, ⟨_, SqL.of upd_same⟩, fun D hD => ?_⟩⟩
    rw [cut_butlast, List.dropLast_concat] at hD ⊢
    have pc : p ≠ c := ne_of_none e1 hc
    have e2 : upd H1 c (.lst (ls.map V.str)) p = some (.lst (ls.map V.str ++ [V.str z])) := by rw [upd_ne pc]; exact e1
    have s2 : Same H (upd H1 c (.lst (ls.map V.str))) := sameU s1 hc
    have e3 : upd H1 c (.lst (ls.map V.str)) c = some (.lst (ls.map V.str)) := upd_same
    generalize upd H1 c (.lst (ls.map V.str)) = H2 at e2 s2 e3 hD
    have cD : c ≠ D := ne_of_none e3 hD
    have pD : p ≠ D := ne_of_none e2 hD
    have s3 : Same H2 (upd H2 D (.lst [])) := Same.new hD
    refine lc_list (K := K) (a := c) (xs := ls.map V.str) (fun i H3 => Same H2 H3 ∧ ∃ ws, H3 D = some (.lst ws) ∧ Paired (PrB H3) (ls.take i) ws)
      ⟨s3, [], upd_same, by rw [List.take_zero]; exact .nil⟩ (fun i H3 _ z => SqL.of (z.1 _ _ e3)) ?_ ?_
    · rintro i x H3 hx ⟨s4, ws, hD3, pw⟩
      obtain ⟨s, hs, rfl⟩ : ∃ s, ls[i]? = some s ∧ x = .str s := by
        rw [List.getElem?_map] at hx
        cases y : ls[i]? with
        | none => rw [y] at hx; cases hx
        | some s => rw [y] at hx; exact ⟨s, rfl, (Option.some.inj hx).symm⟩
      have il : i < ls.length := (List.getElem?_eq_some_iff.mp hs).1
      have wl : ws.length ≤ 1000 := by rw [← pw.length, List.length_take]; omega
      refine ⟨rfl, _, rfl, sz2, fun T hT => ⟨ws, by rw [upd_ne (ne_of_none hD3 hT)]; exact hD3, by rw [sizeLine_eq]; omega, ?_⟩⟩
      have kt : KT H3 (upd (upd H3 T (.tup [.str s, .bl true])) D (.lst (ws ++ [.ref T]))) := (KT.new hT).trans (KT.lst (by rw [upd_ne (ne_of_none hD3 hT)]; exact hD3))
      refine ⟨fun b o e => ?_, ws ++ [.ref T], upd_same, paired_takeS (paired_mono (fun _ _ z => z.on kt) pw) hs ⟨T, true, rfl, ?_⟩⟩
      · rw [upd_ne (ne_of_none e hD)]
        exact (sameU s4 hT) b o e
      · rw [upd_ne (fun y => by rw [y, hD3] at hT; cases hT)]
        exact upd_same
    · rintro H3 ⟨s4, ws, hD3, pw⟩
      rw [List.length_map, List.take_length] at pw
      have sA : Same H H3 := fun b o e => s4 b o (s2 b o e)
      have eP := s4 _ _ e2
      have dne : D ≠ p := Ne.symm pD
      have wl : ws.length ≤ 1000 := by rw [← pw.length]; exact hl
      refine ⟨_, rfl, _, rfl, _, rfl, p, _, _, _, rfl, rfl, SqL.of eP, at_neg1, rfl, _, rfl, ?_⟩
      by_cases hz : z = noS
      · have e : (!decide (V.str z = V.str "")) = false := by rw [hz]; decide +kernel
        refine ifF e ⟨by rw [sizeLine_eq]; exact (by decide : 0 ≤ 16777216), fun q1 hq1 => ⟨D, q1, ws, [], rfl, rfl, by rw [upd_ne (ne_of_none hD3 hq1)]; exact hD3, upd_same, by rw [sizeLine_eq]; show ws.length + 0 ≤ _; omega, fun r hr => ?_⟩⟩
        have s5 := sameU (o := .lst []) sA hq1
        refine q _ r _ (sameU s5 hr) upd_same ?_
        have kt : KT H3 (upd (upd H3 q1 (.lst [])) r (.lst (ws ++ []))) := (KT.new hq1).trans (KT.new hr)
        unfold rowsL
        rw [if_pos hz, List.append_nil, List.append_nil]
        exact paired_mono (fun _ _ z => z.on (by rw [List.append_nil] at kt; exact kt)) pw
      · have e : (!decide (V.str z = V.str "")) = true := by
          rw [Bool.not_eq_true', decide_eq_false_iff_not]
          intro y
          exact hz (by injection y)
        refine ifT e ⟨_, rfl, _, rfl, p, _, _, _, rfl, rfl, SqL.of eP, at_neg1, sz2, fun T hT => ⟨sz1, fun q1 hq1 => ⟨D, q1, ws, [.ref T], rfl, rfl, by rw [upd_ne (ne_of_none (by rw [upd_ne (ne_of_none hD3 hT)]; exact hD3) hq1), upd_ne (ne_of_none hD3 hT)]; exact hD3, upd_same, by rw [sizeLine_eq]; show ws.length + 1 ≤ _; omega, fun r hr => ?_⟩⟩⟩
        have s5 := sameU (o := .lst [.ref T]) (sameU (o := .tup [.str z, .bl false]) sA hT) hq1
        refine q _ r _ (sameU s5 hr) upd_same ?_
        have kt : KT H3 (upd (upd (upd H3 T (.tup [.str z, .bl false])) q1 (.lst [.ref T])) r (.lst (ws ++ [.ref T]))) := ((KT.new hT).trans (KT.new hq1)).trans (KT.new hr)
        unfold rowsL
        rw [if_neg hz]
        refine paired_appB (paired_mono (fun _ _ z => z.on kt) pw) (.cons ⟨T, false, rfl, ?_⟩ .nil)
        rw [upd_ne (ne_of_none (by rw [upd_ne (ne_of_none upd_same hq1)]; exact upd_same) hr), upd_ne (ne_of_none upd_same hq1)]
        exact upd_same
end
end K1
set_option Elab.async false
set_option linter.all false
set_option maxRecDepth 100000
set_option maxHeartbeats 2000000
/-! The rows that a desk may begin with, or what is raised. -/
namespace K1
open PySem PySem.Spec PyProof.Rows L2
open He (ga ma)
abbrev nsc129 : List Str := ["text", "rows", "row", "is_ended"]
theorem sc129 : FnScope nsc129 ["text"] (defScope (top 129)) := ⟨rfl, rfl, rfl, by decide +kernel, rfl, by decide +kernel, by decide +kernel⟩
def goodRow (s : Str) : Bool := decide (s.length ≤ 4000) && !hasNl s
def goodRows (L : List Str) : Bool := decide (L.length ≤ 20) && L.all goodRow
/-- an own error with one field, raised -/
def Rz (K : PySem.W.Frag) (H : Hp) (E : XK) (n f : Str) (v : V) : Prop := ∀ H' dx, Same H H' → H dx = none → H' dx = some (.xd [(f, v)]) → E (.ref (ga K n)) (some dx) H'
def spRowsIn (K : PySem.W.Frag) : Sp := fun vs H Q E => ∃ v, vs = [v] ∧ ((∃ t, TyX K H v t ∧ PySem.W.kitOne K t (.type "str") = some false ∧ Rz K H E "InvalidText" "given" v) ∨
  ∃ (t : Str) (ls : List Str) (z : Str), v = .str t ∧ Txt.split t nlS = ls ++ [z] ∧ t.length ≤ 1000000 ∧ ls.length ≤ 1000 ∧ (∀ s ∈ rowsL ls z, s.length ≤ 100000) ∧
    (goodRows (rowsL ls z) = true → ∀ H' p, Same H H' → H' p = some (.tup ((rowsL ls z).map V.str)) → Q (.ref p) H') ∧ (goodRows (rowsL ls z) = false → Rz K H E "InvalidText" "given" v))
theorem Rz.go {K : PySem.W.Frag} {H H' : Hp} {E : XK} {n f : Str} {v : V} (h : Rz K H E n f v) (s : Same H H') : ∀ dx, H' dx = none → E (.ref (ga K n)) (some dx) (upd H' dx (.xd [(f, v)])) := fun dx hd => h _ dx (sameU s hd) (s.free hd) upd_same
section
variable {P : Program} {w : World} {K : PySem.W.Frag} {mg : Str → Option Value} {base : Heap}
theorem rd_rows_in (G : GF K mg "rows_in" "rows_in" 129) (B : Bn mg) (N : Cn K w mg) (S : SupOk P mg) (x_InvalidText : XF P K mg "InvalidText" "given") (R_is_string : Rd P w K mg base CX0 1 "is_string" ["value"] (spIsStr K)) (R_rows_of : Rd P w K mg base CX0 1 "rows_of" ["text"] spRowsOf)
    (R_is_row_text : Rd P w K mg base CX0 2 "is_row_text" ["value"] spRowTx) : Rd P w K mg base (CX P w) 3 "rows_in" ["text"] (spRowsIn K) := by
  obtain ⟨fd, F, hm⟩ := G
  obtain ⟨tM, gM⟩ := N.mostR
  refine ⟨_, fd, F.ok sc129 (fun vs H Q E h => ?_) ?_, hm, F.kp, F.bindsN fun _ _ _ _ _ _ us hl => match us, hl with | [_], _ => rfl⟩
  · obtain ⟨v, rfl, _⟩ := h; rfl
  intro cdv A outer s H vs Q E hr h
  refine' ⟨_, ?p, ?q⟩
  case p =>
    refine' pss_cons (ps_if (pt_not (pt_val (pe_cl R_is_string (hr.mono (by decide)) rfl pass0 (pa_cons (pv 0) pa_nil)))) (pss_one (ps_raise rfl (takes_of rfl rfl rfl rfl) (pmk_X (run1X S hr x_InvalidText.T (raises_own x_InvalidText.rb x_InvalidText.rt) bd_given.1) x_InvalidText.kp rfl x_InvalidText.g (pa_cons (pv 0) pa_nil)))) (pss_nil)) ?w0
    case w0 =>
    refine' pss_cons (ps_set (i := 1) sc129.nd rfl (Or.inl rfl) (pe_callTy call_tuple_of rfl B.tuple (by decide +kernel) (pa_cons (pe_lc (own := [("row", 2), ("is_ended", 3)]) (g := (gTup K 2 (gCons (gName 2) (gCons (gName 3) gNil)))) (tt := tYes) rfl sc129.nd (pi_list (pe_cl R_rows_of (hr.mono (by decide)) rfl pass0 (pa_cons (pv 0) pa_nil))) (blkOk_by (N := nsc129) (sc := defScope (top 129)) (by decide +kernel)) (fun _ _ _ _ _ => pg_tup rfl (pgs_cons (pg_name (i := 2) sc129.nd rfl (Or.inl rfl) (Or.inr rfl)) (pgs_cons (pg_name (i := 3) sc129.nd rfl (Or.inl rfl) (Or.inr rfl)) pgs_nil))) (fun _ _ _ _ _ => pts_nil) (fun _ _ _ _ _ => (pv 2))) pa_nil))) ?w1
    case w1 =>
    refine' pss_cons (ps_if (PW.pt (pw_or (pt_cmpR op_gt (pe_callB (r := rLen K) call_len_seq rfl B.len boot_len (pa_cons (pv 1) pa_nil)) (pe_glob (v := .int 20) rfl gM ⟨_, rfl⟩) (nomark _)) (pw_or1 (pt_not (pt_val (pe_callB (r := rAll K) (cr_all rfl) rfl B.all boot_all (pa_cons (pe_lc (own := [("row", 2)]) (g := gName 2) (tt := tYes) rfl sc129.nd (pi_tup (pv 1)) (blkOk_by (N := nsc129) (sc := defScope (top 129)) (by decide +kernel)) (fun _ _ _ _ _ => pg_name (i := 2) sc129.nd rfl (Or.inl rfl)) (fun _ _ _ _ _ => pts_nil) (fun _ _ _ _ _ => (pe_cl R_is_row_text (hr.mono (by decide)) rfl pass0 (pa_cons (pv 2) pa_nil)))) pa_nil))))))) (pss_one (ps_raise rfl (takes_of rfl rfl rfl rfl) (pmk_X (run1X S hr x_InvalidText.T (raises_own x_InvalidText.rb x_InvalidText.rt) bd_given.1) x_InvalidText.kp rfl x_InvalidText.g (pa_cons (pv 0) pa_nil)))) (pss_nil)) ?w2
    case w2 =>
    exact pss_one (ps_ret (pv 1))

  case q =>
    obtain ⟨v, rfl, h⟩ := h
    rcases h with ⟨t, ty, ki, rz⟩ | ⟨t, ls, z, rfl, hsp, ht, hl, hs, q, rz⟩
    · refine ⟨_, rfl, _, _, _, rfl, ty, ki, _, rfl, ifTT ⟨_, rfl, rfl, rz.go fun _ _ e => e⟩⟩
    refine ⟨_, rfl, _, _, _, rfl, .base (.str t), kit_ss K, _, rfl, ifF rfl ?_⟩
    refine ⟨_, rfl, t, ls, z, rfl, hsp, ht, hl, fun H1 p xs s1 hp px => ⟨p, rfl, ⟨_, SqL.of hp⟩, fun D hD => ?_⟩⟩
    have hn : (rowsL ls z).length ≤ 1001 := by
      unfold rowsL
      rw [List.length_append]
      split <;> simp <;> omega
    generalize rowsL ls z = L at *
    have pD : p ≠ D := ne_of_none hp hD
    refine lc_list (K := K) (a := p) (xs := xs) (fun i H2 => H2 = upd H1 D (.lst ((L.take i).map V.str))) rfl (fun i H2 _ e => by rw [e]; exact SqL.of (by rw [upd_ne pD]; exact hp)) ?_ ?_
    · rintro i x H2 hx rfl
      obtain ⟨s0, hs0, q0, b0, rfl, hq0⟩ := paired_backB px hx
      have ll : ((L.take i).map V.str).length < sizeLine := by
        rw [sizeLine_eq, List.length_map]
        have := List.length_take_le' i L
        omega
      refine ⟨q0, _, rfl, .inl (.inl (by rw [upd_ne (ne_of_none hq0 hD)]; exact hq0)), rfl, _, _, rfl, _, _, rfl, rfl, rfl, iteT (B := upd H1 D (.lst ((L.take i).map V.str)) = upd H1 D (.lst ((L.take (i + 1)).map V.str))) ⟨_, rfl, _, upd_same, ll, ?_⟩⟩
      rw [upd_upd, List.take_add_one, hs0]
      simp
    rintro H2 rfl
    rw [← px.length, List.take_length]
    refine ⟨D, _, rfl, .inl ⟨SqL.of upd_same, fun r hr => ?_⟩⟩
    have s2 : Same H (upd (upd H1 D (.lst (L.map V.str))) r (.tup (L.map V.str))) := sameU (sameU s1 hD) hr
    have e2 : upd (upd H1 D (.lst (L.map V.str))) r (.tup (L.map V.str)) r = some (.tup (L.map V.str)) := upd_same
    generalize upd (upd H1 D (.lst (L.map V.str))) r (.tup (L.map V.str)) = H2 at s2 e2
    refine ⟨_, rfl, r, _, rfl, .inr (SqT.of e2), _, _, rfl, rfl, _, rfl, ?_⟩
    rw [List.length_map]
    by_cases h20 : L.length ≤ 20
    · have e : decide ((20 : Int) < (L.length : Int)) = false := decide_eq_false (by omega)
      refine ifF e ?_
      refine ⟨_, rfl, r, rfl, ⟨_, SqT.of e2⟩, fun D2 hD2 => ?_⟩
      have s3 : Same H (upd H2 D2 (.lst [])) := sameU s2 hD2
      have rD : r ≠ D2 := ne_of_none e2 hD2
      refine lc_tup (K := K) (a := r) (xs := L.map V.str) (fun i H3 => H3 = upd H2 D2 (.lst (((L.take i).map goodRow).map V.bl))) rfl (fun i H3 _ e => by rw [e]; exact SqT.of (by rw [upd_ne rD]; exact e2)) ?_ ?_
      · rintro i x H3 hx rfl
        obtain ⟨s0, hs0, rfl⟩ : ∃ s0, L[i]? = some s0 ∧ x = .str s0 := by
          rw [List.getElem?_map] at hx
          cases y : L[i]? with
          | none => rw [y] at hx; cases hx
          | some s => rw [y] at hx; exact ⟨s, rfl, (Option.some.inj hx).symm⟩
        have ll : (((L.take i).map goodRow).map V.bl).length < sizeLine := by
          rw [sizeLine_eq, List.length_map, List.length_map]
          have := List.length_take_le' i L
          omega
        refine ⟨rfl, _, rfl, s0, rfl, hs _ (List.mem_of_getElem? hs0), _, upd_same, ll, ?_⟩
        rw [upd_upd, List.take_add_one, hs0]
        simp [goodRow]
      · rintro H3 rfl
        rw [List.length_map, List.take_length]
        refine ⟨D2, L.map goodRow, rfl, SqL.of upd_same, _, rfl, ?_⟩
        have e3 : (L.map goodRow).all id = L.all goodRow := by simp [List.all_map]
        rw [e3]
        have s4 : Same H (upd H2 D2 (.lst ((L.map goodRow).map V.bl))) := sameU s2 hD2
        have e4 : upd H2 D2 (.lst ((L.map goodRow).map V.bl)) r = some (.tup (L.map V.str)) := by rw [upd_ne rD]; exact e2
        have gr : goodRows L = L.all goodRow := by unfold goodRows; rw [decide_eq_true h20, Bool.true_and]
        cases hg : L.all goodRow with
        | true => exact ifF rfl ⟨_, rfl, q (gr.trans hg) _ r s4 e4⟩
        | false => exact ifTT ⟨_, rfl, rfl, (rz (gr.trans hg)).go s4⟩
    · have e : decide ((20 : Int) < (L.length : Int)) = true := decide_eq_true (by omega)
      have gr : goodRows L = false := by unfold goodRows; rw [decide_eq_false h20, Bool.false_and]
      exact ifT e ⟨_, rfl, rfl, (rz gr).go s2⟩
end
end K1
set_option Elab.async false
set_option linter.all false
set_option maxRecDepth 100000
set_option maxHeartbeats 2000000
/-! A desk made, compared, led back. -/
namespace K1
open PySem PySem.Spec PyProof.Rows L2
open He (ga ma)
def mth (j : Nat) : Stmt := inClass (top 135) j
abbrev cDk (K : PySem.W.Frag) : Addr := ga K "Desk"
/-- where a method of the text stands -/
def GM (K : PySem.W.Frag) (m q : Str) (j : Nat) : Prop := ∃ fd, FunD K m q (defArgs (mth j)) (defBody (mth j)) (defScope (mth j)) [] [] (ma K (cDk K) m) fd
/-- a method is ready -/
def RdM (P : Program) (w : World) (K : PySem.W.Frag) (mg : Str → Option Value) (base : Heap) (CX : CXT) (n : Nat) (m : Str) (ps : List Str) (sp : Sp) : Prop := ∃ fd, FnOk P w K mg base CX n (ma K (cDk K) m) fd ps sp ∧ Binds K fd ps []
theorem scDi : FnScope ["self", "text"] ["self", "text"] (defScope (mth 0)) := ⟨rfl, rfl, rfl, by decide +kernel, rfl, by decide +kernel, by decide +kernel⟩
theorem scDe : FnScope ["self", "other"] ["self", "other"] (defScope (mth 1)) := ⟨rfl, rfl, rfl, by decide +kernel, rfl, by decide +kernel, by decide +kernel⟩
theorem scDu : FnScope ["self"] ["self"] (defScope (mth 3)) := ⟨rfl, rfl, rfl, by decide +kernel, rfl, by decide +kernel, by decide +kernel⟩
theorem ne_br : ¬ (("begun" : Str) = "rows") := by decide +kernel
theorem ne_bd : ¬ (("begun" : Str) = "deeds") := by decide +kernel
theorem ne_bp : ¬ (("begun" : Str) = "past") := by decide +kernel
theorem ne_rd : ¬ (("rows" : Str) = "deeds") := by decide +kernel
theorem ne_rp : ¬ (("rows" : Str) = "past") := by decide +kernel
theorem ne_dp : ¬ (("deeds" : Str) = "past") := by decide +kernel
section
variable {b r e q v : V}
theorem put1 : putF "begun" b [] = [(("begun" : Str), b)] := rfl
theorem put2 : putF "rows" r [(("begun" : Str), b)] = [(("begun" : Str), b), (("rows" : Str), r)] := by simp [putF, ne_br]
theorem put3 : putF "deeds" e [(("begun" : Str), b), (("rows" : Str), r)] = [(("begun" : Str), b), (("rows" : Str), r), (("deeds" : Str), e)] := by simp [putF, ne_bd, ne_rd]
theorem put4 : putF "past" q [(("begun" : Str), b), (("rows" : Str), r), (("deeds" : Str), e)] = flD b r e q := by simp [putF, ne_bp, ne_rp, ne_dp, flD]
theorem putR : putF "rows" v (flD b r e q) = flD b v e q := by simp [putF, ne_br, flD]
theorem putD : putF "deeds" v (flD b r e q) = flD b r v q := by simp [putF, ne_bd, ne_rd, flD]
theorem putP : putF "past" v (flD b r e q) = flD b r e v := by simp [putF, ne_bp, ne_rp, ne_dp, flD]
theorem lkB : (flD b r e q).lookup ("begun" : Str) = some b := rfl
theorem lkR : (flD b r e q).lookup ("rows" : Str) = some r := rfl
theorem lkD : (flD b r e q).lookup ("deeds" : Str) = some e := rfl
theorem lkP : (flD b r e q).lookup ("past" : Str) = some q := rfl
theorem lkDo : (flD b r e q).lookup ("do" : Str) = none := rfl
theorem lkUn : (flD b r e q).lookup ("undo" : Str) = none := rfl
end
theorem f1000 {b r e q : V} : (flD b r e q).length < 1000 := by show 4 < 1000; decide
theorem sz0 : ([] : List V).length ≤ sizeLine := small (show 0 ≤ 1000 by decide)
/-- what Desk(v) comes to: a desk, or what is raised -/
def MkD (K : PySem.W.Frag) (H : Hp) (E : XK) (v : V) (go : List Str → Prop) : Prop := (∃ t, TyX K H v t ∧ PySem.W.kitOne K t (.type "str") = some false ∧ Rz K H E "InvalidText" "given" v) ∨
  ∃ (t : Str) (ls : List Str) (z : Str), v = .str t ∧ Txt.split t nlS = ls ++ [z] ∧ t.length ≤ 1000000 ∧ ls.length ≤ 1000 ∧ (∀ s ∈ rowsL ls z, s.length ≤ 100000) ∧ (goodRows (rowsL ls z) = true → go (rowsL ls z)) ∧ (goodRows (rowsL ls z) = false → Rz K H E "InvalidText" "given" v)
/-- Desk.__init__ is ready, by position and by name -/
def RdI (P : Program) (w : World) (K : PySem.W.Frag) (mg : Str → Option Value) (base : Heap) (sp : Sp) : Prop := ∃ fd, FnOk P w K mg base (CX P w) 4 (ma K (cDk K) "__init__") fd ["self", "text"] sp ∧ Binds K fd ["self", "text"] [] ∧ KBn K fd ["self", "text"] 1 ["text"] (fun us ws => us ++ ws) (fun vs zs => vs ++ zs)
theorem kb_init {K : PySem.W.Frag} {fd : FuncData} {f : Addr} (F : FunD K "__init__" "Desk.__init__" (defArgs (mth 0)) (defBody (mth 0)) (defScope (mth 0)) [] [] f fd) : KBn K fd ["self", "text"] 1 ["text"] (fun us ws => us ++ ws) (fun vs zs => vs ++ zs) := by
  obtain ⟨oc, od, dV, kV, doc, pm, an, cdv, ct, osl, rfl, lk, hcd, hD, hK⟩ := F.ex
  rcases hD with ⟨_, rfl⟩ | ⟨e, _⟩
  · exact ⟨fun s us ws X h1 h2 => match us, ws, h1, h2 with | [_], [_], _, _ => .of_eq rfl, fun a b => a.append b⟩
  · exact absurd rfl e
def spInit (K : PySem.W.Frag) : Sp := fun vs H Q E => ∃ p dx v, vs = [.ref p, v] ∧ H p = some (.ins (cDk K) dx []) ∧ MkD K H E v fun L => ∀ H', SP p H H' → DkAt (cDk K) H' p L [] [] L → Q .non H'
def spEq (K : PySem.W.Frag) : Sp := fun vs H Q _ => ∃ p B Ps Ds R, DkAt (cDk K) H p B Ps Ds R ∧ RsOk B ∧ (∀ d ∈ Ds, d.ok) ∧ ((∃ v t, vs = [.ref p, v] ∧ TyX K H v t ∧ PySem.W.kitOne K t (.ref (cDk K)) = some false ∧ Q (.bl false) H) ∨
  ∃ p' B' Ps' Ds' R', vs = [.ref p, .ref p'] ∧ DkAt (cDk K) H p' B' Ps' Ds' R' ∧ RsOk B' ∧ (∀ d ∈ Ds', d.ok) ∧ Q (.bl (decide (B = B') && decide (Ds = Ds'))) H)
def spUndo (K : PySem.W.Frag) : Sp := fun vs H Q _ => ∃ p B Ps Ds R, vs = [.ref p] ∧ DkAt (cDk K) H p B Ps Ds R ∧ (∀ d ∈ Ds, d.ok) ∧ Ps.length = Ds.length ∧
  (Ds = [] → ∀ H', Same H H' → Q (.bl false) H') ∧ (∀ Ps' R' Ds' d', Ps = Ps' ++ [R'] → Ds = Ds' ++ [d'] → ∀ H', SP p H H' → DkAt (cDk K) H' p B Ps' Ds' R' → Q (.bl true) H')
theorem DkAt.ty {K : PySem.W.Frag} {mg : Str → Option Value} (D : DkC K mg) {H : Hp} {p : Addr} {B : List Str} {Ps : List (List Str)} {Ds : List Dd} {R : List Str} : DkAt (cDk K) H p B Ps Ds R → TyX K H (.ref p) (.ref (cDk K))
  | ⟨dx, b, r, e, q, h, v⟩ => .base (.ins h D.cl D.ca D.sp D.tk D.ob)
section
variable {P : Program} {w : World} {K : PySem.W.Frag} {mg : Str → Option Value} {base : Heap}
theorem rd_init (G : GM K "__init__" "Desk.__init__" 0) (D : DkC K mg) (R_rows_in : Rd P w K mg base (CX P w) 3 "rows_in" ["text"] (spRowsIn K)) : RdI P w K mg base (spInit K) := by
  obtain ⟨fd, F⟩ := G
  refine ⟨fd, F.ok scDi (fun vs H Q E h => ?_) ?_, F.bindsN fun _ _ _ _ _ _ us hl => match us, hl with | [_, _], _ => rfl, kb_init F⟩
  · obtain ⟨p, dx, v, rfl, _⟩ := h; rfl
  intro cdv A outer s H vs Q E hr h
  refine' ⟨_, ?p, ?q⟩
  case p =>
    refine' pss_cons (ps_fld (pv 0) (pe_cl R_rows_in (hr.mono (by decide)) rfl (passes_call (takes_of rfl rfl rfl rfl) (fun _ _ _ _ h => h)) (pa_cons (pv 1) pa_nil)) rfl) ?w0
    case w0 =>
    refine' pss_cons (ps_fld (pv 0) (pe_fld (pv 0) rfl) rfl) ?w1
    case w1 =>
    refine' pss_cons (ps_fld (pv 0) (pe_tup pa_nil) rfl) ?w2
    case w2 =>
    exact pss_one (ps_fld (pv 0) (pe_tup pa_nil) rfl)

  case q =>
    obtain ⟨p, dx, v, rfl, hp, h⟩ := h
    refine ⟨_, rfl, v, rfl, ?_⟩
    rcases h with ⟨t, ty, ki, rz⟩ | ⟨t, ls, z, rfl, hsp, ht, hl, hs, q, rz⟩
    · exact .inl ⟨t, ty, ki, rz⟩
    refine .inr ⟨t, ls, z, rfl, hsp, ht, hl, hs, fun g H1 r s1 hr => ?_, rz⟩
    have q := q g
    generalize rowsL ls z = L at *
    have hp1 := s1 _ _ hp
    have rp : r ≠ p := fun z => by rw [z, hp1] at hr; cases hr
    refine ⟨_, rfl, p, _, dx, _, rfl, hp1, D.cl, D.n1, (by show 0 < 1000; decide), ?_⟩
    rw [put1]
    refine ⟨_, rfl, p, _, dx, _, _, rfl, upd_same, D.cl, D.n1, rfl, _, rfl, p, _, dx, _, rfl, upd_same, D.cl, D.n2, (by show 1 < 1000; decide), ?_⟩
    rw [upd_upd, put2]
    refine ⟨sz0, fun t1 h1 => ⟨_, rfl, p, _, dx, _, rfl, by rw [upd_ne (ne_of_none upd_same h1)]; exact upd_same, D.cl, D.n3, (by show 2 < 1000; decide), ?_⟩⟩
    have t1p : t1 ≠ p := Ne.symm (ne_of_none upd_same h1)
    have h1' : H1 t1 = none := by rw [upd_ne t1p] at h1; exact h1
    rw [put3]
    refine ⟨sz0, fun t2 h2 => ⟨_, rfl, p, _, dx, _, rfl, by rw [upd_ne (ne_of_none upd_same h2)]; exact upd_same, D.cl, D.n4, (by show 3 < 1000; decide), ?_⟩⟩
    have t2p : t2 ≠ p := Ne.symm (ne_of_none upd_same h2)
    rw [upd_ne t2p] at h2
    have t12 : t1 ≠ t2 := ne_of_none upd_same h2
    rw [upd_ne (Ne.symm t12), upd_ne t2p] at h2
    rw [put4]
    refine q _ (fun b o n e => ?_) ⟨dx, _, _, _, _, upd_same, ⟨⟨r, rfl, ?_⟩, ⟨r, rfl, ?_⟩, ⟨t1, [], rfl, ?_, .nil⟩, ⟨t2, [], rfl, ?_, .nil⟩⟩⟩
    · have e1 := s1 _ _ e
      rw [upd_ne n, upd_ne (ne_of_none e1 h2), upd_ne n, upd_ne (ne_of_none e1 h1'), upd_ne n]
      exact e1
    · rw [upd_ne rp, upd_ne (ne_of_none hr h2), upd_ne rp, upd_ne (ne_of_none hr h1'), upd_ne rp]; exact hr
    · rw [upd_ne rp, upd_ne (ne_of_none hr h2), upd_ne rp, upd_ne (ne_of_none hr h1'), upd_ne rp]; exact hr
    · rw [upd_ne t1p, upd_ne t12, upd_ne t1p]; exact upd_same
    · rw [upd_ne t2p]; exact upd_same
theorem rd_eq (G : GM K "__eq__" "Desk.__eq__" 1) (B : Bn mg) (D : DkC K mg) : RdM P w K mg base CX0 1 "__eq__" ["self", "other"] (spEq K) := by
  obtain ⟨fd, F⟩ := G
  refine ⟨fd, F.ok scDe (fun vs H Q E h => ?_) ?_, F.bindsN fun _ _ _ _ _ _ us hl => match us, hl with | [_, _], _ => rfl⟩
  · obtain ⟨p, B, Ps, Ds, R, _, _, _, ⟨v, t, rfl, _⟩ | ⟨p', B', Ps', Ds', R', rfl, _⟩⟩ := h <;> rfl
  intro cdv A outer s H vs Q E hr h
  refine' ⟨_, PSs.nox ?p, ?q⟩
  case p =>
    refine' pss_cons (ps_if (pt_not (pt_val (pe_callB (r := rIsi K) call_isi rfl B.isinstance boot_isinstance (pa_cons (pv 1) (pa_cons (pe_glob (v := .ref (ga K "Desk")) rfl D.g rfl) pa_nil))))) (pss_one (ps_ret pe_bl)) (pss_nil)) ?w0
    case w0 =>
    exact pss_one (ps_ret (pe_and (pe_cmpR (op_eqD hr.units) (pe_fld (pv 0) rfl) (pe_fld (pv 1) rfl) (nomark _)) (pe_one (pe_cmpR (op_eqD hr.units) (pe_fld (pv 0) rfl) (pe_fld (pv 1) rfl) (nomark _)))))

  case q =>
    obtain ⟨p, B1, Ps, Ds, R, d1, ro, od, h⟩ := h
    rcases h with ⟨v, t, rfl, ty, ki, q⟩ | ⟨p', B', Ps', Ds', R', rfl, d2, ro', od', q⟩
    · exact ⟨_, rfl, _, _, _, _, _, rfl, .own _, ty, ki, _, rfl, ifTT q⟩
    · refine ⟨_, rfl, _, _, _, _, _, rfl, .own _, d2.ty D, D.is1, _, rfl, ifF rfl ?_⟩
      obtain ⟨dx, b, r, e, u, hi, dv⟩ := d1
      obtain ⟨dx', b', r', e', u', hi', dv'⟩ := d2
      refine ⟨_, rfl, p, _, dx, _, _, rfl, hi, D.cl, D.n1, lkB, _, rfl, p', _, dx', _, _, rfl, hi', D.cl, D.n1, lkB, _, _, dv.hb.dp, dv'.hb.dp, shp_rows fun r hr => (ro.txt r hr).2, shp_rows fun r hr => (ro'.txt r hr).2, _, rfl, ?_⟩
      rw [eqv_rows]
      cases hB : decide (B1 = B') with
      | false =>
        rw [hB] at q
        exact ifF rfl q
      | true =>
        rw [hB] at q
        obtain ⟨pe, xs, rfl, he, px⟩ := dv.he
        obtain ⟨pe', xs', rfl, he', px'⟩ := dv'.he
        refine ifTT ⟨_, rfl, p, _, dx, _, _, rfl, hi, D.cl, D.n3, lkD, _, rfl, p', _, dx', _, _, rfl, hi', D.cl, D.n3, lkD, _, _, deeds_dp he px, deeds_dp he' px', shp_deeds od, shp_deeds od', ?_⟩
        rw [eqv_deeds]
        exact q
theorem rd_undo (G : GM K "undo" "Desk.undo" 3) (D : DkC K mg) : RdM P w K mg base CX0 1 "undo" ["self"] (spUndo K) := by
  obtain ⟨fd, F⟩ := G
  refine ⟨fd, F.ok scDu (fun vs H Q E h => ?_) ?_, F.bindsN fun _ _ _ _ _ _ us hl => match us, hl with | [_], _ => rfl⟩
  · obtain ⟨p, B, Ps, Ds, R, rfl, _⟩ := h; rfl
  intro cdv A outer s H vs Q E hr h
  refine' ⟨_, PSs.nox ?p, ?q⟩
  case p =>
    refine' pss_cons (ps_if (pt_cmpR (op_eqD hr.units) (pe_fld (pv 0) rfl) (pe_tup pa_nil) (nomark _)) (pss_one (ps_ret pe_bl)) (pss_nil)) ?w0
    case w0 =>
    refine' pss_cons (ps_fld (pv 0) (pe_ix (r := rIxT K) ix_tup (pe_fld (pv 0) rfl) (pe_un un_neg pe_int) (fun _ _ => rfl)) rfl) ?w1
    case w1 =>
    refine' pss_cons (ps_fld (pv 0) (pe_slice sl_tupA (pe_fld (pv 0) rfl) po_none (po_some (pe_un un_neg pe_int))) rfl) ?w2
    case w2 =>
    refine' pss_cons (ps_fld (pv 0) (pe_slice sl_tupA (pe_fld (pv 0) rfl) po_none (po_some (pe_un un_neg pe_int))) rfl) ?w3
    case w3 =>
    exact pss_one (ps_ret pe_bl)

  case q =>
    obtain ⟨p, B, Ps, Ds, R, rfl, d1, od, hl, q0, q1⟩ := h
    obtain ⟨dx, b, r, e, u, hi, dv⟩ := d1
    obtain ⟨pe, xs, rfl, he, px⟩ := dv.he
    obtain ⟨pu, ys, rfl, hu, py⟩ := dv.hq
    refine ⟨_, rfl, p, _, dx, _, _, rfl, hi, D.cl, D.n3, lkD, sz0, fun t0 h0 => ?_⟩
    have s1 : Same H (upd H t0 (.tup [])) := Same.new h0
    have e0 : upd H t0 (.tup []) t0 = some (.tup []) := upd_same
    generalize upd H t0 (.tup []) = H1 at s1 e0
    have px1 : Paired (DdAt H1) Ds xs := paired_mono (fun _ _ z => z.on (KT.same s1)) px
    refine ⟨_, _, deeds_dp (s1 _ _ he) px1, (show Dp K H1 (.ref t0) (deedsD []) from .tup (SqT.of e0) .nil), shp_deeds od, shp_deeds (by simp), _, rfl, ?_⟩
    rw [eqv_deeds]
    by_cases hD : Ds = []
    · exact ifT (decide_eq_true hD) (q0 hD H1 s1)
    refine ifF (decide_eq_false hD) ?_
    have hD2 : 0 < Ds.length := List.length_pos_iff.mpr hD
    obtain ⟨Ds', d', rfl⟩ : ∃ a b, Ds = a ++ [b] := ⟨_, _, (List.dropLast_concat_getLast hD).symm⟩
    have hP : Ps ≠ [] := fun z => by rw [z] at hl; simp at hl
    obtain ⟨Ps', R', rfl⟩ : ∃ a b, Ps = a ++ [b] := ⟨_, _, (List.dropLast_concat_getLast hP).symm⟩
    obtain ⟨xs', x2, rfl, pa1, pa2⟩ := paired_split px
    obtain ⟨x', _, rfl, _, pn⟩ := pc_cons pa2
    obtain rfl := pc_nil pn
    obtain ⟨ys', y2, rfl, pb1, pb2⟩ := paired_split py
    obtain ⟨y', _, rfl, hy', pn2⟩ := pc_cons pb2
    obtain rfl := pc_nil pn2
    clear px1
    have hi1 := s1 _ _ hi
    have hu1 := s1 _ _ hu
    have he1 := s1 _ _ he
    refine ⟨_, rfl, p, _, dx, _, _, rfl, hi1, D.cl, D.n4, lkP, _, rfl, pu, _, _, _, rfl, rfl, SqT.of hu1, at_neg1, _, rfl, p, _, dx, _, rfl, hi1, D.cl, D.n2, f1000, ?_⟩
    rw [putR]
    have k2 : KT H1 (upd H1 p (.ins (cDk K) dx (flD b y' (.ref pe) (.ref pu)))) := KT.ins hi1
    refine ⟨_, rfl, p, _, dx, _, _, rfl, upd_same, D.cl, D.n4, lkP, _, rfl, _, rfl, slA (k2 _ _ hu1) fun p4 H4 s4 e4 => ?_⟩
    rw [cut_butlast, List.dropLast_concat] at e4
    refine ⟨_, rfl, p, _, dx, _, rfl, s4 _ _ upd_same, D.cl, D.n4, f1000, ?_⟩
    rw [putP]
    have k5 : KT H4 (upd H4 p (.ins (cDk K) dx (flD b y' (.ref pe) (.ref p4)))) := KT.ins (s4 _ _ upd_same)
    have k15 : KT H1 (upd H4 p (.ins (cDk K) dx (flD b y' (.ref pe) (.ref p4)))) := (k2.trans (KT.same s4)).trans k5
    refine ⟨_, rfl, p, _, dx, _, _, rfl, upd_same, D.cl, D.n3, lkD, _, rfl, _, rfl, slA (k15 _ _ he1) fun p6 H6 s6 e6 => ?_⟩
    rw [cut_butlast, List.dropLast_concat] at e6
    refine ⟨_, rfl, p, _, dx, _, rfl, s6 _ _ upd_same, D.cl, D.n3, f1000, ?_⟩
    rw [putD]
    have k7 : KT H6 (upd H6 p (.ins (cDk K) dx (flD b y' (.ref p6) (.ref p4)))) := KT.ins (s6 _ _ upd_same)
    have kk : KT H (upd H6 p (.ins (cDk K) dx (flD b y' (.ref p6) (.ref p4)))) := (((KT.same s1).trans k15).trans (KT.same s6)).trans k7
    refine q1 Ps' R' Ds' d' rfl rfl _ (fun c o n e => ?_) ⟨dx, b, y', _, _, upd_same, ⟨dv.hb.on kk, hy'.on kk, ⟨p6, xs', rfl, k7 _ _ e6, paired_mono (fun _ _ z => z.on kk) pa1⟩, ⟨p4, ys', rfl, ((k5.trans (KT.same s6)).trans k7) _ _ e4, paired_mono (fun _ _ z => z.on kk) pb1⟩⟩⟩
    rw [upd_ne n]
    refine s6 _ _ ?_
    rw [upd_ne n]
    refine s4 _ _ ?_
    rw [upd_ne n]
    exact s1 _ _ e
end
end K1
set_option Elab.async false
set_option linter.all false
set_option maxRecDepth 100000
set_option maxHeartbeats 2000000
/-! Deeds looked at, barred, done to rows. -/
namespace K1
open PySem PySem.Spec PyProof.Rows L2 StX
open He (ga ma)
theorem sc10 : FnScope ["value", "words"] ["value", "words"] (defScope (top 10)) := ⟨rfl, rfl, rfl, by decide +kernel, rfl, by decide +kernel, by decide +kernel⟩
theorem sc130 : FnScope ["value"] ["value"] (defScope (top 130)) := ⟨rfl, rfl, rfl, by decide +kernel, rfl, by decide +kernel, by decide +kernel⟩
theorem sc132 : FnScope ["deed"] ["deed"] (defScope (top 132)) := ⟨rfl, rfl, rfl, by decide +kernel, rfl, by decide +kernel, by decide +kernel⟩
theorem sc133 : FnScope ["rows", "deed"] ["rows", "deed"] (defScope (top 133)) := ⟨rfl, rfl, rfl, by decide +kernel, rfl, by decide +kernel, by decide +kernel⟩
theorem sc134 : FnScope ["rows", "deed", "at"] ["rows", "deed"] (defScope (top 134)) := ⟨rfl, rfl, rfl, by decide +kernel, rfl, by decide +kernel, by decide +kernel⟩
theorem nlS_eq : nlS = ⟨#[10]⟩ := by decide +kernel
theorem hasNl_eq (s : Str) : hasNl s = decide (10 ∈ s.cps.toList) := by
  unfold hasNl
  rw [nlS_eq]
  exact StrLaws.found_one s 10
theorem noNl_has {s : Str} (h : NoNl s) : hasNl s = false := by
  rw [hasNl_eq]
  exact decide_eq_false fun m => (h 10 m).1 rfl
def spWord (K : PySem.W.Frag) : Sp := fun vs H Q _ => ∃ s a xs, vs = [.str s, .ref a] ∧ SqT K H a xs ∧ xs.all flatV = true ∧ Q (.bl (inV (.str s) xs)) H
def spHead : Sp := fun vs H Q _ => ∃ d v, vs = [v] ∧ DdAt H d v ∧ Q (.bl true) H
def spCheck : Sp := fun vs H Q _ => ∃ d v, vs = [v] ∧ DdAt H d v ∧ d.ok ∧ Q .non H
def optS : Option Str → V
  | some s => .str s
  | none => .non
def spBarred : Sp := fun vs H Q _ => ∃ rv R dv d, vs = [rv, dv] ∧ TS' H rv R ∧ DdAt H d dv ∧ R.length ≤ 1000 ∧ Q (optS (barred R d)) H
def spBehind : Sp := fun vs H Q _ => ∃ rv R dv d, vs = [rv, dv] ∧ TS' H rv R ∧ DdAt H d dv ∧ R.length ≤ 100 ∧ ∀ H' p, Same H H' → H' p = some (.tup ((behind R d).map V.str)) → Q (.ref p) H'
section
variable {P : Program} {w : World} {K : PySem.W.Frag} {mg : Str → Option Value} {base : Heap}
theorem rd_word (G : GF K mg "is_word_in" "is_word_in" 10) (R_is_string : Rd P w K mg base CX0 1 "is_string" ["value"] (spIsStr K)) : Rd P w K mg base CX0 2 "is_word_in" ["value", "words"] (spWord K) := by
  obtain ⟨fd, F, hm⟩ := G
  refine ⟨_, fd, F.ok sc10 (fun vs H Q E h => ?_) ?_, hm, F.kp, F.bindsN fun _ _ _ _ _ _ us hl => match us, hl with | [_, _], _ => rfl⟩
  · obtain ⟨s, a, xs, rfl, _⟩ := h; rfl
  intro cdv A outer s H vs Q E hr h
  refine' ⟨_, PSs.nox ?p, ?q⟩
  case p =>
    exact pss_one (ps_ret (pe_and (pe_cl R_is_string (hr.mono (by decide)) rfl pass0 (pa_cons (pv 0) pa_nil)) (pe_one (pe_cmpR op_in_seq (pv 0) (pv 1) (by rfl)))))

  case q =>
    obtain ⟨s, a, xs, rfl, h1, h2, q⟩ := h
    exact ⟨_, rfl, _, _, _, rfl, .base (.str s), kit_ss K, _, rfl, ifTT ⟨_, rfl, _, rfl, a, xs, rfl, .inr h1, rfl, h2, q⟩⟩
theorem rd_head (G : GF K mg "is_headed_desks" "is_headed" 130) (B : Bn mg) (N : Cn K w mg) (R_is_word_in : Rd P w K mg base CX0 2 "is_word_in" ["value", "words"] (spWord K)) : Rd P w K mg base CX0 3 "is_headed_desks" ["value"] spHead := by
  obtain ⟨fd, F, hm⟩ := G
  obtain ⟨aD, gD, hD⟩ := N.deeds
  obtain ⟨aS, gS, k1, k2, k3⟩ := N.sizes
  refine ⟨_, fd, F.ok sc130 (fun vs H Q E h => ?_) ?_, hm, F.kp, F.bindsN fun _ _ _ _ _ _ us hl => match us, hl with | [_], _ => rfl⟩
  · obtain ⟨d, v, rfl, _⟩ := h; rfl
  intro cdv A outer s H vs Q E hr h
  refine' ⟨_, PSs.nox ?p, ?q⟩
  case p =>
    refine' pss_cons (ps_if (PW.pt (pw_or (pt_not (pt_val (pe_callB (r := rIsi K) call_isi rfl B.isinstance boot_isinstance (pa_cons (pv 0) (pa_cons (pe_bltn (v := .ty "tuple") rfl B.tuple (by decide +kernel) rfl) pa_nil))))) (pw_or1 (pt_cmpR op_eq (pe_callB (r := rLen K) call_len_seq rfl B.len boot_len (pa_cons (pv 0) pa_nil)) pe_int (nomark _))))) (pss_one (ps_ret pe_bl)) (pss_nil)) ?w0
    case w0 =>
    exact pss_one (ps_ret (pe_and (pe_cl R_is_word_in (hr.mono (by decide)) rfl pass0 (pa_cons (pe_ix (r := rIxT K) ix_tup (pv 0) pe_int (fun _ _ => rfl)) (pa_cons (pe_glob (v := .ref aD) rfl gD rfl) pa_nil))) (pe_one (pe_cmpR op_eq (pe_callB (r := rLen K) call_len_seq rfl B.len boot_len (pa_cons (pv 0) pa_nil)) (pe_ix (r := rIxD K w) ix_kdict (pe_glob (v := .ref aS) rfl gS rfl) (pe_ix (r := rIxT K) ix_tup (pv 0) pe_int (fun _ _ => rfl)) (fun _ _ => rfl)) (nomark _)))))

  case q =>
    obtain ⟨d, v, rfl, ⟨p, rfl, hp⟩, q⟩ := h
    refine ⟨_, rfl, _, _, _, _, _, rfl, .ty _, .base (.tup hp), kit_tt K, _, rfl, ifF rfl ?_⟩
    cases d with
    | put n r =>
      refine ⟨_, rfl, p, _, rfl, .inr (SqT.of hp), rfl, _, rfl, ifF rfl ?_⟩
      exact ⟨_, rfl, p, _, 0, _, rfl, rfl, SqT.of hp, rfl, _, _, _, rfl, hD H, by decide, _, rfl, ifT (by decide +kernel) ⟨_, rfl, p, _, rfl, .inr (SqT.of hp), _, rfl, p, _, 0, _, rfl, rfl, SqT.of hp, rfl, aS, _, _, rfl, rfl, k1, rfl, q⟩⟩
    | row n r =>
      refine ⟨_, rfl, p, _, rfl, .inr (SqT.of hp), rfl, _, rfl, ifF rfl ?_⟩
      exact ⟨_, rfl, p, _, 0, _, rfl, rfl, SqT.of hp, rfl, _, _, _, rfl, hD H, by decide, _, rfl, ifT (by decide +kernel) ⟨_, rfl, p, _, rfl, .inr (SqT.of hp), _, rfl, p, _, 0, _, rfl, rfl, SqT.of hp, rfl, aS, _, _, rfl, rfl, k2, rfl, q⟩⟩
    | out n =>
      refine ⟨_, rfl, p, _, rfl, .inr (SqT.of hp), rfl, _, rfl, ifF rfl ?_⟩
      exact ⟨_, rfl, p, _, 0, _, rfl, rfl, SqT.of hp, rfl, _, _, _, rfl, hD H, by decide, _, rfl, ifT (by decide +kernel) ⟨_, rfl, p, _, rfl, .inr (SqT.of hp), _, rfl, p, _, 0, _, rfl, rfl, SqT.of hp, rfl, aS, _, _, rfl, rfl, k3, rfl, q⟩⟩
theorem rd_check (G : GF K mg "check_deed" "check_deed" 132) (N : Cn K w mg) (S : SupOk P mg) (x_InvalidDeed : XF P K mg "InvalidDeed" "index") (R_is_headed_desks : Rd P w K mg base CX0 3 "is_headed_desks" ["value"] spHead) (R_is_number : Rd P w K mg base CX0 2 "is_number" ["value"] spIsNum)
    (R_is_row_text : Rd P w K mg base CX0 2 "is_row_text" ["value"] spRowTx) : Rd P w K mg base (CX P w) 4 "check_deed" ["deed"] spCheck := by
  obtain ⟨fd, F, hm⟩ := G
  obtain ⟨tO, gO⟩ := N.out
  refine ⟨_, fd, F.ok sc132 (fun vs H Q E h => ?_) ?_, hm, F.kp, F.bindsN fun _ _ _ _ _ _ us hl => match us, hl with | [_], _ => rfl⟩
  · obtain ⟨d, v, rfl, _⟩ := h; rfl
  intro cdv A outer s H vs Q E hr h
  refine' ⟨_, ?p, ?q⟩
  case p =>
    refine' pss_cons (ps_if (pt_not (pt_val (pe_cl R_is_headed_desks (hr.mono (by decide)) rfl pass0 (pa_cons (pv 0) pa_nil)))) (pss_one (ps_raise rfl (takes_of rfl rfl rfl rfl) (pmk_X (run1X S hr x_InvalidDeed.T (raises_own x_InvalidDeed.rb x_InvalidDeed.rt) bd_index.1) x_InvalidDeed.kp rfl x_InvalidDeed.g (pa_cons pe_int pa_nil)))) (pss_nil)) ?w0
    case w0 =>
    refine' pss_cons (ps_if (pt_not (pt_val (pe_cl R_is_number (hr.mono (by decide)) rfl pass0 (pa_cons (pe_ix (r := rIxT K) ix_tup (pv 0) pe_int (fun _ _ => rfl)) pa_nil)))) (pss_one (ps_raise rfl (takes_of rfl rfl rfl rfl) (pmk_X (run1X S hr x_InvalidDeed.T (raises_own x_InvalidDeed.rb x_InvalidDeed.rt) bd_index.1) x_InvalidDeed.kp rfl x_InvalidDeed.g (pa_cons pe_int pa_nil)))) (pss_nil)) ?w1
    case w1 =>
    exact pss_one (ps_if (PW.pt (pw_and (pt_cmpR op_ne (pe_ix (r := rIxT K) ix_tup (pv 0) pe_int (fun _ _ => rfl)) (pe_glob (v := .str "out") rfl gO ⟨_, rfl⟩) (nomark _)) (pw_and1 (pt_not (pt_val (pe_cl R_is_row_text (hr.mono (by decide)) rfl pass0 (pa_cons (pe_ix (r := rIxT K) ix_tup (pv 0) pe_int (fun _ _ => rfl)) pa_nil))))))) (pss_one (ps_raise rfl (takes_of rfl rfl rfl rfl) (pmk_X (run1X S hr x_InvalidDeed.T (raises_own x_InvalidDeed.rb x_InvalidDeed.rt) bd_index.1) x_InvalidDeed.kp rfl x_InvalidDeed.g (pa_cons pe_int pa_nil)))) (pss_nil))

  case q =>
    obtain ⟨d, v, rfl, ⟨p, rfl, hp⟩, ok, q⟩ := h
    have tx : ∀ {r : Str}, RT r → r.length ≤ 100000 ∧ (decide (r.length ≤ 4000) && !hasNl r) = true := fun {r} o => ⟨by have := o.1; omega, by rw [decide_eq_true o.1, noNl_has o.2]; rfl⟩
    refine ⟨_, rfl, d, _, rfl, ⟨p, rfl, hp⟩, _, rfl, ifF rfl ?_⟩
    cases d with
    | put n r =>
      refine ⟨_, rfl, p, _, 1, _, rfl, rfl, SqT.of hp, rfl, n, rfl, _, rfl, ifF (by rw [decide_eq_true (show (0 : Int) ≤ (n : Int) by omega)]; rfl) ?_⟩
      refine ⟨_, rfl, p, _, 0, _, rfl, rfl, SqT.of hp, rfl, rfl, _, rfl, ifT (by decide +kernel) ?_⟩
      obtain ⟨t1, t2⟩ := tx ok.2
      refine ⟨_, rfl, p, _, 2, _, rfl, rfl, SqT.of hp, rfl, r, rfl, t1, _, rfl, ifF (by rw [t2]; rfl) q⟩
    | row n r =>
      refine ⟨_, rfl, p, _, 1, _, rfl, rfl, SqT.of hp, rfl, n, rfl, _, rfl, ifF (by rw [decide_eq_true (show (0 : Int) ≤ (n : Int) by omega)]; rfl) ?_⟩
      refine ⟨_, rfl, p, _, 0, _, rfl, rfl, SqT.of hp, rfl, rfl, _, rfl, ifT (by decide +kernel) ?_⟩
      obtain ⟨t1, t2⟩ := tx ok.2
      refine ⟨_, rfl, p, _, 2, _, rfl, rfl, SqT.of hp, rfl, r, rfl, t1, _, rfl, ifF (by rw [t2]; rfl) q⟩
    | out n =>
      refine ⟨_, rfl, p, _, 1, _, rfl, rfl, SqT.of hp, rfl, n, rfl, _, rfl, ifF (by rw [decide_eq_true (show (0 : Int) ≤ (n : Int) by omega)]; rfl) ?_⟩
      exact ⟨_, rfl, p, _, 0, _, rfl, rfl, SqT.of hp, rfl, rfl, _, rfl, ifF (by decide +kernel) (ifF rfl q)⟩
theorem rd_barred (G : GF K mg "barred_by" "barred_by" 133) (B : Bn mg) (N : Cn K w mg) : Rd P w K mg base CX0 1 "barred_by" ["rows", "deed"] spBarred := by
  obtain ⟨fd, F, hm⟩ := G
  obtain ⟨tP, gP⟩ := N.put
  obtain ⟨tR, gR⟩ := N.row
  obtain ⟨tM, gM⟩ := N.mostR
  refine ⟨_, fd, F.ok sc133 (fun vs H Q E h => ?_) ?_, hm, F.kp, F.bindsN fun _ _ _ _ _ _ us hl => match us, hl with | [_, _], _ => rfl⟩
  · obtain ⟨rv, R, dv, d, rfl, _⟩ := h; rfl
  intro cdv A outer s H vs Q E hr h
  refine' ⟨_, PSs.nox ?p, ?q⟩
  case p =>
    refine' pss_cons (ps_if (pt_cmpR op_eq (pe_ix (r := rIxT K) ix_tup (pv 1) pe_int (fun _ _ => rfl)) (pe_glob (v := .str "put") rfl gP ⟨_, rfl⟩) (nomark _)) (pss_cons (ps_if (pt_cmpR op_eq (pe_callB (r := rLen K) call_len_seq rfl B.len boot_len (pa_cons (pv 0) pa_nil)) (pe_glob (v := .int 20) rfl gM ⟨_, rfl⟩) (nomark _)) (pss_one (ps_ret pe_str)) (pss_nil)) (pss_one (ps_ret (pe_ifExp (pt_cmpR op_gt (pe_ix (r := rIxT K) ix_tup (pv 1) pe_int (fun _ _ => rfl)) (pe_callB (r := rLen K) call_len_seq rfl B.len boot_len (pa_cons (pv 0) pa_nil)) (nomark _)) pe_str pe_non)))) (pss_nil)) ?w0
    case w0 =>
    refine' pss_cons (ps_if (pt_cmpR op_ge (pe_ix (r := rIxT K) ix_tup (pv 1) pe_int (fun _ _ => rfl)) (pe_callB (r := rLen K) call_len_seq rfl B.len boot_len (pa_cons (pv 0) pa_nil)) (nomark _)) (pss_one (ps_ret pe_str)) (pss_nil)) ?w1
    case w1 =>
    exact pss_one (ps_ret (pe_ifExp (PW.pt (pw_and (pt_cmpR op_eq (pe_ix (r := rIxT K) ix_tup (pv 1) pe_int (fun _ _ => rfl)) (pe_glob (v := .str "row") rfl gR ⟨_, rfl⟩) (nomark _)) (pw_and1 (pt_cmpR op_eq (pe_ix (r := rIxT K) ix_tup (pv 0) (pe_ix (r := rIxT K) ix_tup (pv 1) pe_int (fun _ _ => rfl)) (fun _ _ => rfl)) (pe_ix (r := rIxT K) ix_tup (pv 1) pe_int (fun _ _ => rfl)) (nomark _))))) pe_str pe_non))

  case q =>
    obtain ⟨rv, R, dv, d, rfl, ⟨p, rfl, hp⟩, ⟨pd, rfl, hd⟩, hl, q⟩ := h
    cases d with
    | put n r =>
      have q2 : Q (optS (if R.length = 20 then some "full" else if R.length < n then some "far" else none)) H := q
      refine ⟨_, rfl, pd, _, 0, _, rfl, rfl, SqT.of hd, rfl, rfl, _, rfl, ifT (by decide +kernel) ?_⟩
      refine ⟨_, rfl, p, _, rfl, .inr (SqT.of hp), rfl, _, rfl, ?_⟩
      rw [List.length_map]
      by_cases h20 : R.length = 20
      · rw [if_pos h20] at q2
        exact ifT (by rw [h20]; decide +kernel) q2
      · rw [if_neg h20] at q2
        have e : decide (V.int (R.length : Int) = V.int 20) = false := decide_eq_false fun z => h20 (by injection z; omega)
        refine ifF e ?_
        refine ⟨_, rfl, pd, _, 1, _, rfl, rfl, SqT.of hd, rfl, _, rfl, p, _, rfl, .inr (SqT.of hp), _, _, rfl, rfl, _, rfl, ?_⟩
        rw [List.length_map]
        by_cases hn : R.length < n
        · rw [if_pos hn] at q2
          exact ifT (decide_eq_true (by omega)) q2
        · rw [if_neg hn] at q2
          exact ifF (decide_eq_false (by omega)) q2
    | row n r =>
      have q2 : Q (optS (if R.length ≤ n then some "none" else if R[n]? = some r then some "same" else none)) H := q
      refine ⟨_, rfl, pd, _, 0, _, rfl, rfl, SqT.of hd, rfl, rfl, _, rfl, ifF (by decide +kernel) ?_⟩
      refine ⟨_, rfl, pd, _, 1, _, rfl, rfl, SqT.of hd, rfl, _, rfl, p, _, rfl, .inr (SqT.of hp), _, _, rfl, rfl, _, rfl, ?_⟩
      rw [List.length_map]
      by_cases hn : R.length ≤ n
      · rw [if_pos hn] at q2
        exact ifT (decide_eq_true (by omega)) q2
      · rw [if_neg hn] at q2
        refine ifF (decide_eq_false (by omega)) ?_
        have hn2 : n < R.length := by omega
        have ge : R[n]? = some R[n] := List.getElem?_eq_getElem hn2
        have at_ : atI (R.map V.str) (n : Int) = some (.str R[n]) := atI_nat (by rw [List.getElem?_map, ge]; rfl)
        refine ⟨_, rfl, pd, _, 0, _, rfl, rfl, SqT.of hd, rfl, rfl, _, rfl, ifT (by decide +kernel) ?_⟩
        refine ⟨_, rfl, _, rfl, pd, _, 1, _, rfl, rfl, SqT.of hd, rfl, p, _, _, _, rfl, rfl, SqT.of hp, at_, _, rfl, pd, _, 2, _, rfl, rfl, SqT.of hd, rfl, rfl, _, rfl, ?_⟩
        by_cases he : R[n] = r
        · rw [if_pos (by rw [ge, he])] at q2
          exact ifT (decide_eq_true (by rw [he])) q2
        · rw [if_neg (by rw [ge]; intro z; exact he (Option.some.inj z))] at q2
          exact ifF (decide_eq_false fun z => he (by injection z)) q2
    | out n =>
      have q2 : Q (optS (if R.length ≤ n then some "none" else none)) H := q
      refine ⟨_, rfl, pd, _, 0, _, rfl, rfl, SqT.of hd, rfl, rfl, _, rfl, ifF (by decide +kernel) ?_⟩
      refine ⟨_, rfl, pd, _, 1, _, rfl, rfl, SqT.of hd, rfl, _, rfl, p, _, rfl, .inr (SqT.of hp), _, _, rfl, rfl, _, rfl, ?_⟩
      rw [List.length_map]
      by_cases hn : R.length ≤ n
      · rw [if_pos hn] at q2
        exact ifT (decide_eq_true (by omega)) q2
      · rw [if_neg hn] at q2
        refine ifF (decide_eq_false (by omega)) ?_
        exact ⟨_, rfl, pd, _, 0, _, rfl, rfl, SqT.of hd, rfl, rfl, _, rfl, ifF (by decide +kernel) q2⟩
theorem rd_behind (G : GF K mg "rows_behind" "rows_behind" 134) (N : Cn K w mg) : Rd P w K mg base CX0 1 "rows_behind" ["rows", "deed"] spBehind := by
  obtain ⟨fd, F, hm⟩ := G
  obtain ⟨tP, gP⟩ := N.put
  obtain ⟨tR, gR⟩ := N.row
  refine ⟨_, fd, F.ok sc134 (fun vs H Q E h => ?_) ?_, hm, F.kp, F.bindsN fun _ _ _ _ _ _ us hl => match us, hl with | [_, _], _ => rfl⟩
  · obtain ⟨rv, R, dv, d, rfl, _⟩ := h; rfl
  intro cdv A outer s H vs Q E hr h
  refine' ⟨_, PSs.nox ?p, ?q⟩
  case p =>
    refine' pss_cons (ps_set (i := 2) sc134.nd rfl (Or.inl rfl) (pe_ix (r := rIxT K) ix_tup (pv 1) pe_int (fun _ _ => rfl))) ?w0
    case w0 =>
    refine' pss_cons (ps_if (pt_cmpR op_eq (pe_ix (r := rIxT K) ix_tup (pv 1) pe_int (fun _ _ => rfl)) (pe_glob (v := .str "put") rfl gP ⟨_, rfl⟩) (nomark _)) (pss_one (ps_ret (pe_tup (pa_star (pe_slice sl_tupA (pv 0) po_none (po_some (pv 2))) (pa_cons (pe_ix (r := rIxT K) ix_tup (pv 1) pe_int (fun _ _ => rfl)) (pa_star (pe_slice sl_tupA (pv 0) (po_some (pv 2)) po_none) pa_nil)))))) (pss_nil)) ?w1
    case w1 =>
    exact pss_one (ps_ret (pe_ifExp (pt_cmpR op_eq (pe_ix (r := rIxT K) ix_tup (pv 1) pe_int (fun _ _ => rfl)) (pe_glob (v := .str "row") rfl gR ⟨_, rfl⟩) (nomark _)) (pe_tup (pa_star (pe_slice sl_tupA (pv 0) po_none (po_some (pv 2))) (pa_cons (pe_ix (r := rIxT K) ix_tup (pv 1) pe_int (fun _ _ => rfl)) (pa_star (pe_slice sl_tupA (pv 0) (po_some (pe_op op_add (pv 2) pe_int)) po_none) pa_nil)))) (pe_tup (pa_star (pe_slice sl_tupA (pv 0) po_none (po_some (pv 2))) (pa_star (pe_slice sl_tupA (pv 0) (po_some (pe_op op_add (pv 2) pe_int)) po_none) pa_nil)))))

  case q =>
    obtain ⟨rv, R, dv, d, rfl, ⟨p, rfl, hp⟩, ⟨pd, rfl, hd⟩, hl, q⟩ := h
    have tkm : ∀ n, (R.map V.str).take n = (R.take n).map V.str := fun n => by rw [List.map_take]
    have dpm : ∀ n, (R.map V.str).drop n = (R.drop n).map V.str := fun n => by rw [List.map_drop]
    have tl : ∀ n, (R.take n).length ≤ 100 := fun n => Nat.le_trans (List.length_take_le' n R) hl
    have dl : ∀ n, (R.drop n).length ≤ 100 := fun n => by rw [List.length_drop]; omega
    cases d with
    | put n r =>
      refine ⟨_, rfl, pd, _, 1, _, rfl, rfl, SqT.of hd, rfl, ?_⟩
      refine ⟨_, rfl, pd, _, 0, _, rfl, rfl, SqT.of hd, rfl, rfl, _, rfl, ifT (by decide +kernel) ?_⟩
      refine ⟨_, rfl, _, rfl, n, rfl, slA hp fun p1 H1 s1 e1 => ⟨p1, _, rfl, .inl (SqT.of e1), _, rfl, pd, _, 2, _, rfl, rfl, SqT.of (s1 _ _ hd), rfl, _, rfl, _, rfl, n, rfl, slN (s1 _ _ hp) fun p2 H2 s2 e2 => ⟨p2, _, rfl, .inl (SqT.of e2), ?_⟩⟩⟩
      rw [cut_to, cut_from, tkm, dpm]
      have e : (R.take n).map V.str ++ V.str r :: ((R.drop n).map V.str ++ []) = (behind R (.put n r)).map V.str := by simp [behind]
      show ((R.take n).map V.str ++ V.str r :: ((R.drop n).map V.str ++ [])).length ≤ sizeLine ∧ ∀ t, H2 t = none → Q (.ref t) (upd H2 t (.tup ((R.take n).map V.str ++ V.str r :: ((R.drop n).map V.str ++ []))))
      rw [e]
      refine ⟨small ?_, fun t ht => q _ t (sameU (s1.trans s2) ht) upd_same⟩
      rw [List.length_map]
      show (R.take n ++ [r] ++ R.drop n).length ≤ 1000
      have := tl n
      have := dl n
      simp only [List.length_append, List.length_singleton]
      omega
    | row n r =>
      refine ⟨_, rfl, pd, _, 1, _, rfl, rfl, SqT.of hd, rfl, ?_⟩
      refine ⟨_, rfl, pd, _, 0, _, rfl, rfl, SqT.of hd, rfl, rfl, _, rfl, ifF (by decide +kernel) ?_⟩
      refine ⟨_, rfl, pd, _, 0, _, rfl, rfl, SqT.of hd, rfl, rfl, _, rfl, ifT (by decide +kernel) ?_⟩
      refine ⟨_, rfl, _, rfl, n, rfl, slA hp fun p1 H1 s1 e1 => ⟨p1, _, rfl, .inl (SqT.of e1), _, rfl, pd, _, 2, _, rfl, rfl, SqT.of (s1 _ _ hd), rfl, _, rfl, _, rfl, _, _, rfl, rfl, _, rfl, slN (lo := some ((n + 1 : Nat) : Int)) (s1 _ _ hp) fun p2 H2 s2 e2 => ⟨p2, _, rfl, .inl (SqT.of e2), ?_⟩⟩⟩
      rw [cut_to, cut_from, tkm, dpm]
      have e : (R.take n).map V.str ++ V.str r :: ((R.drop (n + 1)).map V.str ++ []) = (behind R (.row n r)).map V.str := by simp [behind]
      show ((R.take n).map V.str ++ V.str r :: ((R.drop (n + 1)).map V.str ++ [])).length ≤ sizeLine ∧ ∀ t, H2 t = none → Q (.ref t) (upd H2 t (.tup ((R.take n).map V.str ++ V.str r :: ((R.drop (n + 1)).map V.str ++ []))))
      rw [e]
      refine ⟨small ?_, fun t ht => q _ t (sameU (s1.trans s2) ht) upd_same⟩
      rw [List.length_map]
      show (R.take n ++ [r] ++ R.drop (n + 1)).length ≤ 1000
      have := tl n
      have := dl (n + 1)
      simp only [List.length_append, List.length_singleton]
      omega
    | out n =>
      refine ⟨_, rfl, pd, _, 1, _, rfl, rfl, SqT.of hd, rfl, ?_⟩
      refine ⟨_, rfl, pd, _, 0, _, rfl, rfl, SqT.of hd, rfl, rfl, _, rfl, ifF (by decide +kernel) ?_⟩
      refine ⟨_, rfl, pd, _, 0, _, rfl, rfl, SqT.of hd, rfl, rfl, _, rfl, ifF (by decide +kernel) ?_⟩
      refine ⟨_, rfl, _, rfl, n, rfl, slA hp fun p1 H1 s1 e1 => ⟨p1, _, rfl, .inl (SqT.of e1), _, rfl, _, rfl, _, _, rfl, rfl, _, rfl, slN (lo := some ((n + 1 : Nat) : Int)) (s1 _ _ hp) fun p2 H2 s2 e2 => ⟨p2, _, rfl, .inl (SqT.of e2), ?_⟩⟩⟩
      rw [cut_to, cut_from, tkm, dpm]
      have e : (R.take n).map V.str ++ ((R.drop (n + 1)).map V.str ++ []) = (behind R (.out n)).map V.str := by simp [behind]
      show ((R.take n).map V.str ++ ((R.drop (n + 1)).map V.str ++ [])).length ≤ sizeLine ∧ ∀ t, H2 t = none → Q (.ref t) (upd H2 t (.tup ((R.take n).map V.str ++ ((R.drop (n + 1)).map V.str ++ []))))
      rw [e]
      refine ⟨small ?_, fun t ht => q _ t (sameU (s1.trans s2) ht) upd_same⟩
      rw [List.length_map]
      show (R.take n ++ R.drop (n + 1)).length ≤ 1000
      have := tl n
      have := dl (n + 1)
      simp only [List.length_append]
      omega
end
end K1
set_option Elab.async false
set_option linter.all false
set_option maxRecDepth 100000
set_option maxHeartbeats 2000000
/-! A deed done on a desk; the reply. -/
namespace K1
open PySem PySem.Spec PyProof.Rows L2 StX
open He (ga ma)
theorem scDo : FnScope ["self", "deed", "reason"] ["self", "deed"] (defScope (mth 2)) := ⟨rfl, rfl, rfl, by decide +kernel, rfl, by decide +kernel, by decide +kernel⟩
theorem scRe : FnScope ["desk", "deed", "e"] ["desk", "deed"] (defScope (top 154)) := ⟨rfl, rfl, rfl, by decide +kernel, rfl, by decide +kernel, by decide +kernel⟩
def spDo (K : PySem.W.Frag) : Sp := fun vs H Q E => ∃ p v d B Ps Ds R, vs = [.ref p, v] ∧ DkAt (cDk K) H p B Ps Ds R ∧ DdAt H d v ∧ d.ok ∧ R.length ≤ 20 ∧ Ps.length ≤ 500 ∧ Ds.length ≤ 500 ∧
  (barred R d = none → ∀ H', SP p H H' → DkAt (cDk K) H' p B (Ps ++ [R]) (Ds ++ [d]) (behind R d) → Q .non H') ∧ (∀ r, barred R d = some r → Rz K H E "Barred" "reason" (.str r))
def spReply (K : PySem.W.Frag) : Sp := fun vs H Q _ => ∃ p v d B Ps Ds R, vs = [.ref p, v] ∧ DkAt (cDk K) H p B Ps Ds R ∧ DdAt H d v ∧ d.ok ∧ R.length ≤ 20 ∧ Ps.length ≤ 500 ∧ Ds.length ≤ 500 ∧
  (barred R d = none → ∀ H', SP p H H' → DkAt (cDk K) H' p B (Ps ++ [R]) (Ds ++ [d]) (behind R d) → Q (.str "done") H') ∧ (∀ r, barred R d = some r → ∀ H', Same H H' → Q (.str r) H')
section
variable {P : Program} {w : World} {K : PySem.W.Frag} {mg : Str → Option Value} {base : Heap}
theorem rd_do (G : GM K "do" "Desk.do" 2) (D : DkC K mg) (S : SupOk P mg) (x_Barred : XF P K mg "Barred" "reason") (R_check_deed : Rd P w K mg base (CX P w) 4 "check_deed" ["deed"] spCheck) (R_barred_by : Rd P w K mg base CX0 1 "barred_by" ["rows", "deed"] spBarred) (R_rows_behind : Rd P w K mg base CX0 1 "rows_behind" ["rows", "deed"] spBehind) :
    RdM P w K mg base (CX P w) 5 "do" ["self", "deed"] (spDo K) := by
  obtain ⟨fd, F⟩ := G
  refine ⟨fd, F.ok scDo (fun vs H Q E h => ?_) ?_, F.bindsN fun _ _ _ _ _ _ us hl => match us, hl with | [_, _], _ => rfl⟩
  · obtain ⟨p, v, d, B, Ps, Ds, R, rfl, _⟩ := h; rfl
  intro cdv A outer s H vs Q E hr h
  refine' ⟨_, ?p, ?q⟩
  case p =>
    refine' pss_cons (ps_expr (pe_cl R_check_deed (hr.mono (by decide)) rfl (passes_call (takes_of rfl rfl rfl rfl) (fun _ _ _ _ h => h)) (pa_cons (pv 1) pa_nil))) ?w0
    case w0 =>
    refine' pss_cons (ps_set (i := 2) scDo.nd rfl (Or.inl rfl) (pe_cl R_barred_by (hr.mono (by decide)) rfl pass0 (pa_cons (pe_fld (pv 0) rfl) (pa_cons (pv 1) pa_nil)))) ?w1
    case w1 =>
    refine' pss_cons (ps_if (pt_cmpR op_notN (pv 2) pe_non (nomark _)) (pss_one (ps_raise rfl (takes_of rfl rfl rfl rfl) (pmk_X (run1X S hr x_Barred.T (raises_own x_Barred.rb x_Barred.rt) bd_reason.1) x_Barred.kp rfl x_Barred.g (pa_cons (pv 2) pa_nil)))) (pss_nil)) ?w2
    case w2 =>
    refine' pss_cons (ps_fld (pv 0) (pe_tup (pa_star (pe_fld (pv 0) rfl) (pa_cons (pe_fld (pv 0) rfl) pa_nil))) rfl) ?w3
    case w3 =>
    refine' pss_cons (ps_fld (pv 0) (pe_cl R_rows_behind (hr.mono (by decide)) rfl pass0 (pa_cons (pe_fld (pv 0) rfl) (pa_cons (pv 1) pa_nil))) rfl) ?w4
    case w4 =>
    exact pss_one (ps_fld (pv 0) (pe_tup (pa_star (pe_fld (pv 0) rfl) (pa_cons (pv 1) pa_nil))) rfl)

  case q =>
    obtain ⟨p, v, d, B, Ps, Ds, R, rfl, ⟨dx, b, r, e, u, hi, dv⟩, hd, ok, hl, lp, ld, q, qz⟩ := h
    refine ⟨_, rfl, d, v, rfl, hd, ok, ?_⟩
    refine ⟨_, rfl, p, _, dx, _, _, rfl, hi, D.cl, D.n2, lkR, _, rfl, r, R, v, d, rfl, dv.hr, hd, by omega, ?_⟩
    cases hb : barred R d with
    | some z =>
      exact ⟨_, rfl, rfl, _, rfl, ifT rfl ⟨_, rfl, rfl, (qz z hb).go fun _ _ e => e⟩⟩
    | none =>
      refine ⟨_, rfl, rfl, _, rfl, ifF rfl ?_⟩
      obtain ⟨pe, xs, rfl, he, px⟩ := dv.he
      obtain ⟨pu, ys, rfl, hu, py⟩ := dv.hq
      have lx : xs.length ≤ 500 := by rw [← px.length]; exact ld
      have ly : ys.length ≤ 500 := by rw [← py.length]; exact lp
      refine ⟨_, rfl, p, _, dx, _, _, rfl, hi, D.cl, D.n4, lkP, pu, _, rfl, .inl (SqT.of hu), _, rfl, p, _, dx, _, _, rfl, hi, D.cl, D.n2, lkR, ?_⟩
      refine ⟨small (by rw [List.length_append]; show ys.length + 1 ≤ 1000; omega), fun t1 h1 => ?_⟩
      have e1 : upd H t1 (.tup (ys ++ [r])) t1 = some (.tup (ys ++ [r])) := upd_same
      have s1 : Same H (upd H t1 (.tup (ys ++ [r]))) := Same.new h1
      refine ⟨_, rfl, p, _, dx, _, rfl, s1 _ _ hi, D.cl, D.n4, f1000, ?_⟩
      rw [putP]
      have k2 : KT (upd H t1 (.tup (ys ++ [r]))) (upd (upd H t1 (.tup (ys ++ [r]))) p (.ins (cDk K) dx (flD b r (.ref pe) (.ref t1)))) := KT.ins (s1 _ _ hi)
      have kA := (KT.same s1).trans k2
      have eA := k2 _ _ e1
      have sA : SP p H (upd (upd H t1 (.tup (ys ++ [r]))) p (.ins (cDk K) dx (flD b r (.ref pe) (.ref t1)))) := (SP.same s1).trans SP.at_
      have iA : upd (upd H t1 (.tup (ys ++ [r]))) p (.ins (cDk K) dx (flD b r (.ref pe) (.ref t1))) p = some (.ins (cDk K) dx (flD b r (.ref pe) (.ref t1))) := upd_same
      generalize upd (upd H t1 (.tup (ys ++ [r]))) p (.ins (cDk K) dx (flD b r (.ref pe) (.ref t1))) = HA at kA eA sA iA
      clear k2 s1 e1 h1
      refine ⟨_, rfl, p, _, dx, _, _, rfl, iA, D.cl, D.n2, lkR, _, rfl, r, R, v, d, rfl, dv.hr.on kA, hd.on kA, by omega, fun H2 p2 s2 e2 => ⟨_, rfl, p, _, dx, _, rfl, s2 _ _ iA, D.cl, D.n2, f1000, ?_⟩⟩
      rw [putR]
      have kB : KT H (upd H2 p (.ins (cDk K) dx (flD b (.ref p2) (.ref pe) (.ref t1)))) := (kA.trans (KT.same s2)).trans (KT.ins (s2 _ _ iA))
      have kB2 : KT H2 (upd H2 p (.ins (cDk K) dx (flD b (.ref p2) (.ref pe) (.ref t1)))) := KT.ins (s2 _ _ iA)
      have sB : SP p H (upd H2 p (.ins (cDk K) dx (flD b (.ref p2) (.ref pe) (.ref t1)))) := (sA.trans (SP.same s2)).trans SP.at_
      have iB : upd H2 p (.ins (cDk K) dx (flD b (.ref p2) (.ref pe) (.ref t1))) p = some (.ins (cDk K) dx (flD b (.ref p2) (.ref pe) (.ref t1))) := upd_same
      have eB := kB2 _ _ (s2 _ _ eA)
      have e2 := kB2 _ _ e2
      generalize upd H2 p (.ins (cDk K) dx (flD b (.ref p2) (.ref pe) (.ref t1))) = HB at kB sB iB eB e2
      clear kB2
      refine ⟨_, rfl, p, _, dx, _, _, rfl, iB, D.cl, D.n3, lkD, pe, _, rfl, .inl (SqT.of (kB _ _ he)), _, rfl, small (by rw [List.length_append]; show xs.length + 1 ≤ 1000; omega), fun t3 h3 => ?_⟩
      have e3 : upd HB t3 (.tup (xs ++ [v])) t3 = some (.tup (xs ++ [v])) := upd_same
      have s3 : Same HB (upd HB t3 (.tup (xs ++ [v]))) := Same.new h3
      refine ⟨_, rfl, p, _, dx, _, rfl, s3 _ _ iB, D.cl, D.n3, f1000, ?_⟩
      rw [putD]
      have kC : KT (upd HB t3 (.tup (xs ++ [v]))) (upd (upd HB t3 (.tup (xs ++ [v]))) p (.ins (cDk K) dx (flD b (.ref p2) (.ref t3) (.ref t1)))) := KT.ins (s3 _ _ iB)
      have kD := (kB.trans (KT.same s3)).trans kC
      have kE := (KT.same s3).trans kC
      refine q hb _ ((sB.trans (SP.same s3)).trans SP.at_) ⟨dx, b, _, _, _, upd_same, ⟨dv.hb.on kD, ⟨p2, rfl, kE _ _ e2⟩, ⟨t3, _, rfl, kC _ _ e3, paired_appB (paired_mono (fun _ _ z => z.on kD) px) (.cons (hd.on kD) .nil)⟩, ⟨t1, _, rfl, kE _ _ eB, paired_appB (paired_mono (fun _ _ z => z.on kD) py) (.cons (dv.hr.on kD) .nil)⟩⟩⟩
theorem rd_reply (G : GF K mg "_law_reply" "_law_reply" 154) (D : DkC K mg) (x_Barred : XF P K mg "Barred" "reason") (x_InvalidDeed : XF P K mg "InvalidDeed" "index") (R_do : RdM P w K mg base (CX P w) 5 "do" ["self", "deed"] (spDo K)) : Rd P w K mg base CX0 6 "_law_reply" ["desk", "deed"] (spReply K) := by
  obtain ⟨fd, F, hm⟩ := G
  obtain ⟨fdD, GD, bD⟩ := R_do
  refine ⟨_, fd, F.ok scRe (fun vs H Q E h => ?_) ?_, hm, F.kp, F.bindsN fun _ _ _ _ _ _ us hl => match us, hl with | [_, _], _ => rfl⟩
  · obtain ⟨p, v, d, B, Ps, Ds, R, rfl, _⟩ := h; rfl
  intro cdv A outer s H vs Q E hr h
  refine' ⟨_, PSs.nox ?p, ?q⟩
  case p =>
    refine' pss_cons (ps_try_manyN rfl rfl scRe.nd takes0 (fun W pn xe tk _ => pss_one (ps_expr (pe_methAt (pv 0) D.cl D.do_ GD (hr.mono (by decide)) bD (fun σ => passAt tk σ) (pa_cons (pv 1) pa_nil))))
      (HdsN.cons (i := 2) rfl rfl ⟨rfl, by decide, .inl x_Barred.g⟩ (fun a oe cls d pn hz hf => pss_one (ps_ret (pe_xf x_Barred.fld x_Barred.T.no hz hf (pv 2))))
      (HdsN.cons (i := 2) rfl rfl ⟨rfl, by decide, .inl x_InvalidDeed.g⟩ (fun a oe cls d pn hz hf => pss_one (ps_ret (pe_xf x_InvalidDeed.fld x_InvalidDeed.T.no hz hf (pv 2)))) HdsN.nil))) ?w0
    case w0 =>
    exact pss_one (ps_ret pe_str)
  case q =>
    obtain ⟨p, v, d, B, Ps, Ds, R, rfl, dk, hd, ok, hl, lp, ld, q, qz⟩ := h
    obtain ⟨dx, b, r, e, u, hi, dv⟩ := id dk
    refine ⟨_, rfl, p, dx, _, rfl, hi, lkDo, _, rfl, p, v, d, B, Ps, Ds, R, rfl, dk, hd, ok, hl, lp, ld, fun hb H' sp dk' => q hb H' sp dk', fun z hz H' dz s' hdz ez => ?_⟩
    exact ⟨true, x_Barred.me, fun _ a ha => ⟨_, rfl, rfl, rfl, dz, _, _, rfl, ez, rfl, qz z hz H' s'⟩, fun q => nomatch q⟩
end
end K1
set_option Elab.async false
set_option linter.all false
set_option maxRecDepth 100000
set_option maxHeartbeats 2000000
/-! The law's own rows behind a deed; woven deeds. -/
namespace K1
open PySem PySem.Spec PyProof.Rows L2 StX
open He (ga ma)
theorem scTu : FnScope ["rows", "deed", "kind", "nth", "fresh"] ["rows", "deed"] (defScope (top 153)) := ⟨rfl, rfl, rfl, by decide +kernel, rfl, by decide +kernel, by decide +kernel⟩
theorem scWo : FnScope ["loom", "rows", "texts", "nth", "kind"] ["loom", "rows", "texts"] (defScope (top 155)) := ⟨rfl, rfl, rfl, by decide +kernel, rfl, by decide +kernel, by decide +kernel⟩
def wdD : Dd → Str
  | .put _ _ => "put"
  | .row _ _ => "row"
  | .out _ => "out"
theorem at0d {d : Dd} : atI d.vals 0 = some (.str (wdD d)) := by cases d <;> rfl
theorem at1d {d : Dd} : atI d.vals 1 = some (.int d.n) := by cases d <;> rfl
theorem dpp0 : (!decide (V.str "put" = V.str "put")) = false := by decide +kernel
theorem dpp1 : decide (V.str "put" = V.str "put") = true := by decide +kernel
theorem drp0 : (!decide (V.str "row" = V.str "put")) = true := by decide +kernel
theorem drp1 : decide (V.str "row" = V.str "put") = false := by decide +kernel
theorem drr1 : decide (V.str "row" = V.str "row") = true := by decide +kernel
theorem dop0 : (!decide (V.str "out" = V.str "put")) = true := by decide +kernel
theorem dop1 : decide (V.str "out" = V.str "put") = false := by decide +kernel
theorem dor1 : decide (V.str "out" = V.str "row") = false := by decide +kernel
theorem cutL {R : List Str} {lo hi : Option Int} {zs : List V} (h : R.length ≤ 20) (hz : zs.length ≤ 1 := by simp) : (cutV (R.map V.str) lo hi).length + zs.length ≤ 1000 := by
  have := cutV_length (R.map V.str) lo hi
  rw [List.length_map] at this
  omega
theorem cutL2 {R : List Str} {lo hi lo' hi' : Option Int} {zs : List V} (h : R.length ≤ 20) (hz : zs.length ≤ 1 := by simp) : (cutV (R.map V.str) lo hi ++ zs).length + (cutV (R.map V.str) lo' hi').length ≤ 1000 := by
  have := cutV_length (R.map V.str) lo hi
  have h2 := cutV_length (R.map V.str) lo' hi'
  rw [List.length_map] at this h2
  rw [List.length_append]
  omega
theorem lm_upd {H : Hp} {l : Addr} {a b c : Int} (a0 : 0 ≤ a) (a1 : a < 4294967296) (b0 : 0 ≤ b) (b1 : b < 4294967296) (c0 : 0 ≤ c) : Lm (upd H l (.lst [.int a, .int b, .int c])) l := ⟨a, b, c, upd_same, a0, a1, b0, b1, c0⟩
theorem sb_upd {H : Hp} {l : Addr} {o : HO} : SB l H (upd H l o) := fun b u n e => by rw [upd_ne n]; exact e
def spTurned : Sp := fun vs H Q _ => ∃ rv R dv d, vs = [rv, dv] ∧ TS' H rv R ∧ DdAt H d dv ∧ RsOk R ∧ d.ok ∧ (∀ s, barred R d = some s → ∀ H', Same H H' → Q (.str s) H') ∧ (barred R d = none → ∀ H' p, Same H H' → H' p = some (.tup ((behind R d).map V.str)) → Q (.ref p) H')
def spWoven : Sp := fun vs H Q _ => ∃ (l : Addr) (rv : V) (R : List Str) (tx : Addr) (ts : List Str), vs = [.ref l, rv, .ref tx] ∧ Lm H l ∧ TS' H rv R ∧ R.length ≤ 20 ∧ H tx = some (.lst (ts.map V.str)) ∧ tx ≠ l ∧ 0 < ts.length ∧ ts.length ≤ 900 ∧ (∀ t ∈ ts, RT t) ∧ ∀ H' v d, SB l H H' → Lm H' l → DdAt H' d v → d.ok → Q v H'
section
variable {P : Program} {w : World} {K : PySem.W.Frag} {mg : Str → Option Value} {base : Heap}
theorem rd_turned (G : GF K mg "_law_turned" "_law_turned" 153) (B : Bn mg) : Rd P w K mg base CX0 1 "_law_turned" ["rows", "deed"] spTurned := by
  obtain ⟨fd, F, hm⟩ := G
  refine ⟨_, fd, F.ok scTu (fun vs H Q E h => ?_) ?_, hm, F.kp, F.bindsN fun _ _ _ _ _ _ us hl => match us, hl with | [_, _], _ => rfl⟩
  · obtain ⟨rv, R, dv, d, rfl, _⟩ := h; rfl
  intro cdv A outer s H vs Q E hr h
  refine' ⟨_, PSs.nox ?p, ?q⟩
  case p =>
    refine' pss_cons (ps_par (i := 2) (j := 3) rfl scTu.nd rfl rfl (by decide) rfl rfl (pa_cons (pe_ix (r := rIxT K) ix_tup (pv 1) pe_int (fun _ _ => rfl)) (pa_cons (pe_ix (r := rIxT K) ix_tup (pv 1) pe_int (fun _ _ => rfl)) pa_nil)) rfl) ?w0
    case w0 =>
    refine' pss_cons (ps_if (PW.pt (pw_and (pt_cmpR op_ne (pv 2) pe_str (nomark _)) (pw_and1 (pt_not (pt_cmpR op_lt (pv 3) (pe_callB (r := rLen K) call_len_seq rfl B.len boot_len (pa_cons (pv 0) pa_nil)) (nomark _)))))) (pss_one (ps_ret pe_str)) (pss_nil)) ?w1
    case w1 =>
    refine' pss_cons (ps_if (PW.pt (pw_and (pt_cmpR op_eq (pv 2) pe_str (nomark _)) (pw_and1 (pt_cmpR op_gt (pe_callB (r := rLen K) call_len_seq rfl B.len boot_len (pa_cons (pv 0) pa_nil)) pe_int (nomark _))))) (pss_one (ps_ret pe_str)) (pss_nil)) ?w2
    case w2 =>
    refine' pss_cons (ps_if (pt_cmpR op_eq (pv 2) pe_str (nomark _)) (pss_one (ps_ret (pe_ifExp (pt_cmpR op_gt (pv 3) (pe_callB (r := rLen K) call_len_seq rfl B.len boot_len (pa_cons (pv 0) pa_nil)) (nomark _)) pe_str (pe_op op_catA (pe_op op_catA (pe_slice sl_tupA (pv 0) po_none (po_some (pv 3))) (pe_tup (pa_cons (pe_ix (r := rIxT K) ix_tup (pv 1) pe_int (fun _ _ => rfl)) pa_nil))) (pe_slice sl_tupA (pv 0) (po_some (pv 3)) po_none))))) (pss_nil)) ?w3
    case w3 =>
    refine' pss_cons (ps_set (i := 4) scTu.nd rfl (Or.inl rfl) (pe_ifExp (pt_cmpR op_eq (pv 2) pe_str (nomark _)) (pe_tup (pa_cons (pe_ix (r := rIxT K) ix_tup (pv 1) pe_int (fun _ _ => rfl)) pa_nil)) (pe_tup pa_nil))) ?w4
    case w4 =>
    exact pss_one (ps_ret (pe_ifExp (pt_cmpR (op_eqD hr.units) (pv 4) (pe_tup (pa_cons (pe_ix (r := rIxT K) ix_tup (pv 0) (pv 3) (fun _ _ => rfl)) pa_nil)) (nomark _)) pe_str (pe_op op_catA (pe_op op_catA (pe_slice sl_tupA (pv 0) po_none (po_some (pv 3))) (pv 4)) (pe_slice sl_tupA (pv 0) (po_some (pe_op op_add (pv 3) pe_int)) po_none))))

  case q =>
    obtain ⟨rv, R, dv, d, rfl, ⟨p, rfl, hp⟩, ⟨pd, rfl, hd⟩, ro, ok, qz, q⟩ := h
    have hl := ro.len
    refine ⟨_, rfl, pd, _, 0, _, rfl, rfl, SqT.of hd, at0d, _, rfl, pd, _, 1, _, rfl, rfl, SqT.of hd, at1d, _, _, rfl, ?_⟩
    cases d with
    | put n r =>
      have bz : barred R (.put n r) = if R.length = 20 then some ("full" : Str) else if R.length < n then some "far" else none := rfl
      refine ⟨_, rfl, rfl, _, rfl, ifF dpp0 (ifF rfl ?_)⟩
      refine ⟨_, rfl, rfl, _, rfl, ifT dpp1 ⟨_, rfl, p, _, rfl, .inr (SqT.of hp), _, _, rfl, rfl, _, rfl, ?_⟩⟩
      rw [List.length_map]
      by_cases h20 : R.length = 20
      · refine ifT (decide_eq_true (by omega)) (qz _ (by rw [bz, if_pos h20]) _ fun _ _ e => e)
      · refine ifF (decide_eq_false (by omega)) ?_
        refine ⟨_, rfl, rfl, _, rfl, ifT dpp1 ?_⟩
        refine ⟨_, rfl, _, rfl, p, _, rfl, .inr (SqT.of hp), _, _, rfl, rfl, _, rfl, ?_⟩
        rw [List.length_map]
        by_cases hn : R.length < n
        · exact ifT (decide_eq_true (show (R.length : Int) < (n : Int) by omega)) (qz _ (by rw [bz, if_neg h20, if_pos hn]) _ fun _ _ e => e)
        · refine ifF (decide_eq_false (show ¬ (R.length : Int) < (n : Int) by omega)) ?_
          have hb : barred R (.put n r) = none := by rw [bz, if_neg h20, if_neg hn]
          refine ⟨_, rfl, _, rfl, n, rfl, slA hp fun p1 H1 s1 e1 => ?_⟩
          refine ⟨_, rfl, pd, _, 2, _, rfl, rfl, SqT.of (s1 _ _ hd), rfl, sz1, fun p2 h2 => ?_⟩
          have s2 := sameU (o := .tup [.str r]) s1 h2
          refine catA (by rw [upd_ne (ne_of_none e1 h2)]; exact e1) upd_same (cutL hl) fun p3 H3 s3 e3 => ?_
          have s3' : Same H H3 := s2.trans s3
          refine ⟨_, rfl, _, rfl, n, rfl, slN (s3' _ _ hp) fun p4 H4 s4 e4 => ?_⟩
          refine catA (s4 _ _ e3) e4 (cutL2 hl) fun p5 H5 s5 e5 => ?_
          refine q hb _ _ ((s3'.trans s4).trans s5) ?_
          rw [e5, cut_to, cut_from]
          simp [behind]
    | row n r =>
      have bz : barred R (.row n r) = if R.length ≤ n then some ("none" : Str) else if R[n]? = some r then some "same" else none := rfl
      refine ⟨_, rfl, rfl, _, rfl, ifT drp0 ?_⟩
      refine ⟨_, rfl, _, rfl, p, _, rfl, .inr (SqT.of hp), _, _, rfl, rfl, _, rfl, ?_⟩
      rw [List.length_map]
      by_cases hn : R.length ≤ n
      · have e : decide ((n : Int) < (R.length : Int)) = false := decide_eq_false (by omega)
        exact ifT (show (!decide ((n : Int) < (R.length : Int))) = true by rw [e]; rfl) (qz _ (by rw [bz, if_pos hn]) _ fun _ _ e => e)
      · have e : decide ((n : Int) < (R.length : Int)) = true := decide_eq_true (by omega)
        refine ifF (show (!decide ((n : Int) < (R.length : Int))) = false by rw [e]; rfl) ?_
        have hn2 : n < R.length := by omega
        have ge : R[n]? = some R[n] := List.getElem?_eq_getElem hn2
        have at_ : atI (R.map V.str) (n : Int) = some (.str R[n]) := atI_nat (by rw [List.getElem?_map, ge]; rfl)
        refine ⟨_, rfl, rfl, _, rfl, ifF drp1 (ifF rfl ?_)⟩
        refine ⟨_, rfl, rfl, _, rfl, ifF drp1 ?_⟩
        refine ⟨_, rfl, rfl, _, rfl, ifT drr1 ?_⟩
        refine ⟨_, rfl, pd, _, 2, _, rfl, rfl, SqT.of hd, rfl, sz1, fun p2 h2 => ?_⟩
        have s2 : Same H (upd H p2 (.tup [.str r])) := Same.new h2
        have e2 : upd H p2 (.tup [.str r]) p2 = some (.tup [.str r]) := upd_same
        generalize upd H p2 (.tup [.str r]) = H2 at s2 e2
        refine ⟨_, rfl, _, rfl, _, rfl, p, _, _, _, rfl, rfl, SqT.of (s2 _ _ hp), at_, sz1, fun p3 h3 => ?_⟩
        have s3 : Same H2 (upd H2 p3 (.tup [.str R[n]])) := Same.new h3
        have e3 : upd H2 p3 (.tup [.str R[n]]) p3 = some (.tup [.str R[n]]) := upd_same
        refine ⟨rowsD [r], rowsD [R[n]], TS'.dp (R := [r]) ⟨p2, rfl, s3 _ _ e2⟩, TS'.dp (R := [R[n]]) ⟨p3, rfl, e3⟩, shp_rows (by intro x hx; rw [List.mem_singleton.mp hx]; exact ok.2.2), shp_rows (by intro x hx; rw [List.mem_singleton.mp hx]; exact (ro.txt _ (List.getElem_mem hn2)).2), _, rfl, ?_⟩
        rw [eqv_rows]
        have s13 : Same H (upd H2 p3 (.tup [.str R[n]])) := s2.trans s3
        by_cases he : R[n] = r
        · exact ifT (decide_eq_true (by rw [he])) (qz _ (by rw [bz, if_neg hn, if_pos (by rw [ge, he])]) _ s13)
        · refine ifF (decide_eq_false (by intro z; injection z with z; exact he z.symm)) ?_
          have hb : barred R (.row n r) = none := by rw [bz, if_neg hn, if_neg (by rw [ge]; intro z; exact he (Option.some.inj z))]
          refine ⟨_, rfl, _, rfl, n, rfl, slA (s13 _ _ hp) fun p4 H4 s4 e4 => ?_⟩
          have e2' := s4 _ _ (s3 _ _ e2)
          refine ⟨_, rfl, catA e4 e2' (cutL hl) fun p5 H5 s5 e5 => ?_⟩
          have s15 : Same H H5 := (s13.trans s4).trans s5
          refine ⟨_, rfl, _, rfl, _, _, rfl, rfl, _, rfl, slN (lo := some ((n + 1 : Nat) : Int)) (s15 _ _ hp) fun p6 H6 s6 e6 => ?_⟩
          refine catA (s6 _ _ e5) e6 (cutL2 hl) fun p7 H7 s7 e7 => ?_
          refine q hb _ _ ((s15.trans s6).trans s7) ?_
          rw [e7, cut_to, cut_from]
          simp [behind]
    | out n =>
      have bz : barred R (.out n) = if R.length ≤ n then some ("none" : Str) else none := rfl
      refine ⟨_, rfl, rfl, _, rfl, ifT dop0 ?_⟩
      refine ⟨_, rfl, _, rfl, p, _, rfl, .inr (SqT.of hp), _, _, rfl, rfl, _, rfl, ?_⟩
      rw [List.length_map]
      by_cases hn : R.length ≤ n
      · have e : decide ((n : Int) < (R.length : Int)) = false := decide_eq_false (by omega)
        exact ifT (show (!decide ((n : Int) < (R.length : Int))) = true by rw [e]; rfl) (qz _ (by rw [bz, if_pos hn]) _ fun _ _ e => e)
      · have e : decide ((n : Int) < (R.length : Int)) = true := decide_eq_true (by omega)
        refine ifF (show (!decide ((n : Int) < (R.length : Int))) = false by rw [e]; rfl) ?_
        have hn2 : n < R.length := by omega
        have ge : R[n]? = some R[n] := List.getElem?_eq_getElem hn2
        have at_ : atI (R.map V.str) (n : Int) = some (.str R[n]) := atI_nat (by rw [List.getElem?_map, ge]; rfl)
        refine ⟨_, rfl, rfl, _, rfl, ifF dop1 (ifF rfl ?_)⟩
        refine ⟨_, rfl, rfl, _, rfl, ifF dop1 ?_⟩
        refine ⟨_, rfl, rfl, _, rfl, ifF dor1 ?_⟩
        refine ⟨sz0, fun p2 h2 => ?_⟩
        have s2 : Same H (upd H p2 (.tup [])) := Same.new h2
        have e2 : upd H p2 (.tup []) p2 = some (.tup []) := upd_same
        generalize upd H p2 (.tup []) = H2 at s2 e2
        refine ⟨_, rfl, _, rfl, _, rfl, p, _, _, _, rfl, rfl, SqT.of (s2 _ _ hp), at_, sz1, fun p3 h3 => ?_⟩
        have s3 : Same H2 (upd H2 p3 (.tup [.str R[n]])) := Same.new h3
        have e3 : upd H2 p3 (.tup [.str R[n]]) p3 = some (.tup [.str R[n]]) := upd_same
        refine ⟨rowsD [], rowsD [R[n]], TS'.dp (R := []) ⟨p2, rfl, s3 _ _ e2⟩, TS'.dp (R := [R[n]]) ⟨p3, rfl, e3⟩, shp_rows (by simp), shp_rows (by intro x hx; rw [List.mem_singleton.mp hx]; exact (ro.txt _ (List.getElem_mem hn2)).2), _, rfl, ?_⟩
        rw [eqv_rows]
        have s13 : Same H (upd H2 p3 (.tup [.str R[n]])) := s2.trans s3
        refine ifF (decide_eq_false (by simp)) ?_
        have hb : barred R (.out n) = none := by rw [bz, if_neg hn]
        refine ⟨_, rfl, _, rfl, n, rfl, slA (s13 _ _ hp) fun p4 H4 s4 e4 => ?_⟩
        have e2' := s4 _ _ (s3 _ _ e2)
        refine ⟨_, rfl, catA e4 e2' (cutL hl) fun p5 H5 s5 e5 => ?_⟩
        have s15 : Same H H5 := (s13.trans s4).trans s5
        refine ⟨_, rfl, _, rfl, _, _, rfl, rfl, _, rfl, slN (lo := some ((n + 1 : Nat) : Int)) (s15 _ _ hp) fun p6 H6 s6 e6 => ?_⟩
        refine catA (s6 _ _ e5) e6 (cutL2 hl) fun p7 H7 s7 e7 => ?_
        refine q hb _ _ ((s15.trans s6).trans s7) ?_
        rw [e7, cut_to, cut_from]
        simp [behind]
theorem rd_woven (G : GF K mg "_law_woven_deed" "_law_woven_deed" 155) (B : Bn mg) (R__law_shed : Rd P w K mg base CX0 1 "_law_shed" ["loom", "ends"] spShed) (R__law_among : Rd P w K mg base CX0 2 "_law_among" ["loom", "things"] (spAmong K)) : Rd P w K mg base CX0 3 "_law_woven_deed" ["loom", "rows", "texts"] spWoven := by
  obtain ⟨fd, F, hm⟩ := G
  refine ⟨_, fd, F.ok scWo (fun vs H Q E h => ?_) ?_, hm, F.kp, F.bindsN fun _ _ _ _ _ _ us hl => match us, hl with | [_, _, _], _ => rfl⟩
  · obtain ⟨l, rv, R, tx, ts, rfl, _⟩ := h; rfl
  intro cdv A outer s H vs Q E hr h
  refine' ⟨_, PSs.nox ?p, ?q⟩
  case p =>
    refine' pss_cons (ps_set (i := 3) scWo.nd rfl (Or.inl rfl) (pe_op op_add (pe_cl R__law_shed (hr.mono (by decide)) rfl pass0 (pa_cons (pv 0) (pa_cons (pe_op op_add (pe_callB (r := rLen K) call_len_seq rfl B.len boot_len (pa_cons (pv 1) pa_nil)) pe_int) pa_nil))) (pe_op op_mul pe_int (pe_callTy call_int1 rfl B.int boot_int (pa_cons (pe_op op_fdivNN (pe_cl R__law_shed (hr.mono (by decide)) rfl pass0 (pa_cons (pv 0) (pa_cons pe_int pa_nil))) pe_int) pa_nil))))) ?w0
    case w0 =>
    refine' pss_cons (ps_set (i := 4) scWo.nd rfl (Or.inl rfl) (pe_cl R__law_among (hr.mono (by decide)) rfl pass0 (pa_cons (pv 0) (pa_cons (pe_lst (pa_cons pe_str (pa_cons pe_str (pa_cons pe_str (pa_cons pe_str (pa_cons pe_str pa_nil)))))) pa_nil)))) ?w1
    case w1 =>
    exact pss_one (ps_ret (pe_ifExp (pt_cmpR op_eq (pv 4) pe_str (nomark _)) (pe_tup (pa_cons (pv 4) (pa_cons (pv 3) pa_nil))) (pe_tup (pa_cons (pv 4) (pa_cons (pv 3) (pa_cons (pe_cl R__law_among (hr.mono (by decide)) rfl pass0 (pa_cons (pv 0) (pa_cons (pv 2) pa_nil))) pa_nil))))))

  case q =>
    obtain ⟨l, rv, R, tx, ts, rfl, lm, ⟨p, rfl, hp⟩, hl, htx, ntl, t0, t1, tok, q⟩ := h
    refine ⟨_, rfl, _, rfl, p, _, rfl, .inr (SqT.of hp), _, _, rfl, rfl, l, _, rfl, by rw [List.length_map]; omega, by rw [List.length_map]; omega, lm, fun k a b c k0 k1 a0 a1 b0 b1 c0 => ?_⟩
    rw [List.length_map] at k1
    obtain ⟨k, rfl⟩ := Int.eq_ofNat_of_zero_le k0
    have lm1 := lm_upd (H := H) (l := l) a0 a1 b0 b1 c0
    have sb1 : SB l H (upd H l (.lst [.int a, .int b, .int c])) := sb_upd
    generalize upd H l (.lst [.int a, .int b, .int c]) = H1 at lm1 sb1
    refine ⟨_, rfl, l, 12, rfl, by decide, by decide, lm1, fun j a b c j0 j1 a0 a1 b0 b1 c0 => ?_⟩
    obtain ⟨j, rfl⟩ := Int.eq_ofNat_of_zero_le j0
    have lm2 := lm_upd (H := H1) (l := l) a0 a1 b0 b1 c0
    have sb2 : SB l H (upd H1 l (.lst [.int a, .int b, .int c])) := fun q o n e => sb_upd q o n (sb1 q o n e)
    generalize upd H1 l (.lst [.int a, .int b, .int c]) = H2 at lm2 sb2
    clear lm1 sb1 a0 a1 b0 b1 c0 a b c
    refine ⟨j, 11, rfl, rfl, ⟨by decide, by decide⟩, .inl ⟨_, rfl, _, _, rfl, rfl, .inl ⟨by decide, by decide⟩, _, _, rfl, rfl, ?_⟩⟩
    have en : ((k : Int) + 6 * ((j / 11 : Nat) : Int)) = ((k + 6 * (j / 11) : Nat) : Int) := by omega
    show gName 3 (.int ((k : Int) + 6 * ((j / 11 : Nat) : Int))) _ _ _
    rw [en]
    have hn : k + 6 * (j / 11) ≤ 1000 := by omega
    generalize k + 6 * (j / 11) = n at hn
    clear en
    refine ⟨_, rfl, small (show 5 ≤ 1000 by decide), fun u hu => ⟨l, u, _, rfl, upd_same, (by show 0 < 5; decide), (by show 5 < 1000; decide), ?_, ?_, fun i v a b c hv a0 a1 b0 b1 c0 => ?_⟩⟩
    · obtain ⟨a, b, c, e, z⟩ := lm2
      exact ⟨a, b, c, by rw [upd_ne (ne_of_none e hu)]; exact e, z⟩
    · obtain ⟨a, b, c, e, z⟩ := lm2
      exact Ne.symm (ne_of_none e hu)
    have sb3 : SB l H (upd (upd H2 u (.lst [.str "row", .str "out", .str "put", .str "put", .str "row"])) l (.lst [.int a, .int b, .int c])) := fun q o n e => by
      rw [upd_ne n, upd_ne (ne_of_none (sb2 q o n e) hu)]
      exact sb2 q o n e
    have lm3 := lm_upd (H := upd H2 u (.lst [.str "row", .str "out", .str "put", .str "put", .str "row"])) (l := l) a0 a1 b0 b1 c0
    generalize upd (upd H2 u (.lst [.str "row", .str "out", .str "put", .str "put", .str "row"])) l (.lst [.int a, .int b, .int c]) = H3 at lm3 sb3
    clear lm2 sb2 a0 a1 b0 b1 c0 a b c
    have hv3 : v = .str "row" ∨ v = .str "out" ∨ v = .str "put" := by
      match i, hv with
      | 0, h => exact .inl (Option.some.inj h).symm
      | 1, h => exact .inr (.inl (Option.some.inj h).symm)
      | 2, h => exact .inr (.inr (Option.some.inj h).symm)
      | 3, h => exact .inr (.inr (Option.some.inj h).symm)
      | 4, h => exact .inl (Option.some.inj h).symm
      | i + 5, h => simp at h
    have htx3 : H3 tx = some (.lst (ts.map V.str)) := sb3 _ _ ntl htx
    have pick : ∀ {i : Nat} {t : V}, (ts.map V.str)[i]? = some t → ∃ t', t = .str t' ∧ t' ∈ ts := fun {i t} ht => by
      rw [List.getElem?_map] at ht
      cases y : ts[i]? with
      | none => rw [y] at ht; cases ht
      | some s => rw [y] at ht; exact ⟨s, (Option.some.inj ht).symm, List.mem_of_getElem? y⟩
    rcases hv3 with rfl | rfl | rfl
    · refine ⟨_, rfl, rfl, _, rfl, ifF (by decide +kernel) ⟨_, rfl, _, rfl, _, rfl, _, rfl, l, tx, _, rfl, htx3, by rw [List.length_map]; exact t0, by rw [List.length_map]; omega, lm3, ntl, fun i t a b c ht a0 a1 b0 b1 c0 => ⟨sz3, fun p' hp' => ?_⟩⟩⟩
      obtain ⟨t', rfl, mt⟩ := pick ht
      have lm4 := lm_upd (H := H3) (l := l) a0 a1 b0 b1 c0
      refine q _ _ (.row n t') (fun bb oo nn ee => ?_) ?_ ⟨p', rfl, upd_same⟩ ⟨hn, tok _ mt⟩
      · have e2 : upd H3 l (.lst [.int a, .int b, .int c]) bb = some oo := by rw [upd_ne nn]; exact sb3 bb oo nn ee
        rw [upd_ne (ne_of_none e2 hp')]
        exact e2
      · obtain ⟨a, b, c, e, z⟩ := lm4
        exact ⟨a, b, c, by rw [upd_ne (ne_of_none e hp')]; exact e, z⟩
    · refine ⟨_, rfl, rfl, _, rfl, ifT (by decide +kernel) ⟨_, rfl, _, rfl, sz2, fun p' hp' => ?_⟩⟩
      refine q _ _ (.out n) (fun b o n e => ?_) ?_ ⟨p', rfl, upd_same⟩ hn
      · have e2 := sb3 b o n e
        rw [upd_ne (ne_of_none e2 hp')]
        exact e2
      · obtain ⟨a, b, c, e, z⟩ := lm3
        exact ⟨a, b, c, by rw [upd_ne (ne_of_none e hp')]; exact e, z⟩
    · refine ⟨_, rfl, rfl, _, rfl, ifF (by decide +kernel) ⟨_, rfl, _, rfl, _, rfl, _, rfl, l, tx, _, rfl, htx3, by rw [List.length_map]; exact t0, by rw [List.length_map]; omega, lm3, ntl, fun i t a b c ht a0 a1 b0 b1 c0 => ⟨sz3, fun p' hp' => ?_⟩⟩⟩
      obtain ⟨t', rfl, mt⟩ := pick ht
      have lm4 := lm_upd (H := H3) (l := l) a0 a1 b0 b1 c0
      refine q _ _ (.put n t') (fun bb oo nn ee => ?_) ?_ ⟨p', rfl, upd_same⟩ ⟨hn, tok _ mt⟩
      · have e2 : upd H3 l (.lst [.int a, .int b, .int c]) bb = some oo := by rw [upd_ne nn]; exact sb3 bb oo nn ee
        rw [upd_ne (ne_of_none e2 hp')]
        exact e2
      · obtain ⟨a, b, c, e, z⟩ := lm4
        exact ⟨a, b, c, by rw [upd_ne (ne_of_none e hp')]; exact e, z⟩
end
end K1
set_option Elab.async false
set_option linter.all false
set_option maxRecDepth 100000
set_option maxHeartbeats 2000000
/-! repr of data, whatever they are; is_like. -/
namespace K1
open PySem PySem.Spec PyProof.Rows L2 StX
open He (ga ma)
/-- repr of any data -/
def rReprA (K : PySem.W.Frag) : List V → Hp → VK → Prop := fun xs H Q => ∃ (v : V) (d : PyData), xs = [v] ∧ Dq K H v d ∧ d.showable = true ∧ d.shown.length ≤ sizeLine ∧ d.depth ≤ 100 ∧ Q (.str d.shown) H
theorem un_of {k : Nat} {A : Around} (r : Room k A) : A.units + 200 < cLine := by have := r.un; omega
theorem cr_reprA {X : Cx} (hG : X.A.guards = some []) (hr : X.A.units + 200 < cLine) (Z : SysK X.K) : CallR X (.builtin "repr") (rReprA X.K) := by
  intro pins s σ H xs us Q I r h
  obtain ⟨v, d, rfl, hd, sh, sz, dp, q⟩ := h
  obtain ⟨u, rfl, rx⟩ := vals1 r
  have fin : ∀ (h' : Shared) (tk : Tok), Inv X pins σ H h' → EP X pins σ (fun x H' => Q x H') (.str d.shown tk) h' := fun h' tk J => ⟨.str d.shown, H, J, ⟨tk, rfl⟩, q⟩
  cases v with
  | ref a =>
    cases rx
    obtain ⟨as, rd, hn⟩ := Dq.reads Z I d _ _ hd (show RelV (.ref a) (.ref a) from rfl)
    refine repr_of_reads' rd sh (fun _ => hn) hG (by omega) (fun _ _ e => e) (fun h' u tk hk => ?_) sz
    exact fin _ _ (I.kept (t' := tk) hk)
  | non =>
    cases rx; cases hd
    exact PySem.P.repr_of_none (fin _ _ (I.tok _))
  | bl b =>
    cases rx; cases hd
    exact PySem.P.repr_of_bool (by cases b <;> exact fin _ _ (I.tok _))
  | int i =>
    obtain ⟨t, rfl⟩ := rx
    cases hd
    exact PySem.P.repr_of_int (by simpa [PyData.showable] using sh) (fin _ _ (I.tok _))
  | str x =>
    obtain ⟨t, rfl⟩ := rx
    cases hd
    exact PySem.P.repr_of_str (fin _ _ (I.tok _)) sz
  | byt b => cases hd
  | flt b => cases hd
  | ty n => cases hd
/-- data fit to be shown -/
def Shw (d : PyData) : Prop := d.showable = true ∧ d.shown.length ≤ sizeLine ∧ d.depth ≤ 100
theorem shw_of {d : PyData} (h1 : d.showable = true) (h2 : d.leavesShort 13 = true) (h3 : d.bulk ≤ 2 ^ 20) (h4 : d.depth ≤ 100) : Shw d := ⟨h1, PyData.shown_fits_bulk (by decide) (Nat.le_refl _) h2 h3, h4⟩
theorem short_int : ∀ n : Fin 1001, decide ((PyData.shown (.int (n.val : Int))).length ≤ 13) = true := by decide +kernel
theorem lv_int {n : Nat} (h : n ≤ 1000) : (PyData.int (n : Int)).leavesShort 13 = true := by
  unfold PyData.leavesShort
  exact short_int ⟨n, by omega⟩
theorem sh_int : ∀ n : Fin 1001, decide ((n.val : Int).natAbs.log2 < 1920) = true := by decide +kernel
theorem sw_int {n : Nat} (h : n ≤ 1000) : (PyData.int (n : Int)).showable = true := by
  unfold PyData.showable
  exact sh_int ⟨n, by omega⟩
theorem lv_str {s : Str} (h : ∀ c ∈ s.cps.toList, c < 0x110000) : (PyData.str s).leavesShort 13 = true := by
  unfold PyData.leavesShort
  rw [List.all_eq_true]
  intro c hc
  exact decide_eq_true (by have := h c hc; omega)
theorem lvAll {α : Type} {f : α → PyData} : ∀ {l : List α}, (∀ a ∈ l, (f a).leavesShort 13 = true) → PyData.leavesShortAll 13 (l.map f) = true
  | [], _ => by simp [PyData.leavesShortAll]
  | a :: l, h => by
    rw [List.map_cons]
    unfold PyData.leavesShortAll
    rw [h a (List.mem_cons_self ..), lvAll (fun b hb => h b (List.mem_cons_of_mem _ hb))]
    rfl
theorem swAll {α : Type} {f : α → PyData} : ∀ {l : List α}, (∀ a ∈ l, (f a).showable = true) → PyData.showableAll (l.map f) = true
  | [], _ => by simp [PyData.showableAll]
  | a :: l, h => by
    rw [List.map_cons]
    unfold PyData.showableAll
    rw [h a (List.mem_cons_self ..), swAll (fun b hb => h b (List.mem_cons_of_mem _ hb))]
    rfl
theorem bkAll {α : Type} {f : α → PyData} {n : Nat} : ∀ {l : List α}, (∀ a ∈ l, (f a).bulk ≤ n) → PyData.bulkAll (l.map f) ≤ l.length * (n + 1)
  | [], _ => by simp [PyData.bulkAll]
  | a :: l, h => by
    rw [List.map_cons]
    unfold PyData.bulkAll
    have h1 := h a (List.mem_cons_self ..)
    have h2 := bkAll (fun b hb => h b (List.mem_cons_of_mem _ hb))
    rw [List.length_cons, Nat.add_mul]
    omega
theorem lv_rows {R : List Str} (h : RsOk R) : (rowsD R).leavesShort 13 = true := by
  unfold rowsD PyData.leavesShort
  exact lvAll fun r hr => lv_str fun c hc => ((h.txt r hr).2 c hc).2
theorem sw_rows {R : List Str} : (rowsD R).showable = true := by
  unfold rowsD PyData.showable
  exact swAll fun r _ => by simp [PyData.showable]
theorem bk_rows {R : List Str} (h : RsOk R) : (rowsD R).bulk ≤ 80020 := by
  unfold rowsD PyData.bulk
  have h1 := bkAll (f := PyData.str) (n := 4000) (l := R) fun r hr => by
    unfold PyData.bulk
    exact (h.txt r hr).1
  have h2 : R.length * 4001 ≤ 20 * 4001 := Nat.mul_le_mul_right _ h.len
  omega
/-- a desk's rows, how many deeds -/
theorem shw_state {R : List Str} {n : Nat} (h : RsOk R) (hn : n ≤ 1000) : Shw (.list [rowsD R, .int n]) := by
  refine shw_of ?_ ?_ ?_ ?_
  · simp only [PyData.showable, PyData.showableAll, sw_rows, Bool.true_and, Bool.and_true]
    have := sw_int hn
    simpa only [PyData.showable] using this
  · simp only [PyData.leavesShort, PyData.leavesShortAll, lv_rows h, Bool.true_and, Bool.and_true]
    have := lv_int hn
    simpa only [PyData.leavesShort] using this
  · have := bk_rows h
    simp only [PyData.bulk, PyData.bulkAll]
    omega
  · have := dep_rows (R := R)
    simp only [PyData.depth, PyData.depthAll]
    omega
theorem shw_str {s : Str} (h : ∀ c ∈ s.cps.toList, c < 0x110000) (hl : s.length ≤ 100000) : Shw (.str s) := by
  refine shw_of (by simp [PyData.showable]) (lv_str h) ?_ (by simp [PyData.depth])
  unfold PyData.bulk
  have : s.length = s.cps.size := rfl
  omega
/-- a def that may call repr is ready -/
def RdG (P : Program) (w : World) (K : PySem.W.Frag) (mg : Str → Option Value) (base : Heap) (CX : CXT) (n : Nat) (g : Str) (ps : List Str) (sp : Sp) : Prop := ∃ f fd, FnG P w K mg base CX n f fd ps sp ∧ mg g = some (.ref f) ∧ PySem.W.keepIn K (.ref f) = true ∧ Binds K fd ps []
section
variable {X : Cx} {CX : CXT} {n : Nat} {ps : List Str} {sp : Sp} {E : XK} {x : Str} {p pos : Pos} {e : Expr} {es : List Expr} {t : TA}
theorem pe_clG (R : RdG X.prog X.w X.K X.mg X.base CX n x ps sp) (hG : X.A.guards = some []) (hr : Room n X.A) (hg : Gl X x) (hx : Passes CX X E) (ha : PA X (e :: es) t) (hdb : (x == ("__debug__" : Str)) = false := by decide) (he : starEach (e :: es) X.env = (false, eval e X.env) :: starEach es X.env := by rfl) (hpl : (backTo pos (starEach es X.env)).any (·.1) = false := by rfl) :
    PE X (.Call (.Name x p) (e :: es) [] pos) (tCall sp [] E t) := by
  obtain ⟨f, fd, F, hm, hk, hb⟩ := R
  exact pe_callG F hG hr hg hm hk hb .nil hx ha hdb he hpl
end
def spLike (K : PySem.W.Frag) : Sp := fun vs H Q _ => ∃ (a b : V) (d : PyData), vs = [a, b] ∧ Dq K H a d ∧ Dq K H b d ∧ Shw d ∧ Q (.bl true) H
section
variable {P : Program} {w : World} {K : PySem.W.Frag} {mg : Str → Option Value} {base : Heap}
theorem sc140 : FnScope ["told", "due"] ["told", "due"] (defScope (top 140)) := ⟨rfl, rfl, rfl, by decide +kernel, rfl, by decide +kernel, by decide +kernel⟩
theorem rd_like (G : GF K mg "_law_is_like" "_law_is_like" 140) (Z : SysK K) (B : Bn mg) : RdG P w K mg base CX0 1 "_law_is_like" ["told", "due"] (spLike K) := by
  obtain ⟨fd, F, hm⟩ := G
  refine ⟨_, fd, fnG_of F sc140 (fun vs H Q E h => ?_) (fun cdv A out s H vs Q E hg hr h => ⟨_, PSs.nox (pss_one (ps_ret (pe_cmpR op_eq (pe_callB (cr_reprA hg (un_of hr) Z) rfl B.repr boot_repr (pa_cons (pv 0) pa_nil)) (pe_callB (cr_reprA hg (un_of hr) Z) rfl B.repr boot_repr (pa_cons (pv 1) pa_nil)) (nomark _)))), ?_⟩), hm, F.kp, F.bindsN fun _ _ _ _ _ _ us hl => match us, hl with | [_, _], _ => rfl⟩
  · obtain ⟨a, b, d, rfl, _⟩ := h; rfl
  · obtain ⟨a, b, d, rfl, h1, h2, ⟨h3, h4, h5⟩, q⟩ := h
    refine ⟨_, rfl, a, d, rfl, h1, h3, h4, h5, _, rfl, b, d, rfl, h2, h3, h4, h5, rfl, ?_⟩
    have e : decide (V.str d.shown = V.str d.shown) = true := decide_eq_true rfl
    rw [e]
    exact q
end
end K1
set_option Elab.async false
set_option linter.all false
set_option maxRecDepth 100000
set_option maxHeartbeats 2000000
/-! What deeds lead to: plain. -/
namespace K1
open PySem PySem.Spec PyProof.Rows L2 StX
open He (ga ma)
/-- the rows past, the rows now -/
def st (L : List Str) (Ds : List Dd) : List (List Str) × List Str := Ds.foldl (fun s d => (s.1 ++ [s.2], behind s.2 d)) ([], L)
theorem st_nil {L : List Str} : st L [] = ([], L) := rfl
theorem st_snoc {L : List Str} {Ds : List Dd} {d : Dd} : st L (Ds ++ [d]) = ((st L Ds).1 ++ [(st L Ds).2], behind (st L Ds).2 d) := by
  unfold st
  rw [List.foldl_append]
  rfl
theorem snoc_ind {P : List Dd → Prop} (h0 : P []) (h1 : ∀ Ds d, P Ds → P (Ds ++ [d])) : ∀ Ds, P Ds := by
  intro Ds
  have key : ∀ n (Ds : List Dd), Ds.length = n → P Ds := by
    intro n
    induction n with
    | zero => intro Ds h; rw [List.length_eq_zero_iff.mp h]; exact h0
    | succ n ih =>
      intro Ds h
      have hne : Ds ≠ [] := fun z => by rw [z] at h; cases h
      rw [← List.dropLast_concat_getLast hne]
      exact h1 _ _ (ih _ (by rw [List.length_dropLast]; omega))
  exact key _ Ds rfl
theorem st_len {L : List Str} : ∀ Ds : List Dd, (st L Ds).1.length = Ds.length := snoc_ind rfl fun Ds d ih => by rw [st_snoc]; simp [ih]
theorem st_get {L : List Str} : ∀ (Ds : List Dd) (i : Nat), i < Ds.length → (st L Ds).1[i]? = some (st L (Ds.take i)).2 := snoc_ind (fun i h => by simp at h) fun Ds d ih i hi => by
  rw [st_snoc]
  rw [List.length_append, List.length_singleton] at hi
  by_cases e : i < Ds.length
  · rw [List.getElem?_append_left (by rw [st_len]; exact e), List.take_append_of_le_length (by omega)]
    exact ih i e
  · have e2 : i = Ds.length := by omega
    rw [e2, List.getElem?_append_right (by rw [st_len]; omega), st_len, Nat.sub_self, List.take_append_of_le_length (Nat.le_refl _), List.take_length]
    rfl
/-- deeds that are done, one after the other -/
inductive Vd (L : List Str) : List Dd → Prop
  | nil : Vd L []
  | snoc {Ds : List Dd} {d : Dd} : Vd L Ds → d.ok → barred (st L Ds).2 d = none → Vd L (Ds ++ [d])
theorem Vd.rows {L : List Str} {Ds : List Dd} (h : Vd L Ds) (hL : RsOk L) : RsOk (st L Ds).2 := by
  induction h with
  | nil => exact hL
  | snoc h o b ih => rw [st_snoc]; exact ih.behind o b
theorem Vd.back {L : List Str} {Ds : List Dd} {d : Dd} (h : Vd L (Ds ++ [d])) : Vd L Ds ∧ d.ok ∧ barred (st L Ds).2 d = none := by
  generalize e : Ds ++ [d] = Es at h
  cases h with
  | nil => simp at e
  | snoc h o b =>
    obtain ⟨e1, e2⟩ := List.append_inj' e rfl
    cases e1
    cases e2
    exact ⟨h, o, b⟩
theorem Vd.take {L : List Str} {Ds : List Dd} (h : Vd L Ds) : ∀ i, Vd L (Ds.take i) := by
  induction h with
  | nil => intro i; rw [List.take_nil]; exact .nil
  | @snoc Ds d h o b ih =>
    intro i
    by_cases e : i ≤ Ds.length
    · rw [List.take_append_of_le_length e]; exact ih i
    · rw [List.take_of_length_le (by rw [List.length_append, List.length_singleton]; omega)]
      exact .snoc h o b
theorem Vd.get {L : List Str} {Ds : List Dd} (h : Vd L Ds) : ∀ (i : Nat) (d : Dd), Ds[i]? = some d → d.ok ∧ barred (st L (Ds.take i)).2 d = none := by
  induction h with
  | nil => intro i d e; simp at e
  | @snoc Ds x h o b ih =>
    intro i d e
    by_cases hi : i < Ds.length
    · rw [List.getElem?_append_left hi] at e
      rw [List.take_append_of_le_length (by omega)]
      exact ih i d e
    · rw [List.getElem?_append_right (by omega)] at e
      have e2 : i - Ds.length = 0 := by
        cases z : i - Ds.length with
        | zero => rfl
        | succ n => rw [z] at e; simp at e
      rw [e2] at e
      cases e
      have e3 : i = Ds.length := by omega
      rw [e3, List.take_append_of_le_length (Nat.le_refl _), List.take_length]
      exact ⟨o, b⟩
theorem Vd.oks {L : List Str} {Ds : List Dd} (h : Vd L Ds) : ∀ d ∈ Ds, d.ok := fun d hd => by
  obtain ⟨i, hi⟩ := List.mem_iff_getElem?.mp hd
  exact (h.get i d hi).1
/-- all rows, past and now -/
def PL (L : List Str) (Ds : List Dd) : List (List Str) := (st L Ds).1 ++ [(st L Ds).2]
theorem PL_snoc {L : List Str} {Ds : List Dd} {d : Dd} : PL L (Ds ++ [d]) = PL L Ds ++ [behind (st L Ds).2 d] := by
  unfold PL
  rw [st_snoc]
theorem PL_len {L : List Str} {Ds : List Dd} : (PL L Ds).length = Ds.length + 1 := by
  unfold PL
  rw [List.length_append, st_len]
  rfl
/-- a desk led so -/
abbrev DkS (K : PySem.W.Frag) (H : Hp) (p : Addr) (L : List Str) (Ds : List Dd) : Prop := DkAt (cDk K) H p L (st L Ds).1 Ds (st L Ds).2
theorem page_good {ls : List Str} (h1 : ls.length ≤ 4) (h2 : ∀ l ∈ ls, Tx 4000 l) : RsOk ls := ⟨by omega, h2⟩
theorem good_of {L : List Str} (h : RsOk L) : goodRows L = true := by
  unfold goodRows
  rw [decide_eq_true h.len, Bool.true_and, List.all_eq_true]
  intro r hr
  unfold goodRow
  rw [decide_eq_true (h.txt r hr).1, noNl_has (h.txt r hr).2]
  rfl
theorem rowsL_no {ls : List Str} : rowsL ls noS = ls := by
  unfold rowsL
  rw [if_pos rfl, List.append_nil]
theorem mkD_page {K : PySem.W.Frag} {H : Hp} {E : XK} {ls : List Str} {go : List Str → Prop} (h : RsOk ls) (g : go ls) : MkD K H E (.str (pgf ls)) go := by
  have hl := h.len
  have pl := pgf_len (ls := ls) (n := 4000) fun l hl => (h.txt l hl).1
  refine .inr ⟨pgf ls, ls, noS, rfl, split_page fun l hl => (h.txt l hl).2, ?_, by omega, ?_, ?_, ?_⟩
  · have : ls.length * (4000 + 1) ≤ 20 * 4001 := Nat.mul_le_mul_right _ hl
    omega
  · rw [rowsL_no]
    intro s hs
    have := (h.txt s hs).1
    omega
  · rw [rowsL_no]; exact fun _ => g
  · rw [rowsL_no, good_of h]; exact fun z => by cases z
/-- the state of a led desk and its twin -/
structure OS (K : PySem.W.Frag) (H0 : Hp) (l d t tx : Addr) (L ts : List Str) (Ds Es Fs : List Dd) (pa : Addr) (H : Hp) : Prop where
  sb : SB l H0 H
  lm : Lm H l
  dk : DkS K H d L Ds
  tw : DkS K H t L Es
  pa : ∃ xs, H pa = some (.lst xs) ∧ Paired (fun R y => TS' H y R) (PL L Fs) xs
  tx : H tx = some (.lst (ts.map V.str))
  ndt : d ≠ t
  fd : H0 d = none
  ft : H0 t = none
  ts0 : 0 < ts.length
section
variable {K : PySem.W.Frag} {H0 H H' : Hp} {l d t tx pa : Addr} {L ts : List Str} {Ds Es Fs : List Dd}
theorem OS.dl (o : OS K H0 l d t tx L ts Ds Es Fs pa H) : d ≠ l := fun z => by
  obtain ⟨dx, fs, e⟩ := o.dk.new
  obtain ⟨a, b, c, e2, _⟩ := o.lm
  rw [z, e2] at e
  cases e
theorem OS.tl (o : OS K H0 l d t tx L ts Ds Es Fs pa H) : t ≠ l := fun z => by
  obtain ⟨dx, fs, e⟩ := o.tw.new
  obtain ⟨a, b, c, e2, _⟩ := o.lm
  rw [z, e2] at e
  cases e
theorem OS.xl (o : OS K H0 l d t tx L ts Ds Es Fs pa H) : tx ≠ l := fun z => by
  have e := o.tx
  have h := o.ts0
  obtain ⟨a, b, c, e2, _⟩ := o.lm
  rw [z, e2] at e
  cases ts with
  | nil => simp at h
  | cons x r => injection e with e; injection e with e; injection e with e; cases e
theorem OS.pl (o : OS K H0 l d t tx L ts Ds Es Fs pa H) : pa ≠ l := fun z => by
  obtain ⟨xs, e, p⟩ := o.pa
  obtain ⟨a, b, c, e2, _⟩ := o.lm
  rw [z, e2] at e
  injection e with e
  injection e with e
  subst e
  generalize he : PL L Fs = ps at p
  cases p with
  | cons r _ => obtain ⟨q, z, _⟩ := r; cases z
theorem OS.same (s : Same H H') (o : OS K H0 l d t tx L ts Ds Es Fs pa H) : OS K H0 l d t tx L ts Ds Es Fs pa H' :=
  { o with
    sb := fun b u n e => s _ _ (o.sb b u n e)
    lm := let ⟨a, b, c, e, z⟩ := o.lm; ⟨a, b, c, s _ _ e, z⟩
    dk := o.dk.on s
    tw := o.tw.on s
    pa := let ⟨xs, e, p⟩ := o.pa; ⟨xs, s _ _ e, paired_mono (fun _ _ z => z.on (KT.same s)) p⟩
    tx := s _ _ o.tx }
theorem SB.kt {l : Addr} (h : SB l H H') (m : Lm H l) : KT H H' := fun q xs e => h q _ (fun z => by
  obtain ⟨a, b, c, e2, _⟩ := m
  rw [z, e2] at e
  cases e) e
theorem DkAt.sb {C p : Addr} {B : List Str} {Ps : List (List Str)} {Ds : List Dd} {R : List Str} (h : SB l H H') (m : Lm H l) (n : p ≠ l) : DkAt C H p B Ps Ds R → DkAt C H' p B Ps Ds R
  | ⟨dx, b, r, e, q, hp, v⟩ => ⟨dx, b, r, e, q, h _ _ n hp, v.on (h.kt m)⟩
/-- the loom goes on -/
theorem OS.loom (h : SB l H H') (m : Lm H' l) (o : OS K H0 l d t tx L ts Ds Es Fs pa H) : OS K H0 l d t tx L ts Ds Es Fs pa H' :=
  { o with
    sb := fun b u n e => h b u n (o.sb b u n e)
    lm := m
    dk := DkAt.sb h o.lm o.dl o.dk
    tw := DkAt.sb h o.lm o.tl o.tw
    pa := let ⟨xs, e, p⟩ := o.pa; ⟨xs, h _ _ o.pl e, paired_mono (fun _ _ z => z.on (h.kt o.lm)) p⟩
    tx := h _ _ o.xl o.tx }
/-- the desk is led -/
theorem OS.led {Ds' : List Dd} (s : SP d H H') (n : DkS K H' d L Ds') (o : OS K H0 l d t tx L ts Ds Es Fs pa H) : OS K H0 l d t tx L ts Ds' Es Fs pa H' := by
  obtain ⟨dx, fs, e⟩ := o.dk.new
  exact { o with
    sb := fun b u n e => s b u (fun z => by have y := o.fd; rw [← z, e] at y; cases y) (o.sb b u n e)
    lm := let ⟨a, b, c, e, z⟩ := o.lm; ⟨a, b, c, s _ _ (Ne.symm o.dl) e, z⟩
    dk := n
    tw := DkAt.ne s e (Ne.symm o.ndt) o.tw
    pa := let ⟨xs, h, p⟩ := o.pa; ⟨xs, s _ _ (fun z => by rw [z, e] at h; cases h) h, paired_mono (fun _ _ z => z.on (SP.kt s e)) p⟩
    tx := s _ _ (fun z => by have h := o.tx; rw [z, e] at h; cases h) o.tx }
/-- the twin is led -/
theorem OS.ledT {Es' : List Dd} (s : SP t H H') (n : DkS K H' t L Es') (o : OS K H0 l d t tx L ts Ds Es Fs pa H) : OS K H0 l d t tx L ts Ds Es' Fs pa H' := by
  obtain ⟨dx, fs, e⟩ := o.tw.new
  exact { o with
    sb := fun b u n e => s b u (fun z => by have y := o.ft; rw [← z, e] at y; cases y) (o.sb b u n e)
    lm := let ⟨a, b, c, e, z⟩ := o.lm; ⟨a, b, c, s _ _ (Ne.symm o.tl) e, z⟩
    dk := DkAt.ne s e o.ndt o.dk
    tw := n
    pa := let ⟨xs, h, p⟩ := o.pa; ⟨xs, s _ _ (fun z => by rw [z, e] at h; cases h) h, paired_mono (fun _ _ z => z.on (SP.kt s e)) p⟩
    tx := s _ _ (fun z => by have h := o.tx; rw [z, e] at h; cases h) o.tx }
/-- apart from all of these -/
structure Apt (H0 : Hp) (l d t tx pa W : Addr) : Prop where
  l : W ≠ l
  d : W ≠ d
  t : W ≠ t
  pa : W ≠ pa
  tx : W ≠ tx
  z : H0 W = none
theorem OS.free {W : Addr} (hW : H W = none) (o : OS K H0 l d t tx L ts Ds Es Fs pa H) : Apt H0 l d t tx pa W := by
  have nl : W ≠ l := fun z => by
    obtain ⟨a, b, c, e, _⟩ := o.lm
    rw [← z, hW] at e
    cases e
  refine ⟨nl, fun z => ?_, fun z => ?_, fun z => ?_, fun z => ?_, ?_⟩
  · obtain ⟨dx, fs, e⟩ := o.dk.new
    rw [← z, hW] at e
    cases e
  · obtain ⟨dx, fs, e⟩ := o.tw.new
    rw [← z, hW] at e
    cases e
  · obtain ⟨xs, e, _⟩ := o.pa
    rw [← z, hW] at e
    cases e
  · have e := o.tx
    rw [← z, hW] at e
    cases e
  · cases e : H0 W with
    | none => rfl
    | some u => have y := o.sb W u nl e; rw [hW] at y; cases y
/-- a list apart is changed -/
theorem OS.upW {W : Addr} {ys : List V} {u : HO} (f : Apt H0 l d t tx pa W) (h : H W = some (.lst ys)) (o : OS K H0 l d t tx L ts Ds Es Fs pa H) : OS K H0 l d t tx L ts Ds Es Fs pa (upd H W u) := by
  have k : KT H (upd H W u) := KT.lst h
  exact { o with
    sb := fun b v n e => by rw [upd_ne (fun z => by rw [z, f.z] at e; cases e)]; exact o.sb b v n e
    lm := let ⟨a, b, c, e, z⟩ := o.lm; ⟨a, b, c, by rw [upd_ne (Ne.symm f.l)]; exact e, z⟩
    dk := let ⟨dx, b, r, e, q, hp, v⟩ := o.dk; ⟨dx, b, r, e, q, by rw [upd_ne (Ne.symm f.d)]; exact hp, v.on k⟩
    tw := let ⟨dx, b, r, e, q, hp, v⟩ := o.tw; ⟨dx, b, r, e, q, by rw [upd_ne (Ne.symm f.t)]; exact hp, v.on k⟩
    pa := let ⟨xs, e, p⟩ := o.pa; ⟨xs, by rw [upd_ne (Ne.symm f.pa)]; exact e, paired_mono (fun _ _ z => z.on k) p⟩
    tx := by rw [upd_ne (Ne.symm f.tx)]; exact o.tx }
/-- another list of the past -/
theorem OS.past {Gs : List Dd} {pb : Addr} {ys : List V} (e : H pb = some (.lst ys)) (p : Paired (fun R y => TS' H y R) (PL L Gs) ys) (o : OS K H0 l d t tx L ts Ds Es Fs pa H) : OS K H0 l d t tx L ts Ds Es Gs pb H := { o with pa := ⟨ys, e, p⟩ }
end
end K1
set_option Elab.async false
set_option linter.all false
set_option maxRecDepth 100000
set_option maxHeartbeats 4000000
/-! A drawn desk led on and back. -/
namespace K1
open PySem PySem.Spec PyProof.Rows L2 StX
open He (ga ma)
abbrev nscOn : List Str := ["loom", "page", "desk", "twin", "past", "texts", "lap", "told", "deed", "due", "is_same", "rows", "own"]
theorem scOn : FnScope nscOn ["loom"] (defScope (top 156)) := ⟨rfl, rfl, rfl, by decide +kernel, rfl, by decide +kernel, by decide +kernel⟩
theorem two_shp {R : List Str} (h : RsOk R) : SeqAt.shaped (.list [.bool true, rowsD R]) = true := by
  unfold SeqAt.shaped
  rw [Bool.and_eq_true]
  constructor
  · simp only [PyData.canLay0, PyData.canLayAll0, can_rows fun r hr => (h.txt r hr).2]
    rfl
  · refine decide_eq_true ?_
    have := dep_rows (R := R)
    simp only [PyData.depth, PyData.depthAll]
    omega
theorem two_eqv {R : List Str} : PyData.eqv (.list [.bool true, rowsD R]) (.list [.bool true, rowsD R]) = true := by
  simp only [PyData.eqv, PyData.eqvAll, eqv_rows]
  simp
theorem fl_rep {v : V} : ∀ n : Nat, (List.replicate n [v]).flatten = List.replicate n v
  | 0 => rfl
  | n + 1 => by rw [List.replicate_succ, List.flatten_cons, fl_rep n]; rfl
theorem rep_dp {K : PySem.W.Frag} {H : Hp} (s : Str) : ∀ n : Nat, DpAll K H (List.replicate n (.str s)) ((List.replicate n s).map PyData.str)
  | 0 => .nil
  | n + 1 => .cons (.str s) (rep_dp s n)
theorem rep_shp {s : Str} {n : Nat} (h : PyData.strOk s = true) : SeqAt.shaped (.list ((List.replicate n s).map PyData.str)) = true := shp_lst (n := 0) (fun a ha => by
  rw [List.eq_of_mem_replicate ha]
  unfold PyData.canLay0
  exact h) (fun a _ => by simp [PyData.depth]) (by decide)
theorem rep_eqv {s : Str} {n : Nat} : PyData.eqv (.list ((List.replicate n s).map PyData.str)) (.list ((List.replicate n s).map PyData.str)) = true := by
  simp only [PyData.eqv]
  rw [eqvAll_map eqv_str]
  exact decide_eq_true rfl
theorem nf_self {K : PySem.W.Frag} {C : Addr} : PySem.W.notFirst K C (.ref C) = true := by unfold PySem.W.notFirst; simp
theorem shw_lit {s : Str} (h : (decide (s.length ≤ 100000) && s.cps.toList.all fun c => decide (c < 0x110000)) = true) : Shw (.str s) := by
  rw [Bool.and_eq_true] at h
  refine shw_str (fun c hc => ?_) (of_decide_eq_true h.1)
  exact of_decide_eq_true (List.all_eq_true.mp h.2 c hc)
theorem shw_done : Shw (.str "done") := shw_lit (by decide +kernel)
theorem shw_bar {R : List Str} {d : Dd} {s : Str} (h : barred R d = some s) : Shw (.str s) := by
  cases d with
  | put n r =>
    have h2 : (if R.length = 20 then some ("full" : Str) else if R.length < n then some "far" else none) = some s := h
    split at h2
    · cases h2; exact shw_lit (by decide +kernel)
    · split at h2
      · cases h2; exact shw_lit (by decide +kernel)
      · cases h2
  | row n r =>
    have h2 : (if R.length ≤ n then some ("none" : Str) else if R[n]? = some r then some "same" else none) = some s := h
    split at h2
    · cases h2; exact shw_lit (by decide +kernel)
    · split at h2
      · cases h2; exact shw_lit (by decide +kernel)
      · cases h2
  | out n =>
    have h2 : (if R.length ≤ n then some ("none" : Str) else none) = some s := h
    split at h2
    · cases h2; exact shw_lit (by decide +kernel)
    · cases h2
theorem join {Iv R : L2.St → Hp → Prop} {G : Prop} (k : ∀ σ H, Iv σ H → R σ H) (main : (∀ σ H, Iv σ H → R σ H) → G) : G := main k
def moreT : List Str := ["tell 7", "in"]
def spOne : Sp := fun vs H Q _ => ∃ l : Addr, vs = [.ref l] ∧ Lm H l ∧ ∀ H', SB l H H' → Q (.bl true) H'
section
variable {P : Program} {w : World} {K : PySem.W.Frag} {mg : Str → Option Value} {base : Heap}
theorem rd_one (G : GF K mg "_law_is_one" "_law_is_one" 156) (B : Bn mg) (D : DkC K mg) (R_init : RdI P w K mg base (spInit K)) (R_eq : RdM P w K mg base CX0 1 "__eq__" ["self", "other"] (spEq K)) (R_undo : RdM P w K mg base CX0 1 "undo" ["self"] (spUndo K))
    (R__law_shed : Rd P w K mg base CX0 1 "_law_shed" ["loom", "ends"] spShed) (R__law_reply : Rd P w K mg base CX0 6 "_law_reply" ["desk", "deed"] (spReply K)) (R__law_turned : Rd P w K mg base CX0 1 "_law_turned" ["rows", "deed"] spTurned) (R__law_woven_deed : Rd P w K mg base CX0 3 "_law_woven_deed" ["loom", "rows", "texts"] spWoven)
    (R__law_page : Rd P w K mg base CX0 4 "_law_page" ["program"] spPage) (R__law_program : Rd P w K mg base CX0 6 "_law_program" ["loom"] spProgram) (R__law_is_like : RdG P w K mg base CX0 1 "_law_is_like" ["told", "due"] (spLike K)) : RdG P w K mg base CX0 7 "_law_is_one" ["loom"] spOne := by
  obtain ⟨fd, F, hm⟩ := G
  obtain ⟨fdI, GI, bI, kbI⟩ := R_init
  obtain ⟨fdE, GE, bE⟩ := R_eq
  obtain ⟨fdU, GU, bU⟩ := R_undo
  refine ⟨_, fd, fnG_of F scOn (fun vs H Q E h => ?_) ?_, hm, F.kp, F.bindsN fun _ _ _ _ _ _ us hl => match us, hl with | [_], _ => rfl⟩
  · obtain ⟨l, rfl, _⟩ := h; rfl
  intro cdv A out s0 H vs Q E hG hr h
  refine' ⟨_, PSs.nox ?p, ?q⟩
  case p =>
    refine' pss_cons (ps_set (i := 1) scOn.nd rfl (Or.inl rfl) (pe_cl R__law_page (hr.mono (by decide)) rfl pass0 (pa_cons (pe_cl R__law_program (hr.mono (by decide)) rfl pass0 (pa_cons (pv 0) pa_nil)) pa_nil))) ?w0
    case w0 =>
    refine' pss_cons (ps_asg (pe_tup (pa_cons (pe_make D.mkr GI (hr.mono (by decide)) rfl D.g bI .nil (passes_call takes0 (fun _ _ _ _ h => h)) (pa_cons (pv 1) pa_nil)) (pa_cons (pe_make D.mkr GI (hr.mono (by decide)) rfl D.g bI .nil (passes_call takes0 (fun _ _ _ _ h => h)) (pa_cons (pv 1) pa_nil)) pa_nil))) (pg_tup rfl (pgs_cons (pg_name (i := 2) scOn.nd rfl (Or.inr rfl)) (pgs_cons (pg_name (i := 3) scOn.nd rfl (Or.inr rfl)) pgs_nil)))) ?w1
    case w1 =>
    refine' pss_cons (ps_par (i := 4) (j := 5) rfl scOn.nd rfl rfl (by decide) rfl rfl (pa_cons (pe_lst (pa_cons (pe_fld (pv 2) rfl) pa_nil)) (pa_cons (pe_op op_cat (pe_callTy call_list_of rfl B.list boot_list (pa_cons (pe_fld (pv 2) rfl) pa_nil)) (pe_lst (pa_cons pe_str (pa_cons pe_str pa_nil)))) pa_nil)) rfl) ?w2
    case w2 =>
    refine' pss_cons (ps_for PassesOwn.never rfl (pi_range1 rfl B.range (pa_cons pe_int pa_nil)) (pg_name (i := 6) scOn.nd rfl (Or.inl rfl))
      (pss_cons (ps_if (pt_cmpR op_eq (pe_cl R__law_shed (hr.mono (by decide)) rfl pass0 (pa_cons (pv 0) (pa_cons pe_int pa_nil))) pe_int (nomark _)) (pss_cons (ps_set (i := 7) scOn.nd rfl (Or.inl rfl) (pe_meth0 (pv 2) D.cl D.undo GU (hr.mono (by decide)) bU .nil pass0)) (pss_cons (ps_if (pt_cmpR op_ne (pv 7) (pe_cmpR op_gt (pe_callB (r := rLen K) call_len_seq rfl B.len boot_len (pa_cons (pv 4) pa_nil)) pe_int (nomark _)) (nomark _)) (pss_one (ps_ret pe_bl)) (pss_nil)) (pss_one (ps_set (i := 4) scOn.nd rfl (Or.inl rfl) (pe_slice sl_list (pv 4) po_none (po_some (pe_op op_sub (pe_callB (r := rLen K) call_len_seq rfl B.len boot_len (pa_cons (pv 4) pa_nil)) (pe_callTy call_int1 rfl B.int boot_int (pa_cons (pv 7) pa_nil))))))))) (pss_cons (ps_set (i := 8) scOn.nd rfl (Or.inl rfl) (pe_cl R__law_woven_deed (hr.mono (by decide)) rfl pass0 (pa_cons (pv 0) (pa_cons (pe_ix (r := rIxL K) ix_list (pv 4) (pe_un un_neg pe_int) (fun _ _ => rfl)) (pa_cons (pv 5) pa_nil))))) (pss_cons (ps_set (i := 9) scOn.nd rfl (Or.inl rfl) (pe_cl R__law_turned (hr.mono (by decide)) rfl pass0 (pa_cons (pe_ix (r := rIxL K) ix_list (pv 4) (pe_un un_neg pe_int) (fun _ _ => rfl)) (pa_cons (pv 8) pa_nil)))) (pss_cons (ps_if (pt_not (pt_val (pe_clG R__law_is_like hG (hr.mono (by decide)) rfl pass0 (pa_cons (pe_cl R__law_reply (hr.mono (by decide)) rfl pass0 (pa_cons (pv 2) (pa_cons (pv 8) pa_nil))) (pa_cons (pe_ifExp (pt_val (pe_callB (r := rIsi K) call_isi rfl B.isinstance boot_isinstance (pa_cons (pv 9) (pa_cons (pe_bltn (v := .ty "tuple") rfl B.tuple (by decide +kernel) rfl) pa_nil)))) pe_str (pv 9)) pa_nil))))) (pss_one (ps_ret pe_bl)) (pss_nil)) (pss_one (ps_set (i := 4) scOn.nd rfl (Or.inl rfl) (pe_op op_cat (pv 4) (pe_ifExp (pt_val (pe_callB (r := rIsi K) call_isi rfl B.isinstance boot_isinstance (pa_cons (pv 9) (pa_cons (pe_bltn (v := .ty "tuple") rfl B.tuple (by decide +kernel) rfl) pa_nil)))) (pe_lst (pa_cons (pv 9) pa_nil)) (pe_lst pa_nil))))))))) (pss_one (ps_if (pt_not (pt_val (pe_clG R__law_is_like hG (hr.mono (by decide)) rfl pass0 (pa_cons (pe_lst (pa_cons (pe_fld (pv 2) rfl) (pa_cons (pe_callB (r := rLen K) call_len_seq rfl B.len boot_len (pa_cons (pe_fld (pv 2) rfl) pa_nil)) pa_nil))) (pa_cons (pe_lst (pa_cons (pe_ix (r := rIxL K) ix_list (pv 4) (pe_un un_neg pe_int) (fun _ _ => rfl)) (pa_cons (pe_op op_sub (pe_callB (r := rLen K) call_len_seq rfl B.len boot_len (pa_cons (pv 4) pa_nil)) pe_int) pa_nil))) pa_nil))))) (pss_one (ps_ret pe_bl)) (pss_nil))))) ?w3
    case w3 =>
    refine' pss_cons (ps_set (i := 10) scOn.nd rfl (Or.inl rfl) (pe_cmpR op_eq (pe_callB (r := rLen K) call_len_seq rfl B.len boot_len (pa_cons (pv 4) pa_nil)) pe_int (nomark _))) ?w4
    case w4 =>
    refine' pss_cons (ps_if (PW.pt (pw_or (pt_cmpR op_ne (pe_cmpR (r := rOwnEq K (cDk K) (spEq K) E0 false) (op_ownEq D.eq GE bE pass0 (hr.mono (by decide))) (pv 2) (pv 3) (nomark _)) (pv 10) (nomark _)) (pw_or1 (pt_cmpR op_eq (pe_cmpR (r := rOwnEq K (cDk K) (spEq K) E0 true) (op_ownNe D.eq GE bE pass0 (hr.mono (by decide))) (pv 2) (pv 3) (nomark _)) (pv 10) (nomark _))))) (pss_one (ps_ret pe_bl)) (pss_nil)) ?w5
    case w5 =>
    refine' pss_cons (ps_if (PW.pt (pw_or (pt_cmpR (op_neD hr.units) (pe_lc (own := [("deed", 8)]) (g := gName 8) (tt := tYes) rfl scOn.nd (pi_tup (pe_fld (pv 2) rfl)) (blkOk_by (N := nscOn) (sc := defScope (top 156)) (by decide +kernel)) (fun _ _ _ _ _ => pg_name (i := 8) scOn.nd rfl (Or.inl rfl)) (fun _ _ _ _ _ => pts_nil) (fun _ _ _ _ _ => (pe_cl R__law_reply (hr.mono (by decide)) rfl pass0 (pa_cons (pv 3) (pa_cons (pv 8) pa_nil))))) (pe_op op_rep (pe_lst (pa_cons pe_str pa_nil)) (pe_op op_sub (pe_callB (r := rLen K) call_len_seq rfl B.len boot_len (pa_cons (pv 4) pa_nil)) pe_int)) (nomark _)) (pw_or1 (pt_not (pt_cmpR (r := rOwnEq K (cDk K) (spEq K) E0 false) (op_ownEq D.eq GE bE pass0 (hr.mono (by decide))) (pv 2) (pv 3) (nomark _)))))) (pss_one (ps_ret pe_bl)) (pss_nil)) ?w6
    case w6 =>
    refine' pss_cons (ps_if (pt_cmpR (r := rOwnEq K (cDk K) (spEq K) E0 true) (op_ownNe D.eq GE bE pass0 (hr.mono (by decide))) (pv 2) (pv 3) (nomark _)) (pss_one (ps_ret pe_bl)) (pss_nil)) ?w7
    case w7 =>
    refine' pss_cons (ps_if (pt_cmpR (r := rNeE K) (op_neE hr.units) (pe_lc (own := [("own", 12)]) (g := gName 12) (tt := _) rfl scOn.nd (pi_tup (pe_tup (pa_cons pe_non (pa_cons (pv 1) (pa_cons (pe_fld (pv 2) rfl) (pa_cons (pe_fld (pv 2) rfl) (pa_cons pe_int (pa_cons (pe_lst (pa_cons (pv 2) pa_nil)) pa_nil)))))))) (blkOk_by (N := nscOn) (sc := defScope (top 156)) (by decide +kernel)) (fun _ _ _ _ _ => pg_name (i := 12) scOn.nd rfl (Or.inl rfl)) (fun _ _ _ _ _ => pts_one (pt_cmpR (r := rOwnEq K (cDk K) (spEq K) E0 false) (op_ownEq D.eq GE bE pass0 (hr.mono (by decide))) (pv 2) (pv 12) (nomark _))) (fun _ _ _ _ _ => (pv 12))) (pe_lst pa_nil) (nomark _)) (pss_one (ps_ret pe_bl)) (pss_nil)) ?w8
    case w8 =>
    refine' pss_cons (ps_for PassesOwn.never rfl (pi_list (pe_revL (pe_slice sl_list (pv 4) po_none (po_some (pe_un un_neg pe_int))))) (pg_name (i := 11) scOn.nd rfl (Or.inl rfl))
      (pss_one (ps_if (pt_cmpR (op_neD hr.units) (pe_lst (pa_cons (pe_meth0 (pv 2) D.cl D.undo GU (hr.mono (by decide)) bU .nil pass0) (pa_cons (pe_fld (pv 2) rfl) pa_nil))) (pe_lst (pa_cons pe_bl (pa_cons (pv 11) pa_nil))) (nomark _)) (pss_one (ps_ret pe_bl)) (pss_nil)))) ?w9
    case w9 =>
    exact pss_one (ps_ret (pe_and (pe_cmpR op_isBl (pe_meth0 (pv 2) D.cl D.undo GU (hr.mono (by decide)) bU .nil pass0) pe_bl (nomark _)) (pe_and (pe_cmpR op_eq (pe_cmpR (r := rOwnEq K (cDk K) (spEq K) E0 false) (op_ownEq D.eq GE bE pass0 (hr.mono (by decide))) (pv 2) (pv 3) (nomark _)) (pv 10) (nomark _)) (pe_one (pe_cmpR (r := rOwnEq K (cDk K) (spEq K) E0 false) (op_ownEq D.eq GE bE pass0 (hr.mono (by decide))) (pv 2) (pe_makeK0 (sp := spInit K) (E := E0) D.mkr GI (hr.mono (by decide)) rfl D.g kbI (passes_call takes0 (fun _ _ _ _ h => h)) (pk_cons (pv 1) pk_nil)) (nomark _))))))

  case q =>
    obtain ⟨l, rfl, lm0, q⟩ := h
    refine ⟨_, rfl, l, rfl, lm0, fun H1 p rs xs sb1 lm1 hp pr rok r4 => ⟨p, rs, xs, rfl, hp, pr, rok, r4, fun H2 ls s2 ll tx => ?_⟩⟩
    have hL : RsOk ls := page_good (by omega) tx
    have sbA : SB l H H2 := fun b o n e => s2 _ _ (sb1 b o n e)
    have lmA : Lm H2 l := let ⟨a, b, c, e, z⟩ := lm1; ⟨a, b, c, s2 _ _ e, z⟩
    clear sb1 lm1 hp pr rok r4 s2 tx ll
    -- the two desks
    refine ⟨_, rfl, fun d dx nd ndx nex => ⟨d, dx, _, rfl, upd_same, mkD_page hL fun H3 sp3 dk3 => ⟨rfl, ?_⟩⟩⟩
    have sB : Same H2 H3 := fun b o e => sp3 b o (ne_of_none e nd) (by rw [upd_ne (ne_of_none e nd), upd_ne (ne_of_none e ndx)]; exact e)
    refine ⟨_, rfl, fun t dy nt ndy ney => ⟨t, dy, _, rfl, upd_same, mkD_page hL fun H4 sp4 tw4 => ⟨rfl, ?_⟩⟩⟩
    have sC : Same H3 H4 := fun b o e => sp4 b o (ne_of_none e nt) (by rw [upd_ne (ne_of_none e nt), upd_ne (ne_of_none e ndy)]; exact e)
    have dk4 := dk3.on sC
    have dlA : d ≠ l := fun z => by
      obtain ⟨a, b, c, e, _⟩ := lmA
      rw [← z, nd] at e
      cases e
    have fdA : H d = none := by
      cases e : H d with
      | none => rfl
      | some o => have y := sbA d o dlA e; rw [nd] at y; cases y
    have nt2 : H2 t = none := sB.free nt
    have tlA : t ≠ l := fun z => by
      obtain ⟨a, b, c, e, _⟩ := lmA
      rw [← z, nt2] at e
      cases e
    have ftA : H t = none := by
      cases e : H t with
      | none => rfl
      | some o => have y := sbA t o tlA e; rw [nt2] at y; cases y
    have ndt : d ≠ t := fun z => by
      obtain ⟨dx, fs, e⟩ := dk3.new
      rw [z, nt] at e
      cases e
    have s24 : Same H2 H4 := sB.trans sC
    have sb4 : SB l H H4 := fun b o n e => s24 _ _ (sbA b o n e)
    have lm4 : Lm H4 l := let ⟨a, b, c, e, z⟩ := lmA; ⟨a, b, c, s24 _ _ e, z⟩
    clear sB sC s24 sp3 sp4 nd ndx nex nt ndy ney nt2 sbA lmA dk3
    refine ⟨sz2, fun t4 ht4 => ⟨t4, _, rfl, .inl (.inl upd_same), rfl, _, _, rfl, _, _, rfl, rfl, ?_⟩⟩
    have s5 := Same.new (o := .tup [.ref d, .ref t]) ht4
    have dk5 := dk4.on s5
    have tw5 := tw4.on s5
    have sb5 : SB l H (upd H4 t4 (.tup [.ref d, .ref t])) := fun b o n e => s5 _ _ (sb4 b o n e)
    have lm5 : Lm (upd H4 t4 (.tup [.ref d, .ref t])) l := let ⟨a, b, c, e, z⟩ := lm4; ⟨a, b, c, s5 _ _ e, z⟩
    generalize upd H4 t4 (.tup [.ref d, .ref t]) = H5 at dk5 tw5 sb5 lm5
    clear dk4 tw4 sb4 lm4 s5 ht4
    -- past, texts
    obtain ⟨dx, b, r, e, u, hi, dv⟩ := id dk5
    obtain ⟨pr, rfl, hpr⟩ := dv.hr
    refine ⟨_, rfl, d, _, dx, _, _, rfl, hi, D.cl, D.n2, lkR, sz1, fun pa hpa => ?_⟩
    have s6 : Same H5 (upd H5 pa (.lst [.ref pr])) := Same.new hpa
    have e6 : upd H5 pa (.lst [.ref pr]) pa = some (.lst [.ref pr]) := upd_same
    generalize upd H5 pa (.lst [.ref pr]) = H6 at s6 e6
    refine ⟨_, rfl, d, _, dx, _, _, rfl, s6 _ _ hi, D.cl, D.n2, lkR, pr, _, rfl, .inr (SqT.of (s6 _ _ hpr)), fun p7 h7 => ?_⟩
    have s7 : Same H6 (upd H6 p7 (.lst (ls.map V.str))) := Same.new h7
    have e7 : upd H6 p7 (.lst (ls.map V.str)) p7 = some (.lst (ls.map V.str)) := upd_same
    generalize upd H6 p7 (.lst (ls.map V.str)) = H7 at s7 e7
    refine ⟨sz2, fun p8 h8 => ⟨p7, p8, ls.map V.str, [.str "tell 7", .str "in"], rfl, rfl, by rw [upd_ne (ne_of_none e7 h8)]; exact e7, upd_same, by rw [sizeLine_eq, List.length_map]; have := hL.len; show ls.length + 2 ≤ _; omega, fun tx htx => ⟨_, _, rfl, ?_⟩⟩⟩
    have e9 : (ls.map V.str ++ [.str "tell 7", .str "in"]) = (ls ++ moreT).map V.str := by simp [moreT]
    rw [e9]
    have s9 : Same H5 (upd (upd H7 p8 (.lst [.str "tell 7", .str "in"])) tx (.lst ((ls ++ moreT).map V.str))) := sameU (sameU (s6.trans s7) h8) htx
    have tok : ∀ z ∈ ls ++ moreT, RT z := fun z hz => by
      rcases List.mem_append.mp hz with hz | hz
      · exact hL.txt z hz
      · rcases List.mem_cons.mp hz with rfl | hz
        · exact tx_of (by decide +kernel)
        · rw [List.mem_singleton.mp hz]
          exact tx_of (by decide +kernel)
    have tsl : (ls ++ moreT).length ≤ 900 := by
      have := hL.len
      rw [List.length_append]
      show ls.length + 2 ≤ 900
      omega
    have ts0 : 0 < (ls ++ moreT).length := by
      rw [List.length_append]
      show 0 < ls.length + 2
      omega
    generalize hts : ls ++ moreT = ts at *
    have eT : upd (upd H7 p8 (.lst [.str "tell 7", .str "in"])) tx (.lst (ts.map V.str)) tx = some (.lst (ts.map V.str)) := upd_same
    have eP : upd (upd H7 p8 (.lst [.str "tell 7", .str "in"])) tx (.lst (ts.map V.str)) pa = some (.lst [.ref pr]) := sameU (sameU s7 h8) htx _ _ e6
    generalize upd (upd H7 p8 (.lst [.str "tell 7", .str "in"])) tx (.lst (ts.map V.str)) = HA at s9 eT eP
    have O : OS K H l d t tx ls ts [] [] [] pa HA := ⟨fun b o n e => s9 _ _ (sb5 b o n e), let ⟨a, b, c, e, z⟩ := lm5; ⟨a, b, c, s9 _ _ e, z⟩, dk5.on s9, tw5.on s9, ⟨_, eP, .cons ⟨pr, rfl, s9 _ _ hpr⟩ .nil⟩, eT, ndt, fdA, ftA, ts0⟩
    clear s6 e6 s7 e7 h8 htx s9 hpr dv hi dk5 tw5 sb5 lm5 hpa h7 eT eP e9
    refine ⟨11, rfl, by decide, by decide, for_range (lo := 0) (n := 11) (fun k σ H' => ∃ (Ds : List Dd) (pa : Addr) (o6 o7 o8 o9 : Option V), σ = [some (.ref l), some (.str (pgf ls)), some (.ref d), some (.ref t), some (.ref pa), some (.ref tx), o6, o7, o8, o9, none, none, none] ∧ OS K H l d t tx ls ts Ds [] Ds pa H' ∧ Vd ls Ds ∧ Ds.length ≤ k)
      ⟨[], pa, _, _, _, _, rfl, O, .nil, Nat.le_refl _⟩ ?_ ?_⟩
    · rintro k σ HB hk ⟨Ds, pa, o6, o7, o8, o9, rfl, O, hv, hD⟩
      refine ⟨_, rfl, l, 3, rfl, by decide, by decide, O.lm, fun j a b c k0 k1 m0 m1 m2 m3 m4 => ?_⟩
      have O := O.loom sb_upd (lm_upd m0 m1 m2 m3 m4)
      generalize upd HB l (.lst [.int a, .int b, .int c]) = HC at O
      clear m0 m1 m2 m3 m4
      refine' join (Iv := fun σ' H' => ∃ (Ds : List Dd) (pa : Addr) (o7 o8 o9 : Option V), σ' = [some (.ref l), some (.str (pgf ls)), some (.ref d), some (.ref t), some (.ref pa), some (.ref tx), some (.int (0 + (k : Int))), o7, o8, o9, none, none, none] ∧ OS K H l d t tx ls ts Ds [] Ds pa H' ∧ Vd ls Ds ∧ Ds.length ≤ k + 1) ?k ?main
      case main =>
        intro key
        refine ⟨rfl, _, rfl, ?_⟩
        by_cases hj : V.int j = V.int 2
        · refine ifT (decide_eq_true hj) ?_
          obtain ⟨dx, b, r, e, u, hi, dv⟩ := id O.dk
          refine ⟨_, rfl, d, dx, _, rfl, hi, lkUn, d, ls, _, Ds, _, rfl, O.dk, hv.oks, st_len Ds, fun h0 H2 s2 => ?_, fun Ps' R' Ds' d' hP hDs H2 s2 dk2 => ?_⟩
          · have O2 := O.same s2
            obtain ⟨xs, hx, px⟩ := O2.pa
            have xl : xs.length = 1 := by rw [← px.length, PL_len, h0]; rfl
            refine ⟨_, rfl, _, rfl, pa, xs, rfl, .inl (SqL.of hx), _, _, rfl, rfl, rfl, _, rfl, ifF (by rw [xl]; decide +kernel) ?_⟩
            refine ⟨_, rfl, _, rfl, pa, xs, rfl, .inl (SqL.of hx), _, rfl, .inr ⟨_, rfl, _, _, rfl, rfl, _, rfl, pa, xs, rfl, SqL.of hx, fun pb hpb => ?_⟩⟩
            have ec : cutV xs none (some ((xs.length : Int) - (if false = true then 1 else 0))) = xs := by
              rw [show (xs.length : Int) - (if false = true then 1 else 0) = ((xs.length : Nat) : Int) by simp, cut_to, List.take_length]
            dsimp only [gName]
            exact key _ _ ⟨Ds, pb, _, _, _, rfl, (O2.same (Same.new hpb)).past (upd_same.trans (by rw [ec])) (paired_mono (fun _ _ z => z.on (KT.new hpb)) px), hv, by omega⟩
          · subst hDs
            rw [st_snoc] at hP
            obtain ⟨hP1, hP2⟩ := List.append_inj' hP rfl
            cases hP1
            cases hP2
            have O2 := O.led s2 dk2
            obtain ⟨xs, hx, px⟩ := O2.pa
            rw [PL_snoc] at px
            obtain ⟨ys, y2, rfl, pa1, pa2⟩ := paired_split px
            obtain ⟨y', _, rfl, hy', pn⟩ := pc_cons pa2
            obtain rfl := pc_nil pn
            have yl : ys.length = Ds'.length + 1 := by rw [← pa1.length, PL_len]
            have xl : (ys ++ [y']).length = Ds'.length + 2 := by rw [List.length_append, yl]; rfl
            refine ⟨_, rfl, _, rfl, pa, _, rfl, .inl (SqL.of hx), _, _, rfl, rfl, rfl, _, rfl, ifF (show (!decide (V.bl true = V.bl (decide ((1 : Int) < ((ys ++ [y']).length : Int))))) = false by rw [decide_eq_true (show (1 : Int) < ((ys ++ [y']).length : Int) by omega)]; decide +kernel) ?_⟩
            refine ⟨_, rfl, _, rfl, pa, _, rfl, .inl (SqL.of hx), _, rfl, .inr ⟨_, rfl, _, _, rfl, rfl, _, rfl, pa, _, rfl, SqL.of hx, fun pb hpb => ?_⟩⟩
            have ec : cutV (ys ++ [y']) none (some (((ys ++ [y']).length : Int) - (if true = true then 1 else 0))) = ys := by
              rw [show ((ys ++ [y']).length : Int) - (if true = true then 1 else 0) = ((ys.length : Nat) : Int) by simp, cut_to, List.take_left]
            dsimp only [gName]
            exact key _ _ ⟨Ds', pb, _, _, _, rfl, (O2.same (Same.new hpb)).past (upd_same.trans (by rw [ec])) (paired_mono (fun _ _ z => z.on (KT.new hpb)) pa1), hv.back.1, by rw [List.length_append] at hD; simp at hD; omega⟩
        · refine ifF (decide_eq_false hj) ?_
          have hR := hv.rows hL
          obtain ⟨xs, hx, px⟩ := O.pa
          obtain ⟨ys, y2, rfl, pa1, pa2⟩ := paired_split px
          obtain ⟨y', _, rfl, hy', pn⟩ := pc_cons pa2
          obtain rfl := pc_nil pn
          refine ⟨_, rfl, _, rfl, _, rfl, pa, _, _, _, rfl, rfl, SqL.of hx, at_neg1, _, rfl, l, y', _, tx, ts, rfl, O.lm, hy', hR.len, O.tx, O.xl, ts0, tsl, tok, fun H2 dv d' sb2 lm2 dd ok => ?_⟩
          have hy2 : TS' H2 y' (st ls Ds).2 := hy'.on (sb2.kt O.lm)
          have hx2 : H2 pa = some (.lst (ys ++ [y'])) := sb2 _ _ O.pl hx
          have O2 := O.loom sb2 lm2
          have xl2 : (ys ++ [y']).length ≤ 100 := by rw [← px.length, PL_len]; omega
          have px2 : Paired (fun R y => TS' H2 y R) (PL ls Ds) (ys ++ [y']) := paired_mono (fun _ _ z => z.on (sb2.kt O.lm)) px
          clear hx px pa1 pa2 pn hy' sb2 lm2 O
          refine ⟨_, rfl, _, rfl, pa, _, _, _, rfl, rfl, SqL.of hx2, at_neg1, _, rfl, y', _, dv, d', rfl, hy2, dd, hR, ok, fun s hs H3 s3 => ?_, fun hs H3 p3 s3 e3 => ?_⟩
          · have O3 := O2.same s3
            refine ⟨_, rfl, _, rfl, d, dv, d', ls, _, Ds, _, rfl, O3.dk, dd.on (KT.same s3), ok, hR.len, by rw [st_len]; omega, by omega, fun z H5 s5 dk5 => absurd (hs.symm.trans z) (by simp), fun s' hs' H4 s4 => ?_⟩
            cases hs.symm.trans hs'
            have O4 := O3.same s4
            have hx4 := s4 _ _ (s3 _ _ hx2)
            refine ⟨_, rfl, _, _, _, _, _, rfl, .ty _, .base (.str s), kit_st K, _, rfl, ifF rfl ⟨_, rfl, .str s, .str s, .str s, rfl, .str s, .str s, shw_bar hs, _, rfl, ifF rfl ?_⟩⟩
            refine ⟨_, rfl, _, rfl, _, _, _, _, _, rfl, .ty _, .base (.str s), kit_st K, _, rfl, ifF rfl ⟨sz0, fun qa hqa => ⟨pa, qa, _, [], rfl, rfl, by rw [upd_ne (ne_of_none hx4 hqa)]; exact hx4, upd_same, by rw [sizeLine_eq]; show (ys ++ [y']).length + 0 ≤ _; have := xl2; omega, fun pb hpb => ?_⟩⟩⟩
            dsimp only [gName]
            have s5 : Same H4 (upd (upd H4 qa (.lst [])) pb (.lst (ys ++ [y'] ++ []))) := sameU (Same.new hqa) hpb
            exact key _ _ ⟨Ds, pb, _, _, _, rfl, (O4.same s5).past (upd_same.trans (by rw [List.append_nil])) (paired_mono (fun _ _ z => z.on ((KT.same (s3.trans s4)).trans (KT.same s5))) px2), hv, by omega⟩
          · have O3 := O2.same s3
            refine ⟨_, rfl, _, rfl, d, dv, d', ls, _, Ds, _, rfl, O3.dk, dd.on (KT.same s3), ok, hR.len, by rw [st_len]; omega, by omega, fun _ H4 s4 dk4 => ?_, fun s' hs' => absurd (hs.symm.trans hs') (by simp)⟩
            obtain ⟨dx, fs, hid⟩ := O3.dk.new
            have k4 := s4.kt hid
            have O4 := O3.led s4 (show DkS K H4 d ls (Ds ++ [d']) by unfold DkS; rw [st_snoc]; exact dk4)
            have e4 := k4 _ _ e3
            have hx4 : H4 pa = some (.lst (ys ++ [y'])) := s4 _ _ (fun z => by rw [z] at hx2; rw [s3 _ _ hx2] at hid; cases hid) (s3 _ _ hx2)
            refine ⟨_, rfl, _, _, _, _, _, rfl, .ty _, .base (.tup e4), kit_tt K, _, rfl, ifTT ⟨.str "done", .str "done", .str "done", rfl, .str _, .str _, shw_done, _, rfl, ifF rfl ?_⟩⟩
            refine ⟨_, rfl, _, rfl, _, _, _, _, _, rfl, .ty _, .base (.tup e4), kit_tt K, _, rfl, ifTT ⟨_, rfl, sz1, fun qa hqa => ⟨pa, qa, _, _, rfl, rfl, by rw [upd_ne (ne_of_none hx4 hqa)]; exact hx4, upd_same, by rw [sizeLine_eq]; show (ys ++ [y']).length + 1 ≤ _; have := xl2; omega, fun pb hpb => ?_⟩⟩⟩
            dsimp only [gName]
            have s5 : Same H4 (upd (upd H4 qa (.lst [.ref p3])) pb (.lst (ys ++ [y'] ++ [.ref p3]))) := sameU (Same.new hqa) hpb
            exact key _ _ ⟨Ds ++ [d'], pb, _, _, _, rfl, (O4.same s5).past upd_same (by rw [PL_snoc]; exact paired_appB (paired_mono (fun _ _ z => z.on (((KT.same s3).trans k4).trans (KT.same s5))) px2) (.cons ⟨p3, rfl, s5 _ _ e4⟩ .nil)), .snoc hv ok hs, by rw [List.length_append, List.length_singleton]; omega⟩
      case k =>
        rintro σ' H' ⟨Ds, pa, o7, o8, o9, rfl, O, hv, hD⟩
        have hR := hv.rows hL
        obtain ⟨dx, b, r, e, u, hi, dv⟩ := id O.dk
        obtain ⟨pe, ds, rfl, he, pds⟩ := dv.he
        obtain ⟨xs, hx, px⟩ := O.pa
        have xl : xs.length = Ds.length + 1 := by rw [← px.length, PL_len]
        have dl : ds.length = Ds.length := pds.length.symm
        obtain ⟨ys, y2, rfl, pa1, pa2⟩ := paired_split px
        obtain ⟨y', _, rfl, hy', pn⟩ := pc_cons pa2
        obtain rfl := pc_nil pn
        refine ⟨_, rfl, d, _, dx, _, _, rfl, hi, D.cl, D.n2, lkR, _, rfl, d, _, dx, _, _, rfl, hi, D.cl, D.n3, lkD, pe, ds, rfl, .inr (SqT.of he), sz2, fun q1 hq1 => ?_⟩
        have s1 : Same H' (upd H' q1 (.lst [r, .int (ds.length : Int)])) := Same.new hq1
        have e1 : upd H' q1 (.lst [r, .int (ds.length : Int)]) q1 = some (.lst [r, .int (ds.length : Int)]) := upd_same
        generalize upd H' q1 (.lst [r, .int (ds.length : Int)]) = H1 at s1 e1
        refine ⟨_, rfl, _, rfl, pa, _, _, _, rfl, rfl, SqL.of (s1 _ _ hx), at_neg1, _, rfl, pa, _, rfl, .inl (SqL.of (s1 _ _ hx)), _, _, rfl, rfl, sz2, fun q2 hq2 => ?_⟩
        have ei : ((ys ++ [y']).length : Int) - 1 = (ds.length : Int) := by omega
        have s2 : Same H1 (upd H1 q2 (.lst [y', .int (((ys ++ [y']).length : Int) - 1)])) := Same.new hq2
        have e2 : upd H1 q2 (.lst [y', .int (((ys ++ [y']).length : Int) - 1)]) q2 = some (.lst [y', .int (ds.length : Int)]) := upd_same.trans (by rw [ei])
        have s12 := s1.trans s2
        refine ⟨.ref q1, .ref q2, .list [rowsD (st ls Ds).2, .int (ds.length : Int)], rfl, .lst (s2 _ _ e1) (.cons (dv.hr.on (KT.same s12)).dq (.cons (.int _) .nil)), .lst e2 (.cons (hy'.on (KT.same s12)).dq (.cons (.int _) .nil)), shw_state hR (by omega), _, rfl, ifF rfl ?_⟩
        exact ⟨Ds, pa, _, _, _, _, rfl, O.same s12, hv, hD⟩
    · rintro σ HB ⟨Ds, pa, o6, o7, o8, o9, rfl, O, hv, hD⟩
      have hR := hv.rows hL
      obtain ⟨xs, hx, px⟩ := O.pa
      have xl : xs.length = Ds.length + 1 := by rw [← px.length, PL_len]
      refine ⟨_, rfl, pa, xs, rfl, .inl (SqL.of hx), rfl, ?_⟩
      have eb : decide (V.int (xs.length : Int) = V.int 1) = decide (Ds = []) := by
        by_cases z : Ds = []
        · rw [decide_eq_true z, decide_eq_true (by rw [xl, z]; rfl)]
        · have := List.length_pos_iff.mpr z
          rw [decide_eq_false z, decide_eq_false (by intro y; injection y with y; omega)]
      rw [eb]
      dsimp only [gName]
      -- desk == twin, desk != twin
      obtain ⟨dx, b, r, e, u, hi, dv⟩ := id O.dk
      refine ⟨_, rfl, _, rfl, d, dx, _, _, rfl, hi, O.tw.ty D, nf_self, ⟨d, ls, _, Ds, _, O.dk, hL, hv.oks, .inr ⟨t, ls, _, [], _, rfl, O.tw, hL, by simp, _, rfl, _, rfl, rfl, _, rfl, ?_⟩⟩⟩
      refine ifF (by rw [decide_eq_true (rfl : ls = ls)]; cases decide (Ds = []) <;> decide +kernel) ?_
      refine ⟨_, rfl, _, rfl, d, dx, _, _, rfl, hi, O.tw.ty D, nf_self, ⟨d, ls, _, Ds, _, O.dk, hL, hv.oks, .inr ⟨t, ls, _, [], _, rfl, O.tw, hL, by simp, _, rfl, _, rfl, rfl, _, rfl, ?_⟩⟩⟩
      refine ifF (by rw [decide_eq_true (rfl : ls = ls)]; cases decide (Ds = []) <;> decide +kernel) ?_
      -- the twin led so
      obtain ⟨pe, ds, rfl, he, pds⟩ := dv.he
      have dl : ds.length = Ds.length := pds.length.symm
      refine ⟨_, rfl, d, _, dx, _, _, rfl, hi, D.cl, D.n3, lkD, pe, rfl, ⟨_, SqT.of he⟩, fun W hW => ?_⟩
      have nWt : t ≠ W := fun z => by
        obtain ⟨dy, fs, y⟩ := O.tw.new
        rw [z, hW] at y
        cases y
      refine lc_tup (K := K) (a := pe) (xs := ds) (fun i H2 => OS K H l d t tx ls ts Ds (Ds.take i) Ds pa H2 ∧ H2 pe = some (.tup ds) ∧ Paired (DdAt H2) Ds ds ∧ H2 W = some (.lst (List.replicate i (.str "done"))))
        ⟨by rw [List.take_zero]; exact O.same (Same.new hW), Same.new hW _ _ he, paired_mono (fun _ _ z => z.on (KT.new hW)) pds, upd_same⟩ (fun i H2 _ z => SqT.of z.2.1) ?_ ?_
      · rintro i x H2 hx2 ⟨O2, he2, pd2, hw2⟩
        obtain ⟨di, hdi, ddi⟩ := paired_backB pd2 hx2
        obtain ⟨oki, bi⟩ := hv.get i di hdi
        have il : i < Ds.length := (List.getElem?_eq_some_iff.mp hdi).1
        have tl : (Ds.take i).length ≤ 11 := by rw [List.length_take]; omega
        refine ⟨rfl, _, rfl, _, rfl, t, x, di, ls, _, Ds.take i, _, rfl, O2.tw, ddi, oki, ((hv.take i).rows hL).len, by rw [st_len]; omega, by omega, fun _ H3 s3 tw3 => ?_, fun s hs => absurd (bi.symm.trans hs) (by simp)⟩
        have O3 : OS K H l d t tx ls ts Ds (Ds.take (i + 1)) Ds pa H3 := O2.ledT s3 (by
          rw [List.take_add_one, hdi]
          show DkS K H3 t ls (Ds.take i ++ [di])
          unfold DkS
          rw [st_snoc]
          exact tw3)
        obtain ⟨dy, fs, y⟩ := O2.tw.new
        have k3 := s3.kt y
        have hw3 := s3 _ _ (Ne.symm nWt) hw2
        refine ⟨_, hw3, by rw [List.length_replicate, sizeLine_eq]; omega, ?_⟩
        have kW : KT H3 (upd H3 W (.lst (List.replicate i (.str "done") ++ [.str "done"]))) := KT.lst hw3
        exact ⟨O3.upW (O.free hW) hw3, kW _ _ (k3 _ _ he2), paired_mono (fun _ _ z => z.on (k3.trans kW)) pd2, upd_same.trans (by rw [List.replicate_succ'])⟩
      rintro H2 ⟨O2, he2, pd2, hw2⟩
      rw [dl] at hw2 O2
      rw [List.take_length] at O2
      obtain ⟨xs2, hx2, px2⟩ := O2.pa
      have xl2 : xs2.length = Ds.length + 1 := by rw [← px2.length, PL_len]
      refine ⟨sz1, fun q1 hq1 => ⟨_, rfl, pa, xs2, rfl, .inl (SqL.of (Same.new hq1 _ _ hx2)), _, _, rfl, rfl, q1, _, [.str "done"], rfl, rfl, upd_same, by show -(2 ^ 63) ≤ (xs2.length : Int) - 1; omega, by show (xs2.length : Int) - 1 < 2 ^ 63; omega, ?_, fun q2 hq2 => ?_⟩⟩
      · rw [sizeLine_eq]
        show 1 * ((xs2.length : Int) - 1).toNat ≤ _
        omega
      have en : ((xs2.length : Int) - 1).toNat = Ds.length := by omega
      rw [en, fl_rep] at *
      have s12 : Same H2 (upd (upd H2 q1 (.lst [.str "done"])) q2 (.lst (List.replicate Ds.length (.str "done")))) := sameU (Same.new hq1) hq2
      have O3 := O2.same s12
      have hw3 := s12 _ _ hw2
      have e3 : upd (upd H2 q1 (.lst [.str "done"])) q2 (.lst (List.replicate Ds.length (.str "done"))) q2 = some (.lst (List.replicate Ds.length (.str "done"))) := upd_same
      generalize upd (upd H2 q1 (.lst [.str "done"])) q2 (.lst (List.replicate Ds.length (.str "done"))) = H3 at O3 hw3 e3
      refine ⟨_, _, Dp.lst (SqL.of hw3) (rep_dp "done" _), Dp.lst (SqL.of e3) (rep_dp "done" _), rep_shp (by decide +kernel), rep_shp (by decide +kernel), _, rfl, ifF (by rw [rep_eqv]; rfl) ?_⟩
      clear s12 hw2 hq1 hq2 px2 xl2 hx2 xs2
      obtain ⟨dx2, b2, r2, e2, u2, hi2, dv2⟩ := id O3.dk
      refine ⟨_, rfl, _, rfl, d, dx2, _, _, rfl, hi2, O3.tw.ty D, nf_self, ⟨d, ls, _, Ds, _, O3.dk, hL, hv.oks, .inr ⟨t, ls, _, Ds, _, rfl, O3.tw, hL, hv.oks, _, rfl, _, rfl, ifF (by rw [decide_eq_true (rfl : ls = ls), decide_eq_true (rfl : Ds = Ds)]; rfl) ?_⟩⟩⟩
      refine ⟨_, rfl, _, rfl, d, dx2, _, _, rfl, hi2, O3.tw.ty D, nf_self, ⟨d, ls, _, Ds, _, O3.dk, hL, hv.oks, .inr ⟨t, ls, _, Ds, _, rfl, O3.tw, hL, hv.oks, _, rfl, _, rfl, ifF (by rw [decide_eq_true (rfl : ls = ls), decide_eq_true (rfl : Ds = Ds)]; rfl) ?_⟩⟩⟩
      -- no other value equals it
      obtain ⟨pe2, ds2, rfl, he2, pds2⟩ := dv2.he
      refine ⟨_, rfl, _, rfl, d, _, dx2, _, _, rfl, hi2, D.cl, D.n2, lkR, _, rfl, d, _, dx2, _, _, rfl, hi2, D.cl, D.n3, lkD, _, rfl, sz1, fun q3 hq3 => ?_⟩
      have s4 : Same H3 (upd H3 q3 (.lst [.ref d])) := Same.new hq3
      have e4 : upd H3 q3 (.lst [.ref d]) q3 = some (.lst [.ref d]) := upd_same
      generalize upd H3 q3 (.lst [.ref d]) = H4 at s4 e4
      refine ⟨small (show 6 ≤ 1000 by decide), fun q5 hq5 => ?_⟩
      have s5 : Same H4 (upd H4 q5 (.tup [.non, .str (pgf ls), r2, .ref pe2, .int 3, .ref q3])) := Same.new hq5
      have e5 : upd H4 q5 (.tup [.non, .str (pgf ls), r2, .ref pe2, .int 3, .ref q3]) q5 = some (.tup [.non, .str (pgf ls), r2, .ref pe2, .int 3, .ref q3]) := upd_same
      generalize upd H4 q5 (.tup [.non, .str (pgf ls), r2, .ref pe2, .int 3, .ref q3]) = H5 at s5 e5
      have s45 := s4.trans s5
      have O5 := O3.same s45
      refine ⟨q5, rfl, ⟨_, SqT.of e5⟩, fun Z hZ => ?_⟩
      have sZ : Same H5 (upd H5 Z (.lst [])) := Same.new hZ
      have OZ := O5.same sZ
      have eZ : upd H5 Z (.lst []) Z = some (.lst []) := upd_same
      have tyZ : ∀ x ∈ [V.non, .str (pgf ls), r2, .ref pe2, .int 3, .ref q3], ∃ s ∈ ["NoneType", "str", "tuple", "int", "list"], TyX K (upd H5 Z (.lst [])) x (.type s) := fun x hx => by
        obtain ⟨pr2, hr2, hpr2⟩ := dv2.hr
        simp only [List.mem_cons, List.not_mem_nil, or_false] at hx
        rcases hx with rfl | rfl | rfl | rfl | rfl | rfl
        · exact ⟨"NoneType", by simp, .base .non⟩
        · exact ⟨"str", by simp, .base (.str _)⟩
        · exact ⟨"tuple", by simp, by rw [hr2]; exact .base (.tup (sZ _ _ (s45 _ _ hpr2)))⟩
        · exact ⟨"tuple", by simp, .base (.tup (sZ _ _ (s45 _ _ he2)))⟩
        · exact ⟨"int", by simp, .base (.int 3)⟩
        · exact ⟨"list", by simp, .base (.lst (sZ _ _ (s5 _ _ e4)))⟩
      have hi5 := sZ _ _ (s45 _ _ hi2)
      have e5Z := sZ _ _ e5
      refine lc_tup (K := K) (a := q5) (xs := [V.non, .str (pgf ls), r2, .ref pe2, .int 3, .ref q3]) (fun i H2 => H2 = upd H5 Z (.lst [])) rfl (fun i H2 _ e => by rw [e]; exact SqT.of e5Z) ?_ ?_
      · rintro i x H2 hx rfl
        obtain ⟨s, hs, ty⟩ := tyZ x (List.mem_of_getElem? hx)
        obtain ⟨k1, k2⟩ := D.tys s hs
        refine ⟨rfl, _, rfl, _, rfl, d, dx2, _, _, rfl, hi5, ty, by unfold PySem.W.notFirst; rw [k2]; simp, ⟨d, ls, _, Ds, _, OZ.dk, hL, hv.oks, .inl ⟨x, _, rfl, ty, k1, _, rfl, _, rfl, ifF rfl rfl⟩⟩⟩
      rintro H2 rfl
      refine ⟨sz0, fun q6 hq6 => ⟨Z, q6, [], rfl, rfl, SqL.of (Same.new hq6 _ _ eZ), SqL.of upd_same, _, rfl, ifF rfl ?_⟩⟩
      have O6 := OZ.same (Same.new (o := .lst []) hq6)
      generalize upd (upd H5 Z (.lst [])) q6 (.lst []) = H6 at O6
      clear s4 e4 hq3 s5 e5 hq5 s45 O5 hZ sZ OZ eZ tyZ hi5 e5Z hq6 hi2 dv2 he2 pds2 O3 hw3 e3 O2 pd2 hi dv pds he hx px xl
      -- led back
      obtain ⟨xs, hx, px⟩ := O6.pa
      unfold PL at px
      obtain ⟨ys, y2, rfl, pa1, pa2⟩ := paired_split px
      obtain ⟨y', _, rfl, hy', pn⟩ := pc_cons pa2
      obtain rfl := pc_nil pn
      refine ⟨_, rfl, _, rfl, _, rfl, pa, _, rfl, SqL.of hx, fun c hc => ⟨c, _, rfl, SqL.of upd_same, fun c2 hc2 => ?_⟩⟩
      rw [cut_butlast, List.dropLast_concat] at hc2 ⊢
      have s7 : Same H6 (upd (upd H6 c (.lst ys)) c2 (.lst ys.reverse)) := sameU (Same.new hc) hc2
      have O7 := O6.same s7
      have e7 : upd (upd H6 c (.lst ys)) c2 (.lst ys.reverse) c2 = some (.lst ys.reverse) := upd_same
      have p7 : Paired (fun R y => TS' (upd (upd H6 c (.lst ys)) c2 (.lst ys.reverse)) y R) (st ls Ds).1.reverse ys.reverse := paired_rev (paired_mono (fun _ _ z => z.on (KT.same s7)) pa1)
      generalize upd (upd H6 c (.lst ys)) c2 (.lst ys.reverse) = H7 at s7 O7 e7 p7
      have rl : ys.reverse.length = Ds.length := by rw [List.length_reverse, ← pa1.length, st_len]
      refine ⟨c2, rfl, ⟨_, SqL.of e7⟩, for_list (K := K) (a := c2) (xs := ys.reverse) (fun i σ H2 => ∃ o11 : Option V, σ = [some (.ref l), some (.str (pgf ls)), some (.ref d), some (.ref t), some (.ref pa), some (.ref tx), o6, o7, o8, o9, some (.bl (decide (Ds = []))), o11, none] ∧ OS K H l d t tx ls ts (Ds.take (Ds.length - i)) Ds Ds pa H2 ∧ H2 c2 = some (.lst ys.reverse) ∧ Paired (fun R y => TS' H2 y R) (st ls Ds).1.reverse ys.reverse)
        ⟨_, rfl, by rw [Nat.sub_zero, List.take_length]; exact O7, e7, p7⟩ (fun i σ H2 _ ⟨_, _, _, z, _⟩ => SqL.of z) ?_ ?_⟩
      · rintro i x σ H2 hx2 ⟨o11, rfl, O2, hc2', p2⟩
        have il : i < Ds.length := by have := (List.getElem?_eq_some_iff.mp hx2).1; omega
        obtain ⟨Rx, hRx, hxR⟩ := paired_backB p2 hx2
        obtain ⟨dx2, b2, r2, e2, u2, hi2, dv2⟩ := id O2.dk
        refine ⟨_, rfl, d, dx2, _, rfl, hi2, lkUn, d, ls, _, Ds.take (Ds.length - i), _, rfl, O2.dk, (hv.take _).oks, st_len _, fun h0 => ?_, fun Ps' R' Ds' d' hP hDs H3 s3 dk3 => ?_⟩
        · exact absurd (congrArg List.length h0) (by rw [List.length_take, List.length_nil]; omega)
        · have hl : Ds'.length + 1 = Ds.length - i := by
            have y := congrArg List.length hDs
            rw [List.length_take, List.length_append, List.length_singleton] at y
            omega
          have eD : Ds.take (Ds.length - (i + 1)) = Ds' := by
            have y : (Ds.take (Ds.length - i)).take Ds'.length = Ds' := by rw [hDs, List.take_left]
            rw [List.take_take, Nat.min_eq_left (by omega)] at y
            rw [show Ds.length - (i + 1) = Ds'.length by omega]
            exact y
          rw [hDs, st_snoc] at hP
          obtain ⟨hP1, hP2⟩ := List.append_inj' hP rfl
          cases hP1
          cases hP2
          have O3 : OS K H l d t tx ls ts (Ds.take (Ds.length - (i + 1))) Ds Ds pa H3 := O2.led s3 (by rw [eD]; exact dk3)
          have eR : Rx = (st ls Ds').2 := by
            rw [List.getElem?_reverse (by rw [st_len]; exact il), st_len, st_get _ _ (by omega)] at hRx
            rw [← Option.some.inj hRx, ← eD, show Ds.length - 1 - i = Ds.length - (i + 1) by omega]
          have k3 := s3.kt hi2
          have hc3 : H3 c2 = some (.lst ys.reverse) := s3 _ _ (fun z => by rw [z, hi2] at hc2'; cases hc2') hc2'
          have p3 : Paired (fun R y => TS' H3 y R) (st ls Ds).1.reverse ys.reverse := paired_mono (fun _ _ z => z.on k3) p2
          have hx3 := hxR.on k3
          have hR3 := (hv.take (Ds.length - (i + 1))).rows hL
          obtain ⟨dx3, b3, r3, e3, u3, hi3, dv3⟩ := id O3.dk
          refine ⟨_, rfl, d, _, dx3, _, _, rfl, hi3, D.cl, D.n2, lkR, sz2, fun q1 hq1 => ?_⟩
          have s4 : Same H3 (upd H3 q1 (.lst [.bl true, r3])) := Same.new hq1
          have e4 : upd H3 q1 (.lst [.bl true, r3]) q1 = some (.lst [.bl true, r3]) := upd_same
          generalize upd H3 q1 (.lst [.bl true, r3]) = H4 at s4 e4
          refine ⟨_, rfl, sz2, fun q2 hq2 => ?_⟩
          have s5 : Same H4 (upd H4 q2 (.lst [.bl true, x])) := Same.new hq2
          have e5 : upd H4 q2 (.lst [.bl true, x]) q2 = some (.lst [.bl true, x]) := upd_same
          generalize upd H4 q2 (.lst [.bl true, x]) = H5 at s5 e5
          have s45 := s4.trans s5
          rw [eR, ← eD] at hx3
          refine ⟨.list [.bool true, rowsD (st ls (Ds.take (Ds.length - (i + 1)))).2], .list [.bool true, rowsD (st ls (Ds.take (Ds.length - (i + 1)))).2], .lst (SqL.of (s5 _ _ e4)) (.cons (.bl true) (.cons (dv3.hr.on (KT.same s45)).dp .nil)), .lst (SqL.of e5) (.cons (.bl true) (.cons (hx3.on (KT.same s45)).dp .nil)), two_shp hR3, two_shp hR3, _, rfl, ifF (by rw [two_eqv]; rfl) ?_⟩
          exact ⟨_, rfl, O3.same s45, s45 _ _ hc3, paired_mono (fun _ _ z => z.on (KT.same s45)) p3⟩
      · rintro σ H2 ⟨o11, rfl, O2, hc2', p2⟩
        rw [rl, Nat.sub_self, List.take_zero] at O2
        obtain ⟨dx2, b2, r2, e2, u2, hi2, dv2⟩ := id O2.dk
        refine ⟨_, rfl, d, dx2, _, rfl, hi2, lkUn, d, ls, _, [], _, rfl, O2.dk, by simp, rfl, fun _ H3 s3 => ?_, fun Ps' R' Ds' d' hP hDs => absurd hDs (by simp)⟩
        have O3 := O2.same s3
        have hi3 := s3 _ _ hi2
        refine ⟨_, _, rfl, rfl, _, rfl, ifT (by decide) ⟨_, rfl, _, rfl, d, dx2, _, _, rfl, hi3, O3.tw.ty D, nf_self, ⟨d, ls, _, [], _, O3.dk, hL, by simp, .inr ⟨t, ls, _, Ds, _, rfl, O3.tw, hL, hv.oks, _, rfl, _, rfl, rfl, _, rfl, ifT ?_ ?_⟩⟩⟩⟩
        · by_cases z : Ds = []
          · rw [z, decide_eq_true (rfl : ls = ls)]
            decide +kernel
          · rw [decide_eq_true (rfl : ls = ls), decide_eq_false (show ¬ ([] = Ds) from fun y => z y.symm), decide_eq_false z]
            decide +kernel
        · refine ⟨_, rfl, _, rfl, rfl, rfl, fun x dx nx ndx nex => ⟨x, dx, _, rfl, upd_same, mkD_page hL fun H5 sp5 dk5 => ⟨rfl, ?_⟩⟩⟩
          have s5 : Same H3 H5 := fun b o e => sp5 b o (ne_of_none e nx) (by rw [upd_ne (ne_of_none e nx), upd_ne (ne_of_none e ndx)]; exact e)
          have O5 := O3.same s5
          refine ⟨d, dx2, _, _, rfl, s5 _ _ hi3, DkAt.ty D dk5, nf_self, ⟨d, ls, _, [], _, O5.dk, hL, by simp, .inr ⟨x, ls, _, [], _, rfl, dk5, hL, by simp, _, rfl, ?_⟩⟩⟩
          have ef : ((decide (ls = ls) && decide (([] : List Dd) = [])) != false) = true := by
            rw [decide_eq_true (rfl : ls = ls)]
            rfl
          rw [ef]
          exact q H5 O5.sb
end
end K1
set_option Elab.async false
set_option linter.all false
set_option maxRecDepth 100000
set_option maxHeartbeats 4000000
/-! Texts by hand: plain. -/
namespace K1
open PySem PySem.Spec PyProof.Rows L2 StX
open He (ga ma)
/-- a text so many times -/
def repS (n : Nat) (s : Str) : Str := ⟨(List.replicate n s.cps).foldl (· ++ ·) #[]⟩
theorem repS_cps (n : Nat) (s : Str) : (repS n s).cps.toList = (List.replicate n s.cps.toList).flatten := by
  have gen : ∀ (n : Nat) (a : Array Nat), ((List.replicate n s.cps).foldl (· ++ ·) a).toList = a.toList ++ (List.replicate n s.cps.toList).flatten := by
    intro n
    induction n with
    | zero => intro a; simp
    | succ n ih =>
      intro a
      rw [List.replicate_succ, List.foldl_cons, ih, List.replicate_succ, List.flatten_cons, Array.toList_append, List.append_assoc]
  unfold repS
  rw [gen]
  simp
theorem repS_len (n : Nat) (s : Str) : (repS n s).length = n * s.length := by
  have h : (repS n s).length = (repS n s).cps.toList.length := by
    show (repS n s).cps.size = _
    rw [Array.length_toList]
  have h2 : s.length = s.cps.toList.length := by
    show s.cps.size = _
    rw [Array.length_toList]
  rw [h, repS_cps, h2]
  simp
theorem repS_ok {n : Nat} {s : Str} {P : Nat → Prop} (h : ∀ c ∈ s.cps.toList, P c) : ∀ c ∈ (repS n s).cps.toList, P c := fun c hc => by
  rw [repS_cps] at hc
  obtain ⟨l, hl, hc⟩ := List.mem_flatten.mp hc
  rw [List.eq_of_mem_replicate hl] at hc
  exact h c hc
theorem pgf_cps : ∀ ls : List Str, (pgf ls).cps.toList = (ls.map fun l => l.cps.toList ++ nlS.cps.toList).flatten := by
  have gen : ∀ (ls : List Str) (a : Str), (ls.foldl (fun a l => a ++ l ++ nlS) a).cps.toList = a.cps.toList ++ (ls.map fun l => l.cps.toList ++ nlS.cps.toList).flatten := by
    intro ls
    induction ls with
    | nil => intro a; simp
    | cons l r ih =>
      intro a
      rw [List.foldl_cons, ih, cps_app, cps_app, List.map_cons, List.flatten_cons]
      simp
  intro ls
  unfold pgf
  rw [gen]
  rfl
theorem xn_pgf (n : Nat) : repS n "x\n" = pgf (List.replicate n "x") := str_ext (by
  rw [repS_cps, pgf_cps, List.map_replicate]
  rw [show ("x\n" : Str).cps.toList = ("x" : Str).cps.toList ++ nlS.cps.toList by decide +kernel])
theorem yx_pgf {s : Str} : ("y\n" : Str) ++ s ++ ("\n" : Str) = pgf ["y", s] := str_ext (by
  rw [pgf_cps, cps_app, cps_app]
  rw [show ("y\n" : Str).cps.toList = ("y" : Str).cps.toList ++ nlS.cps.toList by decide +kernel, show ("\n" : Str).cps.toList = nlS.cps.toList by decide +kernel]
  simp)
theorem x_nn : ∀ c ∈ ("x" : Str).cps.toList, c ≠ 10 ∧ c < 0x110000 := by decide +kernel
theorem noNl_x (n : Nat) : NoNl (repS n "x") := repS_ok x_nn
theorem len_x (n : Nat) : (repS n "x").length = n := by
  rw [repS_len, show ("x" : Str).length = 1 by decide +kernel, Nat.mul_one]
theorem split_one {t : Str} (h : NoNl t) : Txt.split t nlS = [t] := by
  have e : Txt.join nlS [t] = t := by rw [TL.join_eq]; rfl
  have z := TL.split_join (y := nlS) (s := 10) (S := []) (parts := [t]) (by decide +kernel) (by decide +kernel) (by simp) fun p hp => by
    rw [List.mem_singleton.mp hp]
    exact fun m => (h 10 m).1 rfl
  rw [e] at z
  exact z
/-- v is a text of these rows -/
def Mks (v : V) (L : List Str) : Prop := ∀ (K : PySem.W.Frag) (H : Hp) (E : XK) (go : List Str → Prop), go L → MkD K H E v go
theorem mks_page {L : List Str} (h : RsOk L) : Mks (.str (pgf L)) L := fun K H E go g => mkD_page h g
theorem mks_one {t : Str} (h : RT t) (n : t ≠ noS) : Mks (.str t) [t] := fun K H E go g => by
  have r1 : RsOk [t] := ⟨by simp, fun r hr => by rw [List.mem_singleton.mp hr]; exact h⟩
  have er : rowsL [] t = [t] := by unfold rowsL; rw [if_neg n]; rfl
  refine .inr ⟨t, [], t, rfl, split_one h.2, by have := h.1; omega, by simp, ?_, ?_, ?_⟩
  · rw [er]
    intro s hs
    have := (r1.txt s hs).1
    omega
  · rw [er]; exact fun _ => g
  · rw [er, good_of r1]; exact fun z => by cases z
/-- v is none -/
def Bad (K : PySem.W.Frag) (H : Hp) (v : V) : Prop := (∀ (E : XK) (go : List Str → Prop), Rz K H E "InvalidText" "given" v → MkD K H E v go) ∧ ∃ d, Dq K H v d ∧ Shw d
theorem bad_page {K : PySem.W.Frag} {H : Hp} {L : List Str} (h : ∀ l ∈ L, NoNl l) (hl : ∀ l ∈ L, l.length ≤ 4001) (h2 : L.length ≤ 30) (g : goodRows L = false) : Bad K H (.str (pgf L)) := by
  have pl := pgf_len (ls := L) (n := 4001) hl
  have pl2 : L.length * (4001 + 1) ≤ 30 * 4002 := Nat.mul_le_mul_right _ h2
  refine ⟨fun E go rz => .inr ⟨pgf L, L, noS, rfl, split_page h, by omega, by omega, ?_, ?_, ?_⟩, .str (pgf L), .str _, ?_⟩
  · rw [rowsL_no]
    intro s hs
    have := hl s hs
    omega
  · rw [rowsL_no, g]; exact fun z => by cases z
  · rw [rowsL_no]; exact fun _ => rz
  · refine shw_of (by simp [PyData.showable]) (lv_str fun c hc => ?_) ?_ (by simp [PyData.depth])
    · rw [pgf_cps] at hc
      obtain ⟨q, hq, hc⟩ := List.mem_flatten.mp hc
      obtain ⟨l, hm, rfl⟩ := List.mem_map.mp hq
      rcases List.mem_append.mp hc with hc | hc
      · exact (h l hm c hc).2
      · have : ∀ c ∈ nlS.cps.toList, c < 0x110000 := by decide +kernel
        exact this c hc
    · unfold PyData.bulk
      have : (pgf L).length = (pgf L).cps.size := rfl
      omega
theorem bad_one {K : PySem.W.Frag} {H : Hp} {t : Str} (h : NoNl t) (n : t ≠ noS) (l1 : 4000 < t.length) (l2 : t.length ≤ 5000) : Bad K H (.str t) := by
  have er : rowsL [] t = [t] := by unfold rowsL; rw [if_neg n]; rfl
  have g : goodRows [t] = false := by
    unfold goodRows goodRow
    simp only [List.all_cons, List.all_nil]
    rw [decide_eq_false (show ¬ t.length ≤ 4000 by omega)]
    simp
  refine ⟨fun E go rz => .inr ⟨t, [], t, rfl, split_one h, by omega, by simp, ?_, ?_, ?_⟩, .str t, .str _, shw_str (fun c hc => (h c hc).2) (by omega)⟩
  · rw [er]
    intro s hs
    rw [List.mem_singleton.mp hs]
    omega
  · rw [er, g]; exact fun z => by cases z
  · rw [er]; exact fun _ => rz
end K1
set_option Elab.async false
set_option linter.all false
set_option maxRecDepth 100000
set_option maxHeartbeats 4000000
/-! Desks by hand; the law. -/
namespace K1
open PySem PySem.Spec PyProof.Rows L2 StX
open He (ga ma)
def rMulS : R2 := fun x y H Q => ∃ (s : Str) (n : Nat), x = .str s ∧ y = .int n ∧ 2 ≤ n ∧ n ≤ 10000 ∧ 0 < s.length ∧ s.length ≤ 100 ∧ Q (.str (repS n s)) H
theorem op_mulS {X : Cx} : OpR X (binaryOp .Mult) rMulS := by
  intro pins s σ H x y v u Q I rx ry h
  obtain ⟨z, n, rfl, rfl, h1, h2, h3, h4, q⟩ := h
  obtain ⟨t, rfl⟩ := rx
  obtain ⟨t2, rfl⟩ := ry
  have lz : z.length * n ≤ 1000000 := by
    have : z.length * n ≤ 100 * 10000 := Nat.mul_le_mul h4 h2
    omega
  refine PySem.P.mul_str ?_ (fun _ _ => ?_) (fun _ _ => ?_) ?_
  · rw [decide_eq_false (by omega), decide_eq_false (by omega)]
    rfl
  · have : ((2 ^ 63 - 1 : Int) / (n : Int)) ≥ 1000 := by
      have e : (1000 : Int) * (n : Int) ≤ 2 ^ 63 - 1 := by omega
      exact (Int.le_ediv_iff_mul_le (by omega)).mpr e
    omega
  · unfold Builtin.Str.tooLong
    rw [sizeLine_eq, Int.toNat_natCast]
    exact decide_eq_false (by omega)
  · rw [if_neg (by omega), if_neg (by
      have e1 : ((n : Int) == 1) = false := by simp; omega
      have e2 : (z.length == 0) = false := by simp; omega
      rw [e1, e2]
      decide)]
    rw [Int.toNat_natCast]
    have fit : (repS n z).length ≤ 16777216 := by rw [repS_len, Nat.mul_comm]; omega
    refine ⟨?_, .str (repS n z), H, I.tok _, ⟨_, rfl⟩, q⟩
    first
      | exact fit
      | (rw [sizeLine_eq]; exact fit)
      | (unfold Builtin.Str.tooLong; rw [sizeLine_eq]; exact decide_eq_false (by omega))
abbrev nscHa : List Str := ["one", "two", "three", "four", "told", "caught", "odd", "e"]
theorem scHa : FnScope nscHa [] (defScope (top 157)) := ⟨rfl, rfl, rfl, by decide +kernel, rfl, by decide +kernel, by decide +kernel⟩
def spHand : Sp := fun vs H Q _ => vs = [] ∧ ∀ H', Same H H' → Q (.bl true) H'
/-- four desks -/
structure HS (K : PySem.W.Frag) (H0 : Hp) (a b c d : Addr) (Da Db Dd' : List Dd) (H : Hp) : Prop where
  s : Same H0 H
  da : DkS K H a ["x"] Da
  db : DkS K H b ["y"] Db
  dc : DkS K H c ["z"] []
  dd : DkS K H d ["x"] Dd'
  fa : H0 a = none
  fb : H0 b = none
  fd : H0 d = none
  nab : a ≠ b
  nac : a ≠ c
  nad : a ≠ d
  nbc : b ≠ c
  nbd : b ≠ d
  ncd : c ≠ d
theorem HS.same {K : PySem.W.Frag} {H0 H H' : Hp} {a b c d : Addr} {Da Db De : List Dd} (z : Same H H') (h : HS K H0 a b c d Da Db De H) : HS K H0 a b c d Da Db De H' :=
  { h with s := h.s.trans z, da := h.da.on z, db := h.db.on z, dc := h.dc.on z, dd := h.dd.on z }
theorem SP.free0 {H0 H H' : Hp} {p : Addr} (s : Same H0 H) (f : H0 p = none) (z : SP p H H') : Same H0 H' := fun b o e => z b o (ne_of_none e f) (s b o e)
section
variable {K : PySem.W.Frag} {H0 H H' : Hp} {a b c d : Addr} {Da Db De : List Dd}
theorem HS.ledA {D2 : List Dd} (z : SP a H H') (n : DkS K H' a ["x"] D2) (h : HS K H0 a b c d Da Db De H) : HS K H0 a b c d D2 Db De H' := by
  obtain ⟨dx, fs, e⟩ := h.da.new
  exact { h with s := SP.free0 h.s h.fa z, da := n, db := DkAt.ne z e (Ne.symm h.nab) h.db, dc := DkAt.ne z e (Ne.symm h.nac) h.dc, dd := DkAt.ne z e (Ne.symm h.nad) h.dd }
theorem HS.ledB {D2 : List Dd} (z : SP b H H') (n : DkS K H' b ["y"] D2) (h : HS K H0 a b c d Da Db De H) : HS K H0 a b c d Da D2 De H' := by
  obtain ⟨dx, fs, e⟩ := h.db.new
  exact { h with s := SP.free0 h.s h.fb z, da := DkAt.ne z e h.nab h.da, db := n, dc := DkAt.ne z e (Ne.symm h.nbc) h.dc, dd := DkAt.ne z e (Ne.symm h.nbd) h.dd }
theorem HS.ledD {D2 : List Dd} (z : SP d H H') (n : DkS K H' d ["x"] D2) (h : HS K H0 a b c d Da Db De H) : HS K H0 a b c d Da Db D2 H' := by
  obtain ⟨dx, fs, e⟩ := h.dd.new
  exact { h with s := SP.free0 h.s h.fd z, da := DkAt.ne z e h.nad h.da, db := DkAt.ne z e h.nbd h.db, dc := DkAt.ne z e h.ncd h.dc, dd := n }
end
theorem newS {H H' : Hp} {x dx C : Addr} (nx : H x = none) (ndx : H dx = none) (sp : SP x (upd (upd H dx (.own x)) x (.ins C dx [])) H') : Same H H' := fun b o e => sp b o (ne_of_none e nx) (by rw [upd_ne (ne_of_none e nx), upd_ne (ne_of_none e ndx)]; exact e)
theorem rs1 {s : Str} (h : (decide (s.length ≤ 4000) && noNlB s) = true) : RsOk [s] := ⟨by simp, fun r hr => by rw [List.mem_singleton.mp hr]; exact tx_of h⟩
theorem rsx : RsOk ["x"] := rs1 (by decide +kernel)
theorem rsy : RsOk ["y"] := rs1 (by decide +kernel)
theorem rsz : RsOk ["z"] := rs1 (by decide +kernel)
theorem mkx : Mks (.str "x\n") ["x"] := by
  rw [show ("x\n" : Str) = pgf ["x"] by decide +kernel]
  exact mks_page rsx
theorem mky : Mks (.str "y\n") ["y"] := by
  rw [show ("y\n" : Str) = pgf ["y"] by decide +kernel]
  exact mks_page rsy
theorem mkz : Mks (.str "z\n") ["z"] := by
  rw [show ("z\n" : Str) = pgf ["z"] by decide +kernel]
  exact mks_page rsz
theorem mkx0 : Mks (.str "x") ["x"] := mks_one (tx_of (by decide +kernel)) (by decide +kernel)
/-- try: Desk(odd), except InvalidText as e: .. -/
def tryTb (K : PySem.W.Frag) : TS := fun D σ H => tDrop (tMakeAt (ga K "Desk") (spInit K) (WE (wManyN K (fun _ _ _ _ => False) D [(.ref (ga K "InvalidText"), 7, fun a cls d => tAsg (tOp (rI0 fun i j => .int (i + j)) (tVar 5) (tCB (fun xs H Q => (∃ i, xs = [V.int i] ∧ Q (.int i) H) ∨ ∃ k, xs = [V.bl k] ∧ Q (.int (if k = true then 1 else 0)) H) (tCons (tOp rEq (tCB (rReprA K) (tCons (tXf a cls d (ga K "InvalidText") "given" (tVar 7)) tNil)) (tCB (rReprA K) (tCons (tVar 6) tNil))) tNil))) (gName 5))])) (tCons (tVar 6) tNil)) D σ H
theorem bar1 : barred (st ["x"] []).2 (.row 0 "z") = none := by decide +kernel
theorem bar2 : barred (st ["y"] []).2 (.row 0 "z") = none := by decide +kernel
theorem bar3 : barred (st ["x"] []).2 (.put 0 "w") = none := by decide +kernel
theorem bar4 : barred (st ["x"] [.put 0 "w"]).2 (.out 0) = none := by decide +kernel
theorem out1 : (st ["x"] [.row 0 "z"]).2 = (["z"] : List Str) := by decide +kernel
theorem out4 : (st ["x"] [.put 0 "w", .out 0]).2 = (["x"] : List Str) := by decide +kernel
section
variable {P : Program} {w : World} {K : PySem.W.Frag} {mg : Str → Option Value} {base : Heap}
theorem rd_hand (G : GF K mg "_law_by_hand" "_law_by_hand" 157) (B : Bn mg) (Z : SysK K) (D : DkC K mg) (x_InvalidText : XF P K mg "InvalidText" "given") (R_init : RdI P w K mg base (spInit K)) (R_eq : RdM P w K mg base CX0 1 "__eq__" ["self", "other"] (spEq K)) (R__law_reply : Rd P w K mg base CX0 6 "_law_reply" ["desk", "deed"] (spReply K)) : RdG P w K mg base CX0 7 "_law_by_hand" [] spHand := by
  obtain ⟨fd, F, hm⟩ := G
  obtain ⟨fdI, GI, bI, kbI⟩ := R_init
  obtain ⟨fdE, GE, bE⟩ := R_eq
  refine ⟨_, fd, fnG_of F scHa (fun vs H Q E h => ?_) ?_, hm, F.kp, F.bindsN fun _ _ _ _ _ _ us hl => match us, hl with | [], _ => rfl⟩
  · obtain ⟨rfl, _⟩ := h; rfl
  intro cdv A out s0 H vs Q E hG hr h
  have hu := un_of hr
  refine' ⟨_, PSs.nox ?p, ?q⟩
  case p =>
    refine' pss_cons (ps_asg (pe_tup (pa_cons (pe_make D.mkr GI (hr.mono (by decide)) rfl D.g bI .nil (passes_call takes0 (fun _ _ _ _ h => h)) (pa_cons pe_str pa_nil)) (pa_cons (pe_make D.mkr GI (hr.mono (by decide)) rfl D.g bI .nil (passes_call takes0 (fun _ _ _ _ h => h)) (pa_cons pe_str pa_nil)) (pa_cons (pe_make D.mkr GI (hr.mono (by decide)) rfl D.g bI .nil (passes_call takes0 (fun _ _ _ _ h => h)) (pa_cons pe_str pa_nil)) (pa_cons (pe_make D.mkr GI (hr.mono (by decide)) rfl D.g bI .nil (passes_call takes0 (fun _ _ _ _ h => h)) (pa_cons pe_str pa_nil)) pa_nil))))) (pg_tup rfl (pgs_cons (pg_name (i := 0) scHa.nd rfl (Or.inl rfl)) (pgs_cons (pg_name (i := 1) scHa.nd rfl (Or.inl rfl)) (pgs_cons (pg_name (i := 2) scHa.nd rfl (Or.inl rfl)) (pgs_cons (pg_name (i := 3) scHa.nd rfl (Or.inl rfl)) pgs_nil)))))) ?w0
    case w0 =>
    refine' pss_cons (ps_set (i := 4) scHa.nd rfl (Or.inl rfl) (pe_lst (pa_cons (pe_cl R__law_reply (hr.mono (by decide)) rfl pass0 (pa_cons (pv 0) (pa_cons (pe_tup (pa_cons pe_str (pa_cons pe_int (pa_cons pe_str pa_nil)))) pa_nil))) (pa_cons (pe_cl R__law_reply (hr.mono (by decide)) rfl pass0 (pa_cons (pv 1) (pa_cons (pe_tup (pa_cons pe_str (pa_cons pe_int (pa_cons pe_str pa_nil)))) pa_nil))) (pa_cons (pe_cl R__law_reply (hr.mono (by decide)) rfl pass0 (pa_cons (pv 3) (pa_cons (pe_tup (pa_cons pe_str (pa_cons pe_int (pa_cons pe_str pa_nil)))) pa_nil))) pa_nil))))) ?w1
    case w1 =>
    refine' pss_cons (ps_if (PW.pt (pw_or (pt_cmpR (op_neD hr.units) (pe_op op_cat (pv 4) (pe_lst (pa_cons (pe_cl R__law_reply (hr.mono (by decide)) rfl pass0 (pa_cons (pv 3) (pa_cons (pe_tup (pa_cons pe_str (pa_cons pe_int pa_nil))) pa_nil))) pa_nil))) (pe_op op_rep (pe_lst (pa_cons pe_str pa_nil)) pe_int) (nomark _)) (pw_or (pt_cmpR (op_neD hr.units) (pe_fld (pv 0) rfl) (pe_tup (pa_cons pe_str pa_nil)) (nomark _)) (pw_or1 (pt_cmpR (op_neD hr.units) (pe_fld (pv 3) rfl) (pe_tup (pa_cons pe_str pa_nil)) (nomark _)))))) (pss_one (ps_ret pe_bl)) (pss_nil)) ?w2
    case w2 =>
    refine' pss_cons (ps_if (pt_cmpR (op_neD hr.units) (pe_lst (pa_cons (pe_cmpR (r := rOwnEq K (cDk K) (spEq K) E0 false) (op_ownEq D.eq GE bE pass0 (hr.mono (by decide))) (pv 0) (pv 1) (nomark _)) (pa_cons (pe_cmpR (r := rOwnEq K (cDk K) (spEq K) E0 false) (op_ownEq D.eq GE bE pass0 (hr.mono (by decide))) (pv 0) (pv 2) (nomark _)) (pa_cons (pe_cmpR (r := rOwnEq K (cDk K) (spEq K) E0 false) (op_ownEq D.eq GE bE pass0 (hr.mono (by decide))) (pv 1) (pv 2) (nomark _)) (pa_cons (pe_cmpR (r := rOwnEq K (cDk K) (spEq K) E0 false) (op_ownEq D.eq GE bE pass0 (hr.mono (by decide))) (pv 0) (pv 3) (nomark _)) (pa_cons (pe_cmpR (r := rOwnEq K (cDk K) (spEq K) E0 false) (op_ownEq D.eq GE bE pass0 (hr.mono (by decide))) (pv 3) (pe_make D.mkr GI (hr.mono (by decide)) rfl D.g bI .nil (passes_call takes0 (fun _ _ _ _ h => h)) (pa_cons pe_str pa_nil)) (nomark _)) pa_nil)))))) (pe_op op_rep (pe_lst (pa_cons pe_bl pa_nil)) pe_int) (nomark _)) (pss_one (ps_ret pe_bl)) (pss_nil)) ?w3
    case w3 =>
    refine' pss_cons (ps_if (pt_cmpR (r := rOwnEq K (cDk K) (spEq K) E0 true) (op_ownNe D.eq GE bE pass0 (hr.mono (by decide))) (pe_make D.mkr GI (hr.mono (by decide)) rfl D.g bI .nil (passes_call takes0 (fun _ _ _ _ h => h)) (pa_cons pe_str pa_nil)) (pe_make D.mkr GI (hr.mono (by decide)) rfl D.g bI .nil (passes_call takes0 (fun _ _ _ _ h => h)) (pa_cons pe_str pa_nil)) (nomark _)) (pss_one (ps_ret pe_bl)) (pss_nil)) ?w4
    case w4 =>
    refine' pss_cons (ps_set (i := 5) scHa.nd rfl (Or.inl rfl) pe_int) ?w5
    case w5 =>
    refine' pss_cons (ps_for PassesOwn.never rfl (pi_tup (pe_tup (pa_cons pe_non (pa_cons pe_int (pa_cons (pe_lst (pa_cons pe_str pa_nil)) (pa_cons (pe_op op_mulS pe_str pe_int) (pa_cons (pe_op op_mulS pe_str pe_int) (pa_cons (pe_op op_add_str (pe_op op_add_str pe_str (pe_op op_mulS pe_str pe_int)) pe_str) pa_nil)))))))) (pg_name (i := 6) scHa.nd rfl (Or.inl rfl))
      (pss_one (ps_try_manyN rfl rfl scHa.nd takes0 (fun W pn xe tk _ => pss_one (ps_expr (pe_makeAt D.mkr GI (hr.mono (by decide)) rfl D.g bI (fun σ => passAt tk σ) (pa_cons (pv 6) pa_nil)))) (HdsN.cons (i := 7) rfl rfl ⟨rfl, by decide, .inl x_InvalidText.g⟩ (fun a oe cls d pn hz hf => pss_one (ps_set (i := 5) scHa.nd rfl (Or.inl rfl) (pe_op op_add (pv 5) (pe_callTy call_int1 rfl B.int boot_int (pa_cons (pe_cmpR op_eq (pe_callB (r := rReprA K) (cr_reprA hG hu Z) rfl B.repr boot_repr (pa_cons (pe_xf x_InvalidText.fld x_InvalidText.T.no hz hf (pv 7)) pa_nil)) (pe_callB (r := rReprA K) (cr_reprA hG hu Z) rfl B.repr boot_repr (pa_cons (pv 6) pa_nil)) (nomark _)) pa_nil))))) HdsN.nil)))) ?w6
    case w6 =>
    exact pss_one (ps_ret (pe_and (pe_cmpR op_eq (pv 5) pe_int (nomark _)) (pe_and (pe_cmpR op_eq (pe_callB (r := rLen K) call_len_seq rfl B.len boot_len (pa_cons (pe_fld (pe_make D.mkr GI (hr.mono (by decide)) rfl D.g bI .nil (passes_call takes0 (fun _ _ _ _ h => h)) (pa_cons (pe_op op_mulS pe_str pe_int) pa_nil)) rfl) pa_nil)) pe_int (nomark _)) (pe_one (pe_cmpR op_eq (pe_callB call_len_str rfl B.len boot_len (pa_cons (pe_ix (r := rIxT K) ix_tup (pe_fld (pe_make D.mkr GI (hr.mono (by decide)) rfl D.g bI .nil (passes_call takes0 (fun _ _ _ _ h => h)) (pa_cons (pe_op op_mulS pe_str pe_int) pa_nil)) rfl) pe_int (fun _ _ => rfl)) pa_nil)) pe_int (nomark _))))))

  case q =>
    obtain ⟨rfl, q⟩ := h
    refine fun a dx n1 n2 n3 => ⟨a, dx, _, rfl, upd_same, mkx _ _ _ _ fun H1 sp d1 => ⟨rfl, ?_⟩⟩
    have s1 := newS n1 n2 sp
    have fa := n1
    clear n1 n2 n3 sp dx
    refine fun b dx n1 n2 n3 => ⟨b, dx, _, rfl, upd_same, mky _ _ _ _ fun H2 sp d2 => ⟨rfl, ?_⟩⟩
    have s2 := newS n1 n2 sp
    have fb := n1
    clear n1 n2 n3 sp dx
    refine fun c dx n1 n2 n3 => ⟨c, dx, _, rfl, upd_same, mkz _ _ _ _ fun H3 sp d3 => ⟨rfl, ?_⟩⟩
    have s3 := newS n1 n2 sp
    have fc := n1
    clear n1 n2 n3 sp dx
    refine fun d dx n1 n2 n3 => ⟨d, dx, _, rfl, upd_same, mkx _ _ _ _ fun H4 sp d4 => ⟨rfl, ?_⟩⟩
    have s4 := newS n1 n2 sp
    have fd := n1
    clear n1 n2 n3 sp dx
    refine ⟨small (show 4 ≤ 1000 by decide), fun t5 h5 => ?_⟩
    have apart : ∀ {H : Hp} {p r : Addr} {L : List Str} {Ds : List Dd}, DkS K H p L Ds → H r = none → p ≠ r := fun {H p r L Ds} dk f z => by
      obtain ⟨dx, fs, e⟩ := dk.new
      rw [z, f] at e
      cases e
    have S4 : HS K H a b c d [] [] [] H4 := ⟨((s1.trans s2).trans s3).trans s4, ((d1.on s2).on s3).on s4, (d2.on s3).on s4, d3.on s4, d4, fa, s1.free fb, (s1.trans (s2.trans s3)).free fd, apart (L := ["x"]) (Ds := []) d1 fb, apart (L := ["x"]) (Ds := []) (d1.on s2) fc, apart (L := ["x"]) (Ds := []) ((d1.on s2).on s3) fd, apart (L := ["y"]) (Ds := []) d2 fc, apart (L := ["y"]) (Ds := []) (d2.on s3) fd, apart (L := ["z"]) (Ds := []) d3 fd⟩
    refine ⟨t5, _, rfl, .inl (.inl upd_same), rfl, _, _, rfl, _, _, rfl, _, _, rfl, _, _, rfl, rfl, ?_⟩
    have S5 := S4.same (Same.new (o := .tup [.ref a, .ref b, .ref c, .ref d]) h5)
    generalize upd H4 t5 (.tup [.ref a, .ref b, .ref c, .ref d]) = H5 at S5
    clear apart s1 fa d1 s2 fb d2 s3 fc d3 s4 fd d4 S4 h5
    refine ⟨_, rfl, sz3, fun p hp => ?_⟩
    have S6 := S5.same (Same.new (o := .tup [.str "row", .int 0, .str "z"]) hp)
    have ep : upd H5 p (.tup [.str "row", .int 0, .str "z"]) p = some (.tup (Dd.row 0 "z").vals) := upd_same
    generalize upd H5 p (.tup [.str "row", .int 0, .str "z"]) = H6 at S6 ep
    refine ⟨a, .ref p, .row 0 "z", ["x"], _, [], _, rfl, S6.da, ⟨p, rfl, ep⟩, ⟨by decide, rsz.txt _ (by simp)⟩, by decide, by decide, by decide, fun _ H7 sp7 dk7 => ?_, fun r hr => absurd (bar1.symm.trans hr) (by simp)⟩
    have S7 := S6.ledA sp7 (show DkS K H7 a ["x"] [.row 0 "z"] from dk7)
    clear S5 hp S6 ep sp7 dk7
    refine ⟨_, rfl, sz3, fun p hp => ?_⟩
    have S8 := S7.same (Same.new (o := .tup [.str "row", .int 0, .str "z"]) hp)
    have ep : upd H7 p (.tup [.str "row", .int 0, .str "z"]) p = some (.tup (Dd.row 0 "z").vals) := upd_same
    generalize upd H7 p (.tup [.str "row", .int 0, .str "z"]) = H8 at S8 ep
    refine ⟨b, .ref p, .row 0 "z", ["y"], _, [], _, rfl, S8.db, ⟨p, rfl, ep⟩, ⟨by decide, rsz.txt _ (by simp)⟩, by decide, by decide, by decide, fun _ H9 sp9 dk9 => ?_, fun r hr => absurd (bar2.symm.trans hr) (by simp)⟩
    have S9 := S8.ledB sp9 (show DkS K H9 b ["y"] [.row 0 "z"] from dk9)
    clear S7 hp S8 ep sp9 dk9
    refine ⟨_, rfl, sz3, fun p hp => ?_⟩
    have S8 := S9.same (Same.new (o := .tup [.str "put", .int 0, .str "w"]) hp)
    have ep : upd H9 p (.tup [.str "put", .int 0, .str "w"]) p = some (.tup (Dd.put 0 "w").vals) := upd_same
    generalize upd H9 p (.tup [.str "put", .int 0, .str "w"]) = H8 at S8 ep
    refine ⟨d, .ref p, .put 0 "w", ["x"], _, [], _, rfl, S8.dd, ⟨p, rfl, ep⟩, ⟨by decide, tx_of (by decide +kernel)⟩, by decide, by decide, by decide, fun _ H9 sp9 dk9 => ?_, fun r hr => absurd (bar3.symm.trans hr) (by simp)⟩
    have S9 := S8.ledD sp9 (show DkS K H9 d ["x"] [.put 0 "w"] from dk9)
    clear hp S8 ep sp9 dk9
    refine ⟨sz3, fun tl htl => ?_⟩
    have S10 := S9.same (Same.new (o := .lst [.str "done", .str "done", .str "done"]) htl)
    have etl : upd H9 tl (.lst [.str "done", .str "done", .str "done"]) tl = some (.lst [.str "done", .str "done", .str "done"]) := upd_same
    generalize upd H9 tl (.lst [.str "done", .str "done", .str "done"]) = H10 at S10 etl
    clear S9 htl
    -- told + .. != ..
    refine ⟨_, rfl, _, rfl, sz2, fun p hp => ?_⟩
    have S11 := S10.same (Same.new (o := .tup [.str "out", .int 0]) hp)
    have ep : upd H10 p (.tup [.str "out", .int 0]) p = some (.tup (Dd.out 0).vals) := upd_same
    have etl1 : upd H10 p (.tup [.str "out", .int 0]) tl = some (.lst [.str "done", .str "done", .str "done"]) := Same.new hp _ _ etl
    generalize upd H10 p (.tup [.str "out", .int 0]) = H11 at S11 ep etl1
    refine ⟨d, .ref p, .out 0, ["x"], _, [.put 0 "w"], _, rfl, S11.dd, ⟨p, rfl, ep⟩, (show 0 ≤ 1000 by decide), by decide, by decide, by decide, fun _ H12 sp12 dk12 => ?_, fun r hr => absurd (bar4.symm.trans hr) (by simp)⟩
    have S12 := S11.ledD sp12 (show DkS K H12 d ["x"] [.put 0 "w", .out 0] from dk12)
    have etl2 : H12 tl = some (.lst [.str "done", .str "done", .str "done"]) := sp12 _ _ (fun z => by
      obtain ⟨dx, fs, e⟩ := S11.dd.new
      rw [z, e] at etl1
      cases etl1) etl1
    clear hp S11 ep sp12 dk12 S10 etl etl1
    refine ⟨sz1, fun q1 h1 => ⟨tl, q1, [.str "done", .str "done", .str "done"], [.str "done"], rfl, rfl, by rw [upd_ne (ne_of_none etl2 h1)]; exact etl2, upd_same, small (show 4 ≤ 1000 by decide), fun q2 h2 => ⟨sz1, fun q3 h3 => ⟨q3, 4, [.str "done"], rfl, rfl, upd_same, by decide, by decide, small (show 4 ≤ 1000 by decide), fun q4 h4 => ?_⟩⟩⟩⟩
    have s13 : Same H12 (upd (upd (upd (upd H12 q1 (.lst [.str "done"])) q2 (.lst ([.str "done", .str "done", .str "done"] ++ [.str "done"]))) q3 (.lst [.str "done"])) q4 (.lst (List.replicate (4 : Int).toNat [.str "done"]).flatten)) := sameU (sameU (sameU (Same.new h1) h2) h3) h4
    have S13 := S12.same s13
    have e2 : upd (upd (upd (upd H12 q1 (.lst [.str "done"])) q2 (.lst ([.str "done", .str "done", .str "done"] ++ [.str "done"]))) q3 (.lst [.str "done"])) q4 (.lst (List.replicate (4 : Int).toNat [.str "done"]).flatten) q2 = some (.lst (List.replicate 4 (.str "done"))) := (sameU (Same.new h3) h4) _ _ upd_same
    have e4 : upd (upd (upd (upd H12 q1 (.lst [.str "done"])) q2 (.lst ([.str "done", .str "done", .str "done"] ++ [.str "done"]))) q3 (.lst [.str "done"])) q4 (.lst (List.replicate (4 : Int).toNat [.str "done"]).flatten) q4 = some (.lst (List.replicate 4 (.str "done"))) := upd_same
    generalize upd (upd (upd (upd H12 q1 (.lst [.str "done"])) q2 (.lst ([.str "done", .str "done", .str "done"] ++ [.str "done"]))) q3 (.lst [.str "done"])) q4 (.lst (List.replicate (4 : Int).toNat [.str "done"]).flatten) = H13 at s13 S13 e2 e4
    refine ⟨_, _, Dp.lst (SqL.of e2) (rep_dp "done" 4), Dp.lst (SqL.of e4) (rep_dp "done" 4), rep_shp (by decide +kernel), rep_shp (by decide +kernel), _, rfl, ifF (by rw [rep_eqv]; rfl) ?_⟩
    clear s13 e2 e4 h1 h2 h3 h4 etl2 S12
    obtain ⟨dx, rb, rr, re, rq, hi, dv⟩ := id S13.da
    refine ⟨_, rfl, a, _, dx, _, _, rfl, hi, D.cl, D.n2, lkR, sz1, fun q5 h5 => ?_⟩
    have s14 : Same H13 (upd H13 q5 (.tup [.str "z"])) := Same.new h5
    have e5 : TS' (upd H13 q5 (.tup [.str "z"])) (.ref q5) ["z"] := ⟨q5, rfl, upd_same⟩
    have S14 := S13.same s14
    generalize upd H13 q5 (.tup [.str "z"]) = H14 at s14 e5 S14
    have hr14 : TS' H14 rr ["z"] := by
      have y := dv.hr.on (KT.same s14)
      rw [out1] at y
      exact y
    refine ⟨_, _, hr14.dp, e5.dp, shp_rows (fun r hr => (rsz.txt r hr).2), shp_rows (fun r hr => (rsz.txt r hr).2), _, rfl, ifF (by rw [eqv_rows, decide_eq_true rfl]; rfl) ?_⟩
    clear hi dv S13 h5 s14 e5 hr14
    obtain ⟨dx, rb, rr, re, rq, hi, dv⟩ := id S14.dd
    refine ⟨_, rfl, d, _, dx, _, _, rfl, hi, D.cl, D.n2, lkR, sz1, fun q5 h5 => ?_⟩
    have s14 : Same H14 (upd H14 q5 (.tup [.str "x"])) := Same.new h5
    have e5 : TS' (upd H14 q5 (.tup [.str "x"])) (.ref q5) ["x"] := ⟨q5, rfl, upd_same⟩
    have S15 := S14.same s14
    generalize upd H14 q5 (.tup [.str "x"]) = H15 at s14 e5 S15
    have hr14 : TS' H15 rr ["x"] := by
      have y := dv.hr.on (KT.same s14)
      rw [out4] at y
      exact y
    refine ⟨_, _, hr14.dp, e5.dp, shp_rows (fun r hr => (rsx.txt r hr).2), shp_rows (fun r hr => (rsx.txt r hr).2), _, rfl, ifF (by rw [eqv_rows, decide_eq_true rfl]; rfl) ?_⟩
    clear hi dv S14 h5 s14 e5 hr14
    -- the five pairs
    have okA : ∀ x ∈ [Dd.row 0 "z"], x.ok := fun x hx => by rw [List.mem_singleton.mp hx]; exact ⟨by decide, rsz.txt _ (by simp)⟩
    have okD : ∀ x ∈ [Dd.put 0 "w", Dd.out 0], x.ok := fun x hx => by
      rcases List.mem_cons.mp hx with rfl | hx
      · exact ⟨by decide, tx_of (by decide +kernel)⟩
      · rw [List.mem_singleton.mp hx]; exact (show 0 ≤ 1000 by decide)
    have okN : ∀ x ∈ ([] : List Dd), x.ok := by simp
    obtain ⟨ax, af, ai⟩ := S15.da.new
    obtain ⟨bx, bf, bi⟩ := S15.db.new
    refine ⟨_, rfl, _, rfl, a, ax, _, _, rfl, ai, S15.db.ty D, nf_self, ⟨a, ["x"], _, [.row 0 "z"], _, S15.da, rsx, okA, .inr ⟨b, ["y"], _, [.row 0 "z"], _, rfl, S15.db, rsy, okA, _, rfl, ?_⟩⟩⟩
    rw [show ((decide ((["x"] : List Str) = (["y"] : List Str)) && decide (([.row 0 "z"] : List Dd) = [.row 0 "z"])) != false) = false by decide +kernel]
    refine ⟨_, rfl, _, rfl, a, ax, _, _, rfl, ai, S15.dc.ty D, nf_self, ⟨a, ["x"], _, [.row 0 "z"], _, S15.da, rsx, okA, .inr ⟨c, ["z"], _, [], _, rfl, S15.dc, rsz, okN, _, rfl, ?_⟩⟩⟩
    rw [show ((decide ((["x"] : List Str) = (["z"] : List Str)) && decide (([.row 0 "z"] : List Dd) = [])) != false) = false by decide +kernel]
    refine ⟨_, rfl, _, rfl, b, bx, _, _, rfl, bi, S15.dc.ty D, nf_self, ⟨b, ["y"], _, [.row 0 "z"], _, S15.db, rsy, okA, .inr ⟨c, ["z"], _, [], _, rfl, S15.dc, rsz, okN, _, rfl, ?_⟩⟩⟩
    rw [show ((decide ((["y"] : List Str) = (["z"] : List Str)) && decide (([.row 0 "z"] : List Dd) = [])) != false) = false by decide +kernel]
    refine ⟨_, rfl, _, rfl, a, ax, _, _, rfl, ai, S15.dd.ty D, nf_self, ⟨a, ["x"], _, [.row 0 "z"], _, S15.da, rsx, okA, .inr ⟨d, ["x"], _, [.put 0 "w", .out 0], _, rfl, S15.dd, rsx, okD, _, rfl, ?_⟩⟩⟩
    rw [show ((decide ((["x"] : List Str) = (["x"] : List Str)) && decide (([.row 0 "z"] : List Dd) = [.put 0 "w", .out 0])) != false) = false by decide +kernel]
    refine ⟨_, rfl, fun x dx n1 n2 n3 => ⟨x, dx, _, rfl, upd_same, mkx _ _ _ _ fun H16 sp dk => ⟨rfl, ?_⟩⟩⟩
    have s16 := newS n1 n2 sp
    have S16 := S15.same s16
    obtain ⟨ex, ef, ei⟩ := S16.dd.new
    refine ⟨d, ex, _, _, rfl, ei, DkAt.ty (Ds := []) D dk, nf_self, ⟨d, ["x"], _, [.put 0 "w", .out 0], _, S16.dd, rsx, okD, .inr ⟨x, ["x"], _, [], _, rfl, dk, rsx, okN, _, rfl, ?_⟩⟩⟩
    rw [show ((decide ((["x"] : List Str) = (["x"] : List Str)) && decide (([.put 0 "w", .out 0] : List Dd) = [])) != false) = false by decide +kernel]
    refine ⟨small (show 5 ≤ 1000 by decide), fun q1 h1 => ?_⟩
    have s17 : Same H16 (upd H16 q1 (.lst [.bl false, .bl false, .bl false, .bl false, .bl false])) := Same.new h1
    have e1 : upd H16 q1 (.lst [.bl false, .bl false, .bl false, .bl false, .bl false]) q1 = some (.lst [.bl false, .bl false, .bl false, .bl false, .bl false]) := upd_same
    generalize upd H16 q1 (.lst [.bl false, .bl false, .bl false, .bl false, .bl false]) = H17 at s17 e1
    refine ⟨sz1, fun q2 h2 => ⟨q2, 5, [.bl false], rfl, rfl, upd_same, by decide, by decide, small (show 5 ≤ 1000 by decide), fun q3 h3 => ?_⟩⟩
    have s18 : Same H17 (upd (upd H17 q2 (.lst [.bl false])) q3 (.lst (List.replicate (5 : Int).toNat [.bl false]).flatten)) := sameU (Same.new h2) h3
    have e3 : upd (upd H17 q2 (.lst [.bl false])) q3 (.lst (List.replicate (5 : Int).toNat [.bl false]).flatten) q3 = some (.lst [.bl false, .bl false, .bl false, .bl false, .bl false]) := upd_same
    generalize upd (upd H17 q2 (.lst [.bl false])) q3 (.lst (List.replicate (5 : Int).toNat [.bl false]).flatten) = H18 at s18 e3
    have S18 := S16.same (s17.trans s18)
    have fv : DpAll K H18 [.bl false, .bl false, .bl false, .bl false, .bl false] [.bool false, .bool false, .bool false, .bool false, .bool false] := .cons (.bl _) (.cons (.bl _) (.cons (.bl _) (.cons (.bl _) (.cons (.bl _) .nil))))
    refine ⟨_, _, Dp.lst (SqL.of (s18 _ _ e1)) fv, Dp.lst (SqL.of e3) fv, by decide +kernel, by decide +kernel, _, rfl, ifF (by decide +kernel) ?_⟩
    clear fv e3 s18 e1 s17 h1 h2 h3 ei S16 s16 sp dk n1 n2 n3 af ai bf bi S15
    -- Desk('x') != Desk('x..')
    refine fun y dy n1 n2 n3 => ⟨y, dy, _, rfl, upd_same, mkx0 _ _ _ _ fun H19 sp dky => ⟨rfl, ?_⟩⟩
    have s19 := newS n1 n2 sp
    have S19 := S18.same s19
    clear n1 n2 n3 sp S18 s19
    refine fun z dz n1 n2 n3 => ⟨z, dz, _, rfl, upd_same, mkx _ _ _ _ fun H20 sp dkz => ⟨rfl, ?_⟩⟩
    have s20 := newS n1 n2 sp
    have S20 := S19.same s20
    have dky := DkAt.on s20 dky
    obtain ⟨yx, yf, yi⟩ := dky.new
    refine ⟨y, yx, _, _, rfl, yi, DkAt.ty (Ds := []) D dkz, nf_self, ⟨y, ["x"], _, [], _, dky, rsx, okN, .inr ⟨z, ["x"], _, [], _, rfl, dkz, rsx, okN, _, rfl, _, rfl, ifF (by decide +kernel) ?_⟩⟩⟩
    have s0 := S20.s
    clear S20 S19 s20 sp n1 n2 n3 dky dkz yi okA okD
    -- what is no text
    have l2 : ("x\n" : Str).length = 2 := by decide +kernel
    have l1 : ("x" : Str).length = 1 := by decide +kernel
    have ly : ("y\n" : Str).length = 2 := by decide +kernel
    have ln : ("\n" : Str).length = 1 := by decide +kernel
    refine ⟨sz1, fun p5 h5 => ⟨"x\n", 21, rfl, rfl, by decide, by decide, by omega, by omega, "x", 4001, rfl, rfl, by decide, by decide, by omega, by omega, "x", 4001, rfl, rfl, by decide, by decide, by omega, by omega, ?_⟩⟩
    refine ⟨_, _, rfl, rfl, by rw [ly, len_x]; exact lenS (show 4003 ≤ 20000 by decide) (Nat.le_refl _), _, _, rfl, rfl, ?_, small (show 6 ≤ 1000 by decide), fun p6 h6 => ?_⟩
    · have e : (("y\n" : Str) ++ repS 4001 "x").length = 4003 := by rw [Str.length_append, ly, len_x]
      rw [e, ln]
      exact lenS (show 4004 ≤ 20000 by decide) (Nat.le_refl _)
    have eA : (("y\n" : Str) ++ repS 4001 "x" ++ ("\n" : Str)) = pgf ["y", repS 4001 "x"] := yx_pgf
    have eB : repS 21 "x\n" = pgf (List.replicate 21 "x") := xn_pgf 21
    rw [eA, eB]
    have nX := noNl_x 4001
    have lX := len_x 4001
    generalize repS 4001 "x" = X at nX lX
    clear eA eB
    have X0 : X ≠ noS := fun z => by rw [z] at lX; exact absurd lX (by decide +kernel)
    have s5 : Same H20 (upd H20 p5 (.lst [.str "x"])) := Same.new h5
    have e5 : upd H20 p5 (.lst [.str "x"]) p5 = some (.lst [.str "x"]) := upd_same
    generalize upd H20 p5 (.lst [.str "x"]) = H21 at s5 e5 h6
    have s6 : Same H21 (upd H21 p6 (.tup [.non, .int 4, .ref p5, .str (pgf (List.replicate 21 "x")), .str X, .str (pgf ["y", X])])) := Same.new h6
    have e6 : upd H21 p6 (.tup [.non, .int 4, .ref p5, .str (pgf (List.replicate 21 "x")), .str X, .str (pgf ["y", X])]) p6 = some (.tup [.non, .int 4, .ref p5, .str (pgf (List.replicate 21 "x")), .str X, .str (pgf ["y", X])]) := upd_same
    have e5 := s6 _ _ e5
    generalize upd H21 p6 (.tup [.non, .int 4, .ref p5, .str (pgf (List.replicate 21 "x")), .str X, .str (pgf ["y", X])]) = H22 at s6 e6 e5
    have s22 : Same H H22 := s0.trans (s5.trans s6)
    clear s5 s6 h5 h6 s0
    have bad : ∀ x ∈ [V.non, .int 4, .ref p5, .str (pgf (List.replicate 21 "x")), .str X, .str (pgf ["y", X])], ∀ H', Same H22 H' → Bad K H' x := fun x hx H' sx => by
      simp only [List.mem_cons, List.not_mem_nil, or_false] at hx
      rcases hx with rfl | rfl | rfl | rfl | rfl | rfl
      · exact ⟨fun E go rz => .inl ⟨_, .base .non, kit_ty (by decide +kernel), rz⟩, .none, .non, shw_of (by decide +kernel) (by decide +kernel) (by decide +kernel) (by decide +kernel)⟩
      · exact ⟨fun E go rz => .inl ⟨_, .base (.int 4), kit_ty (by decide +kernel), rz⟩, .int 4, .int 4, shw_of (by decide +kernel) (by decide +kernel) (by decide +kernel) (by decide +kernel)⟩
      · exact ⟨fun E go rz => .inl ⟨_, .base (.lst (sx _ _ e5)), kit_ty (by decide +kernel), rz⟩, .list [.str "x"], .lst (sx _ _ e5) (.cons (.str _) .nil), shw_of (by decide +kernel) (by decide +kernel) (by decide +kernel) (by decide +kernel)⟩
      · exact bad_page (fun l hl => by rw [List.eq_of_mem_replicate hl]; exact x_nn) (fun l hl => by rw [List.eq_of_mem_replicate hl]; decide +kernel) (by decide) (by decide +kernel)
      · exact bad_one nX X0 (by omega) (by omega)
      · refine bad_page (fun l hl => ?_) (fun l hl => ?_) (by show 2 ≤ 30; decide) ?_
        · rcases List.mem_cons.mp hl with rfl | hl
          · exact (rsy.txt _ (by simp)).2
          · rw [List.mem_singleton.mp hl]; exact nX
        · rcases List.mem_cons.mp hl with rfl | hl
          · decide +kernel
          · rw [List.mem_singleton.mp hl]; omega
        · unfold goodRows goodRow
          simp only [List.all_cons, List.all_nil]
          rw [decide_eq_false (show ¬ X.length ≤ 4000 by omega)]
          simp
    refine ⟨p6, rfl, ⟨_, SqT.of e6⟩, ?_⟩
    refine for_tup (K := K) (tb := tryTb K) (a := p6) (xs := [V.non, .int 4, .ref p5, .str (pgf (List.replicate 21 "x")), .str X, .str (pgf ["y", X])]) (fun i σ H' => ∃ o6 o7 : Option V, σ = [some (.ref a), some (.ref b), some (.ref c), some (.ref d), some (.ref tl), some (.int (i : Int)), o6, o7] ∧ Same H22 H')
      ⟨none, none, rfl, fun _ _ e => e⟩ (fun i σ H' _ ⟨_, _, _, z⟩ => SqT.of (z _ _ e6)) ?_ ?_
    · rintro i x σ H' hx ⟨o6, o7, rfl, sx⟩
      have bd := bad x (List.mem_of_getElem? hx)
      refine ⟨_, rfl, fun y dy n1 n2 n3 => ⟨y, dy, x, rfl, upd_same, (bad x (List.mem_of_getElem? hx) _ ?_).1 _ _ ?_⟩⟩
      · exact sameU (sameU sx n2) (by rw [upd_ne (Ne.symm n3)]; exact n1)
      · intro H3 dz s3 hdz ez
        have sy : Same H22 H3 := (show Same H22 (upd (upd H' dy (.own y)) y (.ins (ga K "Desk") dy [])) from sameU (sameU sx n2) (by rw [upd_ne (Ne.symm n3)]; exact n1)).trans s3
        obtain ⟨dd, dq, w1, w2, w3⟩ := (bad x (List.mem_of_getElem? hx) H3 sy).2
        have ev : (if decide (V.str dd.shown = V.str dd.shown) = true then (1 : Int) else 0) = 1 := by rw [decide_eq_true rfl]; rfl
        refine ⟨true, x_InvalidText.me, fun _ ea hea => ⟨_, rfl, _, rfl, rfl, rfl, dz, _, _, rfl, ez, rfl, x, dd, rfl, dq, w1, w2, w3, _, rfl, x, dd, rfl, dq, w1, w2, w3, rfl, .inr ⟨_, rfl, _, _, rfl, rfl, some x, none, ?_, sy⟩⟩, fun q => nomatch q⟩
        show [some (V.ref a), some (.ref b), some (.ref c), some (.ref d), some (.ref tl), some (.int ((i : Int) + (if decide (V.str dd.shown = V.str dd.shown) = true then (1 : Int) else 0))), some x, none] = _
        rw [ev]
        rfl
    · rintro σ H' ⟨o6, o7, rfl, sx⟩
      have l2 : ("x\n" : Str).length = 2 := by decide +kernel
      have l1 : ("x" : Str).length = 1 := by decide +kernel
      refine ⟨_, rfl, rfl, _, rfl, ifT (show decide (V.int 6 = V.int 6) = true by decide) ⟨"x\n", 20, rfl, rfl, by decide, by decide, by omega, by omega, ?_⟩⟩
      rw [xn_pgf]
      have r20 : RsOk (List.replicate 20 "x") := ⟨by decide, fun r hr => by rw [List.eq_of_mem_replicate hr]; exact rsx.txt _ (by simp)⟩
      refine fun y dy n1 n2 n3 => ⟨y, dy, _, rfl, upd_same, mks_page r20 _ _ _ _ fun H3 sp dk => ⟨rfl, ?_⟩⟩
      have s3 := newS n1 n2 sp
      obtain ⟨dx, rb, rr, re, rq, hi, dv⟩ := dk
      obtain ⟨pr, rfl, hpr⟩ := dv.hr
      refine ⟨y, _, dx, _, _, rfl, hi, D.cl, D.n2, lkR, pr, _, rfl, .inr (SqT.of hpr), rfl, _, rfl, ifT (show decide (V.int 20 = V.int 20) = true by decide) ⟨"x", 4000, rfl, rfl, by decide, by decide, by omega, by omega, ?_⟩⟩
      have t4 : RT (repS 4000 "x") := ⟨by rw [len_x]; exact Nat.le_refl _, noNl_x 4000⟩
      have lX := len_x 4000
      generalize repS 4000 "x" = X at t4 lX
      have X0 : X ≠ noS := fun z => by rw [z] at lX; exact absurd lX (by decide +kernel)
      refine fun z dz m1 m2 m3 => ⟨z, dz, _, rfl, upd_same, mks_one t4 X0 _ _ _ _ fun H5 sp5 dk5 => ⟨rfl, ?_⟩⟩
      have s5 := newS m1 m2 sp5
      obtain ⟨dx5, rb5, rr5, re5, rq5, hi5, dv5⟩ := dk5
      obtain ⟨pr5, rfl, hpr5⟩ := dv5.hr
      refine ⟨z, _, dx5, _, _, rfl, hi5, D.cl, D.n2, lkR, pr5, _, 0, _, rfl, rfl, SqT.of hpr5, rfl, X, rfl, by rw [lX, sizeLine_eq]; exact (by decide : 4000 ≤ 16777216), rfl, ?_⟩
      rw [lX]
      exact q H5 ((s22.trans sx).trans (s3.trans s5))
end
end K1
set_option Elab.async false
set_option linter.all false
set_option maxRecDepth 100000
set_option maxHeartbeats 4000000
/-! The law, from what the top leaves. -/
namespace K1
open PySem PySem.Spec PyProof.Rows L2 StX
open He (ga ma)
section
variable {X : Cx} {CX : CXT} {n : Nat} {sp : Sp} {E : XK} {x : Str} {p pos : Pos}
theorem pe_clG0 (R : RdG X.prog X.w X.K X.mg X.base CX n x [] sp) (hG : X.A.guards = some []) (hr : Room n X.A) (hg : Gl X x) (hx : Passes CX X E) (hdb : (x == ("__debug__" : Str)) = false := by decide) :
    PE X (.Call (.Name x p) [] [] pos) (tCall sp [] E tNil) := by
  obtain ⟨f, fd, F, hm, hk, hb⟩ := R
  refine ⟨fun pins s σ H Q I h => wpAny_Call_Name_kw (ld_glob I hg hm (PySem.W.callWith_K0 I.kIn hk ?_) hdb)⟩
  have h2 : sp [] H Q E := h
  refine wpAny_call (codeAny_mono (F.go X.A X.stack s H ⟨[], []⟩ [] [] Q E hG hr I.env0 (by simpa using hb s [] I.kIn rfl) .nil h2) fun z s' hq => ?_)
  rcases z with er | _ | _ | _ | u
  · exact hx pins σ H s er s' I hq
  · exact hq.elim
  · exact hq.elim
  · exact hq.elim
  · exact I.after hq
end
section
variable {P : Program} {w : World} {K : PySem.W.Frag} {mg : Str → Option Value} {base : Heap}
theorem sc158 : FnScope ["cells"] ["cells"] (defScope (top 158)) := ⟨rfl, rfl, rfl, by decide +kernel, rfl, by decide +kernel, by decide +kernel⟩
def spLaw (K : PySem.W.Frag) : Sp := fun vs H Q _ => ∃ (a : Addr) (ns : List Int), vs = [.ref a] ∧ SqL K H a (ns.map V.int) ∧ ns.length ≤ 1000 ∧ ∀ H', Q (.bl true) H'
theorem law_ok {fd : FuncData} {f : Addr} (F : FnP K "law" (top 158) f fd) (R__law_by_hand : RdG P w K mg base CX0 7 "_law_by_hand" [] spHand) (R__law_is_one : RdG P w K mg base CX0 7 "_law_is_one" ["loom"] spOne) (R__law_loom : Rd P w K mg base CX0 1 "_law_loom" ["cells", "beam"] (spLoom K)) : FnG P w K mg base CX0 8 f fd ["cells"] (spLaw K) := by
  refine fnG_of F sc158 (fun vs H Q E h => ?_) ?_
  · obtain ⟨a, ns, rfl, _⟩ := h; rfl
  intro cdv A out s H vs Q E hG hr h
  refine' ⟨_, PSs.nox ?p, ?q⟩
  case p => exact pss_one (ps_ret (pe_and (pe_clG0 R__law_by_hand hG (hr.mono (by decide)) rfl pass0) (pe_and (pe_clG R__law_is_one hG (hr.mono (by decide)) rfl pass0 (pa_cons (pe_cl R__law_loom (hr.mono (by decide)) rfl pass0 (pa_cons (pv 0) (pa_cons pe_int pa_nil))) pa_nil)) (pe_one (pe_clG R__law_is_one hG (hr.mono (by decide)) rfl pass0 (pa_cons (pe_cl R__law_loom (hr.mono (by decide)) rfl pass0 (pa_cons (pv 0) (pa_cons pe_int pa_nil))) pa_nil))))))
  case q =>
    obtain ⟨a, ns, rfl, hS, hn, q⟩ := h
    refine ⟨rfl, fun H1 s1 => ⟨_, rfl, ifTT ⟨_, rfl, a, ns, 0, rfl, .inl rfl, s1.seq hS, hn, fun H2 p s2 h2 l2 => ⟨p, rfl, l2, fun H3 k3 => ⟨_, rfl, ifTT ?_⟩⟩⟩⟩⟩
    have s3 : Same H H3 := fun b o e => k3 b o (ne_of_none (s1 b o e) h2) (s2 _ _ (s1 b o e))
    exact ⟨_, rfl, a, ns, 1, rfl, .inr rfl, s3.seq hS, hn, fun H4 p4 s4 h4 l4 => ⟨p4, rfl, l4, fun H5 k5 => q H5⟩⟩
/-- where the text's defs stand -/
structure Tops (K : PySem.W.Frag) (mg : Str → Option Value) : Prop where
  g4 : GF K mg "is_whole" "is_whole" 4
  g5 : GF K mg "is_number" "is_number" 5
  g7 : GF K mg "is_string" "is_string" 7
  g10 : GF K mg "is_word_in" "is_word_in" 10
  g85 : GF K mg "rows_of" "rows_of" 85
  g128 : GF K mg "is_row_text" "is_row_text" 128
  g129 : GF K mg "rows_in" "rows_in" 129
  g130 : GF K mg "is_headed_desks" "is_headed" 130
  g132 : GF K mg "check_deed" "check_deed" 132
  g133 : GF K mg "barred_by" "barred_by" 133
  g134 : GF K mg "rows_behind" "rows_behind" 134
  g137 : GF K mg "_law_loom" "_law_loom" 137
  g138 : GF K mg "_law_shed" "_law_shed" 138
  g139 : GF K mg "_law_among" "_law_among" 139
  g140 : GF K mg "_law_is_like" "_law_is_like" 140
  g141 : GF K mg "_law_parts" "_law_parts" 141
  g142 : GF K mg "_law_places" "_law_places" 142
  g143 : GF K mg "_law_stock" "_law_stock" 143
  g144 : GF K mg "_law_as" "_law_as" 144
  g145 : GF K mg "_law_bound" "_law_bound" 145
  g146 : GF K mg "_law_grown" "_law_grown" 146
  g147 : GF K mg "_law_piece" "_law_piece" 147
  g148 : GF K mg "_law_program" "_law_program" 148
  g149 : GF K mg "_law_is_tight" "_law_is_tight" 149
  g150 : GF K mg "_law_text" "_law_text" 150
  g151 : GF K mg "_law_told" "_law_told" 151
  g152 : GF K mg "_law_page" "_law_page" 152
  g153 : GF K mg "_law_turned" "_law_turned" 153
  g154 : GF K mg "_law_reply" "_law_reply" 154
  g155 : GF K mg "_law_woven_deed" "_law_woven_deed" 155
  g156 : GF K mg "_law_is_one" "_law_is_one" 156
  g157 : GF K mg "_law_by_hand" "_law_by_hand" 157
  m0 : GM K "__init__" "Desk.__init__" 0
  m1 : GM K "__eq__" "Desk.__eq__" 1
  m2 : GM K "do" "Desk.do" 2
  m3 : GM K "undo" "Desk.undo" 3
  B : Bn mg
  gB : mg "bool" = none
theorem law_all {fd : FuncData} {f : Addr} (T : Tops K mg) (N : Cn K w mg) (S : SupOk P mg) (Z : SysK K) (D : DkC K mg) (xB : XF P K mg "Barred" "reason") (xT : XF P K mg "InvalidText" "given") (xD : XF P K mg "InvalidDeed" "index") (F : FnP K "law" (top 158) f fd) : FnG P w K mg base CX0 8 f fd ["cells"] (spLaw K) := by
  have B := T.B
  obtain ⟨dSh, FSh, mSh⟩ := T.g138
  obtain ⟨dAm, FAm, mAm⟩ := T.g139
  obtain ⟨dPa, FPa, mPa⟩ := T.g141
  obtain ⟨dPl, FPl, mPl⟩ := T.g142
  obtain ⟨dSt, FSt, mSt⟩ := T.g143
  obtain ⟨dAs, FAs, mAs⟩ := T.g144
  obtain ⟨dBo, FBo, mBo⟩ := T.g145
  obtain ⟨dGr, FGr, mGr⟩ := T.g146
  obtain ⟨dPi, FPi, mPi⟩ := T.g147
  obtain ⟨dPr, FPr, mPr⟩ := T.g148
  obtain ⟨dTi, FTi, mTi⟩ := T.g149
  obtain ⟨dTx, FTx, mTx⟩ := T.g150
  obtain ⟨dTo, FTo, mTo⟩ := T.g151
  obtain ⟨dPg, FPg, mPg⟩ := T.g152
  obtain ⟨dLo, FLo, mLo⟩ := T.g137
  have KSh : FnOk P w K mg base CX0 1 _ dSh ["loom", "ends"] spShed := ok_shed FSh B.int
  have KAm : FnOk P w K mg base CX0 2 _ dAm ["loom", "things"] (spAmong K) := ok_among FAm FSh mSh B.int B.len
  have KTx : FnOk P w K mg base CX0 3 _ dTx ["tree"] spText := ok_text FTx B FPa mPa FTo mTo FTi mTi
  have KPg : FnOk P w K mg base CX0 4 _ dPg ["program"] spPage := ok_page (fP := 0) (fL := 0) (fT := 0) (fdP := dTx) (fdL := dTx) (fdT := dTx) FPg B FTx mTx KTx
  have KGr : FnOk P w K mg base CX0 4 _ dGr ["loom", "stock", "bag", "fib"] spGrown := ok_grown FGr B FSh mSh FAm mAm FAs mAs FBo mBo
  have KPi : FnOk P w K mg base CX0 5 _ dPi ["loom", "stock", "tops", "sort", "fib"] spPiece := ok_piece FPi B FSh mSh FAm mAm FAs mAs FGr mGr KGr
  have KPl : FnOk P w K mg base CX0 2 _ dPl ["program"] spPlaces := ok_places FPl B FPa mPa
  have KPr : FnOk P w K mg base CX0 6 _ dPr ["loom"] spProgram := ok_program FPr B FSh mSh FSt mSt FPi mPi KPi FPl mPl KPl
  have R_shed : Rd P w K mg base CX0 1 "_law_shed" ["loom", "ends"] spShed := ⟨_, dSh, KSh, mSh, FSh.kp, FSh.bindsN fun _ _ _ _ _ _ us hl => match us, hl with | [_, _], _ => rfl⟩
  have R_among : Rd P w K mg base CX0 2 "_law_among" ["loom", "things"] (spAmong K) := ⟨_, dAm, KAm, mAm, FAm.kp, FAm.bindsN fun _ _ _ _ _ _ us hl => match us, hl with | [_, _], _ => rfl⟩
  have R_page : Rd P w K mg base CX0 4 "_law_page" ["program"] spPage := ⟨_, dPg, KPg, mPg, FPg.kp, FPg.bindsN fun _ _ _ _ _ _ us hl => match us, hl with | [_], _ => rfl⟩
  have R_program : Rd P w K mg base CX0 6 "_law_program" ["loom"] spProgram := ⟨_, dPr, KPr, mPr, FPr.kp, FPr.bindsN fun _ _ _ _ _ _ us hl => match us, hl with | [_], _ => rfl⟩
  have R_loom : Rd P w K mg base CX0 1 "_law_loom" ["cells", "beam"] (spLoom K) := ⟨_, dLo, ok_loom FLo B.int B.abs B.enumerate B.list, mLo, FLo.kp, FLo.bindsN fun _ _ _ _ _ _ us hl => match us, hl with | [_, _], _ => rfl⟩
  have R_str : Rd P w K mg base CX0 1 "is_string" ["value"] (spIsStr K) := rd_is_string T.g7 B
  have R_wh : Rd P w K mg base CX0 1 "is_whole" ["value"] spIsWh := rd_is_whole T.g4 B T.gB
  have R_num : Rd P w K mg base CX0 2 "is_number" ["value"] spIsNum := rd_is_number T.g5 R_wh
  have R_rt : Rd P w K mg base CX0 2 "is_row_text" ["value"] spRowTx := rd_is_row_text T.g128 B N R_str
  have R_ro : Rd P w K mg base CX0 1 "rows_of" ["text"] spRowsOf := rd_rows_of T.g85
  have R_ri : Rd P w K mg base (CX P w) 3 "rows_in" ["text"] (spRowsIn K) := rd_rows_in T.g129 B N S xT R_str R_ro R_rt
  have R_wo : Rd P w K mg base CX0 2 "is_word_in" ["value", "words"] (spWord K) := rd_word T.g10 R_str
  have R_he : Rd P w K mg base CX0 3 "is_headed_desks" ["value"] spHead := rd_head T.g130 B N R_wo
  have R_ch : Rd P w K mg base (CX P w) 4 "check_deed" ["deed"] spCheck := rd_check T.g132 N S xD R_he R_num R_rt
  have R_ba : Rd P w K mg base CX0 1 "barred_by" ["rows", "deed"] spBarred := rd_barred T.g133 B N
  have R_be : Rd P w K mg base CX0 1 "rows_behind" ["rows", "deed"] spBehind := rd_behind T.g134 N
  have R_init : RdI P w K mg base (spInit K) := rd_init T.m0 D R_ri
  have R_eq : RdM P w K mg base CX0 1 "__eq__" ["self", "other"] (spEq K) := rd_eq T.m1 B D
  have R_do : RdM P w K mg base (CX P w) 5 "do" ["self", "deed"] (spDo K) := rd_do T.m2 D S xB R_ch R_ba R_be
  have R_un : RdM P w K mg base CX0 1 "undo" ["self"] (spUndo K) := rd_undo T.m3 D
  have R_re : Rd P w K mg base CX0 6 "_law_reply" ["desk", "deed"] (spReply K) := rd_reply T.g154 D xB xD R_do
  have R_tu : Rd P w K mg base CX0 1 "_law_turned" ["rows", "deed"] spTurned := rd_turned T.g153 B
  have R_wv : Rd P w K mg base CX0 3 "_law_woven_deed" ["loom", "rows", "texts"] spWoven := rd_woven T.g155 B R_shed R_among
  have R_li : RdG P w K mg base CX0 1 "_law_is_like" ["told", "due"] (spLike K) := rd_like T.g140 Z B
  have R_one : RdG P w K mg base CX0 7 "_law_is_one" ["loom"] spOne := rd_one T.g156 B D R_init R_eq R_un R_shed R_re R_tu R_wv R_page R_program R_li
  have R_ha : RdG P w K mg base CX0 7 "_law_by_hand" [] spHand := rd_hand T.g157 B Z D xT R_init R_eq R_re
  exact law_ok F R_ha R_one R_loom
end
end K1
set_option Elab.async false
set_option linter.all false
set_option maxRecDepth 100000
set_option maxHeartbeats 4000000
namespace K1
open PySem PySem.Spec PyProof.Rows L2
open He (ga ba)
/-- the def __init__ of the i-th statement's class -/
def ini (i : Nat) : Stmt := match top i with
  | .ClassDef (body := b) .. => b.getD 0 (.Pass ⟨0, 0, 0, 0⟩)
  | s => s
def Sh1 (st : Stmt) (f : Str) : Prop := ∃ p0 p1 p2 p3 p4 p5 r0 r1 r2 r3 q0 q1, defArgs st = psI q0 [(f, q1)] ∧ defBody st = [supS [.Name f p5] p0 p1 p2 p3 p4, setS f r0 r1 r2 r3] ∧ defScope st = scI [f] ∧ Rev [f] [.Name f p5] p0 p1 p2 p3
theorem sh90 : Sh1 (ini 90) "reason" := ⟨_, _, _, _, _, _, _, _, _, _, _, _, rfl, rfl, rfl, fun _ _ _ _ _ => ⟨_, rfl⟩⟩
theorem sh91 : Sh1 (ini 91) "given" := ⟨_, _, _, _, _, _, _, _, _, _, _, _, rfl, rfl, rfl, fun _ _ _ _ _ => ⟨_, rfl⟩⟩
theorem sh92 : Sh1 (ini 92) "index" := ⟨_, _, _, _, _, _, _, _, _, _, _, _, rfl, rfl, rfl, fun _ _ _ _ _ => ⟨_, rfl⟩⟩
/-! ### what is asked of the written part, as Bools -/
def clsB (K : PySem.W.Frag) (C : Addr) : Bool := match K.lookup C with
  | some ⟨.type "type", _, .cls cd, sl⟩ => (match cd.mro, sl.toList with
    | .ref C' :: bm, [_, _, _, _, some (.builtin n), _] => decide (C' = C) && (decide (n = "Exception.__new__") && (!cd.hasDel && (cd.hasDict && upE bm)))
    | _, _ => false)
  | _ => false
theorem clsB_ok {K : PySem.W.Frag} {C : Addr} (h : clsB K C = true) : ∃ nm q N bs bm sn sub ab col dd k0 k1 k2 k3 k5, K.lookup C = some (excClassObj nm q C N bs bm true sn sub ab col dd k0 k1 k2 k3 k5 "Exception.__new__") ∧ upE bm = true := by
  unfold clsB at h
  split at h
  · rename_i dd cd sl ho
    split at h
    · rename_i C' bm k0 k1 k2 k3 n k5 hm hs
      obtain ⟨h1, h⟩ := ba h
      obtain ⟨h2, h⟩ := ba h
      obtain ⟨h3, h⟩ := ba h
      obtain ⟨h4, h5⟩ := ba h
      have e1 : C' = C := of_decide_eq_true h1
      have e2 : n = "Exception.__new__" := of_decide_eq_true h2
      subst e1 e2
      obtain ⟨nm, bs, mro, N, q, hd, sn, sub, ab, col, del⟩ := cd
      dsimp only at hm h3 h4
      subst hm h4
      have e3 : del = false := by simpa using h3
      subst e3
      obtain ⟨sll⟩ := sl
      dsimp only at hs
      subst hs
      exact ⟨nm, q, N, bs, bm, sn, sub, ab, col, dd, k0, k1, k2, k3, k5, ho, h5⟩
    · cases h
  · cases h
def eqB {α : Type} [DecidableEq α] (a b : α) : Bool := decide (a = b)
theorem eqB_ok {α : Type} [DecidableEq α] {a b : α} (h : eqB a b = true) : a = b := of_decide_eq_true h
def xcB (K : PySem.W.Frag) (C : Addr) : Bool := clsB K C && (eqB (PySem.W.findIn K (.ref C) "__setattr__") (some (some (.builtin "object.__setattr__"))) && (eqB (PySem.W.subIn K (.ref C) (.type "Exception")) (some true) && (eqB (PySem.W.mroIn K C (.ref C)) (some true) &&
  (eqB (PySem.W.ks_superIn K C C "__init__") (some (some (.builtin "Exception.__init__"))) && (eqB (PySem.W.nsIn K cStatics "thirdparty.any") (some none) && PySem.W.keepIn K (.ref C))))))
theorem xcB_ok {K : PySem.W.Frag} {C : Addr} (h : xcB K C = true) : XC K C := by
  obtain ⟨h1, h⟩ := ba h
  obtain ⟨h2, h⟩ := ba h
  obtain ⟨h3, h⟩ := ba h
  obtain ⟨h4, h⟩ := ba h
  obtain ⟨h5, h⟩ := ba h
  obtain ⟨h6, h7⟩ := ba h
  exact ⟨clsB_ok h1, eqB_ok h2, eqB_ok h3, eqB_ok h4, eqB_ok h5, eqB_ok h6, h7⟩
abbrev IniW : Type := Option (Str × Arguments × FuncBody × Scope × Addr × Addr)
def iniW (K : PySem.W.Frag) (n : Str) : IniW := match PySem.W.findIn K (.ref (ga K n)) "__init__" with
  | some (some (.ref f)) => (match K.lookup f with
    | some ⟨_, _, .func fd, _⟩ => some (fd.name, fd.params, fd.body, fd.scope, fd.globals, fd.builtins)
    | _ => none)
  | _ => none
def iniV (st : Stmt) : IniW := some ("__init__", defArgs st, .stmts (defBody st), defScope st, mainGlobals, builtinsNs)
def cdB (P : Program) (K : PySem.W.Frag) (cda : Addr) : Bool := match K.lookup cda with
  | some ⟨_, _, .fields vs, _⟩ => (match (vs[2]? : Option Value) with
    | some (Value.str file _) => (P.main.file : Str) == file
    | _ => false)
  | _ => false
def ceB (K : PySem.W.Frag) (cc C : Addr) : Bool := match K.lookup cc with
  | some ⟨_, _, .cell (some (.ref D)), _⟩ => decide (D = C)
  | _ => false
def iB (P : Program) (K : PySem.W.Frag) (n : Str) : Bool := match PySem.W.findIn K (.ref (ga K n)) "__init__" with
  | some (some (.ref f)) => eqB (PySem.W.typeIn K (.ref f)) (some (.type "function")) && (match K.lookup f with
    | some ⟨_, _, .func fd, _⟩ => (match fd.closure, fd.code, fd.defaults with
      | [(x, cc)], .ref cda, .none => decide (x = "__class__") && (PySem.W.codeIn K (.ref cda) fd.qualname && (cdB P K cda && ceB K cc (ga K n)))
      | _, _, _ => false)
    | _ => false)
  | _ => false
theorem xi_of {P : Program} {K : PySem.W.Frag} {n : Str} {st : Stmt} (e : iniW K n = iniV st) (h : iB P K n = true) (gl : (defScope st).names.lookup ("super" : Str) = some .globalImplicit) (fr : (defScope st).names.lookup ("__class__" : Str) = some .free) (me : (defScope st).names.lookup ("self" : Str) = some .local)
    (first : ∃ p0, ((defArgs st).posonlyargs ++ (defArgs st).args).head? = some { arg := "self", annotation := none, pos := p0 }) (cells : ∀ x ∈ (defScope st).names, x.2 ≠ .cell) (co : (defScope st).isCoroutine = false) (gen : (defScope st).isGenerator = false) (kind : (defScope st).kind = .function) : ∃ f, XI P K (ga K n) f (defArgs st) (defBody st) (defScope st) := by
  unfold iB at h
  unfold iniW at e
  split at h
  · rename_i f hf
    rw [hf] at e
    obtain ⟨h1, h⟩ := ba h
    split at h
    · rename_i oc od fd osl lk
      dsimp only at e
      rw [lk] at e
      dsimp only at e
      split at h
      · rename_i x cc cda hcl hco hde
        obtain ⟨h2, h⟩ := ba h
        obtain ⟨h3, h⟩ := ba h
        obtain ⟨h4, h5⟩ := ba h
        have ex : x = "__class__" := of_decide_eq_true h2
        subst ex
        obtain ⟨n1, n2, n3, n4, n5, n6, n7, n8, n9, n10, n11, n12, n13, n14, n15⟩ := fd
        dsimp only at hcl hco hde h3
        subst hcl hco hde
        have e2 : (some (n1, n3, n4, n5, n6, n15) : IniW) = some (("__init__" : Str), defArgs st, FuncBody.stmts (defBody st), defScope st, mainGlobals, builtinsNs) := e
        simp only [Option.some.injEq, Prod.mk.injEq] at e2
        obtain ⟨q1, q2, q3, q4, q5, q6⟩ := e2
        subst q1 q2 q3 q4 q5 q6
        refine ⟨f, ⟨⟨oc, od, osl, n2, n9, n10, n11, n12, cda, n14, cc, lk, h3, ?_, ?_⟩, hf, eqB_ok h1, gl, fr, me, first, cells, co, gen, kind⟩⟩
        · unfold cdB at h4
          split at h4
          · rename_i ccl cdd vs ccs lc
            split at h4
            · rename_i file tf hv
              exact ⟨ccl, cdd, vs, ccs, file, tf, lc, hv, h4⟩
            · cases h4
          · cases h4
        · unfold ceB at h5
          split at h5
          · rename_i cl cld D csl lc
            have eD : D = ga K n := of_decide_eq_true h5
            subst eD
            exact ⟨cl, cld, csl, lc⟩
          · cases h5
      · cases h
    · cases h
  · cases h
theorem x1_of {P : Program} {K : PySem.W.Frag} {n f : Str} {st : Stmt} (e : iniW K n = iniV st) (h : iB P K n = true) (c : xcB K (ga K n) = true) (no : eqB (PySem.W.findIn K (.ref (ga K n)) f) (some none) = true) (s : Sh1 st f) (hl : (scI [f]).names.all (fun x => match x.2 with | .cell => false | _ => true) = true) (gl : (scI [f]).names.lookup ("super" : Str) = some .globalImplicit) (fr : (scI [f]).names.lookup ("__class__" : Str) = some .free) : X1 P K (ga K n) f := by
  obtain ⟨p0, p1, p2, p3, p4, p5, r0, r1, r2, r3, q0, q1, e1, e2, e3, rv⟩ := s
  obtain ⟨fI, I⟩ := xi_of e h (by rw [e3]; exact gl) (by rw [e3]; exact fr) (by rw [e3]; rfl) ⟨q0, by rw [e1]; rfl⟩ (fun x hx => by
    rw [e3] at hx
    have z := List.all_eq_true.mp hl x hx
    intro y
    rw [y] at z
    cases z) (by rw [e3]; rfl) (by rw [e3]; rfl) (by rw [e3]; rfl)
  rw [e1, e2, e3] at I
  exact ⟨xcB_ok c, ⟨fI, p0, p1, p2, p3, p4, p5, r0, r1, r2, r3, q0, q1, I, rv⟩, eqB_ok no⟩
/-- all of an own exception class, as a Bool -/
def xfullB (P : Program) (K : PySem.W.Frag) (n f : Str) : Bool := iB P K n && (xcB K (ga K n) && (eqB (PySem.W.findIn K (.ref (ga K n)) f) (some none) && (PySem.W.keepIn K (.ref (ga K n)) && (eqB (PySem.W.subIn K (.ref (ga K n)) (.type "BaseException")) (some true) && (eqB (PySem.W.typeIn K (.ref (ga K n))) (some (.type "type")) && (xfB K (ga K n) && eqB (PySem.W.exmOne K (.ref (ga K n)) (.ref (ga K n))) (some true)))))))
theorem xfull_ok {P : Program} {K : PySem.W.Frag} {mg : Str → Option Value} {n f : Str} {st : Stmt} (g : mg n = some (.ref (ga K n))) (e : iniW K n = iniV st) (h : xfullB P K n f = true) (s : Sh1 st f) (hl : (scI [f]).names.all (fun x => match x.2 with | .cell => false | _ => true) = true) (gl : (scI [f]).names.lookup ("super" : Str) = some .globalImplicit) (fr : (scI [f]).names.lookup ("__class__" : Str) = some .free) : XF P K mg n f := by
  obtain ⟨h1, h⟩ := ba h
  obtain ⟨h2, h⟩ := ba h
  obtain ⟨h3, h⟩ := ba h
  obtain ⟨h4, h⟩ := ba h
  obtain ⟨h5, h⟩ := ba h
  obtain ⟨h6, h⟩ := ba h
  obtain ⟨h7, h8⟩ := ba h
  exact ⟨g, x1_of e h1 h2 h3 s hl gl fr, h4, eqB_ok h5, eqB_ok h6, xfB_ok h7, eqB_ok h8⟩
/-- all of the class Desk -/
def dkB (K : PySem.W.Frag) : Bool := eqB (PySem.W.findIn K (.ref (ga K "Desk")) "__eq__") (some (some (.ref (He.ma K (ga K "Desk") "__eq__")))) && (eqB (PySem.W.findIn K (.ref (ga K "Desk")) "__ne__") (some (some (.builtin "object.__ne__"))) && (eqB (PySem.W.mroIn K (ga K "Desk") (.type "object")) (some true) && (PySem.W.isFn K (.ref (He.ma K (ga K "Desk") "__eq__")) &&
  (eqB (PySem.W.findIn K (.ref (ga K "Desk")) "__class__") (some (some (.builtin "object.__class__"))) && (eqB (PySem.W.specialIn K (.builtin "object.__class__") "__get__") (some (some (.builtin "getset_descriptor.__get__"))) && (eqB (PySem.W.takesIn K (.builtin "object.__class__")) (some true) && (eqB (PySem.W.kitOne K (.ref (ga K "Desk")) (.ref (ga K "Desk"))) (some true) && (eqB (PySem.W.kitOne K (.ref (ga K "Desk")) (.type "str")) (some false) &&
  (["NoneType", "str", "tuple", "int", "list"] : List String).all fun s => eqB (PySem.W.kitOne K (.type s) (.ref (ga K "Desk"))) (some false) && eqB (PySem.W.subIn K (.type s) (.ref (ga K "Desk"))) (some false)))))))))
/-- a dict of texts -/
def kdB (w : World) (K : PySem.W.Frag) (a : Addr) (kvs : List (Str × Int)) : Prop := ∀ q ∈ kvs, KDct K w a q.1 (.int q.2)
end K1
set_option Elab.async false
set_option linter.all false
set_option maxRecDepth 100000
set_option maxHeartbeats 0
/-! What is asked of the written part: one Hook. -/
namespace K1
open PySem PySem.Spec PyProof.Rows L2 StX
open He (ga ma ba)
abbrev Pr : Program := PySem.Challenge.rw_flowtongue_k11_desks_led_back_and_equal.prog
def inits : List (Str × Nat) := [("Barred", 90), ("InvalidText", 91), ("InvalidDeed", 92)]
def fa : List He.Fa := [.glo "is_whole", .glo "is_number", .glo "is_string", .glo "is_word_in", .glo "rows_of", .glo "is_row_text", .glo "rows_in", .glo "is_headed_desks", .glo "check_deed", .glo "barred_by", .glo "rows_behind", .glo "_law_loom", .glo "_law_shed", .glo "_law_among", .glo "_law_is_like", .glo "_law_parts", .glo "_law_places", .glo "_law_stock", .glo "_law_as", .glo "_law_bound", .glo "_law_grown", .glo "_law_piece", .glo "_law_program", .glo "_law_is_tight", .glo "_law_text", .glo "_law_told", .glo "_law_page", .glo "_law_turned", .glo "_law_reply", .glo "_law_woven_deed", .glo "_law_is_one", .glo "_law_by_hand", .glo "law", .glo "Desk", .glo "DEEDS", .glo "SIZES", .glo "Barred", .glo "InvalidText", .glo "InvalidDeed", .free "len", .free "int", .free "str", .free "list", .free "tuple", .free "range", .free "zip", .free "enumerate", .free "isinstance", .free "abs", .free "all", .free "repr", .free "bool", .free "super", .int "MOST_ROWS" 20, .int "MOST_SIGNS" 4000, .str "PUT" "put", .str "ROW" "row", .str "OUT" "out", .cls "Desk", .noat "Desk" "begun", .noat "Desk" "rows", .noat "Desk" "deeds", .noat "Desk" "past", .mkr "Desk", .meth "Desk" "do", .meth "Desk" "undo"]
def dD (g x : Str) (i : Nat) : He.DefD := ⟨(g, none), x, x, defArgs (top i), defBody (top i), defScope (top i), [], []⟩
def dM (m : Str) (j : Nat) : He.DefD := ⟨("Desk", some m), m, "Desk." ++ m, defArgs (mth j), defBody (mth j), defScope (mth j), [], []⟩
def fn : List He.DefD := [dD "is_whole" "is_whole" 4, dD "is_number" "is_number" 5, dD "is_string" "is_string" 7, dD "is_word_in" "is_word_in" 10, dD "rows_of" "rows_of" 85, dD "is_row_text" "is_row_text" 128, dD "rows_in" "rows_in" 129, dD "is_headed_desks" "is_headed" 130, dD "check_deed" "check_deed" 132, dD "barred_by" "barred_by" 133, dD "rows_behind" "rows_behind" 134, dD "_law_loom" "_law_loom" 137, dD "_law_shed" "_law_shed" 138, dD "_law_among" "_law_among" 139, dD "_law_is_like" "_law_is_like" 140, dD "_law_parts" "_law_parts" 141, dD "_law_places" "_law_places" 142, dD "_law_stock" "_law_stock" 143, dD "_law_as" "_law_as" 144, dD "_law_bound" "_law_bound" 145, dD "_law_grown" "_law_grown" 146, dD "_law_piece" "_law_piece" 147, dD "_law_program" "_law_program" 148, dD "_law_is_tight" "_law_is_tight" 149, dD "_law_text" "_law_text" 150, dD "_law_told" "_law_told" 151, dD "_law_page" "_law_page" 152, dD "_law_turned" "_law_turned" 153, dD "_law_reply" "_law_reply" 154, dD "_law_woven_deed" "_law_woven_deed" 155, dD "_law_is_one" "_law_is_one" 156, dD "_law_by_hand" "_law_by_hand" 157, dM "__init__" 0, dM "__eq__" 1, dM "do" 2, dM "undo" 3, dD "law" "law" 158]
def sysB (K : PySem.W.Frag) : Bool := match K.lookup sysModules with
  | some o => decide (o.cls = .type "dict")
  | none => false
theorem sysB_ok {K : PySem.W.Frag} (h : sysB K = true) : SysK K := by
  unfold sysB at h
  split at h
  · rename_i o ho
    exact ⟨o, ho, of_decide_eq_true h⟩
  · cases h
def sizeKvs : List (Str × He.Dv) := [("put", .int 3), ("row", .int 3), ("out", .int 2)]
def exB (K : PySem.W.Frag) : Bool := xfullB Pr K "Barred" "reason" && (xfullB Pr K "InvalidText" "given" && (xfullB Pr K "InvalidDeed" "index" && (dkB K && (He.tupB K "DEEDS" [.str "put", .str "row", .str "out"] && (He.valsB K (ga K "SIZES") sizeKvs && sysB K)))))
abbrev AlK : Type := ((He.AlD × List IniW) × Option (List (Option (Str × Int)))) × Bool
def obsOf (K : PySem.W.Frag) : AlK := (((He.obsD fa fn K, inits.map fun q => iniW K q.1), He.dicW K (ga K "SIZES")), exB K)
def valK (w : World) : AlK := (((He.valD fn, inits.map fun q => iniV (ini q.2)), some (He.keysIn w.params ["put", "row", "out"])), true)
def layer (g : Addr → Option Obj) (as : List Addr) : List Addr := as.flatMap fun a => match g a with
  | some o => He.refsD o
  | none => []
def wanted0 : List Str := ["is_whole", "is_number", "is_string", "is_word_in", "rows_of", "is_row_text", "rows_in", "is_headed_desks", "check_deed", "barred_by", "rows_behind", "_law_loom", "_law_shed", "_law_among", "_law_is_like", "_law_parts", "_law_places", "_law_stock", "_law_as", "_law_bound", "_law_grown", "_law_piece", "_law_program", "_law_is_tight", "_law_text"]
def wanted1 : List Str := ["_law_told", "_law_page", "_law_turned", "_law_reply", "_law_woven_deed", "_law_is_one", "_law_by_hand", "law", "Desk", "DEEDS", "SIZES", "Barred", "InvalidText", "InvalidDeed"]
def wanted : List Str := wanted0 ++ wanted1
def adrs (g : Addr → Option Obj) : List Addr :=
  let K0 := He.frG g [mainGlobals]
  let l0 := wanted.map (ga K0)
  let l1 := layer g l0
  let l2 := layer g l1
  let l3 := layer g l2
  mainGlobals :: cStatics :: sysModules :: (l0 ++ l1 ++ l2 ++ l3)
def obsK (g : Addr → Option Obj) : AlK := obsOf (He.frG g (adrs g))
def hk : PySem.W.Hook where
  α := AlK
  obs := fun s => obsK s.heap.get?
  val := fun w => valK w
  says := fun w h => ∃ K : PySem.W.Frag, K.In h ∧ obsOf K = valK w
  of := fun _ _ e => ⟨_, He.frG_in, e⟩
  keeps := fun _ _ _ ⟨K, hK, c⟩ k => ⟨K, PySem.W.Frag.In.keeps hK k, c⟩
def ob (s : PySem.W.SharedT) : AlK := obsK (HandSHeadRun.getT s)
theorem ob_eq (s : PySem.W.SharedT) : ob s = hk.obs s.abs := by
  have e : HandSHeadRun.getT s = s.abs.heap.get? := funext (HandSHeadRun.getT_eq s)
  show obsK (HandSHeadRun.getT s) = obsK s.abs.heap.get?
  rw [e]
abbrev R : PySem.W.OpenRow := PySem.W.OpenLaw.row PySem.Challenge.rw_flowtongue_k11_desks_led_back_and_equal
section
variable {K : PySem.W.Frag} {h : Heap} {mg : Str → Option Value} {w : World}
theorem map_mem {α β : Type} {f g : α → β} : ∀ {l : List α}, l.map f = l.map g → ∀ x ∈ l, f x = g x
  | [], _, _, h => by cases h
  | a :: l, e, x, h => by
    obtain ⟨e1, e2⟩ := List.cons.inj e
    rcases List.mem_cons.mp h with rfl | h
    · exact e1
    · exact map_mem e2 x h
theorem facts {fl : Addr} (X : K.In h) (G : h.Ns mainGlobals mg) (hfa : mg ("law" : Str) = some (.ref fl)) (c : obsOf K = valK w) :
    ∃ fd : FuncData, (∀ (s : Shared) (v : Value), BindsTo s fd ⟨[v], []⟩ [("cells", v)]) ∧ ∀ base : Heap, K.In base → base.Ns mainGlobals mg → FnG Pr w K mg base CX0 8 fl fd ["cells"] (spLaw K) := by
  have c1 : He.SaysD fa fn K := congrArg (fun z : AlK => z.1.1.1) c
  have c2 := map_mem (show (inits.map fun q => iniW K q.1) = inits.map fun q => iniV (ini q.2) from congrArg (fun z : AlK => z.1.1.2) c)
  have c3 : He.dicW K (ga K "SIZES") = some (He.keysIn w.params ["put", "row", "out"]) := congrArg (fun z : AlK => z.1.2) c
  have c4 : exB K = true := congrArg (fun z : AlK => z.2) c
  obtain ⟨x1, c4⟩ := ba c4
  obtain ⟨x2, c4⟩ := ba c4
  obtain ⟨x3, c4⟩ := ba c4
  obtain ⟨dk, c4⟩ := ba c4
  obtain ⟨tp, c4⟩ := ba c4
  obtain ⟨vl, sy⟩ := ba c4
  have gl : ∀ {n : Str}, He.Fa.glo n ∈ fa → mg n = some (.ref (ga K n)) := fun hm => He.glo_ok X G (c1.facts hm)
  have fr : ∀ {n : Str}, He.Fa.free n ∈ fa → mg n = none := fun hm => He.free_ok X G (c1.facts hm)
  obtain ⟨es, n0, kd⟩ := He.dicW_ok c3
  have kv : ∀ {x : Str} {i : Int}, (x, He.Dv.int i) ∈ sizeKvs → KDct K w (ga K "SIZES") x (.int i) := fun {x i} hm => by
    obtain ⟨u, hu, ru⟩ := He.valsB_ok vl hm
    exact ⟨es, n0, u, kd.1, kd.lit, hu, ru⟩
  obtain ⟨d0, F0⟩ := c1.def_ 0 (d := dD "is_whole" "is_whole" 4) rfl
  obtain ⟨d1, F1⟩ := c1.def_ 1 (d := dD "is_number" "is_number" 5) rfl
  obtain ⟨d2, F2⟩ := c1.def_ 2 (d := dD "is_string" "is_string" 7) rfl
  obtain ⟨d3, F3⟩ := c1.def_ 3 (d := dD "is_word_in" "is_word_in" 10) rfl
  obtain ⟨d4, F4⟩ := c1.def_ 4 (d := dD "rows_of" "rows_of" 85) rfl
  obtain ⟨d5, F5⟩ := c1.def_ 5 (d := dD "is_row_text" "is_row_text" 128) rfl
  obtain ⟨d6, F6⟩ := c1.def_ 6 (d := dD "rows_in" "rows_in" 129) rfl
  obtain ⟨d7, F7⟩ := c1.def_ 7 (d := dD "is_headed_desks" "is_headed" 130) rfl
  obtain ⟨d8, F8⟩ := c1.def_ 8 (d := dD "check_deed" "check_deed" 132) rfl
  obtain ⟨d9, F9⟩ := c1.def_ 9 (d := dD "barred_by" "barred_by" 133) rfl
  obtain ⟨d10, F10⟩ := c1.def_ 10 (d := dD "rows_behind" "rows_behind" 134) rfl
  obtain ⟨d11, F11⟩ := c1.def_ 11 (d := dD "_law_loom" "_law_loom" 137) rfl
  obtain ⟨d12, F12⟩ := c1.def_ 12 (d := dD "_law_shed" "_law_shed" 138) rfl
  obtain ⟨d13, F13⟩ := c1.def_ 13 (d := dD "_law_among" "_law_among" 139) rfl
  obtain ⟨d14, F14⟩ := c1.def_ 14 (d := dD "_law_is_like" "_law_is_like" 140) rfl
  obtain ⟨d15, F15⟩ := c1.def_ 15 (d := dD "_law_parts" "_law_parts" 141) rfl
  obtain ⟨d16, F16⟩ := c1.def_ 16 (d := dD "_law_places" "_law_places" 142) rfl
  obtain ⟨d17, F17⟩ := c1.def_ 17 (d := dD "_law_stock" "_law_stock" 143) rfl
  obtain ⟨d18, F18⟩ := c1.def_ 18 (d := dD "_law_as" "_law_as" 144) rfl
  obtain ⟨d19, F19⟩ := c1.def_ 19 (d := dD "_law_bound" "_law_bound" 145) rfl
  obtain ⟨d20, F20⟩ := c1.def_ 20 (d := dD "_law_grown" "_law_grown" 146) rfl
  obtain ⟨d21, F21⟩ := c1.def_ 21 (d := dD "_law_piece" "_law_piece" 147) rfl
  obtain ⟨d22, F22⟩ := c1.def_ 22 (d := dD "_law_program" "_law_program" 148) rfl
  obtain ⟨d23, F23⟩ := c1.def_ 23 (d := dD "_law_is_tight" "_law_is_tight" 149) rfl
  obtain ⟨d24, F24⟩ := c1.def_ 24 (d := dD "_law_text" "_law_text" 150) rfl
  obtain ⟨d25, F25⟩ := c1.def_ 25 (d := dD "_law_told" "_law_told" 151) rfl
  obtain ⟨d26, F26⟩ := c1.def_ 26 (d := dD "_law_page" "_law_page" 152) rfl
  obtain ⟨d27, F27⟩ := c1.def_ 27 (d := dD "_law_turned" "_law_turned" 153) rfl
  obtain ⟨d28, F28⟩ := c1.def_ 28 (d := dD "_law_reply" "_law_reply" 154) rfl
  obtain ⟨d29, F29⟩ := c1.def_ 29 (d := dD "_law_woven_deed" "_law_woven_deed" 155) rfl
  obtain ⟨d30, F30⟩ := c1.def_ 30 (d := dD "_law_is_one" "_law_is_one" 156) rfl
  obtain ⟨d31, F31⟩ := c1.def_ 31 (d := dD "_law_by_hand" "_law_by_hand" 157) rfl
  obtain ⟨e0, M0⟩ := c1.def_ 32 (d := dM "__init__" 0) rfl
  obtain ⟨e1, M1⟩ := c1.def_ 33 (d := dM "__eq__" 1) rfl
  obtain ⟨e2, M2⟩ := c1.def_ 34 (d := dM "do" 2) rfl
  obtain ⟨e3, M3⟩ := c1.def_ 35 (d := dM "undo" 3) rfl
  obtain ⟨fd, F⟩ := c1.def_ 36 (d := dD "law" "law" 158) rfl
  have e := hfa.symm.trans (gl (n := "law") (by simp [fa]))
  cases e
  have b := FunD.bindsA (ps := ["cells"]) F fun _ _ _ _ _ _ us hl => match us, hl with | [_], _ => rfl
  have T : Tops K mg := ⟨⟨d0, F0, gl (by simp [fa])⟩, ⟨d1, F1, gl (by simp [fa])⟩, ⟨d2, F2, gl (by simp [fa])⟩, ⟨d3, F3, gl (by simp [fa])⟩, ⟨d4, F4, gl (by simp [fa])⟩, ⟨d5, F5, gl (by simp [fa])⟩, ⟨d6, F6, gl (by simp [fa])⟩, ⟨d7, F7, gl (by simp [fa])⟩, ⟨d8, F8, gl (by simp [fa])⟩, ⟨d9, F9, gl (by simp [fa])⟩, ⟨d10, F10, gl (by simp [fa])⟩, ⟨d11, F11, gl (by simp [fa])⟩, ⟨d12, F12, gl (by simp [fa])⟩, ⟨d13, F13, gl (by simp [fa])⟩, ⟨d14, F14, gl (by simp [fa])⟩, ⟨d15, F15, gl (by simp [fa])⟩, ⟨d16, F16, gl (by simp [fa])⟩, ⟨d17, F17, gl (by simp [fa])⟩, ⟨d18, F18, gl (by simp [fa])⟩, ⟨d19, F19, gl (by simp [fa])⟩, ⟨d20, F20, gl (by simp [fa])⟩, ⟨d21, F21, gl (by simp [fa])⟩, ⟨d22, F22, gl (by simp [fa])⟩, ⟨d23, F23, gl (by simp [fa])⟩, ⟨d24, F24, gl (by simp [fa])⟩, ⟨d25, F25, gl (by simp [fa])⟩, ⟨d26, F26, gl (by simp [fa])⟩, ⟨d27, F27, gl (by simp [fa])⟩, ⟨d28, F28, gl (by simp [fa])⟩, ⟨d29, F29, gl (by simp [fa])⟩, ⟨d30, F30, gl (by simp [fa])⟩, ⟨d31, F31, gl (by simp [fa])⟩, ⟨e0, M0⟩, ⟨e1, M1⟩, ⟨e2, M2⟩, ⟨e3, M3⟩, ⟨fr (by simp [fa]), fr (by simp [fa]), fr (by simp [fa]), fr (by simp [fa]), fr (by simp [fa]), fr (by simp [fa]), fr (by simp [fa]), fr (by simp [fa]), fr (by simp [fa]), fr (by simp [fa]), fr (by simp [fa]), fr (by simp [fa])⟩, fr (by simp [fa])⟩
  have N : Cn K w mg := ⟨He.str_ok X G (c1.facts (f := .str "PUT" "put") (by simp [fa])), He.str_ok X G (c1.facts (f := .str "ROW" "row") (by simp [fa])), He.str_ok X G (c1.facts (f := .str "OUT" "out") (by simp [fa])), He.int_ok X G (c1.facts (f := .int "MOST_ROWS" 20) (by simp [fa])), He.int_ok X G (c1.facts (f := .int "MOST_SIGNS" 4000) (by simp [fa])),
    ⟨_, gl (n := "DEEDS") (by simp [fa]), fun H => He.tupB_ok tp H⟩, ⟨_, gl (n := "SIZES") (by simp [fa]), kv (by simp [sizeKvs]), kv (by simp [sizeKvs]), kv (by simp [sizeKvs])⟩⟩
  have S : SupOk Pr mg := ⟨fr (by simp [fa]), by decide +kernel⟩
  obtain ⟨k1, dk⟩ := ba dk
  obtain ⟨k2, dk⟩ := ba dk
  obtain ⟨k3, dk⟩ := ba dk
  obtain ⟨k4, dk⟩ := ba dk
  obtain ⟨k5, dk⟩ := ba dk
  obtain ⟨k6, dk⟩ := ba dk
  obtain ⟨k7, dk⟩ := ba dk
  obtain ⟨k8, dk⟩ := ba dk
  obtain ⟨k9, k10⟩ := ba dk
  have D : DkC K mg := ⟨gl (by simp [fa]), He.cls_ok (c1.facts (f := .cls "Desk") (by simp [fa])), He.noat_ok (c1.facts (f := .noat "Desk" "begun") (by simp [fa])), He.noat_ok (c1.facts (f := .noat "Desk" "rows") (by simp [fa])), He.noat_ok (c1.facts (f := .noat "Desk" "deeds") (by simp [fa])), He.noat_ok (c1.facts (f := .noat "Desk" "past") (by simp [fa])),
    He.mkr_ok (c1.facts (f := .mkr "Desk") (by simp [fa])), He.meth_ok (c1.facts (f := .meth "Desk" "do") (by simp [fa])), He.meth_ok (c1.facts (f := .meth "Desk" "undo") (by simp [fa])), ⟨eqB_ok k1, eqB_ok k2, eqB_ok k3, k4⟩, eqB_ok k5, eqB_ok k6, eqB_ok k7, eqB_ok k3, eqB_ok k8, eqB_ok k9, fun s hs => by
      obtain ⟨y1, y2⟩ := ba (List.all_eq_true.mp k10 s hs)
      exact ⟨eqB_ok y1, eqB_ok y2⟩⟩
  have X0 : XF Pr K mg "Barred" "reason" := xfull_ok (gl (by simp [fa])) (c2 ("Barred", 90) (by simp [inits])) x1 sh90 rfl rfl rfl
  have X1 : XF Pr K mg "InvalidText" "given" := xfull_ok (gl (by simp [fa])) (c2 ("InvalidText", 91) (by simp [inits])) x2 sh91 rfl rfl rfl
  have X2 : XF Pr K mg "InvalidDeed" "index" := xfull_ok (gl (by simp [fa])) (c2 ("InvalidDeed", 92) (by simp [inits])) x3 sh92 rfl rfl rfl
  exact ⟨fd, fun s v => b s [v] rfl, fun base _ _ => law_all T N S (sysB_ok sy) D X0 X1 X2 F⟩
end
end K1
set_option Elab.async false
set_option linter.all false
set_option maxRecDepth 100000
set_option maxHeartbeats 0
namespace K1
open PySem PySem.Spec PyProof.Rows L2
def n0 : List PySem.Str := ["_wall", "FIGURES", "SMALL", "is_whole", "is_number", "is_between", "is_string", "is_made_of", "is_name_upto", "is_word_in", "number_in", "NUMBER_treework", "NAME", "ADD", "LESS", "IF", "FN", "REC", "CALL", "RECORD", "FIELD_treework", "LET", "GIVE", "TELL", "RESERVED", "PARTS", "DEPTH", "MOST_NAMED", "MOST_NUMBER", "MOST_FIELDS"]
def n1 : List PySem.Str := ["is_free_name", "parts_of", "bound_by", "count_places", "bound_within", "tree_in", "places_within", "places_by", "names_by", "BLANK", "ARROW", "OPEN", "SHUT", "BEGIN", "END", "COMMA", "DOT", "EQUAL", "SIGNS", "MOST_OPEN", "ADDING", "A_NAME", "A_FIELD", "HEADS_textwork", "LASTS", "BETWEEN", "GROUP", "behind_run", "row_words", "is_number_word"]
def n2 : List PySem.Str := ["Part", "Begun", "tree_made", "part_made", "Reading", "Read", "words_read", "SIGN", "FORM", "MANY", "HEADS_bookwork", "MOST_OF", "MOST_SIGNS", "MOST_PLACES", "ReadRow", "wrong_row", "wrong_in", "row_of_words", "row_read", "Names", "ReadBook", "rows_of", "is_too_many", "book_read", "FlowError", "Barred", "InvalidText", "InvalidDeed", "NUMBERS", "PLAIN"]
def n3 : List PySem.Str := ["FUNCTIONS", "MAKERS", "NUMBER_shapework", "FUNCTION", "FIELD_shapework", "Shape", "name_knot", "brought_by_rows", "brought_at", "led_by_rows", "led_at", "is_headed", "is_headed_rulework", "led_by_maker", "bit_of", "makers_in", "Flows", "least_by", "clashes_in", "clashes_by", "first_clash", "is_kinded_by", "PUT", "ROW", "OUT", "SIZES", "DEEDS", "FAULT", "MOST_ROWS", "is_row_text"]
def n4 : List PySem.Str := ["rows_in", "is_headed_desks", "check_deed", "barred_by", "rows_behind", "Desk", "_law_loom", "_law_shed", "_law_among", "_law_is_like", "_law_parts", "_law_places", "_law_stock", "_law_as", "_law_bound", "_law_grown", "_law_piece", "_law_program", "_law_is_tight", "_law_text", "_law_told", "_law_page", "_law_turned", "_law_reply", "_law_woven_deed", "_law_is_one", "_law_by_hand"]
def names : List PySem.Str := n0 ++ n1 ++ n2 ++ n3 ++ n4
abbrev Q158 : Program := PySem.W.view R.prog [158]
noncomputable abbrev E0 (w : World) (os : OsState) : Option PySem.W.SharedT := HandSHeadRun.endF (HandSHeadRun.stepQ (HandSHeadRun.denQ HandSHeadRun.tabQ) R.prog w) 30000 R.prog w os
noncomputable abbrev fL (w : World) (s : PySem.W.SharedT) : Bool := HandSHeadRun.looksF R.prog (PySem.W.boot_heap w.params) s.abs
noncomputable abbrev fS (s : PySem.W.SharedT) := HandSHeadRun.seenQ Q158 names (importedModules R.prog.main.body) (fun s => PySem.W.xlAt Q158 [] s && PySem.W.recOk R.toRowW.records s) s.abs
abbrev wF (w : World) : World := w.withFollow "special-get-raises" false
abbrev wT (w : World) : World := w.withFollow "special-get-raises" true
theorem ra0 (w : World) (os : OsState) : (E0 (wF w) os).map (fL (wF w)) = some true := by kernel_rfl
theorem rb0 (w : World) (os : OsState) : (E0 (wF w) os).map fS = some (PySem.W.openGood Q158 names) := by kernel_rfl
theorem rc0 (w : World) (os : OsState) : (E0 (wF w) os).map ob = some (valK (wF w)) := by kernel_rfl
theorem ra1 (w : World) (os : OsState) : (E0 (wT w) os).map (fL (wT w)) = some true := by kernel_rfl
theorem rb1 (w : World) (os : OsState) : (E0 (wT w) os).map fS = some (PySem.W.openGood Q158 names) := by kernel_rfl
theorem rc1 (w : World) (os : OsState) : (E0 (wT w) os).map ob = some (valK (wT w)) := by kernel_rfl
theorem comb {α β γ δ : Type} {E : Option α} {f : α → β} {g : α → γ} {h : α → δ} {x : β} {y : γ} {z : δ} (h1 : E.map f = some x) (h2 : E.map g = some y) (h3 : E.map h = some z) : E.map (fun s => (f s, g s, h s)) = some (x, y, z) := by
  cases E with
  | none => cases h1
  | some s =>
    cases h1
    cases h2
    cases h3
    rfl
theorem run0 (w : World) : HandSHeadRun.RunEq R Q158 hk ob 30000 names (wF w) := fun os => comb (ra0 w os) (rb0 w os) (rc0 w os)
theorem run1 (w : World) : HandSHeadRun.RunEq R Q158 hk ob 30000 names (wT w) := fun os => comb (ra1 w os) (rb1 w os) (rc1 w os)
theorem run (w : World) : HandSHeadRun.RunEq R Q158 hk ob 30000 names w := PySem.W.byRow2 "special-get-raises" (P := fun w => HandSHeadRun.RunEq R Q158 hk ob 30000 names w) run0 run1 w
end K1
set_option Elab.async false
set_option linter.all false
set_option maxRecDepth 100000
set_option maxHeartbeats 0
open PySem PySem.W PySem.Calls PyProof.Rows
theorem PySem.Challenge.cw_flowtongue_k11_desks_led_back_and_equal_holds : PySem.Challenge.rw_flowtongue_k11_desks_led_back_and_equal.Holds := by
  w_on; o_law
  refine HandSHeadRun.head_any (r := OpenLaw.row PySem.Challenge.rw_flowtongue_k11_desks_led_back_and_equal) (q := view (OpenLaw.row PySem.Challenge.rw_flowtongue_k11_desks_led_back_and_equal).prog [158]) (H := K1.hk) (ob := K1.ob) (M := 30000) (loose := K1.names)
    (d := HandSHeadRun.topDef (OpenLaw.row PySem.Challenge.rw_flowtongue_k11_desks_led_back_and_equal).prog 158) (kwd := []) K1.ob_eq (by kernel_rfl) (fun s => by kernel_rfl) K1.run (by kernel_rfl) (by kernel_rfl) (by kernel_rfl) (by rfl) (by first | assumption | decide +kernel) (by decide +kernel) ⟨rfl, rfl, rfl, rfl, rfl, by decide +kernel⟩ ?hw ?hc
  case hw => w_witness2
  case hc =>
    refine K1.walkG (l := PySem.Challenge.rw_flowtongue_k11_desks_led_back_and_equal) (n := 63) (k := 8) (x := "cells") (CX := L2.CX0) rfl (by rw [sizeLine_eq]; decide) (by kernel_rfl) ⟨rfl, by decide, by decide⟩ ?F (fun _ _ _ _ z => z)
    intro w mg fl h Y G hmg0
    obtain ⟨K, KX, c⟩ := Y
    have hmg : mg ("law" : PySem.Str) = some (.ref fl) := by
      have e : (HandSHeadRun.topDef (OpenLaw.row PySem.Challenge.rw_flowtongue_k11_desks_led_back_and_equal).prog 158).name = ("law" : PySem.Str) := by kernel_rfl
      rw [← e]
      exact hmg0
    obtain ⟨fd, hb, hF⟩ := K1.facts (w := w) KX G hmg c
    exact ⟨K, fd, K1.spLaw K, KX, hb, fun H a ns hl _ hS => ⟨a, ns, rfl, hS, Nat.le_trans hl (by decide), fun _ => rfl⟩, hF⟩
