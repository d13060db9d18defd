import PyProof.Rows.All
import Wide.All
import OpenK.AllK
import Wide.FinOn
import KE.KStateDown
import HandS.ForMost
import HandS.Zip
import HandS.Conv
import HandS.Strs
import HandS.IsInst
import HandS.Deep
import HandS.TupAny
import HandS.Style
import HandS.Flow
import HandS.Wide
import HandS.Defaults
import HandS.HeadEnd
import HandS.SetFor
import KE.SortData
import PyProof.Transfer
import PyProof.Rows.NestShow
import HandS.SortInts
import HandS.TupMul
import HandS.TupSets
import OpenK.KMore
import PyProof.ReprRoads
import HandS.Small
import KE.KRevSl
import KE.KDictZip
import HandS.Gcd
import HandS.DictComp
import HandS.TupLen
import HandS.WordsDict
import KE.DataMinMax
import PyProof.ListNew
import KE.GoesMore
import PyProof.EqAt
import PyProof.EqKinds
import PyProof.TupleCall
import KE.KExcInit
import HandS.Exc
import HandS.ExcField
import HandS.ExcInit
import HandS.Lambda
import KE.KExcIs
import HandS.ExcIs
import HandS.WideBits
import HandS.EndTab
import HandS.HeadHook4
import PySem.Challenge.RW_bothandall_k87_whole_maps_and_plans
import HandS.Head0
import HandS.Head1
import HandS.Head2
import HandS.Head3
import HandS.HeadHook1
import HandS.HeadHook2
import HandS.HeadHook3
import KE.KNestM
set_option Elab.async false
set_option linter.all false
set_option maxRecDepth 100000
set_option maxHeartbeats 4000000
namespace DL
open PySem PySem.Spec PyProof.Rows L2
abbrev St := L2.St

/-! ### data -/
inductive D where
  | non
  | bl (b : Bool)
  | int (i : Int)
  | str (s : Str)
  | tup (xs : List D)
  /-- a tuple whose object is known whole; one that is tracked (a key of a dict) -/
  | tix (xs : List D)
  | tky (xs : List D)
  | lst (xs : List D)
  | dic (t : Bool) (kvs : List (List Key × D))
  | ob (a : Addr)

/-- a dict: with keys that are tuples, with flat keys -/
def odO (t : Bool) (kvs : List (List Key × V)) : HO := match t with
  | true => .dT kvs
  | false => .dK (kvs.map fun kv => (kv.1.headD (.inl 0), kv.2))

mutual
inductive Rp (K : PySem.W.Frag) (F : Hp) : V → D → Prop
  | non : Rp K F .non .non
  | bl (b : Bool) : Rp K F (.bl b) (.bl b)
  | int (i : Int) : Rp K F (.int i) (.int i)
  | str (x : Str) : Rp K F (.str x) (.str x)
  | tup {a : Addr} {vs : List V} {ds : List D} : SqT K F a vs → RpL K F vs ds → Rp K F (.ref a) (.tup ds)
  | tix {a : Addr} {o : Obj} {vs : List V} {ds : List D} : F a = some (.frz o (.tup vs)) → o.dict = none → RpL K F vs ds → Rp K F (.ref a) (.tix ds)
  | tky {a : Addr} {vs : List V} {ds : List D} : F a = some (.tup vs) → RpL K F vs ds → Rp K F (.ref a) (.tky ds)
  | lst {a : Addr} {vs : List V} {ds : List D} : F a = some (.lst vs) → RpL K F vs ds → Rp K F (.ref a) (.lst ds)
  | dic {a : Addr} {t : Bool} {kvs : List (List Key × V)} {kds : List (List Key × D)} : F a = some (odO t kvs) → RpK K F kvs kds → Rp K F (.ref a) (.dic t kds)
  | ob (a : Addr) : Rp K F (.ref a) (.ob a)
inductive RpL (K : PySem.W.Frag) (F : Hp) : List V → List D → Prop
  | nil : RpL K F [] []
  | cons {v : V} {vs : List V} {d : D} {ds : List D} : Rp K F v d → RpL K F vs ds → RpL K F (v :: vs) (d :: ds)
inductive RpK (K : PySem.W.Frag) (F : Hp) : List (List Key × V) → List (List Key × D) → Prop
  | nil : RpK K F [] []
  | cons {k : List Key} {v : V} {vs : List (List Key × V)} {d : D} {ds : List (List Key × D)} : Rp K F v d → RpK K F vs ds → RpK K F ((k, v) :: vs) ((k, d) :: ds)
end

section
variable {K : PySem.W.Frag} {F F' : Hp}
theorem Same.sqt {a : Addr} {xs : List V} (e : Same F F') (h : SqT K F a xs) : SqT K F' a xs := by
  rcases h with (h | ⟨o, h⟩) | h
  · exact .inl (.inl (e _ _ h))
  · exact .inl (.inr ⟨o, e _ _ h⟩)
  · exact .inr h
mutual
theorem Rp.mono (e : Same F F') : ∀ {v : V} {d : D}, Rp K F v d → Rp K F' v d
  | _, _, .non => .non
  | _, _, .bl b => .bl b
  | _, _, .int i => .int i
  | _, _, .str x => .str x
  | _, _, .tup h r => .tup (Same.sqt e h) (RpL.mono e r)
  | _, _, .tix h n r => .tix (e _ _ h) n (RpL.mono e r)
  | _, _, .tky h r => .tky (e _ _ h) (RpL.mono e r)
  | _, _, .lst h r => .lst (e _ _ h) (RpL.mono e r)
  | _, _, .dic h r => .dic (e _ _ h) (RpK.mono e r)
  | _, _, .ob a => .ob a
theorem RpL.mono (e : Same F F') : ∀ {vs : List V} {ds : List D}, RpL K F vs ds → RpL K F' vs ds
  | _, _, .nil => .nil
  | _, _, .cons h r => .cons (Rp.mono e h) (RpL.mono e r)
theorem RpK.mono (e : Same F F') : ∀ {vs : List (List Key × V)} {ds : List (List Key × D)}, RpK K F vs ds → RpK K F' vs ds
  | _, _, .nil => .nil
  | _, _, .cons h r => .cons (Rp.mono e h) (RpK.mono e r)
end
theorem RpK.split : ∀ {vs : List (List Key × V)} {ds : List (List Key × D)}, RpK K F vs ds → vs.map (·.1) = ds.map (·.1) ∧ RpL K F (vs.map (·.2)) (ds.map (·.2))
  | _, _, .nil => ⟨rfl, .nil⟩
  | _, _, .cons h r => ⟨congrArg (_ :: ·) (RpK.split r).1, .cons h (RpK.split r).2⟩
theorem RpK.join : ∀ {vs : List (List Key × V)} {ds : List (List Key × D)}, vs.map (·.1) = ds.map (·.1) → RpL K F (vs.map (·.2)) (ds.map (·.2)) → RpK K F vs ds
  | [], [], _, _ => .nil
  | [], _ :: _, e, _ => by cases e
  | _ :: _, [], e, _ => by cases e
  | (k, v) :: vs, (k', d) :: ds, e, r => by
    rw [List.map_cons, List.map_cons] at e r
    cases r with
    | cons h r =>
      injection e with e1 e2
      have e1 : k = k' := e1
      subst e1
      exact .cons h (RpK.join e2 r)
theorem isMutO_od (t : Bool) (kvs : List (List Key × V)) : (match odO t kvs with | .tup _ => false | .frz _ _ => false | _ => true) = true := by cases t <;> rfl
theorem RpL.len : ∀ {vs : List V} {ds : List D}, RpL K F vs ds → vs.length = ds.length
  | _, _, .nil => rfl
  | _, _, .cons _ r => by rw [List.length_cons, List.length_cons, RpL.len r]
theorem RpL.append : ∀ {vs us : List V} {ds es : List D}, RpL K F vs ds → RpL K F us es → RpL K F (vs ++ us) (ds ++ es)
  | _, _, _, _, .nil, r => r
  | _, _, _, _, .cons h r, r' => .cons h (RpL.append r r')
theorem RpL.get : ∀ {vs : List V} {ds : List D} {i : Nat} {d : D}, RpL K F vs ds → ds[i]? = some d → ∃ v, vs[i]? = some v ∧ Rp K F v d
  | _, _, _, _, .nil, e => by simp at e
  | _, _, 0, _, .cons h _, e => by simp at e; subst e; exact ⟨_, rfl, h⟩
  | _, _, i + 1, d, .cons _ r, e => by
    obtain ⟨v, h1, h2⟩ := RpL.get (i := i) (d := d) r (by simpa using e)
    exact ⟨v, by simpa using h1, h2⟩
theorem RpL.getV : ∀ {vs : List V} {ds : List D} {i : Nat} {v : V}, RpL K F vs ds → vs[i]? = some v → ∃ d, ds[i]? = some d ∧ Rp K F v d
  | _, _, _, _, .nil, e => by simp at e
  | _, _, 0, _, .cons h _, e => by simp at e; subst e; exact ⟨_, rfl, h⟩
  | _, _, i + 1, v, .cons _ r, e => by
    obtain ⟨d, h1, h2⟩ := RpL.getV (i := i) (v := v) r (by simpa using e)
    exact ⟨d, by simpa using h1, h2⟩
theorem RpL.set {v : V} {d : D} (h : Rp K F v d) : ∀ {vs : List V} {ds : List D} (i : Nat), RpL K F vs ds → RpL K F (vs.set i v) (ds.set i d)
  | _, _, _, .nil => .nil
  | _, _, 0, .cons _ r => .cons h r
  | _, _, i + 1, .cons q r => .cons q (RpL.set h i r)
theorem RpL.take : ∀ {vs : List V} {ds : List D} (n : Nat), RpL K F vs ds → RpL K F (vs.take n) (ds.take n)
  | _, _, 0, _ => .nil
  | _, _, _ + 1, .nil => .nil
  | _, _, n + 1, .cons h r => .cons h (RpL.take n r)
theorem RpL.drop : ∀ {vs : List V} {ds : List D} (n : Nat), RpL K F vs ds → RpL K F (vs.drop n) (ds.drop n)
  | _, _, 0, r => r
  | _, _, _ + 1, .nil => .nil
  | _, _, n + 1, .cons _ r => RpL.drop n r
theorem RpL.dropLast : ∀ {vs : List V} {ds : List D}, RpL K F vs ds → RpL K F vs.dropLast ds.dropLast := fun {vs ds} r => by
  rw [List.dropLast_eq_take, List.dropLast_eq_take, r.len]
  exact r.take _
theorem RpL.eraseIdx : ∀ {vs : List V} {ds : List D} (i : Nat), RpL K F vs ds → RpL K F (vs.eraseIdx i) (ds.eraseIdx i)
  | _, _, _, .nil => .nil
  | _, _, 0, .cons _ r => r
  | _, _, i + 1, .cons h r => .cons h (RpL.eraseIdx i r)
theorem RpL.reverse : ∀ {vs : List V} {ds : List D}, RpL K F vs ds → RpL K F vs.reverse ds.reverse
  | _, _, .nil => .nil
  | _, _, .cons h r => by
    rw [List.reverse_cons, List.reverse_cons]
    exact RpL.append (RpL.reverse r) (.cons h .nil)
theorem RpL.rep {vs : List V} {ds : List D} (h : RpL K F vs ds) : ∀ k : Nat, RpL K F (List.replicate k vs).flatten (List.replicate k ds).flatten
  | 0 => .nil
  | k + 1 => by
    rw [List.replicate_succ, List.replicate_succ, List.flatten_cons, List.flatten_cons]
    exact h.append (RpL.rep h k)
theorem RpL.ints : ∀ {vs : List V} {ns : List Int}, RpL K F vs (ns.map D.int) → vs = ns.map V.int
  | vs, [], r => by cases r; rfl
  | vs, n :: ns, r => by
    cases r with
    | cons h r =>
      cases h
      rw [RpL.ints r]
      rfl
theorem RpL.of_ints : ∀ {ns : List Int}, RpL K F (ns.map V.int) (ns.map D.int)
  | [] => .nil
  | n :: ns => .cons (.int n) RpL.of_ints
theorem RpL.bls : ∀ {vs : List V} {bs : List Bool}, RpL K F vs (bs.map D.bl) → vs = bs.map V.bl
  | vs, [], r => by cases r; rfl
  | vs, n :: ns, r => by
    cases r with
    | cons h r =>
      cases h
      rw [RpL.bls r]
      rfl
end

/-! ### what a caller keeps for itself -/
def isMutO : HO → Bool
  | .tup _ => false
  | .frz _ _ => false
  | _ => true
/-- what is told of objects by a predicate stays so -/
def ExtK (H H' : Hp) : Prop := ∀ b φ, H b = some (.ext φ) → H' b = some (.ext φ)
theorem extK_new {H : Hp} {p : Addr} {o : HO} (h : H p = none) : ExtK H (upd H p o) := fun b φ e => by rw [upd_ne (ne_of_none e h)]; exact e
theorem extK_at {H : Hp} {p : Addr} {o u : HO} (h : H p = some u) (hu : ∀ φ, u ≠ .ext φ) : ExtK H (upd H p o) := fun b φ e => by
  rw [upd_ne fun z => by rw [z, h] at e; exact hu φ (Option.some.inj e)]
  exact e
theorem odO_ext (t : Bool) (kvs : List (List Key × V)) (φ : Heap → Prop) : odO t kvs ≠ .ext φ := by cases t <;> (intro z; cases z)
structure Gc where
  R : Addr → Prop
  Wd : Hp → Prop
  live : ∀ H a, Wd H → R a → H a ≠ none
  nt : ∀ H a xs, Wd H → R a → H a ≠ some (.tup xs)
  st : ∀ H H', Wd H → (∀ a, R a → H' a = H a) → ExtK H H' → Wd H'

/-- what a name holds: a value that is never changed any more; a list of this frame's own, a dict of its own -/
inductive SV where
  | fz (d : D)
  | ow (xs : List D)
  | od (t : Bool) (kvs : List (List Key × D))
abbrev En := List (Option SV)

/-- all that stood and isn't the caller's own stands -/
def Fr (G : Gc) (H H' : Hp) : Prop := ∀ b o, H b = some o → ¬ G.R b → H' b = some o
theorem Fr.refl {G : Gc} {H : Hp} : Fr G H H := fun _ _ h _ => h
theorem Fr.trans {G : Gc} {H H1 H2 : Hp} (a : Fr G H H1) (b : Fr G H1 H2) : Fr G H H2 := fun c o h n => b c o (a c o h n) n
theorem Fr.free {G : Gc} {H H' : Hp} (e : Fr G H H') {a : Addr} (n : ¬ G.R a) (h : H' a = none) : H a = none := by
  cases q : H a with
  | none => rfl
  | some o =>
    rw [e a o q n] at h
    cases h
theorem Fr.upd {G : Gc} {H : Hp} {p : Addr} {o : HO} (h : H p = none) : Fr G H (upd H p o) := fun b x e _ => by
  rw [upd_ne (ne_of_none e h)]
  exact e
theorem same_upd {H : Hp} {p : Addr} {o : HO} (h : H p = none) : Same H (upd H p o) := fun b x e => by
  rw [upd_ne (ne_of_none e h)]
  exact e

section
variable (K : PySem.W.Frag) (G : Gc) (F H : Hp)
def RpS (v : V) : SV → Prop
  | .fz d => Rp K F v d
  | .ow xs => ∃ a vs, v = .ref a ∧ H a = some (.lst vs) ∧ RpL K F vs xs ∧ ¬ G.R a
  | .od t kds => ∃ a kvs, v = .ref a ∧ H a = some (odO t kvs) ∧ kvs.map (·.1) = kds.map (·.1) ∧ RpL K F (kvs.map (·.2)) (kds.map (·.2)) ∧ ¬ G.R a
structure EvR (σ : St) (ρ : En) : Prop where
  sub : Same F H
  res : ∀ a, G.R a → F a = none
  wd : G.Wd H
  slot : ∀ (i : Nat) (sv : SV), ρ[i]? = some (some sv) → ∃ v, σ[i]? = some (some v) ∧ RpS K G F H v sv
  len : σ.length = ρ.length
end

section
variable {K : PySem.W.Frag} {G : Gc} {F F' H H' : Hp} {σ : St} {ρ : En}
theorem RpS.go {v : V} {sv : SV} (h : RpS K G F H v sv) (s : Same F F') (fr : Fr G H H') : RpS K G F' H' v sv := by
  cases sv with
  | fz d => exact Rp.mono s h
  | ow xs =>
    obtain ⟨a, vs, e, h1, h2, h3⟩ := h
    exact ⟨a, vs, e, fr _ _ h1 h3, RpL.mono s h2, h3⟩
  | od t kds =>
    obtain ⟨a, vs, e, h1, h0, h2, h3⟩ := h
    exact ⟨a, vs, e, fr _ _ h1 h3, h0, RpL.mono s h2, h3⟩
/-- the state goes on: more is known for good, nothing of ours is touched -/
theorem EvR.go (e : EvR K G F H σ ρ) (s : Same F F') (s' : Same F' H') (fr : Fr G H H') (res : ∀ a, G.R a → F' a = none) (wd : G.Wd H') : EvR K G F' H' σ ρ :=
  ⟨s', res, wd, fun i sv h => let ⟨v, h1, h2⟩ := e.slot i sv h; ⟨v, h1, h2.go s fr⟩, e.len⟩
theorem EvR.nr (e : EvR K G F H σ ρ) {p : Addr} (h : H p = none) : ¬ G.R p := fun r => G.live _ _ e.wd r h
end
end DL
set_option maxHeartbeats 4000000
/-! Promises of defs that are called while no value is being shown: then a container can be shown. -/
namespace DL
open PySem PySem.Spec PyProof.Rows L2

def NoShow (A : Around) : Prop := A.guards = some []
theorem NoShow.deeper {A : Around} (h : NoShow A) (env : Env) : NoShow (A.deeper env) := h
/-- a def's promise where no value is being shown; E: what is wanted of an exception -/
structure FnG (P : Program) (w : World) (K : PySem.W.Frag) (mg : Str → Option Value) (base : Heap) (CX : CXT) (k : Nat) (f : Addr) (fd : FuncData) (ps : List Str) (sp : Sp) : Prop where
  many : ∀ {vs : List V} {H : Hp} {Q : VK} {E : XK}, sp vs H Q E → vs.length = ps.length
  goes : ∀ {A : Around} {outer : List Env} {s : Shared} {H : Hp} {args : Args} {us : List Value} {vs : List V} {Q : VK} {E : XK}, Room k A → NoShow A → Env0 P w K mg base A outer s H → BindsTo s fd args (ps.zip us) → Vals vs us → sp vs H Q E →
    codeAny (model P w) A (.call (.ref f) args) (CR CX outer P w H s Q E) s
section
variable {P : Program} {w : World} {K : PySem.W.Frag} {mg : Str → Option Value} {base : Heap} {CX : CXT} {k : Nat} {f : Addr} {fd : FuncData} {ps : List Str} {sp : Sp}
theorem FnG.up {j : Nat} (F : FnG P w K mg base CX j f fd ps sp) (h : j ≤ k) : FnG P w K mg base CX k f fd ps sp := ⟨F.many, fun hr => F.goes (hr.mono h)⟩
theorem FnG.of_ok (F : FnOk P w K mg base CX k f fd ps sp) : FnG P w K mg base CX k f fd ps sp := ⟨fun {vs H Q E} q => F.len vs H Q E q, fun {A outer s H args us vs Q E} hr _ e b r q => F.run A outer s H args us vs Q E hr e b r q⟩
/-- a def by its body, its code object told -/
theorem _root_.L2.FunD.okGC {x qual : Str} {params : Arguments} {body : List Stmt} {scope : Scope} {dvs : List V} {kws : List (Str × V)} {N : List Str} (F : FunD K x qual params body scope dvs kws f fd) (S : FnScope N ps scope) (len : ∀ vs H Q E, sp vs H Q E → vs.length = ps.length)
    (walk : ∀ (A : Around) (outer : List Env) (s : Shared) (H : Hp) (vs : List V) (Q : VK) (E : XK), Room k (A.deeper (envOfC qual scope s.heap.objs.size f fd.code)) → NoShow A → sp vs H Q E →
      ∃ t, PSs (cxOf CX P w K mg base N qual scope f fd.code A outer s H E) body t ∧ t { nx := fun _ H' => Q .non H', rt := Q } (L2.start N vs) H) : FnG P w K mg base CX (k + 1) f fd ps sp := by
  obtain ⟨oc, od, dV, kV, doc, pm, an, cdv, ct, osl, rfl, lk, hcd, _, _⟩ := F.ex
  refine ⟨fun {vs H Q E} q => len vs H Q E q, fun {A outer s H args us vs Q E} hr hn e0 hb r q => ?_⟩
  have hl := len vs H Q E q
  have kin : K.In s.heap := e0.mod.kin.keeps fun b o z => (e0.bs b o z).1
  have lim : s.heap.NoLimit := e0.mod.nolimit.keeps fun b o z => (e0.bs b o z).1
  have kinds : ∀ y ∈ ps.zip us, scope.names.lookup y.1 = some .local ∨ (scope.names.lookup y.1 = some .cell ∧ ((cellsFrom (s.heap.objs.size + 1) scope.names []).lookup y.1).isSome = true) := fun y hy => by
    obtain ⟨n, u⟩ := y
    rcases S.par n (List.of_mem_zip hy).1 with z | z
    · exact Or.inl z
    · exact Or.inr ⟨z, PySem.W.cellsFrom_some _ _ _ (Or.inl z)⟩
  refine codeAny_call_function hr.depth (kin _ _ lk) rfl S.co S.gen rfl (PySem.W.codeRec_of kin hcd) (hb _ _ _ _ ?_)
  refine wpAny_newFunctionEnv_cells S.kind kinds fun env he s1 x => ?_
  subst he
  refine ⟨lim.keeps x.toInCall.keep, codeAny_func ?_⟩
  obtain ⟨t, ht, hq⟩ := walk A outer s H vs Q E (hr.deeper _) hn q
  have J : Inv (cxOf CX P w K mg base N qual scope f cdv A outer s H E) [] (L2.start N vs) H s1 := inv_start S hr.hd e0 hl r x
  refine wpAny_mono (ht.run [] s1 (L2.start N vs) H _ J hq) (fun fl s' hs => ?_) fun _ _ z => z
  cases fl with
  | ret u =>
    obtain ⟨v, σ', H', J, rv, z⟩ := hs
    exact ⟨v, H', J.os, J.bare, J.base, J.hok, rv, z⟩
  | next =>
    obtain ⟨σ', H', J, z⟩ := hs
    exact ⟨V.non, H', J.os, J.bare, J.base, J.hok, rfl, z⟩
  | brk =>
    obtain ⟨_, _, _, z⟩ := hs
    exact z.elim
  | cont =>
    obtain ⟨_, _, _, z⟩ := hs
    exact z.elim
/-- a def by its body -/
theorem _root_.L2.FunD.okG {x qual : Str} {params : Arguments} {body : List Stmt} {scope : Scope} {dvs : List V} {kws : List (Str × V)} {N : List Str} (F : FunD K x qual params body scope dvs kws f fd) (S : FnScope N ps scope) (len : ∀ vs H Q E, sp vs H Q E → vs.length = ps.length)
    (walk : ∀ (cdv : Value) (A : Around) (outer : List Env) (s : Shared) (H : Hp) (vs : List V) (Q : VK) (E : XK), Room k (A.deeper (envOfC qual scope s.heap.objs.size f cdv)) → NoShow A → sp vs H Q E →
      ∃ t, PSs (cxOf CX P w K mg base N qual scope f cdv A outer s H E) body t ∧ t { nx := fun _ H' => Q .non H', rt := Q } (L2.start N vs) H) : FnG P w K mg base CX (k + 1) f fd ps sp := F.okGC S len fun A outer s H vs Q E hr hn h => walk fd.code A outer s H vs Q E hr hn h
end
section
variable {X : Cx} {CX : CXT} {k : Nat} {f : Addr} {fd : FuncData} {ps : List Str} {sp : Sp} {E : XK} {x : Str} {p pos : Pos} {e : Expr} {es : List Expr} {t : TA}
theorem callee {pins : List (Addr × Obj)} {σ : L2.St} {H : Hp} {s : Shared} {Q : VK} {args : Args} {us : List Value} {vs : List V} (F : FnG X.prog X.w X.K X.mg X.base CX k f fd ps sp) (hr : Room k X.A) (hn : NoShow X.A) (hb : BindsTo s fd args (ps.zip us)) (hx : Passes CX X E)
    (I : Inv X pins σ H s) (r : Vals vs us) (h : sp vs H Q E) : codeAny (model X.prog X.w) X.A (.call (.ref f) args) (fun r s' => match r with | .ok (.ret u) => EP X pins σ Q u s' | .ok _ => False | .error e => X.xe e s') s :=
  codeAny_mono (F.goes hr hn I.env0 hb r h) fun r s' hq => by
    cases r with
    | error e => exact hx pins σ H s e s' I hq
    | ok fl =>
      cases fl with
      | ret u => exact I.after hq
      | next => exact False.elim hq
      | brk => exact False.elim hq
      | cont => exact False.elim hq
theorem pe_callG (F : FnG X.prog X.w X.K X.mg X.base CX k f fd ps sp) (hr : Room k X.A) (hn : NoShow X.A) (hg : Gl X x) (hm : X.mg x = some (.ref f)) (hk : PySem.W.keepIn X.K (.ref f) = true) (hb : Binds X.K fd ps []) (hx : Passes CX X E)
    (ha : PA X (e :: es) t) (hdb : (x == ("__debug__" : Str)) = false) (he : starEach (e :: es) X.env = (false, eval e X.env) :: starEach es X.env) (hpl : (backTo pos (starEach es X.env)).any (·.1) = false) :
    PE X (.Call (.Name x p) (e :: es) [] pos) (fun σ H Q => t σ H fun vs H1 => sp vs H1 Q E) := by
  refine ⟨fun pins s σ H Q I h => wpAny_Call_Name_kw (ld_glob I hg hm ?_ hdb)⟩
  refine PySem.W.callWith_K (h₀ := X.base) I.ok.mod.kin hk (thn (ha.run pos pins s σ H _ I h) fun us s1 ⟨vs, H1, I1, r, q⟩ => ⟨I1.kIn, ?_⟩) he hpl
  have hl : us.length = ps.length := by rw [← r.length]; exact F.many q
  have b := hb s1 us I1.kIn (by rw [List.append_nil]; exact hl)
  rw [List.append_nil] at b
  exact wpAny_call (codeAny_mono (callee F hr hn b hx I1 r q) fun r s' z => by
    cases r with
    | error e => exact z
    | ok fl => cases fl <;> first | exact z | exact z.elim)
theorem pe_callG0 (F : FnG X.prog X.w X.K X.mg X.base CX k f fd ps sp) (hr : Room k X.A) (hn : NoShow X.A) (hg : Gl X x) (hm : X.mg x = some (.ref f)) (hk : PySem.W.keepIn X.K (.ref f) = true) (hb : Binds X.K fd ps []) (hx : Passes CX X E)
    (hdb : (x == ("__debug__" : Str)) = false) : PE X (.Call (.Name x p) [] [] pos) (fun σ H Q => sp [] H Q E) := by
  refine ⟨fun pins s σ H Q I h => wpAny_Call_Name_kw (ld_glob I hg hm ?_ hdb)⟩
  refine PySem.W.callWith_K0 I.kIn hk ?_
  have hl : ([] : List Value).length = ps.length := F.many h
  have b := hb s [] I.kIn (by rw [List.append_nil]; exact hl)
  rw [List.append_nil] at b
  exact wpAny_call (codeAny_mono (callee F hr hn b hx I .nil h) fun r s' z => by
    cases r with
    | error e => exact z
    | ok fl => cases fl <;> first | exact z | exact z.elim)
end
end DL
set_option maxHeartbeats 4000000
/-! keywords; the end of a law whose defs promise so -/
namespace DL
open PySem PySem.Spec PyProof.Rows L2
section
variable {X : Cx} {CX : CXT} {k : Nat} {f : Addr} {fd : FuncData} {ps ks : List Str} {sp : Sp} {E : XK} {x : Str} {p pos : Pos} {kws : List Keyword} {tk : TA} {g : List Value → List Value → List Value} {gV : List V → List V → List V}
theorem pe_callGK (F : FnG X.prog X.w X.K X.mg X.base CX k f fd ps sp) (hr : Room k X.A) (hn : NoShow X.A) (hg : Gl X x) (hm : X.mg x = some (.ref f)) (hk : PySem.W.keepIn X.K (.ref f) = true) (hb : KBinds X.K fd ps ks g gV) (hx : Passes CX X E)
    (hkw : PK X kws tk) (hall : (backToKw pos (keywordEach kws X.env)).all (·.1.isSome) = true) (hks : (backToKw pos (keywordEach kws X.env)).filterMap (·.1) = ks) (hdb : (x == ("__debug__" : Str)) = false) (hpl : ((backTo pos (starEach [] X.env)).any (·.1) || (backToKw pos (keywordEach kws X.env)).any (·.1.isNone)) = false) :
    PE X (.Call (.Name x p) [] kws pos) (fun σ H Q => tk σ H fun zs H2 => sp (gV [] zs) H2 Q E) := by
  refine ⟨fun pins s σ H Q I h => wpAny_Call_Name_kw (ld_glob I hg hm ?_ hdb)⟩
  refine PySem.W.callWith_KW0 (h₀ := X.base) I.ok.mod.kin hk hall (thn (hkw.run pos pins s σ H _ I h) fun ws s2 ⟨zs, H2, I2, rz, q2⟩ => ⟨I2.kIn, ?_⟩) hpl
  rw [hks]
  have r2 := hb.rel (vs := []) (us := []) .nil rz
  have hl : (g [] ws).length = ps.length := by rw [← r2.length]; exact F.many q2
  exact wpAny_call (codeAny_mono (callee F hr hn (hb.to s2 [] ws I2.kIn hl) hx I2 r2 q2) fun r s' z => by
    cases r with
    | error e => exact z
    | ok fl => cases fl <;> first | exact z | exact z.elim)
end

section
variable {P : Program} {w : World} {K : PySem.W.Frag} {mg mb : Str → Option Value} {CX : CXT} {k : Nat} {fa a : Addr} {fd : FuncData} {x : Str} {sp : Sp} {s : Shared} {vs : List Value} {ns : List Int}
abbrev Fine (s : Shared) : Result → Shared → Prop := fun r s' => r = .ok (.ret (.bool true)) ∧ OldK s.heap s'.heap ∧ s'.os = s.os ∧ AllBare s'.gens
/-- over an abstract heap that tracks at most the script -/
theorem law_runs (kin : K.In s.heap) (hns : s.heap.Ns mainGlobals mg) (hb : s.heap.Ns builtinsNs mb) (hbb : ∀ y : Str, y ≠ "__name__" → mb y = bootBuiltins y) (lim : s.heap.NoLimit) (hg : s.gens = #[])
    (ha : s.heap.get? a = some { cls := .type "list", data := .seq vs.toArray }) (hr : Room k callerA) (F : ∀ base : Heap, K.In base → base.Ns mainGlobals mg → FnG P w K mg base CX k fa fd [x] sp)
    (bind : ∀ (s : Shared) (u : Value), BindsTo s fd ⟨[u], []⟩ [(x, u)]) {H : Hp} (hO : Only H) (q : sp [.ref a] H (fun v _ => v = .bl true) fun _ _ _ => False) (hok : HOk P w H s.heap) (only : ∀ b, H b ≠ none → b = a) (apart : H a ≠ none → K.lookup a = none)
    (hCX : ∀ H e s', CX [] H s (fun _ _ _ => False) e s' → False) : codeAny (model P w) callerA (.call (.ref fa) ⟨[.ref a], []⟩) (Fine s) s := by
  have nodict : ∀ {b : Addr} {o : Obj} {es : Array DictEntry} {ep : Nat}, s.heap.get? b = some o → o.data = .dict es ep → H b = none := fun {b o es ep} e d => by
    by_cases z : H b = none
    · exact z
    · rw [only b z, ha] at e
      cases e
      exact nomatch (show Data.seq vs.toArray _ = Data.dict es ep from d)
  have ns' : ∀ {b : Addr} {m : Str → Option Value}, s.heap.Ns b m → (hidT s.heap H).Ns b m := fun ⟨o, es, ep, e, d, r⟩ => ⟨o, es, ep, hidT_get e (nodict e d), d, r⟩
  have kin' : K.In (hidT s.heap H) := fun b o e => hidT_get (kin b o e) (by
    by_cases z : H b = none
    · exact z
    · have eb := only b z
      rw [eb] at e z
      rw [apart z] at e
      cases e)
  obtain ⟨mc, c1, c2⟩ := lim
  have e0 : Env0 P w K mg (hidT s.heap H) callerA [] s H := ⟨rfl, ⟨kin', ns' hns, ⟨mb, ns' hb, hbb⟩, ⟨mc, ns' c1, c2⟩⟩, fun b o e => of_hidT e, Nat.le_of_eq (hidT_size _ _), trivial, fun b z => absurd z List.not_mem_nil, hok, .of_eq hg⟩
  refine codeAny_mono ((F _ kin' (ns' hns)).goes (us := [.ref a]) (vs := [.ref a]) hr rfl e0 (bind s (.ref a)) (.cons rfl .nil) q) fun r s' z => ?_
  match r, z with
  | .error e, z => exact (hCX H e s' z).elim
  | .ok .next, z => exact False.elim z
  | .ok .brk, z => exact False.elim z
  | .ok .cont, z => exact False.elim z
  | .ok (.ret u), ⟨v, H', os, bare, un, hok', rv, (ev : v = .bl true)⟩ =>
    rw [ev] at rv
    have eu : u = Value.bool true := rv
    rw [eu]
    refine ⟨rfl, OldK.of_keep fun b o e => ?_, os, bare⟩
    rcases hO b with z | ⟨ob, xs, z⟩
    · exact un.keep b o e z (fun i => absurd (show b ∈ ([] : List Addr) from i) List.not_mem_nil) List.not_mem_nil
    · have e1 := (hok b _ z).1
      have e2 := (hok' b _ (un.frzs b ob _ z)).1
      rw [e1] at e
      rw [e2, e]
theorem law_callG (kin : K.In s.heap) (hns : s.heap.Ns mainGlobals mg) (hb : s.heap.Ns builtinsNs mb) (hbb : ∀ y : Str, y ≠ "__name__" → mb y = bootBuiltins y) (lim : s.heap.NoLimit) (hg : s.gens = #[])
    (ha : s.heap.get? a = some { cls := .type "list", data := .seq vs.toArray }) (hi : IntsAre vs ns) (hl : ns.length ≤ sizeLine) (hr : Room k callerA) (F : ∀ base : Heap, K.In base → base.Ns mainGlobals mg → FnG P w K mg base CX k fa fd [x] sp)
    (bind : ∀ (s : Shared) (u : Value), BindsTo s fd ⟨[u], []⟩ [(x, u)]) (hsp : ∀ H : Hp, Only H → SqL K H a (ns.map V.int) → sp [.ref a] H (fun v _ => v = .bl true) fun _ _ _ => False)
    (hCX : ∀ H e s', CX [] H s (fun _ _ _ => False) e s' → False) : codeAny (model P w) callerA (.call (.ref fa) ⟨[.ref a], []⟩) (Fine s) s := by
  have rv := vals_ints hi
  cases hk : K.lookup a with
  | some o =>
    have e := kin a o hk
    rw [ha] at e
    cases e
    have hO : Only (fun _ => none) := fun _ => Or.inl rfl
    exact law_runs kin hns hb hbb lim hg ha hr F bind hO (hsp _ hO (Or.inr ⟨_, vs.toArray, _, hk, rfl, rfl, rfl, by rw [List.size_toArray, hi.length]; exact hl, by simpa using rv⟩)) (fun b u z => nomatch (show (none : Option HO) = some u from z)) (fun b z => absurd rfl z) (fun z => absurd rfl z) hCX
  | none =>
    let H : Hp := fun b => if b = a then some (.frz { cls := .type "list", data := .seq vs.toArray } (.lst (ns.map V.int))) else none
    have at_a : H a = some (.frz { cls := .type "list", data := .seq vs.toArray } (.lst (ns.map V.int))) := if_pos rfl
    have off : ∀ b, b ≠ a → H b = none := fun b n => if_neg n
    have hO : Only H := fun b => by
      by_cases z : b = a
      · rw [z]; exact Or.inr ⟨_, _, at_a⟩
      · exact Or.inl (off b z)
    refine law_runs kin hns hb hbb lim hg ha hr F bind hO (hsp _ hO (Or.inl (Or.inr ⟨_, at_a⟩))) (fun b u z => ?_) (fun b z => Classical.byContradiction fun n => z (off b n)) (fun _ => hk) hCX
    by_cases n : b = a
    · rw [n, at_a] at z
      cases z
      rw [n]
      exact ⟨ha, by rw [List.length_map]; exact hl, vs, _, rv, ha⟩
    · rw [off b n] at z
      cases z
end
/-- the end over a head by facts -/
theorem walk_ofG {l : PySem.W.OpenLaw} {n k : Nat} {q : Program} {loose : List Str} {XP : (Str → Option Value) → Heap → Prop} {YP : World → Heap → Prop} {d : DefRec} {CX : CXT} {x : Str} (hn : l.most = some n) (hn2 : n ≤ sizeLine) (hdf : d.params.defaults = []) (hr : Room k callerA)
    (F : ∀ (w : World) (mg : Str → Option Value) (fa : Addr) (h : Heap), YP w h → h.Ns mainGlobals mg → mg d.name = some (.ref fa) → ∃ (K : PySem.W.Frag) (fd : FuncData) (sp : Sp), K.In h ∧ (∀ (s : Shared) (u : Value), BindsTo s fd ⟨[u], []⟩ [(x, u)]) ∧
      (∀ (H : Hp) (a : Addr) (ns : List Int), ns.length ≤ n → Only H → SqL K H a (ns.map V.int) → sp [.ref a] H (fun v _ => v = .bl true) fun _ _ _ => False) ∧ ∀ base : Heap, K.In base → base.Ns mainGlobals mg → FnG l.prog w K mg base CX k fa fd [x] sp)
    (hCX : ∀ (H : Hp) (s : Shared) (e : Value) (s' : Shared), CX [] H s (fun _ _ _ => False) e s' → False) : PySem.W.WalkO q loose XP YP l.row.toRowW d [] (fun f vs => PySem.call f vs) := by
  refine Att.attach_call hn hdf fun w s₀ s₁ mg mb fa o pm cd doc a vs ns G Y ho hd hcd hmg hobj hints hlen hg => ?_
  obtain ⟨K, fd, sp, kin, hb, hsp, hF⟩ := F w mg fa _ Y G.T.g hmg
  exact law_callG kin G.T.g G.T.b G.T.builtins G.T.nolimit hg hobj hints (Nat.le_trans hlen hn2) hr hF hb (fun H hO hS => hsp H a ns hlen hO hS) fun H e s' => hCX H s₁ e s'
end DL
set_option maxHeartbeats 4000000
namespace DL
open PySem PySem.Spec PyProof.Rows L2

/-! ### what is written of a def: its names, what its module's names stand for -/
structure Bs where
  P : Program
  w : World
  K : PySem.W.Frag
  mg : Str → Option Value
  base : Heap
structure Sta extends Bs where
  N : List Str
  names : List (Str × NameKind)
  k : Nat
  fc : Str → Bool
  /-- its code object and the first part of its own defs' names, where that is asked -/
  cd : Option (Addr × Str) := none

structure Fam (S : Sta) (X : Cx) : Prop where
  P : X.prog = S.P
  w : X.w = S.w
  K : X.K = S.K
  mg : X.mg = S.mg
  base : X.base = S.base
  N : X.N = S.N
  look : X.env.scope.names = S.names
  calm : X.calm = true
  room : Room S.k X.A
  po : PassesOwn (model X.prog X.w) X.A X.env X.xe
  fn : ∀ x, S.fc x = true → X.fn x = true
  kind : X.env.scope.kind = .function
  ns : NoShow X.A
  cd : ∀ c q, S.cd = some (c, q) → X.env.code = .ref c ∧ X.env.qual = q

/-! ### the meanings -/
abbrev W := Gc → En → (D → Prop) → Prop
abbrev WO := Gc → En → (SV → Prop) → Prop
abbrev WT := Gc → En → (Bool → Prop) → Prop
abbrev WA := Gc → En → (List D → Prop) → Prop

/-- a value just made: a list of our own, at a new address -/
def RpO (K : PySem.W.Frag) (G : Gc) (F' H H' : Hp) (v : V) : SV → Prop
  | .fz d => Rp K F' v d
  | .ow xs => ∃ a vs, v = .ref a ∧ H' a = some (.lst vs) ∧ RpL K F' vs xs ∧ ¬ G.R a ∧ H a = none ∧ F' a = none
  | .od t kds => ∃ a kvs, v = .ref a ∧ H' a = some (odO t kvs) ∧ kvs.map (·.1) = kds.map (·.1) ∧ RpL K F' (kvs.map (·.2)) (kds.map (·.2)) ∧ ¬ G.R a ∧ H a = none ∧ F' a = none

section
variable (K : PySem.W.Frag)
def tD (w : W) : TE := fun σ H Q => ∃ G F ρ Qd, EvR K G F H σ ρ ∧ w G ρ Qd ∧ ∀ v H' F' d, Same F F' → EvR K G F' H' σ ρ → Fr G H H' → Rp K F' v d → Qd d → Q v H'
def tO (w : WO) : TE := fun σ H Q => ∃ G F ρ Qd, EvR K G F H σ ρ ∧ w G ρ Qd ∧ ∀ v H' F' sv, Same F F' → EvR K G F' H' σ ρ → Fr G H H' → RpO K G F' H H' v sv → Qd sv → Q v H'
def tT (w : WT) : TT := fun σ H Q => ∃ G F ρ Qd, EvR K G F H σ ρ ∧ w G ρ Qd ∧ ∀ b H' F', Same F F' → EvR K G F' H' σ ρ → Fr G H H' → Qd b → Q b H'
def tA (w : WA) : TA := fun σ H Q => ∃ G F ρ Qd, EvR K G F H σ ρ ∧ w G ρ Qd ∧ ∀ vs H' F' ds, Same F F' → EvR K G F' H' σ ρ → Fr G H H' → RpL K F' vs ds → Qd ds → Q vs H'
end
def DE (S : Sta) (e : Expr) (w : W) : Prop := ∀ X, Fam S X → PE X e (tD S.K w)
def DO (S : Sta) (e : Expr) (w : WO) : Prop := ∀ X, Fam S X → PE X e (tO S.K w)
def DT (S : Sta) (e : Expr) (w : WT) : Prop := ∀ X, Fam S X → PT X e (tT S.K w)
def DW (S : Sta) (e : Expr) (w : WT) : Prop := ∀ X, Fam S X → PW X e (tT S.K w)
def DA (S : Sta) (es : List Expr) (w : WA) : Prop := ∀ X, Fam S X → PA X es (tA S.K w)

theorem _root_.L2.PE.imp {X : Cx} {e : Expr} {t t' : TE} (h : PE X e t) (i : ∀ σ H Q, t' σ H Q → t σ H Q) : PE X e t' := ⟨fun pins s σ H Q I q => h.run pins s σ H Q I (i σ H Q q)⟩
theorem _root_.L2.PT.imp {X : Cx} {e : Expr} {t t' : TT} (h : PT X e t) (i : ∀ σ H Q, t' σ H Q → t σ H Q) : PT X e t' := ⟨fun pins s σ H Q I q => h.run pins s σ H Q I (i σ H Q q)⟩
theorem _root_.L2.PW.imp {X : Cx} {e : Expr} {t t' : TT} (h : PW X e t) (i : ∀ σ H Q, t' σ H Q → t σ H Q) : PW X e t' := ⟨fun wh pins s σ H Q I q => h.run wh pins s σ H Q I (i σ H Q q)⟩
theorem _root_.L2.PA.imp {X : Cx} {es : List Expr} {t t' : TA} (h : PA X es t) (i : ∀ σ H Q, t' σ H Q → t σ H Q) : PA X es t' := ⟨fun pos pins s σ H Q I q => h.run pos pins s σ H Q I (i σ H Q q)⟩
theorem _root_.L2.PS.imp {X : Cx} {e : Stmt} {t t' : TS} (h : PS X e t) (i : ∀ E σ H, t' E σ H → t E σ H) : PS X e t' := ⟨fun pins s σ H Q I q => h.run pins s σ H Q I (i Q σ H q)⟩
theorem _root_.L2.PSs.imp {X : Cx} {e : List Stmt} {t t' : TS} (h : PSs X e t) (i : ∀ E σ H, t' E σ H → t E σ H) : PSs X e t' := ⟨fun pins s σ H Q I q => h.run pins s σ H Q I (i Q σ H q)⟩

section
variable {K : PySem.W.Frag} {G : Gc} {F F' H H' : Hp} {σ : St} {ρ : En}
theorem EvR.live (e : EvR K G F H σ ρ) {p : Addr} {o : HO} (h : H p = none) : EvR K G (upd F p o) (upd H p o) σ ρ := by
  have nr := e.nr h
  have nf : F p = none := by
    cases q : F p with
    | none => rfl
    | some u => rw [e.sub _ _ q] at h; cases h
  refine e.go (same_upd nf) (fun b x q => ?_) (Fr.upd h) (fun a r => ?_) (G.st _ _ e.wd (fun a r => upd_ne (by rintro rfl; exact nr r)) (extK_new h))
  · by_cases hb : b = p
    · subst hb; rw [upd_same] at q ⊢; exact q
    · rw [upd_ne hb] at q ⊢; exact e.sub _ _ q
  · rw [upd_ne (by rintro rfl; exact nr r)]; exact e.res a r
theorem EvR.fnone (e : EvR K G F H σ ρ) {p : Addr} (h : H p = none) : F p = none := by
  cases q : F p with
  | none => rfl
  | some u => rw [e.sub _ _ q] at h; cases h
/-- a new object that we keep to change it -/
theorem EvR.liveO (e : EvR K G F H σ ρ) {p : Addr} {o : HO} (h : H p = none) : EvR K G F (upd H p o) σ ρ := by
  have nr := e.nr h
  refine e.go (Same.refl _) (fun b x q => ?_) (Fr.upd h) e.res (G.st _ _ e.wd (fun a r => upd_ne (by rintro rfl; exact nr r)) (extK_new h))
  rw [upd_ne (ne_of_none (e.sub _ _ q) h)]
  exact e.sub _ _ q
/-- a list that is ours is looked at -/
theorem EvR.see (e : EvR K G F H σ ρ) {p : Addr} {o : HO} (h : H p = some o) (n : ¬ G.R p) : EvR K G (upd F p o) H σ ρ ∧ Same F (upd F p o) := by
  have sf : Same F (upd F p o) := fun b x q => by
    by_cases hb : b = p
    · subst hb; rw [upd_same, ← h]; exact (e.sub _ _ q).symm ▸ rfl
    · rw [upd_ne hb]; exact q
  refine ⟨e.go sf (fun b x q => ?_) Fr.refl (fun a r => ?_) e.wd, sf⟩
  · by_cases hb : b = p
    · subst hb; rw [upd_same] at q; rw [h]; exact q
    · rw [upd_ne hb] at q; exact e.sub _ _ q
  · rw [upd_ne (by rintro rfl; exact n r)]; exact e.res a r
end

/-! ### names, constants -/
def wVar (i : Nat) : W := fun _ ρ Q => ∃ sv, ρ[i]? = some (some sv) ∧ match sv with
  | .fz d => Q d
  | .ow xs => Q (.lst xs)
  | .od t kds => Q (.dic t kds)
def wC (d : D) : W := fun _ _ Q => Q d
section
variable {S : Sta} {e : Expr} {pos : Pos}
theorem de_var {i : Nat} {x : Str} (hN : S.N[i]? = some x) (hv : S.names.lookup x = some .local ∨ S.names.lookup x = some .cell ∨ S.names.lookup x = some .free) (hd : (x == ("__debug__" : Str)) = false) (hcd : (x == ("__classdict__" : Str)) = false) : DE S (.Name x pos) (wVar i) := fun X f => by
  refine (pe_var (i := i) (x := x) (by rw [f.N]; exact hN) (by unfold Vis; rw [f.look]; exact hv) hd hcd).imp fun σ H Q ⟨G, F, ρ, Qd, ev, ⟨sv, e1, q⟩, hq⟩ => ?_
  obtain ⟨v, h1, h2⟩ := ev.slot i sv e1
  refine ⟨v, h1, ?_⟩
  cases sv with
  | fz d => exact hq v H F d (Same.refl _) ev Fr.refl h2 q
  | ow xs =>
    obtain ⟨a, vs, rfl, ha, hr, hn⟩ := h2
    obtain ⟨ev', sf⟩ := ev.see ha hn
    exact hq _ H _ _ sf ev' Fr.refl (.lst upd_same (hr.mono sf)) q
  | od t kds =>
    obtain ⟨a, vs, rfl, ha, h0, hr, hn⟩ := h2
    obtain ⟨ev', sf⟩ := ev.see ha hn
    exact hq _ H _ _ sf ev' Fr.refl (.dic upd_same (RpK.join h0 (hr.mono sf))) q
theorem de_int {i : Int} {j : Nat} : DE S (.Constant (.int i) j pos) (wC (.int i)) := fun X f => pe_int.imp fun σ H Q ⟨G, F, ρ, Qd, ev, q, hq⟩ => hq _ H F _ (Same.refl _) ev Fr.refl (.int i) q
theorem de_bl {i : Bool} {j : Nat} : DE S (.Constant (.bool i) j pos) (wC (.bl i)) := fun X f => pe_bl.imp fun σ H Q ⟨G, F, ρ, Qd, ev, q, hq⟩ => hq _ H F _ (Same.refl _) ev Fr.refl (.bl i) q
theorem de_non {j : Nat} : DE S (.Constant .none j pos) (wC .non) := fun X f => pe_non.imp fun σ H Q ⟨G, F, ρ, Qd, ev, q, hq⟩ => hq _ H F _ (Same.refl _) ev Fr.refl .non q
theorem de_str {x : Str} {j : Nat} : DE S (.Constant (.str x) j pos) (wC (.str x)) := fun X f => pe_str.imp fun σ H Q ⟨G, F, ρ, Qd, ev, q, hq⟩ => hq _ H F _ (Same.refl _) ev Fr.refl (.str x) q
/-- a module's int -/
theorem de_gint {x : Str} {i : Int} (hg : S.names.lookup x = some .globalImplicit) (hm : ∃ t, S.mg x = some (.int i t)) (hd : (x == ("__debug__" : Str)) = false) : DE S (.Name x pos) (wC (.int i)) := fun X f => by
  obtain ⟨t, hm⟩ := hm
  exact (pe_glob (v := .int i) (u := .int i t) (by unfold Gl Env.kindOf; rw [f.look]; exact hg) (by rw [f.mg]; exact hm) ⟨t, rfl⟩ hd).imp fun σ H Q ⟨G, F, ρ, Qd, ev, q, hq⟩ => hq _ H F _ (Same.refl _) ev Fr.refl (.int i) q
end

/-! ### two places -/
def OpD (K : PySem.W.Frag) (r : R2) (op : D → D → (D → Prop) → Prop) : Prop := ∀ G F σ H ρ v1 d1 v2 d2 (Qd : D → Prop) (Q : VK), EvR K G F H σ ρ → Rp K F v1 d1 → Rp K F v2 d2 → op d1 d2 Qd →
  (∀ v H' F' d, Same F F' → EvR K G F' H' σ ρ → Fr G H H' → Rp K F' v d → Qd d → Q v H') → r v1 v2 H Q
def OpO (K : PySem.W.Frag) (r : R2) (op : D → D → (SV → Prop) → Prop) : Prop := ∀ G F σ H ρ v1 d1 v2 d2 (Qd : SV → Prop) (Q : VK), EvR K G F H σ ρ → Rp K F v1 d1 → Rp K F v2 d2 → op d1 d2 Qd →
  (∀ v H' F' d, Same F F' → EvR K G F' H' σ ρ → Fr G H H' → RpO K G F' H H' v d → Qd d → Q v H') → r v1 v2 H Q
def wOp (op : D → D → (D → Prop) → Prop) (wa wb : W) : W := fun G ρ Q => wa G ρ fun x => wb G ρ fun y => op x y Q
def wOpO (op : D → D → (SV → Prop) → Prop) (wa wb : W) : WO := fun G ρ Q => wa G ρ fun x => wb G ρ fun y => op x y Q
theorem tD_op {K : PySem.W.Frag} {r : R2} {op : D → D → (D → Prop) → Prop} (h : OpD K r op) {wa wb : W} (σ : St) (H : Hp) (Q : VK) : tD K (wOp op wa wb) σ H Q → tOp r (tD K wa) (tD K wb) σ H Q := fun ⟨G, F, ρ, Qd, ev, hw, hq⟩ =>
  ⟨G, F, ρ, _, ev, hw, fun v1 H1 F1 d1 s1 e1 f1 r1 q1 => ⟨G, F1, ρ, _, e1, q1, fun v2 H2 F2 d2 s2 e2 f2 r2 q2 => h G F2 σ H2 ρ v1 d1 v2 d2 Qd Q e2 (r1.mono s2) r2 q2 fun v H' F' d s3 e3 f3 r3 q3 =>
    hq v H' F' d (s1.trans (s2.trans s3)) e3 (f1.trans (f2.trans f3)) r3 q3⟩⟩
theorem RpO.back {K : PySem.W.Frag} {G : Gc} {F' H H1 H' : Hp} {v : V} {sv : SV} (h : RpO K G F' H1 H' v sv) (f : Fr G H H1) : RpO K G F' H H' v sv := by
  cases sv with
  | fz d => exact h
  | ow xs =>
    obtain ⟨a, vs, e, h1, h2, h3, h4, h5⟩ := h
    exact ⟨a, vs, e, h1, h2, h3, f.free h3 h4, h5⟩
  | od t kds =>
    obtain ⟨a, vs, e, h1, h0, h2, h3, h4, h5⟩ := h
    exact ⟨a, vs, e, h1, h0, h2, h3, f.free h3 h4, h5⟩
theorem tO_op {K : PySem.W.Frag} {r : R2} {op : D → D → (SV → Prop) → Prop} (h : OpO K r op) {wa wb : W} (σ : St) (H : Hp) (Q : VK) : tO K (wOpO op wa wb) σ H Q → tOp r (tD K wa) (tD K wb) σ H Q := fun ⟨G, F, ρ, Qd, ev, hw, hq⟩ =>
  ⟨G, F, ρ, _, ev, hw, fun v1 H1 F1 d1 s1 e1 f1 r1 q1 => ⟨G, F1, ρ, _, e1, q1, fun v2 H2 F2 d2 s2 e2 f2 r2 q2 => h G F2 σ H2 ρ v1 d1 v2 d2 Qd Q e2 (r1.mono s2) r2 q2 fun v H' F' d s3 e3 f3 r3 q3 =>
    hq v H' F' d (s1.trans (s2.trans s3)) e3 (f1.trans (f2.trans f3)) (r3.back (f1.trans f2)) q3⟩⟩

/-! #### on ints -/
def oI (C : Int → Int → Prop) (g : Int → Int → Int) : D → D → (D → Prop) → Prop := fun x y Q => ∃ i j, x = .int i ∧ y = .int j ∧ C i j ∧ Q (.int (g i j))
def oI0 (g : Int → Int → Int) : D → D → (D → Prop) → Prop := fun x y Q => ∃ i j, x = .int i ∧ y = .int j ∧ Q (.int (g i j))
def oB0 (g : Int → Int → Bool) : D → D → (D → Prop) → Prop := fun x y Q => ∃ i j, x = .int i ∧ y = .int j ∧ Q (.bl (g i j))
theorem opd_I {K : PySem.W.Frag} {C : Int → Int → Prop} {g : Int → Int → Int} : OpD K (rI C fun i j => .int (g i j)) (oI C g) := fun G F σ H ρ v1 d1 v2 d2 Qd Q ev r1 r2 ⟨i, j, e1, e2, c, q⟩ hq => by
  subst e1 e2
  cases r1; cases r2
  exact ⟨i, j, rfl, rfl, c, hq _ H F _ (Same.refl _) ev Fr.refl (.int _) q⟩
theorem opd_I0 {K : PySem.W.Frag} {g : Int → Int → Int} : OpD K (rI0 fun i j => .int (g i j)) (oI0 g) := fun G F σ H ρ v1 d1 v2 d2 Qd Q ev r1 r2 ⟨i, j, e1, e2, q⟩ hq => by
  subst e1 e2
  cases r1; cases r2
  exact ⟨i, j, rfl, rfl, hq _ H F _ (Same.refl _) ev Fr.refl (.int _) q⟩
theorem opd_B0 {K : PySem.W.Frag} {g : Int → Int → Bool} : OpD K (rI0 fun i j => .bl (g i j)) (oB0 g) := fun G F σ H ρ v1 d1 v2 d2 Qd Q ev r1 r2 ⟨i, j, e1, e2, q⟩ hq => by
  subst e1 e2
  cases r1; cases r2
  exact ⟨i, j, rfl, rfl, hq _ H F _ (Same.refl _) ev Fr.refl (.bl _) q⟩
section
variable {S : Sta} {a b e : Expr} {pos : Pos} {wa wb : W}
theorem de_sub (ha : DE S a wa) (hb : DE S b wb) : DE S (.BinOp a .Sub b pos) (wOp (oI0 fun i j => i - j) wa wb) := fun X f => (pe_op op_sub (ha X f) (hb X f)).imp (tD_op opd_I0)
theorem de_mulI (ha : DE S a wa) (hb : DE S b wb) : DE S (.BinOp a .Mult b pos) (wOp (oI CMul fun i j => i * j) wa wb) := fun X f => (pe_op op_mul (ha X f) (hb X f)).imp (tD_op opd_I)
theorem de_fdiv (ha : DE S a wa) (hb : DE S b wb) : DE S (.BinOp a .FloorDiv b pos) (wOp (oI CDiv fun i j => i / j) wa wb) := fun X f => (pe_op op_fdiv (ha X f) (hb X f)).imp (tD_op opd_I)
theorem de_mod (ha : DE S a wa) (hb : DE S b wb) : DE S (.BinOp a .Mod b pos) (wOp (oI (fun _ j => 0 < j) fun i j => i % j) wa wb) := fun X f => (pe_op op_mod (ha X f) (hb X f)).imp (tD_op opd_I)
theorem de_pow (ha : DE S a wa) (hb : DE S b wb) : DE S (.BinOp a .Pow b pos) (wOp (oI CPow fun i j => i ^ j.toNat) wa wb) := fun X f => (pe_op op_pow (ha X f) (hb X f)).imp (tD_op opd_I)
theorem de_shl (ha : DE S a wa) (hb : DE S b wb) : DE S (.BinOp a .LShift b pos) (wOp (oI CPow fun i j => i * 2 ^ j.toNat) wa wb) := fun X f => (pe_op op_shl (ha X f) (hb X f)).imp (tD_op opd_I)
theorem de_shr (ha : DE S a wa) (hb : DE S b wb) : DE S (.BinOp a .RShift b pos) (wOp (oI (fun _ j => 0 ≤ j) fun i j => i / 2 ^ j.toNat) wa wb) := fun X f => (pe_op op_shr (ha X f) (hb X f)).imp (tD_op opd_I)
theorem de_and (ha : DE S a wa) (hb : DE S b wb) : DE S (.BinOp a .BitAnd b pos) (wOp (oI0 Builtin.bitAnd) wa wb) := fun X f => (pe_op op_and (ha X f) (hb X f)).imp (tD_op opd_I0)
theorem de_or (ha : DE S a wa) (hb : DE S b wb) : DE S (.BinOp a .BitOr b pos) (wOp (oI0 Builtin.bitOr) wa wb) := fun X f => (pe_op op_or (ha X f) (hb X f)).imp (tD_op opd_I0)
theorem de_xor (ha : DE S a wa) (hb : DE S b wb) : DE S (.BinOp a .BitXor b pos) (wOp (oI0 Builtin.bitXor) wa wb) := fun X f => (pe_op op_xor (ha X f) (hb X f)).imp (tD_op opd_I0)
end
end DL
set_option maxHeartbeats 4000000
namespace DL
open PySem PySem.Spec PyProof.Rows L2

/-! ### as the library reads it -/
mutual
def toPy : D → Option PyData
  | .non => some .none
  | .bl b => some (.bool b)
  | .int i => some (.int i)
  | .str x => some (.str x)
  | .tup xs => (toPyL xs).map .tuple
  | .tix xs => (toPyL xs).map .tuple
  | .tky xs => (toPyL xs).map .tuple
  | .lst xs => (toPyL xs).map .list
  | .dic _ _ => none
  | .ob _ => none
def toPyL : List D → Option (List PyData)
  | [] => some []
  | x :: xs => match toPy x with
    | some p => (toPyL xs).map (p :: ·)
    | none => none
end
section
variable {K : PySem.W.Frag} {F H : Hp}
mutual
theorem Rp.dp (s : Same F H) : ∀ {d : D} {v : V} {p : PyData}, Rp K F v d → toPy d = some p → Dp K H v p
  | .non, _, _, .non, e => by cases e; exact .non
  | .bl b, _, _, .bl _, e => by cases e; exact .bl b
  | .int i, _, _, .int _, e => by cases e; exact .int i
  | .str x, _, _, .str _, e => by cases e; exact .str x
  | .tup xs, _, p, .tup h r, e => by
    unfold toPy at e
    cases q : toPyL xs with
    | none => rw [q] at e; cases e
    | some ps => rw [q] at e; cases e; exact .tup (Same.sqt s h) (RpL.dp s r q)
  | .tix xs, _, p, .tix h _ r, e => by
    unfold toPy at e
    cases q : toPyL xs with
    | none => rw [q] at e; cases e
    | some ps => rw [q] at e; cases e; exact .tup ((.inl (.inr ⟨_, s _ _ h⟩))) (RpL.dp s r q)
  | .tky xs, _, p, .tky h r, e => by
    unfold toPy at e
    cases q : toPyL xs with
    | none => rw [q] at e; cases e
    | some ps => rw [q] at e; cases e; exact .tup (SqT.of (s _ _ h)) (RpL.dp s r q)
  | .lst xs, _, p, .lst h r, e => by
    unfold toPy at e
    cases q : toPyL xs with
    | none => rw [q] at e; cases e
    | some ps => rw [q] at e; cases e; exact .lst (SqL.of (s _ _ h)) (RpL.dp s r q)
  | .dic _ _, _, _, _, e => by cases e
  | .ob _, _, _, _, e => by cases e
theorem RpL.dp (s : Same F H) : ∀ {ds : List D} {vs : List V} {ps : List PyData}, RpL K F vs ds → toPyL ds = some ps → DpAll K H vs ps
  | [], _, _, .nil, e => by cases e; exact .nil
  | d :: ds, _, ps, .cons h r, e => by
    unfold toPyL at e
    cases q : toPy d with
    | none => rw [q] at e; cases e
    | some p =>
      rw [q] at e
      cases q2 : toPyL ds with
      | none => rw [q2] at e; cases e
      | some qs => rw [q2] at e; cases e; exact .cons (Rp.dp s h q) (RpL.dp s r q2)
end
end

/-! ### argument lists, displays -/
def waNil : WA := fun _ _ Q => Q []
def waCons (w : W) (r : WA) : WA := fun G ρ Q => w G ρ fun x => r G ρ fun xs => Q (x :: xs)
def wTup (w : WA) : W := fun G ρ Q => w G ρ fun xs => xs.length ≤ sizeLine ∧ Q (.tup xs)
def woLst (w : WA) : WO := fun G ρ Q => w G ρ fun xs => xs.length ≤ sizeLine ∧ Q (.ow xs)
/-- a list just made is kept for good -/
def wFz (w : WO) : W := fun G ρ Q => w G ρ fun sv => match sv with
  | .fz d => Q d
  | .ow xs => Q (.lst xs)
  | .od t kds => Q (.dic t kds)
def woFz (w : W) : WO := fun G ρ Q => w G ρ fun d => Q (.fz d)
section
variable {S : Sta} {a b c e : Expr} {es : List Expr} {pos : Pos} {w wa wb wc : W} {r : WA} {wo : WO}
theorem da_nil : DA S [] waNil := fun X f => pa_nil.imp fun σ H Q ⟨G, F, ρ, Qd, ev, q, hq⟩ => hq [] H F [] (Same.refl _) ev Fr.refl .nil q
theorem da_cons (ha : DE S e w) (hr : DA S es r) (hs : ∀ env, starEach (e :: es) env = (false, eval e env) :: starEach es env := by intro _; rfl) : DA S (e :: es) (waCons w r) := fun X f =>
  (pa_cons (ha X f) (hr X f) (hs _)).imp fun σ H Q ⟨G, F, ρ, Qd, ev, hw, hq⟩ =>
    ⟨G, F, ρ, _, ev, hw, fun v1 H1 F1 d1 s1 e1 f1 r1 q1 => ⟨G, F1, ρ, _, e1, q1, fun vs H2 F2 ds s2 e2 f2 r2 q2 => hq (v1 :: vs) H2 F2 (d1 :: ds) (s1.trans s2) e2 (f1.trans f2) (.cons (r1.mono s2) r2) q2⟩⟩
theorem de_tup {x1} (h : DA S es r) : DE S (.Tuple es x1 pos) (wTup r) := fun X f => (pe_tup (h X f)).imp fun σ H Q ⟨G, F, ρ, Qd, ev, hw, hq⟩ =>
  ⟨G, F, ρ, _, ev, hw, fun vs H1 F1 ds s1 e1 f1 r1 ⟨z, q1⟩ => ⟨by rw [r1.len]; exact z, fun p hp =>
    hq (.ref p) _ _ (.tup ds) (s1.trans (same_upd (e1.fnone hp))) (e1.live hp) (f1.trans (Fr.upd hp)) (.tup (SqT.of upd_same) (r1.mono (same_upd (e1.fnone hp)))) q1⟩⟩
theorem do_lst (h : DA S es r) : DO S (.List es pos) (woLst r) := fun X f => (pe_lst (h X f)).imp fun σ H Q ⟨G, F, ρ, Qd, ev, hw, hq⟩ =>
  ⟨G, F, ρ, _, ev, hw, fun vs H1 F1 ds s1 e1 f1 r1 ⟨z, q1⟩ => ⟨by rw [r1.len]; exact z, fun p hp =>
    hq (.ref p) _ _ (.ow ds) s1 (e1.liveO hp) (f1.trans (Fr.upd hp)) ⟨p, vs, rfl, upd_same, r1, e1.nr hp, f1.free (e1.nr hp) hp, e1.fnone hp⟩ q1⟩⟩
theorem de_fz (h : DO S e wo) : DE S e (wFz wo) := fun X f => (h X f).imp fun σ H Q ⟨G, F, ρ, Qd, ev, hw, hq⟩ =>
  ⟨G, F, ρ, _, ev, hw, fun v H1 F1 sv s1 e1 f1 r1 q1 => by
    cases sv with
    | fz d => exact hq v H1 F1 d s1 e1 f1 r1 q1
    | ow xs =>
      obtain ⟨a, vs, rfl, ha, hr, hn, _⟩ := r1
      obtain ⟨ev', sf⟩ := e1.see ha hn
      exact hq _ H1 _ _ (s1.trans sf) ev' f1 (.lst upd_same (hr.mono sf)) q1
    | od t kds =>
      obtain ⟨a, vs, rfl, ha, h0, hr, hn, _⟩ := r1
      obtain ⟨ev', sf⟩ := e1.see ha hn
      exact hq _ H1 _ _ (s1.trans sf) ev' f1 (.dic upd_same (RpK.join h0 (hr.mono sf))) q1⟩
theorem do_fz (h : DE S e w) : DO S e (woFz w) := fun X f => (h X f).imp fun σ H Q ⟨G, F, ρ, Qd, ev, hw, hq⟩ =>
  ⟨G, F, ρ, _, ev, hw, fun v H1 F1 d s1 e1 f1 r1 q1 => hq v H1 F1 (.fz d) s1 e1 f1 r1 q1⟩

/-! ### tests -/
def wtV (w : W) : WT := fun G ρ Q => w G ρ fun d => ∃ k, d = .bl k ∧ Q k
theorem dt_val (h : DE S e w) (he : ∀ env whole, isTrue e env whole = (do let v ← whole; standAt e.pos; holding [v] (truthy v)) := by intro _ _; rfl) : DT S e (wtV w) := fun X f =>
  (pt_val (h X f) (he _)).imp fun σ H Q ⟨G, F, ρ, Qd, ev, hw, hq⟩ => ⟨G, F, ρ, _, ev, hw, fun v H1 F1 d s1 e1 f1 r1 ⟨k, ek, q1⟩ => by
    subst ek
    cases r1
    exact ⟨k, rfl, hq k H1 F1 s1 e1 f1 q1⟩⟩
def wtAnd (a b : WT) : WT := fun G ρ Q => a G ρ fun k => if k = true then b G ρ Q else Q false
def wtOr (a b : WT) : WT := fun G ρ Q => a G ρ fun k => if k = true then Q true else b G ρ Q
def wtNot (a : WT) : WT := fun G ρ Q => a G ρ fun k => Q (!k)
variable {ta tb tc : WT} {rest : List Expr}
theorem dt_pw (h : DW S e ta) : DT S e ta := fun X f => (h X f).pt
theorem dw_and1 (h : DT S a ta) : DW S (.BoolOp .And [a] pos) ta := fun X f => pw_and1 (h X f)
theorem dw_or1 (h : DT S a ta) : DW S (.BoolOp .Or [a] pos) ta := fun X f => pw_or1 (h X f)
theorem dw_and (ha : DT S a ta) (hb : DW S (.BoolOp .And (b :: rest) pos) tb) : DW S (.BoolOp .And (a :: b :: rest) pos) (wtAnd ta tb) := fun X f => (pw_and (ha X f) (hb X f)).imp fun σ H Q ⟨G, F, ρ, Qd, ev, hw, hq⟩ =>
  ⟨G, F, ρ, _, ev, hw, fun k H1 F1 s1 e1 f1 q1 => by
    cases k with
    | true => exact iteT ⟨G, F1, ρ, _, e1, (by rw [if_pos rfl] at q1; exact q1), fun k H2 F2 s2 e2 f2 q2 => hq k H2 F2 (s1.trans s2) e2 (f1.trans f2) q2⟩
    | false => exact iteF (hq false H1 F1 s1 e1 f1 (by rw [if_neg Bool.false_ne_true] at q1; exact q1))⟩
theorem dw_or (ha : DT S a ta) (hb : DW S (.BoolOp .Or (b :: rest) pos) tb) : DW S (.BoolOp .Or (a :: b :: rest) pos) (wtOr ta tb) := fun X f => (pw_or (ha X f) (hb X f)).imp fun σ H Q ⟨G, F, ρ, Qd, ev, hw, hq⟩ =>
  ⟨G, F, ρ, _, ev, hw, fun k H1 F1 s1 e1 f1 q1 => by
    cases k with
    | false => exact iteF ⟨G, F1, ρ, _, e1, (by rw [if_neg Bool.false_ne_true] at q1; exact q1), fun k H2 F2 s2 e2 f2 q2 => hq k H2 F2 (s1.trans s2) e2 (f1.trans f2) q2⟩
    | true => exact iteT (hq true H1 F1 s1 e1 f1 (by rw [if_pos rfl] at q1; exact q1))⟩
theorem dt_not (ha : DT S a ta) : DT S (.UnaryOp .Not a pos) (wtNot ta) := fun X f => (pt_not (ha X f)).imp fun σ H Q ⟨G, F, ρ, Qd, ev, hw, hq⟩ => ⟨G, F, ρ, _, ev, hw, fun k H1 F1 s1 e1 f1 q1 => hq (!k) H1 F1 s1 e1 f1 q1⟩
/-! as values -/
def wAnd (a b : W) : W := fun G ρ Q => a G ρ fun d => ∃ k, d = .bl k ∧ if k = true then b G ρ Q else Q (.bl false)
def wOr (a b : W) : W := fun G ρ Q => a G ρ fun d => ∃ k, d = .bl k ∧ if k = true then Q (.bl true) else b G ρ Q
def wNot (a : W) : W := fun G ρ Q => a G ρ fun d => ∃ k, d = .bl k ∧ Q (.bl (!k))
def wIf (t : WT) (a b : W) : W := fun G ρ Q => t G ρ fun k => if k = true then a G ρ Q else b G ρ Q
def woIf (t : WT) (a b : WO) : WO := fun G ρ Q => t G ρ fun k => if k = true then a G ρ Q else b G ρ Q
theorem de_one {op} (h : DE S a wa) : DE S (.BoolOp op [a] pos) wa := fun X f => pe_one (h X f)
theorem de_andV (ha : DE S a wa) (hb : DE S (.BoolOp .And (b :: rest) pos) wb) : DE S (.BoolOp .And (a :: b :: rest) pos) (wAnd wa wb) := fun X f => (pe_and (ha X f) (hb X f)).imp fun σ H Q ⟨G, F, ρ, Qd, ev, hw, hq⟩ =>
  ⟨G, F, ρ, _, ev, hw, fun v H1 F1 d s1 e1 f1 r1 ⟨k, ek, q1⟩ => by
    subst ek
    cases r1
    refine ⟨k, rfl, ?_⟩
    cases k with
    | true => exact iteT ⟨G, F1, ρ, _, e1, (by rw [if_pos rfl] at q1; exact q1), fun v H2 F2 d s2 e2 f2 r2 q2 => hq v H2 F2 d (s1.trans s2) e2 (f1.trans f2) r2 q2⟩
    | false => exact iteF (hq _ H1 F1 _ s1 e1 f1 (.bl false) (by rw [if_neg Bool.false_ne_true] at q1; exact q1))⟩
theorem de_orV (ha : DE S a wa) (hb : DE S (.BoolOp .Or (b :: rest) pos) wb) : DE S (.BoolOp .Or (a :: b :: rest) pos) (wOr wa wb) := fun X f => (pe_or (ha X f) (hb X f)).imp fun σ H Q ⟨G, F, ρ, Qd, ev, hw, hq⟩ =>
  ⟨G, F, ρ, _, ev, hw, fun v H1 F1 d s1 e1 f1 r1 ⟨k, ek, q1⟩ => by
    subst ek
    cases r1
    refine ⟨k, rfl, ?_⟩
    cases k with
    | false => exact iteF ⟨G, F1, ρ, _, e1, (by rw [if_neg Bool.false_ne_true] at q1; exact q1), fun v H2 F2 d s2 e2 f2 r2 q2 => hq v H2 F2 d (s1.trans s2) e2 (f1.trans f2) r2 q2⟩
    | true => exact iteT (hq _ H1 F1 _ s1 e1 f1 (.bl true) (by rw [if_pos rfl] at q1; exact q1))⟩
theorem de_notV (ha : DE S a wa) : DE S (.UnaryOp .Not a pos) (wNot wa) := fun X f => (pe_not (ha X f)).imp fun σ H Q ⟨G, F, ρ, Qd, ev, hw, hq⟩ =>
  ⟨G, F, ρ, _, ev, hw, fun v H1 F1 d s1 e1 f1 r1 ⟨k, ek, q1⟩ => by
    subst ek
    cases r1
    exact ⟨k, rfl, hq _ H1 F1 _ s1 e1 f1 (.bl (!k)) q1⟩⟩
theorem de_if (hc : DT S c tc) (ha : DE S a wa) (hb : DE S b wb) : DE S (.IfExp c a b pos) (wIf tc wa wb) := fun X f => (pe_ifExp (hc X f) (ha X f) (hb X f)).imp fun σ H Q ⟨G, F, ρ, Qd, ev, hw, hq⟩ =>
  ⟨G, F, ρ, _, ev, hw, fun k H1 F1 s1 e1 f1 q1 => by
    cases k with
    | true => exact iteT ⟨G, F1, ρ, _, e1, (by rw [if_pos rfl] at q1; exact q1), fun v H2 F2 d s2 e2 f2 r2 q2 => hq v H2 F2 d (s1.trans s2) e2 (f1.trans f2) r2 q2⟩
    | false => exact iteF ⟨G, F1, ρ, _, e1, (by rw [if_neg Bool.false_ne_true] at q1; exact q1), fun v H2 F2 d s2 e2 f2 r2 q2 => hq v H2 F2 d (s1.trans s2) e2 (f1.trans f2) r2 q2⟩⟩
theorem do_if {oa ob : WO} (hc : DT S c tc) (ha : DO S a oa) (hb : DO S b ob) : DO S (.IfExp c a b pos) (woIf tc oa ob) := fun X f => (pe_ifExp (hc X f) (ha X f) (hb X f)).imp fun σ H Q ⟨G, F, ρ, Qd, ev, hw, hq⟩ =>
  ⟨G, F, ρ, _, ev, hw, fun k H1 F1 s1 e1 f1 q1 => by
    cases k with
    | true => exact iteT ⟨G, F1, ρ, _, e1, (by rw [if_pos rfl] at q1; exact q1), fun v H2 F2 d s2 e2 f2 r2 q2 => hq v H2 F2 d (s1.trans s2) e2 (f1.trans f2) (r2.back f1) q2⟩
    | false => exact iteF ⟨G, F1, ρ, _, e1, (by rw [if_neg Bool.false_ne_true] at q1; exact q1), fun v H2 F2 d s2 e2 f2 r2 q2 => hq v H2 F2 d (s1.trans s2) e2 (f1.trans f2) (r2.back f1) q2⟩⟩
end

/-! ### comparisons -/
/-- data at any depth -/
def oEq : D → D → (D → Prop) → Prop := fun x y Q => ∃ p q, toPy x = some p ∧ toPy y = some q ∧ SeqAt.shaped p = true ∧ SeqAt.shaped q = true ∧ Q (.bl (PyData.eqv p q))
def oNe : D → D → (D → Prop) → Prop := fun x y Q => ∃ p q, toPy x = some p ∧ toPy y = some q ∧ SeqAt.shaped p = true ∧ SeqAt.shaped q = true ∧ Q (.bl (!PyData.eqv p q))
def itemsOf : D → Option (List D)
  | .tup xs => some xs
  | .tix xs => some xs
  | .tky xs => some xs
  | .lst xs => some xs
  | _ => none
def oIn : D → D → (D → Prop) → Prop := fun x y Q => ∃ ys p q, itemsOf y = some ys ∧ toPy x = some p ∧ toPyL ys = some q ∧ SeqAt.shaped p = true ∧ SeqAt.shaped (.tuple q) = true ∧ Q (.bl (q.any fun z => PyData.eqv z p))
def oNotIn : D → D → (D → Prop) → Prop := fun x y Q => ∃ ys p q, itemsOf y = some ys ∧ toPy x = some p ∧ toPyL ys = some q ∧ SeqAt.shaped p = true ∧ SeqAt.shaped (.tuple q) = true ∧ Q (.bl (!q.any fun z => PyData.eqv z p))
def oIsNon : D → D → (D → Prop) → Prop := fun x y Q => y = .non ∧ Q (.bl (match x with | .non => true | _ => false))
def oNotNon : D → D → (D → Prop) → Prop := fun x y Q => y = .non ∧ Q (.bl (!match x with | .non => true | _ => false))
def oIsBl : D → D → (D → Prop) → Prop := fun x y Q => ∃ a b, x = .bl a ∧ y = .bl b ∧ Q (.bl (decide (a = b)))
def oNotBl : D → D → (D → Prop) → Prop := fun x y Q => ∃ a b, x = .bl a ∧ y = .bl b ∧ Q (.bl (!decide (a = b)))

def rIsN : R2 := fun x y H Q => y = .non ∧ Q (.bl (decide (x = .non))) H
def rNotN : R2 := fun x y H Q => y = .non ∧ Q (.bl (!decide (x = .non))) H
def rInS (K : PySem.W.Frag) : R2 := fun x y H Q => ∃ p q, Dp K H x p ∧ (Dp K H y (.list q) ∨ Dp K H y (.tuple q)) ∧ SeqAt.shaped p = true ∧ SeqAt.shaped (.tuple q) = true ∧ Q (.bl (q.any fun z => PyData.eqv z p)) H
def rNotInS (K : PySem.W.Frag) : R2 := fun x y H Q => ∃ p q, Dp K H x p ∧ (Dp K H y (.list q) ∨ Dp K H y (.tuple q)) ∧ SeqAt.shaped p = true ∧ SeqAt.shaped (.tuple q) = true ∧ Q (.bl (!q.any fun z => PyData.eqv z p)) H
section
variable {X : Cx}
theorem canLayL {q : List PyData} (h : SeqAt.shaped (.tuple q) = true) : PyData.canLayAll0 q = true := SeqAt.canLay_of_shaped h
theorem op_inS (hu : X.A.units + 65 < cLine) : OpR X (compareOp .In) (rInS X.K) := by
  intro pins s σ H x y v u Q I rx ry h
  obtain ⟨d, ds, hd, he, sd, se, q⟩ := h
  obtain ⟨as, r1⟩ := Dp.reads I d x v hd rx
  rcases he with he | he
  · obtain ⟨bs, r2⟩ := Dp.reads I (.list ds) y u he ry
    exact SeqAt.in_list_reads r2 r1 (canLayL se) (SeqAt.canLay_of_shaped sd) (room_in_shaped sd hu) ⟨.bl _, H, I, rfl, q⟩
  · obtain ⟨bs, r2⟩ := Dp.reads I (.tuple ds) y u he ry
    exact SeqAt.in_tuple_reads r2 r1 (canLayL se) (SeqAt.canLay_of_shaped sd) (room_in_shaped sd hu) ⟨.bl _, H, I, rfl, q⟩
theorem op_notInS (hu : X.A.units + 65 < cLine) : OpR X (compareOp .NotIn) (rNotInS X.K) := by
  intro pins s σ H x y v u Q I rx ry h
  obtain ⟨d, ds, hd, he, sd, se, q⟩ := h
  obtain ⟨as, r1⟩ := Dp.reads I d x v hd rx
  rcases he with he | he
  · obtain ⟨bs, r2⟩ := Dp.reads I (.list ds) y u he ry
    exact SeqAt.notIn_list_reads r2 r1 (canLayL se) (SeqAt.canLay_of_shaped sd) (room_in_shaped sd hu) ⟨.bl _, H, I, rfl, q⟩
  · obtain ⟨bs, r2⟩ := Dp.reads I (.tuple ds) y u he ry
    exact SeqAt.notIn_tuple_reads r2 r1 (canLayL se) (SeqAt.canLay_of_shaped sd) (room_in_shaped sd hu) ⟨.bl _, H, I, rfl, q⟩
end
theorem _root_.L2.Room.units65 {k : Nat} {A : Around} (r : Room k A) : A.units + 65 < cLine := by have := r.un; omega
theorem opd_eq {K : PySem.W.Frag} : OpD K (rEqD K) oEq := fun G F σ H ρ v1 d1 v2 d2 Qd Q ev r1 r2 ⟨p, q, e1, e2, s1, s2, hQ⟩ hq => ⟨p, q, r1.dp ev.sub e1, r2.dp ev.sub e2, s1, s2, hq _ H F _ (Same.refl _) ev Fr.refl (.bl _) hQ⟩
theorem opd_ne {K : PySem.W.Frag} : OpD K (rNeD K) oNe := fun G F σ H ρ v1 d1 v2 d2 Qd Q ev r1 r2 ⟨p, q, e1, e2, s1, s2, hQ⟩ hq => ⟨p, q, r1.dp ev.sub e1, r2.dp ev.sub e2, s1, s2, hq _ H F _ (Same.refl _) ev Fr.refl (.bl _) hQ⟩
theorem dp_items {K : PySem.W.Frag} {F H : Hp} {v : V} {y : D} {ys : List D} {q : List PyData} (s : Same F H) (r : Rp K F v y) (e : itemsOf y = some ys) (e2 : toPyL ys = some q) : Dp K H v (.list q) ∨ Dp K H v (.tuple q) := by
  cases y with
  | tup xs =>
    cases e
    exact .inr (r.dp s (by unfold toPy; rw [e2]; rfl))
  | tix xs =>
    cases e
    exact .inr (r.dp s (by unfold toPy; rw [e2]; rfl))
  | tky xs =>
    cases e
    exact .inr (r.dp s (by unfold toPy; rw [e2]; rfl))
  | lst xs =>
    cases e
    exact .inl (r.dp s (by unfold toPy; rw [e2]; rfl))
  | _ => cases e
theorem opd_in {K : PySem.W.Frag} : OpD K (rInS K) oIn := fun G F σ H ρ v1 d1 v2 d2 Qd Q ev r1 r2 ⟨ys, p, q, e0, e1, e2, s1, s2, hQ⟩ hq => ⟨p, q, r1.dp ev.sub e1, dp_items ev.sub r2 e0 e2, s1, s2, hq _ H F _ (Same.refl _) ev Fr.refl (.bl _) hQ⟩
theorem opd_notIn {K : PySem.W.Frag} : OpD K (rNotInS K) oNotIn := fun G F σ H ρ v1 d1 v2 d2 Qd Q ev r1 r2 ⟨ys, p, q, e0, e1, e2, s1, s2, hQ⟩ hq => ⟨p, q, r1.dp ev.sub e1, dp_items ev.sub r2 e0 e2, s1, s2, hq _ H F _ (Same.refl _) ev Fr.refl (.bl _) hQ⟩
theorem opd_isN {K : PySem.W.Frag} : OpD K rIsN oIsNon := fun G F σ H ρ v1 d1 v2 d2 Qd Q ev r1 r2 ⟨e1, hQ⟩ hq => by
  subst e1
  cases r2
  refine ⟨rfl, hq _ H F _ (Same.refl _) ev Fr.refl ?_ hQ⟩
  cases r1 <;> exact .bl _
theorem opd_notN {K : PySem.W.Frag} : OpD K rNotN oNotNon := fun G F σ H ρ v1 d1 v2 d2 Qd Q ev r1 r2 ⟨e1, hQ⟩ hq => by
  subst e1
  cases r2
  refine ⟨rfl, hq _ H F _ (Same.refl _) ev Fr.refl ?_ hQ⟩
  cases r1 <;> exact .bl _
theorem opd_isB {K : PySem.W.Frag} : OpD K rIsB oIsBl := fun G F σ H ρ v1 d1 v2 d2 Qd Q ev r1 r2 ⟨a, b, e1, e2, hQ⟩ hq => by
  subst e1 e2
  cases r1; cases r2
  exact ⟨a, b, rfl, rfl, hq _ H F _ (Same.refl _) ev Fr.refl (.bl _) hQ⟩
theorem opd_notB {K : PySem.W.Frag} : OpD K rNotB oNotBl := fun G F σ H ρ v1 d1 v2 d2 Qd Q ev r1 r2 ⟨a, b, e1, e2, hQ⟩ hq => by
  subst e1 e2
  cases r1; cases r2
  exact ⟨a, b, rfl, rfl, hq _ H F _ (Same.refl _) ev Fr.refl (.bl _) hQ⟩
/-- an operator of a comparison, over a def -/
def CmpR (S : Sta) (op : CmpOp) (r : R2) (o : D → D → (D → Prop) → Prop) : Prop := (∀ X, Fam S X → OpR X (compareOp op) r) ∧ OpD S.K r o
section
variable {S : Sta} {a b c e : Expr} {pos : Pos} {wa wb wc : W} {op op' : CmpOp} {r r' : R2} {o o' : D → D → (D → Prop) → Prop}
theorem cm_lt : CmpR S .Lt (rI0 fun i j => .bl (decide (i < j))) (oB0 fun i j => decide (i < j)) := ⟨fun X f => op_lt, opd_B0⟩
theorem cm_le : CmpR S .LtE (rI0 fun i j => .bl (decide (i ≤ j))) (oB0 fun i j => decide (i ≤ j)) := ⟨fun X f => op_le, opd_B0⟩
theorem cm_gt : CmpR S .Gt (rI0 fun i j => .bl (decide (j < i))) (oB0 fun i j => decide (j < i)) := ⟨fun X f => op_gt, opd_B0⟩
theorem cm_ge : CmpR S .GtE (rI0 fun i j => .bl (decide (j ≤ i))) (oB0 fun i j => decide (j ≤ i)) := ⟨fun X f => op_ge, opd_B0⟩
theorem cm_eq : CmpR S .Eq (rEqD S.K) oEq := ⟨fun X f => f.K ▸ op_eqD f.room.units, opd_eq⟩
theorem cm_ne : CmpR S .NotEq (rNeD S.K) oNe := ⟨fun X f => f.K ▸ op_neD f.room.units, opd_ne⟩
theorem cm_in : CmpR S .In (rInS S.K) oIn := ⟨fun X f => f.K ▸ op_inS f.room.units65, opd_in⟩
theorem cm_notIn : CmpR S .NotIn (rNotInS S.K) oNotIn := ⟨fun X f => f.K ▸ op_notInS f.room.units65, opd_notIn⟩
theorem cm_isN : CmpR S .Is rIsN oIsNon := ⟨fun X f => op_isN, opd_isN⟩
theorem cm_notN : CmpR S .IsNot rNotN oNotNon := ⟨fun X f => op_notN, opd_notN⟩
theorem cm_isB : CmpR S .Is rIsB oIsBl := ⟨fun X f => op_isBl, opd_isB⟩
theorem cm_notB : CmpR S .IsNot rNotB oNotBl := ⟨fun X f => op_notBl, opd_notB⟩
theorem de_cmp (h : CmpR S op r o) (ha : DE S a wa) (hb : DE S b wb) (hm : behindInMarks op b = false := by first | exact nomark _ | rfl) : DE S (.Compare a [op] [b] pos) (wOp o wa wb) := fun X f =>
  (pe_cmpR (h.1 X f) (ha X f) (hb X f) hm).imp (tD_op h.2)
theorem dt_cmp (h : CmpR S op r o) (ha : DE S a wa) (hb : DE S b wb) (hm : behindInMarks op b = false := by first | exact nomark _ | rfl) : DT S (.Compare a [op] [b] pos) (wtV (wOp o wa wb)) := fun X f =>
  (pt_cmpR (h.1 X f) (ha X f) (hb X f) hm).imp fun σ H Q ⟨G, F, ρ, Qd, ev, hw, hq⟩ => tD_op h.2 σ H _ ⟨G, F, ρ, _, ev, hw, fun v H1 F1 d s1 e1 f1 r1 ⟨k, ek, q1⟩ => by
    subst ek
    cases r1
    exact ⟨k, rfl, hq k H1 F1 s1 e1 f1 q1⟩⟩
def wChain (o o' : D → D → (D → Prop) → Prop) (wa wb wc : W) : W := fun G ρ Q => wa G ρ fun x => wb G ρ fun y => o x y fun z => ∃ k, z = .bl k ∧ if k = true then wc G ρ fun u => o' y u Q else Q (.bl false)
theorem chain_imp {K : PySem.W.Frag} (h : OpD K r o) (h' : OpD K r' o') (σ : St) (H : Hp) (Q : VK) : tD K (wChain o o' wa wb wc) σ H Q → tChain r r' (tD K wa) (tD K wb) (tD K wc) σ H Q := fun ⟨G, F, ρ, Qd, ev, hw, hq⟩ =>
  ⟨G, F, ρ, _, ev, hw, fun v1 H1 F1 d1 s1 e1 f1 r1 q1 => ⟨G, F1, ρ, _, e1, q1, fun v2 H2 F2 d2 s2 e2 f2 r2 q2 =>
    h G F2 σ H2 ρ v1 d1 v2 d2 _ _ e2 (r1.mono s2) r2 q2 fun v3 H3 F3 d3 s3 e3 f3 r3 ⟨k, ek, q3⟩ => by
      subst ek
      cases r3
      refine ⟨k, rfl, ?_⟩
      cases k with
      | true =>
        refine iteT ⟨G, F3, ρ, _, e3, (by rw [if_pos rfl] at q3; exact q3), fun v4 H4 F4 d4 s4 e4 f4 r4 q4 => ?_⟩
        exact h' G F4 σ H4 ρ v2 d2 v4 d4 Qd Q e4 (r2.mono (s3.trans s4)) r4 q4 fun v H' F' d s5 e5 f5 r5 q5 => hq v H' F' d (s1.trans (s2.trans (s3.trans (s4.trans s5)))) e5 (f1.trans (f2.trans (f3.trans (f4.trans f5)))) r5 q5
      | false => exact iteF (hq _ H3 F3 _ (s1.trans (s2.trans s3)) e3 (f1.trans (f2.trans f3)) (.bl false) (by rw [if_neg Bool.false_ne_true] at q3; exact q3))⟩⟩
theorem de_chain (h : CmpR S op r o) (h' : CmpR S op' r' o') (ha : DE S a wa) (hb : DE S b wb) (hc : DE S c wc) (hm : lastMarks [op, op'] [b, c] = false := by with_unfolding_all rfl) : DE S (.Compare a [op, op'] [b, c] pos) (wChain o o' wa wb wc) := fun X f =>
  (pe_chain (h.1 X f) (h'.1 X f) (ha X f) (hb X f) (hc X f) hm).imp (chain_imp h.2 h'.2)
theorem dt_chain (h : CmpR S op r o) (h' : CmpR S op' r' o') (ha : DE S a wa) (hb : DE S b wb) (hc : DE S c wc) (hm : lastMarks [op, op'] [b, c] = false := by with_unfolding_all rfl) : DT S (.Compare a [op, op'] [b, c] pos) (wtV (wChain o o' wa wb wc)) := fun X f =>
  (pt_chain (h.1 X f) (h'.1 X f) (ha X f) (hb X f) (hc X f) hm).imp fun σ H Q ⟨G, F, ρ, Qd, ev, hw, hq⟩ => chain_imp h.2 h'.2 σ H _ ⟨G, F, ρ, _, ev, hw, fun v H1 F1 d s1 e1 f1 r1 ⟨k, ek, q1⟩ => by
    subst ek
    cases r1
    exact ⟨k, rfl, hq k H1 F1 s1 e1 f1 q1⟩⟩
end
end DL
set_option maxHeartbeats 4000000
namespace DL
open PySem PySem.Spec PyProof.Rows L2

/-! ### what a def promises, in plain data -/
abbrev FS := Gc → List D → (SV → Prop) → Prop
def spV (K : PySem.W.Frag) (sp : FS) : Sp := fun vs H Q _ => ∃ G F ds Qd, Same F H ∧ (∀ a, G.R a → F a = none) ∧ G.Wd H ∧ RpL K F vs ds ∧ sp G ds Qd ∧
  ∀ v H' F' sv, Same F F' → Same F' H' → (∀ a, G.R a → F' a = none) → Fr G H H' → G.Wd H' → RpO K G F' H H' v sv → Qd sv → Q v H'
/-- a def that is known by its promise -/
structure Kn (B : Bs) (k : Nat) (x : Str) (st : Stmt) (ps : List Str) (sp : FS) : Prop where
  ex : ∃ f fd, FnG B.P B.w B.K B.mg B.base CX0 k f fd ps (spV B.K sp) ∧ B.mg x = some (.ref f) ∧ FunD B.K x x (defArgs st) (defBody st) (defScope st) [] [] f fd ∧ Binds B.K fd ps []
theorem Kn.mono {B : Bs} {j k : Nat} {x : Str} {st : Stmt} {ps : List Str} {sp : FS} (h : Kn B j x st ps sp) (hk : j ≤ k) : Kn B k x st ps sp := by
  obtain ⟨f, fd, F, hm, D, hb⟩ := h.ex
  exact ⟨f, fd, F.up hk, hm, D, hb⟩
def woCall (sp : FS) (r : WA) : WO := fun G ρ Q => r G ρ fun ds => sp G ds Q
theorem do_call {S : Sta} {j : Nat} {x : Str} {st : Stmt} {ps : List Str} {sp : FS} {e : Expr} {es : List Expr} {p pos : Pos} {r : WA} (h : Kn S.toBs j x st ps sp) (hj : j ≤ S.k) (hr : DA S (e :: es) r) (hg : (S.names.lookup x == some .globalImplicit) = true := by kernel_rfl)
    (hdb : (x == ("__debug__" : Str)) = false := by kernel_rfl) (he : ∀ env, starEach (e :: es) env = (false, eval e env) :: starEach es env := by intro _; rfl) (hpl : ∀ env, (backTo pos (starEach es env)).any (·.1) = false := by intro _; rfl) :
    DO S (.Call (.Name x p) (e :: es) [] pos) (woCall sp r) := fun X f => by
  obtain ⟨fa, fd, F, hm, FD, hb⟩ := h.ex
  have hkp := FD.kp
  rw [← f.P, ← f.w, ← f.K, ← f.mg, ← f.base] at F
  refine (pe_callG F (f.room.mono hj) f.ns (by unfold Gl Env.kindOf; rw [f.look]; exact beq_iff_eq.mp hg) (by rw [f.mg]; exact hm) (by rw [f.K]; exact hkp) (by rw [f.K]; exact hb) pass0 (hr X f) hdb (he _) (hpl _)).imp fun σ H Q ⟨G, F, ρ, Qd, ev, hw, hq⟩ =>
    ⟨G, F, ρ, _, ev, hw, fun vs H1 F1 ds s1 e1 f1 r1 q1 => ⟨G, F1, ds, Qd, e1.sub, e1.res, e1.wd, by rw [f.K]; exact r1, q1, fun v H' F' sv s2 s3 s4 f2 w2 r2 q2 =>
      hq v H' F' sv (s1.trans s2) (e1.go s2 s3 f2 s4 w2) (f1.trans f2) (by rw [f.K] at r2; exact r2.back f1) q2⟩⟩

/-! ### statements -/
mutual
def imm : D → Bool
  | .tup xs => immL xs
  | .tix xs => immL xs
  | .tky xs => immL xs
  | .lst _ => false
  | .dic _ _ => false
  | _ => true
def immL : List D → Bool
  | [] => true
  | x :: xs => imm x && immL xs
end
def immS : SV → Bool
  | .fz d => imm d
  | .ow xs => immL xs
  | .od _ kvs => immL (kvs.map (·.2))
def isOwn : SV → Bool
  | .fz _ => false
  | _ => true
/-- the tuples beside what was there -/
def tupOf (F F' : Hp) : Hp := fun a => match F a with
  | some o => some o
  | none => match F' a with
    | some (.tup xs) => some (.tup xs)
    | some (.frz o u) => some (.frz o u)
    | _ => none
section
variable {K : PySem.W.Frag} {F F' H : Hp}
theorem tupOf_same : Same F (tupOf F F') := fun a o h => by unfold tupOf; rw [h]
theorem tupOf_sub (s : Same F F') : Same (tupOf F F') F' := fun a o h => by
  unfold tupOf at h
  cases q : F a with
  | some u => rw [q] at h; cases h; exact s _ _ q
  | none =>
    rw [q] at h
    dsimp only at h
    split at h
    · rename_i xs e; cases h; exact e
    · rename_i o u e; cases h; exact e
    · cases h
theorem tupOf_none {a : Addr} (h : F' a = none) (s : Same F F') : tupOf F F' a = none := by
  cases q : tupOf F F' a with
  | none => rfl
  | some o => rw [tupOf_sub s _ _ q] at h; cases h
/-- no list of ours is among them -/
theorem tupOf_own {a : Addr} {o : HO} (h : F a = none) (s : Same F F') (s' : Same F' H) (ha : H a = some o) (ho : isMutO o = true) : tupOf F F' a = none := by
  cases q : F' a with
  | none => exact tupOf_none q s
  | some u =>
    have e := s' _ _ q
    rw [ha] at e
    cases e
    unfold tupOf
    rw [h, q]
    cases o <;> first | rfl | cases ho
theorem tupOf_tup {a : Addr} {vs : List V} (s : Same F F') (h : F' a = some (.tup vs)) : tupOf F F' a = some (.tup vs) := by
  unfold tupOf
  cases q : F a with
  | some u => have := s _ _ q; rw [h] at this; cases this; rfl
  | none => dsimp only; rw [h]
theorem tupOf_frz {a : Addr} {o : Obj} {u : HO} (s : Same F F') (h : F' a = some (.frz o u)) : tupOf F F' a = some (.frz o u) := by
  unfold tupOf
  cases q : F a with
  | some u => have := s _ _ q; rw [h] at this; cases this; rfl
  | none => dsimp only; rw [h]
theorem tupOf_sqt {a : Addr} {vs : List V} (s : Same F F') (h : SqT K F' a vs) : SqT K (tupOf F F') a vs := by
  rcases h with (h | ⟨o, h⟩) | h
  · exact .inl (.inl (tupOf_tup s h))
  · exact .inl (.inr ⟨o, tupOf_frz s h⟩)
  · exact .inr h
mutual
theorem Rp.tupOf (s : Same F F') : ∀ {d : D} {v : V}, Rp K F' v d → imm d = true → Rp K (tupOf F F') v d
  | _, _, .non, _ => .non
  | _, _, .bl b, _ => .bl b
  | _, _, .int i, _ => .int i
  | _, _, .str x, _ => .str x
  | _, _, .tup h r, e => .tup (tupOf_sqt s h) (RpL.tupOf s r (by unfold imm at e; exact e))
  | _, _, .tix h n r, e => .tix (tupOf_frz s h) n (RpL.tupOf s r (by unfold imm at e; exact e))
  | _, _, .tky h r, e => .tky (tupOf_tup s h) (RpL.tupOf s r (by unfold imm at e; exact e))
  | _, _, .lst _ _, e => by unfold imm at e; cases e
  | _, _, .dic _ _, e => by unfold imm at e; cases e
  | _, _, .ob a, _ => .ob a
theorem RpL.tupOf (s : Same F F') : ∀ {ds : List D} {vs : List V}, RpL K F' vs ds → immL ds = true → RpL K (tupOf F F') vs ds
  | _, _, .nil, _ => .nil
  | _, _, .cons h r, e => by
    unfold immL at e
    obtain ⟨e1, e2⟩ := Bool.and_eq_true_iff.mp e
    exact .cons (Rp.tupOf s h e1) (RpL.tupOf s r e2)
end
end

structure Ev (K : PySem.W.Frag) (G : Gc) (H0 F0 F H : Hp) (σ : St) (ρ : En) : Prop where
  r : EvR K G F H σ ρ
  f0 : Same F0 F
  fr : Fr G H0 H
  own : ∀ (i : Nat) (sv : SV) (a : Addr), ρ[i]? = some (some sv) → isOwn sv = true → σ[i]? = some (some (.ref a)) → F a = none ∧ H0 a = none
  apart : ∀ (i j : Nat) (sv sw : SV) (a : Addr), i ≠ j → ρ[i]? = some (some sv) → isOwn sv = true → ρ[j]? = some (some sw) → isOwn sw = true → σ[i]? = some (some (.ref a)) → σ[j]? = some (some (.ref a)) → False
theorem Ev.len {K : PySem.W.Frag} {G : Gc} {H0 F0 F H : Hp} {σ : St} {ρ : En} (e : Ev K G H0 F0 F H σ ρ) : σ.length = ρ.length := e.r.len

section
variable {K : PySem.W.Frag} {G : Gc} {H0 F0 F F' H H' : Hp} {σ : St} {ρ : En}
/-- an own slot's object -/
theorem EvR.ownAt (e : EvR K G F H σ ρ) {i : Nat} {sv : SV} {a : Addr} (h : ρ[i]? = some (some sv)) (ho : isOwn sv = true) (ha : σ[i]? = some (some (.ref a))) : ∃ o, H a = some o ∧ isMutO o = true ∧ ¬ G.R a := by
  obtain ⟨v, h1, h2⟩ := e.slot i sv h
  rw [ha] at h1
  cases h1
  cases sv with
  | fz d => cases ho
  | ow xs =>
    obtain ⟨b, vs, eb, q1, q2, q3⟩ := h2
    cases eb
    exact ⟨_, q1, rfl, q3⟩
  | od t kds =>
    obtain ⟨b, vs, eb, q1, q0, q2, q3⟩ := h2
    cases eb
    exact ⟨_, q1, isMutO_od t vs, q3⟩
theorem Ev.go (e : Ev K G H0 F0 F H σ ρ) (s : Same F F') (e' : EvR K G F' H' σ ρ) (fr : Fr G H H') : Ev K G H0 F0 F H' σ ρ :=
  ⟨e.r.go (Same.refl _) (s.trans e'.sub) fr e.r.res e'.wd, e.f0, e.fr.trans fr, e.own, e.apart⟩
/-- with the tuples that were made besides -/
theorem Ev.goT (e : Ev K G H0 F0 F H σ ρ) (s : Same F F') (e' : EvR K G F' H' σ ρ) (fr : Fr G H H') : Ev K G H0 F0 (tupOf F F') H' σ ρ where
  r := e.r.go tupOf_same ((tupOf_sub s).trans e'.sub) fr (fun a r => tupOf_none (e'.res a r) s) e'.wd
  f0 := e.f0.trans tupOf_same
  fr := e.fr.trans fr
  own := fun i sv a h ho ha => by
    obtain ⟨q1, q2⟩ := e.own i sv a h ho ha
    obtain ⟨o, q3, q4, _⟩ := e'.ownAt h ho ha
    exact ⟨tupOf_own q1 s e'.sub q3 q4, q2⟩
  apart := e.apart
/-- all that is ours is given up -/
def frzAll (ρ : En) : En := ρ.map fun o => match o with
  | some (.ow xs) => some (.fz (.lst xs))
  | some (.od t kds) => some (.fz (.dic t kds))
  | o => o
/-- what an own value is when it is given up -/
def asD : SV → D
  | .fz d => d
  | .ow xs => .lst xs
  | .od t kds => .dic t kds
theorem frzAll_get {ρ : En} {i : Nat} {sv : SV} (h : (frzAll ρ)[i]? = some (some sv)) : (∃ sw, sv = .fz (asD sw) ∧ isOwn sw = true ∧ ρ[i]? = some (some sw)) ∨ (isOwn sv = false ∧ ρ[i]? = some (some sv)) := by
  unfold frzAll at h
  rw [List.getElem?_map] at h
  cases q : ρ[i]? with
  | none => rw [q] at h; cases h
  | some o =>
    rw [q] at h
    cases o with
    | none => cases h
    | some sw =>
      cases sw with
      | fz d => cases h; exact .inr ⟨rfl, rfl⟩
      | ow xs => cases h; exact .inl ⟨.ow xs, rfl, rfl, rfl⟩
      | od t kds => cases h; exact .inl ⟨.od t kds, rfl, rfl, rfl⟩
open Classical in
/-- .. and stands for good -/
noncomputable def ownOf (F' H' : Hp) (σ : St) (ρ : En) : Hp := fun a => match F' a with
  | some o => some o
  | none => if ∃ (i : Nat) (sw : SV), ρ[i]? = some (some sw) ∧ isOwn sw = true ∧ σ[i]? = some (some (.ref a)) then H' a else none
theorem ownOf_same : Same F' (ownOf F' H' σ ρ) := fun a o h => by unfold ownOf; rw [h]
theorem ownOf_sub (s : Same F' H') : Same (ownOf F' H' σ ρ) H' := fun a o h => by
  unfold ownOf at h
  cases q : F' a with
  | some u => rw [q] at h; cases h; exact s _ _ q
  | none =>
    rw [q] at h
    dsimp only at h
    split at h
    · exact h
    · cases h
theorem ownOf_at {a : Addr} {o : HO} (s : Same F' H') {i : Nat} {sw : SV} (h : ρ[i]? = some (some sw)) (ho : isOwn sw = true) (ha : σ[i]? = some (some (.ref a))) (q : H' a = some o) : ownOf F' H' σ ρ a = some o := by
  unfold ownOf
  cases z : F' a with
  | some u => have := s _ _ z; rw [q] at this; cases this; rfl
  | none => dsimp only; rw [if_pos ⟨i, sw, h, ho, ha⟩]; exact q
theorem ownOf_none {a : Addr} (h : F' a = none) (n : ∀ (i : Nat) (sw : SV), ρ[i]? = some (some sw) → isOwn sw = true → σ[i]? ≠ some (some (.ref a))) : ownOf F' H' σ ρ a = none := by
  unfold ownOf
  rw [h]
  dsimp only
  rw [if_neg]
  rintro ⟨i, sw, h1, h2, h3⟩
  exact n i sw h1 h2 h3
theorem Ev.goA (e : Ev K G H0 F0 F H σ ρ) (s : Same F F') (e' : EvR K G F' H' σ ρ) (fr : Fr G H H') : Ev K G H0 F0 (ownOf F' H' σ ρ) H' σ (frzAll ρ) where
  r := by
    refine ⟨ownOf_sub e'.sub, fun a r => ?_, e'.wd, fun i sv h => ?_, by unfold frzAll; rw [List.length_map]; exact e.r.len⟩
    · refine ownOf_none (e'.res a r) fun i sw h1 ho h2 => ?_
      obtain ⟨o, _, _, n⟩ := e'.ownAt h1 ho h2
      exact n r
    · rcases frzAll_get h with ⟨sw, rfl, ho, q⟩ | ⟨ho, q⟩
      · cases sw with
        | fz d => cases ho
        | ow xs =>
          obtain ⟨v, h1, a, vs, rfl, h2, h3, h4⟩ := e'.slot i _ q
          exact ⟨_, h1, .lst (ownOf_at e'.sub q rfl h1 h2) (h3.mono ownOf_same)⟩
        | od t kds =>
          obtain ⟨v, h1, a, vs, rfl, h2, h0, h3, h4⟩ := e'.slot i _ q
          exact ⟨_, h1, .dic (ownOf_at e'.sub q rfl h1 h2) (RpK.join h0 (h3.mono ownOf_same))⟩
      · obtain ⟨v, h1, h2⟩ := e'.slot i _ q
        cases sv with
        | fz d => exact ⟨v, h1, Rp.mono ownOf_same h2⟩
        | _ => cases ho
  f0 := (e.f0.trans s).trans ownOf_same
  fr := e.fr.trans fr
  own := fun i sv a h ho ha => by
    rcases frzAll_get h with ⟨sw, rfl, _, q⟩ | ⟨ho', q⟩
    · cases ho
    · rw [ho] at ho'; cases ho'
  apart := fun i j sv sw a _ h ho _ _ _ _ => by
    rcases frzAll_get h with ⟨sw, rfl, _, q⟩ | ⟨ho', q⟩
    · cases ho
    · rw [ho] at ho'; cases ho'
end
end DL
set_option maxHeartbeats 4000000
namespace DL
open PySem PySem.Spec PyProof.Rows L2

/-- a name's new value; what may hold our lists gives all of them up -/
def put (ρ : En) (i : Nat) (sv : SV) : En := match immS sv with
  | true => ρ.set i (some sv)
  | false => (frzAll ρ).set i (some sv)
section
variable {K : PySem.W.Frag} {G : Gc} {H0 F0 F F' H H' : Hp} {σ : St} {ρ : En}
theorem set_get {α : Type} {l : List α} {i j : Nat} {x y : α} (h : (l.set i x)[j]? = some y) : (i = j ∧ x = y) ∨ (i ≠ j ∧ l[j]? = some y) := by
  by_cases e : i = j
  · subst e
    by_cases hl : i < l.length
    · rw [List.getElem?_set_self hl] at h; exact .inl ⟨rfl, Option.some.inj h⟩
    · rw [List.getElem?_eq_none (by simpa using hl)] at h; cases h
  · rw [List.getElem?_set_ne e] at h; exact .inr ⟨e, h⟩
/-- a slot gets a value: G1 what stands for good then -/
theorem Ev.set (e : Ev K G H0 F0 F H σ ρ) {i : Nat} {v : V} {sv : SV} (hi : i < ρ.length) (h : RpS K G F H v sv)
    (hn : isOwn sv = true → ∀ a, v = .ref a → F a = none ∧ H0 a = none ∧ ∀ (j : Nat) (sw : SV), j ≠ i → ρ[j]? = some (some sw) → isOwn sw = true → σ[j]? ≠ some (some (.ref a))) : Ev K G H0 F0 F H (σ.set i (some v)) (ρ.set i (some sv)) where
  r := ⟨e.r.sub, e.r.res, e.r.wd, fun j sw q => by
    rcases set_get q with ⟨rfl, z⟩ | ⟨ne, q⟩
    · cases z; exact ⟨v, List.getElem?_set_self (by rw [e.len]; exact hi), h⟩
    · obtain ⟨u, h1, h2⟩ := e.r.slot j sw q
      exact ⟨u, by rw [List.getElem?_set_ne ne]; exact h1, h2⟩, by rw [List.length_set, List.length_set]; exact e.len⟩
  f0 := e.f0
  fr := e.fr
  own := fun j sw a q ho ha => by
    rcases set_get q with ⟨rfl, z⟩ | ⟨ne, q⟩
    · cases z
      rw [List.getElem?_set_self (by rw [e.len]; exact hi)] at ha
      cases ha
      obtain ⟨h1, h2, _⟩ := hn ho a rfl
      exact ⟨h1, h2⟩
    · rw [List.getElem?_set_ne ne] at ha
      exact e.own j sw a q ho ha
  apart := fun j k sw sx a ne q1 o1 q2 o2 a1 a2 => by
    rcases set_get q1 with ⟨rfl, z⟩ | ⟨n1, q1⟩
    · rcases set_get q2 with ⟨rfl, z2⟩ | ⟨n2, q2⟩
      · exact ne rfl
      · cases z
        rw [List.getElem?_set_self (by rw [e.len]; exact hi)] at a1
        rw [List.getElem?_set_ne n2] at a2
        cases a1
        exact (hn o1 a rfl).2.2 k sx (Ne.symm n2) q2 o2 a2
    · rw [List.getElem?_set_ne n1] at a1
      rcases set_get q2 with ⟨rfl, z⟩ | ⟨n2, q2⟩
      · cases z
        rw [List.getElem?_set_self (by rw [e.len]; exact hi)] at a2
        cases a2
        exact (hn o2 a rfl).2.2 j sw (Ne.symm n1) q1 o1 a1
      · rw [List.getElem?_set_ne n2] at a2
        exact e.apart j k sw sx a ne q1 o1 q2 o2 a1 a2
/-- behind an expression, a name gets its value -/
theorem Ev.put (e : Ev K G H0 F0 F H σ ρ) (s : Same F F') (e' : EvR K G F' H' σ ρ) (fr : Fr G H H') {i : Nat} {v : V} {sv : SV} (hi : i < ρ.length) (h : RpO K G F' H H' v sv) :
    ∃ F2, Ev K G H0 F0 F2 H' (σ.set i (some v)) (put ρ i sv) ∧ Same F F2 := by
  have fresh : ∀ a, ¬ G.R a → H a = none → ∀ (j : Nat) (sw : SV), ρ[j]? = some (some sw) → isOwn sw = true → σ[j]? ≠ some (some (.ref a)) := fun a n hn j sw q ho z => by
    obtain ⟨o, q1, _, _⟩ := e.r.ownAt q ho z
    rw [hn] at q1; cases q1
  unfold DL.put
  cases hm : immS sv with
  | true =>
    refine ⟨tupOf F F', (e.goT s e' fr).set hi ?_ ?_, tupOf_same⟩
    · cases sv with
      | fz d => exact Rp.tupOf s h hm
      | ow xs =>
        obtain ⟨a, vs, rfl, h1, h2, h3, h4, h5⟩ := h
        exact ⟨a, vs, rfl, h1, RpL.tupOf s h2 hm, h3⟩
      | od t kds =>
        obtain ⟨a, vs, rfl, h1, h0, h2, h3, h4, h5⟩ := h
        exact ⟨a, vs, rfl, h1, h0, RpL.tupOf s h2 hm, h3⟩
    · intro ho a ea
      cases sv with
      | fz d => cases ho
      | ow xs =>
        obtain ⟨b, vs, rfl, h1, h2, h3, h4, h5⟩ := h
        cases ea
        exact ⟨tupOf_none h5 s, e.fr.free h3 h4, fun j sw _ q hq => fresh _ h3 h4 j sw q hq⟩
      | od t kds =>
        obtain ⟨b, vs, rfl, h1, h0, h2, h3, h4, h5⟩ := h
        cases ea
        exact ⟨tupOf_none h5 s, e.fr.free h3 h4, fun j sw _ q hq => fresh _ h3 h4 j sw q hq⟩
  | false =>
    have none_at : ∀ {a : Addr}, F' a = none → ¬ G.R a → H a = none → ownOf F' H' σ ρ a = none := fun {a} h5 h3 h4 => ownOf_none h5 fun j sw q ho z => fresh a h3 h4 j sw q ho z
    refine ⟨ownOf F' H' σ ρ, (e.goA s e' fr).set (by unfold frzAll; rw [List.length_map]; exact hi) ?_ ?_, s.trans ownOf_same⟩
    · cases sv with
      | fz d => exact Rp.mono ownOf_same h
      | ow xs =>
        obtain ⟨a, vs, rfl, h1, h2, h3, h4, h5⟩ := h
        exact ⟨a, vs, rfl, h1, h2.mono ownOf_same, h3⟩
      | od t kds =>
        obtain ⟨a, vs, rfl, h1, h0, h2, h3, h4, h5⟩ := h
        exact ⟨a, vs, rfl, h1, h0, h2.mono ownOf_same, h3⟩
    · intro ho a ea
      have apart : ∀ (j : Nat) (sw : SV), j ≠ i → (frzAll ρ)[j]? = some (some sw) → isOwn sw = true → σ[j]? ≠ some (some (.ref a)) := fun j sw _ q hq => by
        rcases frzAll_get q with ⟨_, rfl, _, _⟩ | ⟨ho', _⟩
        · cases hq
        · rw [hq] at ho'; cases ho'
      cases sv with
      | fz d => cases ho
      | ow xs =>
        obtain ⟨b, vs, rfl, h1, h2, h3, h4, h5⟩ := h
        cases ea
        exact ⟨none_at h5 h3 h4, e.fr.free h3 h4, apart⟩
      | od t kds =>
        obtain ⟨b, vs, rfl, h1, h0, h2, h3, h4, h5⟩ := h
        cases ea
        exact ⟨none_at h5 h3 h4, e.fr.free h3 h4, apart⟩
end

/-! ### the meaning of statements -/
structure EndsD where
  nx : En → Prop
  rt : SV → Prop
  bk : En → Prop := fun _ => False
  ct : En → Prop := fun _ => False
abbrev WS := Gc → EndsD → En → Prop
structure Goes (K : PySem.W.Frag) (G : Gc) (H0 F0 F : Hp) (E : EndsD) (D : Ends) : Prop where
  nx : ∀ σ' H' F' ρ', Ev K G H0 F0 F' H' σ' ρ' → Same F F' → E.nx ρ' → D.nx σ' H'
  bk : ∀ σ' H' F' ρ', Ev K G H0 F0 F' H' σ' ρ' → Same F F' → E.bk ρ' → D.bk σ' H'
  ct : ∀ σ' H' F' ρ', Ev K G H0 F0 F' H' σ' ρ' → Same F F' → E.ct ρ' → D.ct σ' H'
  rt : ∀ v H' F' sv, Same F0 F' → Same F' H' → (∀ a, G.R a → F' a = none) → Fr G H0 H' → G.Wd H' → RpO K G F' H0 H' v sv → E.rt sv → D.rt v H'
theorem Goes.mono {K : PySem.W.Frag} {G : Gc} {H0 F0 F F' : Hp} {E : EndsD} {D : Ends} (g : Goes K G H0 F0 F E D) (s : Same F F') : Goes K G H0 F0 F' E D :=
  ⟨fun σ' H' F2 ρ' e s2 q => g.nx σ' H' F2 ρ' e (s.trans s2) q, fun σ' H' F2 ρ' e s2 q => g.bk σ' H' F2 ρ' e (s.trans s2) q, fun σ' H' F2 ρ' e s2 q => g.ct σ' H' F2 ρ' e (s.trans s2) q, g.rt⟩
def tS (K : PySem.W.Frag) (w : WS) : TS := fun D σ H => ∃ G H0 F0 F ρ E, Ev K G H0 F0 F H σ ρ ∧ w G E ρ ∧ Goes K G H0 F0 F E D
def DS (S : Sta) (st : Stmt) (w : WS) : Prop := ∀ X, Fam S X → PS X st (tS S.K w)
def DSs (S : Sta) (st : List Stmt) (w : WS) : Prop := ∀ X, Fam S X → PSs X st (tS S.K w)
def wNext : WS := fun _ E ρ => E.nx ρ
def wSeq (a b : WS) : WS := fun G E ρ => a G { E with nx := fun ρ' => b G E ρ' } ρ
def wNever : WS := fun _ _ _ => False
def wRet (w : WO) : WS := fun G E ρ => w G ρ E.rt
def wRetN : WS := fun _ E _ => E.rt (.fz .non)
def wRetV (i : Nat) : WS := fun _ E ρ => ∃ sv, ρ[i]? = some (some sv) ∧ E.rt sv
def wIfS (t : WT) (a b : WS) : WS := fun G E ρ => t G ρ fun k => if k = true then a G E ρ else b G E ρ
def wSet (i : Nat) (w : WO) : WS := fun G E ρ => i < ρ.length ∧ w G ρ fun sv => E.nx (put ρ i sv)
def wSetV (i j : Nat) : WS := fun _ E ρ => i < ρ.length ∧ ∃ sv, ρ[j]? = some (some sv) ∧ match sv with
  | .fz d => E.nx (ρ.set i (some (.fz d)))
  | .ow xs => E.nx ((ρ.set j (some (.fz (.lst xs)))).set i (some (.fz (.lst xs))))
  | .od t kds => E.nx ((ρ.set j (some (.fz (.dic t kds)))).set i (some (.fz (.dic t kds))))
section
variable {S : Sta} {st : Stmt} {rest : List Stmt} {a b : WS} {e c : Expr} {pos : Pos} {w : W} {wo : WO} {t : WT}
theorem dss_nil : DSs S [] wNext := fun X f => pss_nil.imp fun D σ H ⟨G, H0, F0, F, ρ, E, ev, hw, g⟩ => g.nx σ H F ρ ev (Same.refl _) hw
theorem dss_cons (h1 : DS S st a) (h2 : DSs S rest b) : DSs S (st :: rest) (wSeq a b) := fun X f => (pss_cons (h1 X f) (h2 X f)).imp fun D σ H ⟨G, H0, F0, F, ρ, E, ev, hw, g⟩ =>
  ⟨G, H0, F0, F, ρ, _, ev, hw, ⟨fun σ' H' F' ρ' e' s q => ⟨G, H0, F0, F', ρ', E, e', q, g.mono s⟩, g.bk, g.ct, g.rt⟩⟩
theorem dss_one (h1 : DS S st a) : DSs S [st] a := fun X f => pss_one (h1 X f)
theorem dss_never {sts : List Stmt} : DSs S sts wNever := fun X f => pss_never.imp fun D σ H ⟨G, H0, F0, F, ρ, E, ev, hw, g⟩ => hw
theorem ds_never : DS S st wNever := fun X f => ps_never.imp fun D σ H ⟨G, H0, F0, F, ρ, E, ev, hw, g⟩ => hw
theorem ds_pass : DS S (.Pass pos) wNext := fun X f => ps_pass.imp fun D σ H ⟨G, H0, F0, F, ρ, E, ev, hw, g⟩ => g.nx σ H F ρ ev (Same.refl _) hw
def wBreak : WS := fun _ E ρ => E.bk ρ
def wCont : WS := fun _ E ρ => E.ct ρ
theorem ds_break : DS S (.Break pos) wBreak := fun X f => ps_break.imp fun D σ H ⟨G, H0, F0, F, ρ, E, ev, hw, g⟩ => g.bk σ H F ρ ev (Same.refl _) hw
theorem ds_continue : DS S (.Continue pos) wCont := fun X f => ps_continue.imp fun D σ H ⟨G, H0, F0, F, ρ, E, ev, hw, g⟩ => g.ct σ H F ρ ev (Same.refl _) hw
theorem ds_ret (h : DO S e wo) : DS S (.Return (some e) pos) (wRet wo) := fun X f => (ps_ret (h X f)).imp fun D σ H ⟨G, H0, F0, F, ρ, E, ev, hw, g⟩ =>
  ⟨G, F, ρ, _, ev.r, hw, fun v H' F' sv s e' fr r q => g.rt v H' F' sv (ev.f0.trans s) e'.sub e'.res (ev.fr.trans fr) e'.wd (r.back ev.fr) q⟩
theorem ds_retN : DS S (.Return none pos) wRetN := fun X f => ps_retN.imp fun D σ H ⟨G, H0, F0, F, ρ, E, ev, hw, g⟩ => g.rt .non H F (.fz .non) ev.f0 ev.r.sub ev.r.res ev.fr ev.r.wd Rp.non hw
theorem ds_retV {i : Nat} {x : Str} {p : Pos} (hN : (S.N[i]? == some x) = true := by kernel_rfl) (hv : (S.names.lookup x == some .local || S.names.lookup x == some .cell || S.names.lookup x == some .free) = true := by kernel_rfl)
    (hd : (x == ("__debug__" : Str)) = false := by kernel_rfl) (hcd : (x == ("__classdict__" : Str)) = false := by kernel_rfl) : DS S (.Return (some (.Name x p)) pos) (wRetV i) := fun X f => by
  refine (ps_ret (pe_var (i := i) (x := x) (by rw [f.N]; exact beq_iff_eq.mp hN) (by
    unfold Vis
    rw [f.look]
    rcases Bool.or_eq_true_iff.mp hv with h | h
    · rcases Bool.or_eq_true_iff.mp h with h | h
      · exact .inl (beq_iff_eq.mp h)
      · exact .inr (.inl (beq_iff_eq.mp h))
    · exact .inr (.inr (beq_iff_eq.mp h))) hd hcd)).imp fun D σ H ⟨G, H0, F0, F, ρ, E, ev, ⟨sv, q, hw⟩, g⟩ => ?_
  obtain ⟨v, h1, h2⟩ := ev.r.slot i sv q
  refine ⟨v, h1, g.rt v H F sv ev.f0 ev.r.sub ev.r.res ev.fr ev.r.wd ?_ hw⟩
  cases sv with
  | fz d => exact h2
  | ow xs =>
    obtain ⟨a, vs, rfl, q1, q2, q3⟩ := h2
    obtain ⟨z1, z2⟩ := ev.own i _ a q rfl h1
    exact ⟨a, vs, rfl, q1, q2, q3, z2, z1⟩
  | od t kds =>
    obtain ⟨a, vs, rfl, q1, q0, q2, q3⟩ := h2
    obtain ⟨z1, z2⟩ := ev.own i _ a q rfl h1
    exact ⟨a, vs, rfl, q1, q0, q2, q3, z2, z1⟩
theorem ds_if {p q : List Stmt} (hc : DT S c t) (ha : DSs S p a) (hb : DSs S q b) : DS S (.If c p q pos) (wIfS t a b) := fun X f => (ps_if (hc X f) (ha X f) (hb X f)).imp fun D σ H ⟨G, H0, F0, F, ρ, E, ev, hw, g⟩ =>
  ⟨G, F, ρ, _, ev.r, hw, fun k H' F' s e' fr z => by
    cases k with
    | true => exact iteT ⟨G, H0, F0, F, ρ, E, ev.go s e' fr, (by rw [if_pos rfl] at z; exact z), g⟩
    | false => exact iteF ⟨G, H0, F0, F, ρ, E, ev.go s e' fr, (by rw [if_neg Bool.false_ne_true] at z; exact z), g⟩⟩
theorem ds_expr (h : DE S e w) (hs : ∀ env, swapsWith e none pos.line env = pure false := by intro _; rfl) : DS S (.Expr e pos) (fun G E ρ => w G ρ fun _ => E.nx ρ) := fun X f => (ps_expr (h X f) (hs _)).imp fun D σ H ⟨G, H0, F0, F, ρ, E, ev, hw, g⟩ =>
  ⟨G, F, ρ, _, ev.r, hw, fun v H' F' d s e' fr r q => g.nx σ H' F ρ (ev.go s e' fr) (Same.refl _) q⟩
theorem locOf {X : Cx} (f : Fam S X) {x : Str} (hl : (S.names.lookup x == some .local || (S.names.lookup x == some .cell && S.fc x)) = true) : L2.Loc X.env.scope x ∧ (X.fn x = true ∨ X.env.scope.names.lookup x = some .local) := by
  unfold L2.Loc
  rw [f.look]
  rcases Bool.or_eq_true_iff.mp hl with h | h
  · exact ⟨.inl (beq_iff_eq.mp h), .inr (beq_iff_eq.mp h)⟩
  · obtain ⟨h1, h2⟩ := Bool.and_eq_true_iff.mp h
    exact ⟨.inr (beq_iff_eq.mp h1), .inl (f.fn x h2)⟩
theorem ds_set {i : Nat} {x : Str} {p : Pos} (he : DO S e wo) (nd : S.N.Nodup) (hN : (S.N[i]? == some x) = true := by kernel_rfl) (hl : (S.names.lookup x == some .local || (S.names.lookup x == some .cell && S.fc x)) = true := by kernel_rfl)
    (hs : ∀ env, swapsWith e (some (.Name x p)) pos.line env = pure false := by intro _; rfl) : DS S (.Assign [.Name x p] e pos) (wSet i wo) := fun X f => by
  obtain ⟨h1, h2⟩ := locOf f hl
  refine (ps_set (i := i) (by rw [f.N]; exact nd) (by rw [f.N]; exact beq_iff_eq.mp hN) h1 (he X f) (hs _) h2).imp fun D σ H ⟨G, H0, F0, F, ρ, E, ev, ⟨hi, hw⟩, g⟩ => ?_
  refine ⟨G, F, ρ, _, ev.r, hw, fun v H' F' sv s e' fr r q => ?_⟩
  obtain ⟨F2, ev2, s2⟩ := ev.put s e' fr hi r
  exact g.nx _ H' F2 _ ev2 s2 q
end
end DL
set_option maxHeartbeats 4000000
namespace DL
open PySem PySem.Spec PyProof.Rows L2

/-! ### a def keeps its promise -/
def startD (N : List Str) (ds : List D) : En := ds.map (fun d => some (SV.fz d)) ++ List.replicate (N.length - ds.length) none
theorem startD_get {N : List Str} {ds : List D} {i : Nat} {sv : SV} (h : (startD N ds)[i]? = some (some sv)) : ∃ d, sv = .fz d ∧ ds[i]? = some d := by
  unfold startD at h
  by_cases hi : i < ds.length
  · rw [List.getElem?_append_left (by simpa using hi), List.getElem?_map] at h
    cases e : ds[i]? with
    | none => rw [e] at h; cases h
    | some d => rw [e] at h; cases h; exact ⟨d, rfl, rfl⟩
  · rw [List.getElem?_append_right (by simpa using hi), List.getElem?_replicate] at h
    split at h <;> cases h
theorem start_get {N : List Str} {vs : List V} {i : Nat} {v : V} (h : vs[i]? = some v) : (L2.start N vs)[i]? = some (some v) := by
  unfold L2.start
  have hi : i < vs.length := (List.getElem?_eq_some_iff.mp h).1
  rw [List.getElem?_append_left (by simpa using hi), List.getElem?_map, h]
  rfl
theorem kn_of {B : Bs} {x : Str} {st : Stmt} {ps N : List Str} {sp : FS} {k : Nat} {f : Addr} {fd : FuncData} {ws : WS} (F : FunD B.K x x (defArgs st) (defBody st) (defScope st) [] [] f fd) (sc : FnScope N ps (defScope st)) (hm : B.mg x = some (.ref f)) (hb : Binds B.K fd ps [])
    (hB : DSs { B with N := N, names := (defScope st).names, k := k, fc := fun _ => true } (defBody st) ws)
    (law : ∀ G ds Qd, sp G ds Qd → ds.length = ps.length ∧ ws G { nx := fun _ => Qd (.fz .non), rt := Qd } (startD N ds)) : Kn B (k + 1) x st ps sp := by
  refine ⟨f, fd, F.okG sc (fun vs H Q E h => ?_) (fun cdv A outer s H vs Q E hr hn h => ?_), hm, F, hb⟩
  · obtain ⟨G, F, ds, Qd, s1, s2, s3, r, h, _⟩ := h
    rw [r.len]
    exact (law G ds Qd h).1
  · obtain ⟨G, F0, ds, Qd, s1, s2, s3, r, h, g⟩ := h
    obtain ⟨hl, hw⟩ := law G ds Qd h
    refine ⟨tS B.K ws, PSs.nox (hB _ ⟨rfl, rfl, rfl, rfl, rfl, rfl, rfl, rfl, hr, PassesOwn.never, fun _ _ => rfl, sc.kind, hn, fun _ _ z => nomatch z⟩), G, H, F0, F0, startD N ds, _, ⟨⟨s1, s2, s3, fun i sv q => ?_, ?_⟩, Same.refl _, Fr.refl, fun i sv a q ho _ => ?_, fun i j sv sw a _ q ho _ _ _ _ => ?_⟩, hw, ⟨fun σ' H' F' ρ' e s' q => ?_, fun _ _ _ _ _ _ q => q.elim, fun _ _ _ _ _ _ q => q.elim, fun v H' F' sv q1 q2 q3 q4 q5 q6 q7 => g v H' F' sv q1 q2 q3 q4 q5 q6 q7⟩⟩
    · obtain ⟨d, rfl, z⟩ := startD_get q
      obtain ⟨v, h1, h2⟩ := r.get z
      exact ⟨v, start_get h1, h2⟩
    · have := r.len
      unfold L2.start startD
      rw [List.length_append, List.length_append, List.length_map, List.length_map, List.length_replicate, List.length_replicate, this]
    · obtain ⟨d, rfl, _⟩ := startD_get q
      cases ho
    · obtain ⟨d, rfl, _⟩ := startD_get q
      cases ho
    · exact g .non H' F' (.fz .non) (e.f0) e.r.sub e.r.res e.fr e.r.wd Rp.non q
end DL
set_option maxHeartbeats 4000000
namespace DL
open PySem PySem.Spec PyProof.Rows L2

/-! ### what is walked -/
structure ItOk (K : PySem.W.Frag) (J : It) (F : Hp) (ds : List D) : Prop where
  go : ∀ i H F', Same F F' → Same F' H → i < ds.length → J.go i H ∧ ∀ x H', J.yld i H x H' → ∃ d, ds[i]? = some d ∧
    ((H' = H ∧ Rp K F' x d) ∨ ∃ T o, H T = none ∧ H' = upd H T o ∧ Rp K (upd F' T o) x d)
  stop : ∀ H F', Same F F' → Same F' H → J.stop ds.length H
theorem itok_list {K : PySem.W.Frag} {F : Hp} {a : Addr} {vs : List V} {ds : List D} (h : F a = some (.lst vs)) (r : RpL K F vs ds) : ItOk K (Itl K a) F ds where
  go := fun i H F' s s' hi => by
    have hv : i < vs.length := by rw [r.len]; exact hi
    have hH : SqL K H a vs := SqL.of (s' _ _ (s _ _ h))
    refine ⟨⟨vs, vs[i], hH, List.getElem?_eq_getElem hv⟩, fun x H' ⟨e, y⟩ => ?_⟩
    obtain ⟨d, h1, h2⟩ := r.getV (y vs hH)
    exact ⟨d, h1, .inl ⟨e, h2.mono s⟩⟩
  stop := fun H F' s s' => ⟨vs, SqL.of (s' _ _ (s _ _ h)), by rw [r.len]; exact Nat.le_refl _⟩
theorem itok_tup {K : PySem.W.Frag} {F : Hp} {a : Addr} {vs : List V} {ds : List D} (h : SqT K F a vs) (r : RpL K F vs ds) : ItOk K (Itt K a) F ds where
  go := fun i H F' s s' hi => by
    have hv : i < vs.length := by rw [r.len]; exact hi
    have hH : SqT K H a vs := Same.sqt (s.trans s') h
    refine ⟨⟨vs, vs[i], hH, List.getElem?_eq_getElem hv⟩, fun x H' ⟨e, y⟩ => ?_⟩
    obtain ⟨d, h1, h2⟩ := r.getV (y vs hH)
    exact ⟨d, h1, .inl ⟨e, h2.mono s⟩⟩
  stop := fun H F' s s' => ⟨vs, Same.sqt (s.trans s') h, by rw [r.len]; exact Nat.le_refl _⟩
def rangeD (lo : Int) (n : Nat) : List D := (List.range n).map fun (i : Nat) => D.int (lo + (i : Int))
theorem rangeD_len (lo : Int) (n : Nat) : (rangeD lo n).length = n := by unfold rangeD; rw [List.length_map, List.length_range]
theorem rangeD_get {lo : Int} {n i : Nat} (h : i < n) : (rangeD lo n)[i]? = some (.int (lo + (i : Int))) := by
  unfold rangeD
  rw [List.getElem?_map, List.getElem?_range h]
  rfl
theorem itok_range {K : PySem.W.Frag} {F : Hp} (lo : Int) (n : Nat) : ItOk K (Itr lo n) F (rangeD lo n) where
  go := fun i H F' s s' hi => by
    rw [rangeD_len] at hi
    exact ⟨hi, fun x H' ⟨e, y⟩ => ⟨_, rangeD_get hi, .inl ⟨e, by rw [y]; exact .int _⟩⟩⟩
  stop := fun H F' s s' => by rw [rangeD_len]; exact Nat.le_refl _
def zipD (xs ys : List D) : List D := List.zipWith (fun x y => D.tup [x, y]) xs ys
theorem zipD_get {xs ys : List D} {i : Nat} {x y : D} (h1 : xs[i]? = some x) (h2 : ys[i]? = some y) : (zipD xs ys)[i]? = some (.tup [x, y]) := by
  unfold zipD
  rw [List.getElem?_zipWith, h1, h2]
theorem Rp.pair {K : PySem.W.Frag} {F : Hp} {T : Addr} {x y : V} {d e : D} (hF : F T = none) (h1 : Rp K F x d) (h2 : Rp K F y e) : Rp K (upd F T (.tup [x, y])) (.ref T) (.tup [d, e]) :=
  .tup (SqT.of upd_same) (.cons (h1.mono (same_upd hF)) (.cons (h2.mono (same_upd hF)) .nil))
theorem none_sub {F H : Hp} {a : Addr} (s : Same F H) (h : H a = none) : F a = none := by
  cases q : F a with
  | none => rfl
  | some u => rw [s _ _ q] at h; cases h
theorem itok_zipL {K : PySem.W.Frag} {F : Hp} {a b : Addr} {vs us : List V} {ds es : List D} (h : F a = some (.lst vs)) (r : RpL K F vs ds) (h' : F b = some (.lst us)) (r' : RpL K F us es) : ItOk K (Itz K a b) F (zipD ds es) where
  go := fun i H F' s s' hi => by
    have l1 := r.len
    have l2 := r'.len
    have hi2 : i < ds.length ∧ i < es.length := by unfold zipD at hi; rw [List.length_zipWith] at hi; omega
    have hA : SqL K H a vs := SqL.of (s' _ _ (s _ _ h))
    have hB : SqL K H b us := SqL.of (s' _ _ (s _ _ h'))
    refine ⟨⟨vs, us, vs[i], us[i], hA, hB, List.getElem?_eq_getElem (by omega), List.getElem?_eq_getElem (by omega)⟩, fun x H' ⟨T, v1, v2, e1, nT, e2, y1, y2⟩ => ?_⟩
    obtain ⟨d1, q1, p1⟩ := r.getV (y1 vs hA)
    obtain ⟨d2, q2, p2⟩ := r'.getV (y2 us hB)
    subst e1
    exact ⟨_, zipD_get q1 q2, .inr ⟨T, _, nT, e2, .pair (none_sub s' nT) (p1.mono s) (p2.mono s)⟩⟩
  stop := fun H F' s s' => ⟨vs, us, SqL.of (s' _ _ (s _ _ h)), SqL.of (s' _ _ (s _ _ h')), by unfold zipD; rw [List.length_zipWith, r.len, r'.len]; omega⟩
theorem itok_zipT {K : PySem.W.Frag} {F : Hp} {a b : Addr} {vs us : List V} {ds es : List D} (h : SqT K F a vs) (r : RpL K F vs ds) (h' : SqT K F b us) (r' : RpL K F us es) : ItOk K (RZ.ItzT K a b) F (zipD ds es) where
  go := fun i H F' s s' hi => by
    have l1 := r.len
    have l2 := r'.len
    have hi2 : i < ds.length ∧ i < es.length := by unfold zipD at hi; rw [List.length_zipWith] at hi; omega
    have hA : SqT K H a vs := Same.sqt (s.trans s') h
    have hB : SqT K H b us := Same.sqt (s.trans s') h'
    refine ⟨⟨vs, us, vs[i], us[i], hA, hB, List.getElem?_eq_getElem (by omega), List.getElem?_eq_getElem (by omega)⟩, fun x H' ⟨T, v1, v2, e1, nT, e2, y1, y2⟩ => ?_⟩
    obtain ⟨d1, q1, p1⟩ := r.getV (y1 vs hA)
    obtain ⟨d2, q2, p2⟩ := r'.getV (y2 us hB)
    subst e1
    exact ⟨_, zipD_get q1 q2, .inr ⟨T, _, nT, e2, .pair (none_sub s' nT) (p1.mono s) (p2.mono s)⟩⟩
  stop := fun H F' s s' => ⟨vs, us, Same.sqt (s.trans s') h, Same.sqt (s.trans s') h', by unfold zipD; rw [List.length_zipWith, r.len, r'.len]; omega⟩
def enumD : Nat → List D → List D
  | _, [] => []
  | k, x :: xs => .tup [.int (k : Nat), x] :: enumD (k + 1) xs
theorem enumD_len : ∀ (k : Nat) (xs : List D), (enumD k xs).length = xs.length
  | _, [] => rfl
  | k, x :: xs => by unfold enumD; rw [List.length_cons, List.length_cons, enumD_len]
theorem enumD_get : ∀ {xs : List D} {k i : Nat} {x : D}, xs[i]? = some x → (enumD k xs)[i]? = some (.tup [.int ((k + i : Nat) : Int), x])
  | [], _, _, _, h => by simp at h
  | y :: ys, k, 0, x, h => by
    simp at h
    subst h
    rfl
  | y :: ys, k, i + 1, x, h => by
    have e := enumD_get (k := k + 1) (show ys[i]? = some x from by simpa using h)
    unfold enumD
    rw [List.getElem?_cons_succ, e, show k + 1 + i = k + (i + 1) by omega]
theorem itok_enum {K : PySem.W.Frag} {F : Hp} {a : Addr} {vs : List V} {ds : List D} (h : F a = some (.lst vs)) (r : RpL K F vs ds) : ItOk K (Ite K a) F (enumD 0 ds) where
  go := fun i H F' s s' hi => by
    rw [enumD_len] at hi
    have hv : i < vs.length := by rw [r.len]; exact hi
    have hH : SqL K H a vs := SqL.of (s' _ _ (s _ _ h))
    refine ⟨⟨vs, vs[i], hH, List.getElem?_eq_getElem hv⟩, fun x H' ⟨T, v1, e1, nT, e2, y⟩ => ?_⟩
    obtain ⟨d, h1, h2⟩ := r.getV (y vs hH)
    subst e1
    have e := enumD_get (k := 0) h1
    rw [Nat.zero_add] at e
    exact ⟨_, e, .inr ⟨T, _, nT, e2, .pair (none_sub s' nT) (.int _) (h2.mono s)⟩⟩
  stop := fun H F' s s' => ⟨vs, SqL.of (s' _ _ (s _ _ h)), by rw [enumD_len, r.len]; exact Nat.le_refl _⟩

/-! ### targets -/
def tupsOf : D → Option (List D)
  | .tup xs => some xs
  | .tix xs => some xs
  | .tky xs => some xs
  | _ => none
theorem rp_tups {K : PySem.W.Frag} {F : Hp} {v : V} {d : D} {ds : List D} (r : Rp K F v d) (e : tupsOf d = some ds) : ∃ a vs, v = .ref a ∧ SqT K F a vs ∧ RpL K F vs ds := by
  cases d with
  | tup xs => cases e; cases r with | tup h r => exact ⟨_, _, rfl, h, r⟩
  | tix xs => cases e; cases r with | tix h _ r => exact ⟨_, _, rfl, .inl (.inr ⟨_, h⟩), r⟩
  | tky xs => cases e; cases r with | tky h r => exact ⟨_, _, rfl, SqT.of h, r⟩
  | _ => cases e
abbrev WG := D → En → (En → Prop) → Prop
abbrev WGs := List D → En → (En → Prop) → Prop
/-- is: the slots that it stores -/
def GOk (K : PySem.W.Frag) (is : List Nat) (g : TG) (wg : WG) : Prop := ∀ (P : St → En → Prop) (F H : Hp) (σ : St) (ρ : En) (v : V) (d : D) (Qd : En → Prop) (Q : St → Hp → Prop),
  (∀ i v d σ ρ, i ∈ is → P σ ρ → i < ρ.length → Rp K F v d → P (σ.set i (some v)) (ρ.set i (some (.fz d)))) → Same F H → P σ ρ → Rp K F v d → wg d ρ Qd → (∀ σ' ρ', P σ' ρ' → Qd ρ' → Q σ' H) → g v σ H Q
def GsOk (K : PySem.W.Frag) (is : List Nat) (g : TGs) (wg : WGs) : Prop := ∀ (P : St → En → Prop) (F H : Hp) (σ : St) (ρ : En) (vs : List V) (ds : List D) (Qd : En → Prop) (Q : St → Hp → Prop),
  (∀ i v d σ ρ, i ∈ is → P σ ρ → i < ρ.length → Rp K F v d → P (σ.set i (some v)) (ρ.set i (some (.fz d)))) → Same F H → P σ ρ → RpL K F vs ds → wg ds ρ Qd → (∀ σ' ρ', P σ' ρ' → Qd ρ' → Q σ' H) → g vs σ H Q
def DG (S : Sta) (tg : Expr) (is : List Nat) (wg : WG) : Prop := ∃ g, (∀ X, Fam S X → PG X tg g) ∧ GOk S.K is g wg
def DGs (S : Sta) (tg : List Expr) (is : List Nat) (n : Nat) (wg : WGs) : Prop := ∃ g, (∀ X, Fam S X → PGs X tg g) ∧ GsOk S.K is g wg ∧ (∀ env, (assignEach tg env).length = n) ∧ (∀ env, (assignEach tg env).findIdx? (·.1) = none)
def wgName (i : Nat) : WG := fun d ρ Q => i < ρ.length ∧ Q (ρ.set i (some (.fz d)))
def wgTup (n : Nat) (gs : WGs) : WG := fun d ρ Q => ∃ ds, tupsOf d = some ds ∧ ds.length = n ∧ gs ds ρ Q
def wgNil : WGs := fun ds ρ Q => ds = [] ∧ Q ρ
def wgCons (g : WG) (gs : WGs) : WGs := fun ds ρ Q => ∃ d r, ds = d :: r ∧ g d ρ fun ρ' => gs r ρ' Q
section
variable {S : Sta} {e : Expr} {es : List Expr} {pos : Pos}
theorem dg_name {i : Nat} {x : Str} (nd : S.N.Nodup) (hN : (S.N[i]? == some x) = true := by kernel_rfl) (hl : (S.names.lookup x == some .local || (S.names.lookup x == some .cell && S.fc x)) = true := by kernel_rfl) : DG S (.Name x pos) [i] (wgName i) :=
  ⟨gName i, fun X f => pg_name (by rw [f.N]; exact nd) (by rw [f.N]; exact beq_iff_eq.mp hN) (locOf f hl).1 (locOf f hl).2, fun P F H σ ρ v d Qd Q hP sF p r ⟨hi, q⟩ hq => hq _ _ (hP i v d σ ρ (List.mem_singleton.mpr rfl) p hi r) q⟩
theorem dgs_nil : DGs S [] [] 0 wgNil := ⟨gNil, fun X f => pgs_nil, fun P F H σ ρ vs ds Qd Q hP sF p r ⟨e, q⟩ hq => by
  subst e
  cases r
  exact ⟨rfl, hq _ _ p q⟩, fun _ => rfl, fun _ => rfl⟩
theorem dgs_cons {is js : List Nat} {n : Nat} {wg : WG} {wgs : WGs} (h1 : DG S e is wg) (h2 : DGs S es js n wgs) (hs : ∀ env, assignEach (e :: es) env = (false, assign e env) :: assignEach es env := by intro _; rfl) : DGs S (e :: es) (is ++ js) (n + 1) (wgCons wg wgs) := by
  obtain ⟨g, pg, ok⟩ := h1
  obtain ⟨gs, pgs, oks, hl, hf⟩ := h2
  refine ⟨gCons g gs, fun X f => pgs_cons (pg X f) (pgs X f) (by rw [hs]; rfl), fun P F H σ ρ vs ds Qd Q hP sF p r ⟨d, rr, e, q⟩ hq => ?_, fun env => by rw [hs, List.length_cons, hl], fun env => by rw [hs, List.findIdx?_cons, hf]; rfl⟩
  subst e
  cases r with
  | cons rv rvs =>
    refine ⟨_, _, rfl, ok P F H σ ρ _ d _ _ (fun i v d σ ρ hi => hP i v d σ ρ (List.mem_append_left _ hi)) sF p rv q fun σ' ρ' p' q' => ?_⟩
    exact oks P F H σ' ρ' _ rr Qd Q (fun i v d σ ρ hi => hP i v d σ ρ (List.mem_append_right _ hi)) sF p' rvs q' hq
theorem dg_tup {is : List Nat} {n k : Nat} {wgs : WGs} (h : DGs S es is n wgs) : DG S (.Tuple es k pos) is (wgTup n wgs) := by
  obtain ⟨gs, pgs, oks, hl, hf⟩ := h
  refine ⟨gTup S.K n gs, fun X f => f.K ▸ pg_tup f.calm (pgs X f) (hl _) (hf _), fun P F H σ ρ v d Qd Q hP sF p r ⟨ds, e, e2, q⟩ hq => ?_⟩
  obtain ⟨a, vs, rfl, h, r⟩ := rp_tups r e
  exact ⟨_, _, rfl, Same.sqt sF h, by rw [r.len]; exact e2, oks P F H σ ρ _ ds Qd Q hP sF p r q hq⟩
end

/-! ### sources, within an expression -/
section
variable (K : PySem.W.Frag)
def tI (w : WA) : TI := fun σ H R => ∃ G F ρ Qd, EvR K G F H σ ρ ∧ w G ρ Qd ∧ ∀ J H' F' ds, Same F F' → EvR K G F' H' σ ρ → Fr G H H' → ItOk K J F' ds → Qd ds → R J H'
end
def DI (S : Sta) (tg e : Expr) (w : WA) : Prop := ∀ X, Fam S X → PI X tg e (tI S.K w)
theorem _root_.L2.PI.imp {X : Cx} {tg e : Expr} {t t' : TI} (h : PI X tg e t) (i : ∀ σ H R, t' σ H R → t σ H R) : PI X tg e t' := ⟨fun pins s σ H Q I q => h.run pins s σ H Q I (i σ H Q q)⟩
def iSeq (K : PySem.W.Frag) (tl : TE) : TI := fun σ H R => tl σ H fun x H1 => ∃ a, x = .ref a ∧ (((∃ xs, SqL K H1 a xs) ∧ R (Itl K a) H1) ∨ ((∃ xs, SqT K H1 a xs) ∧ R (Itt K a) H1))
theorem pi_seq {X : Cx} {tg l : Expr} {tl : TE} (hl : PE X l tl) : PI X tg l (iSeq X.K tl) := by
  refine ⟨fun pins s σ H R I h => ?_⟩
  refine thn (hl.run pins s σ H _ I h) fun v s1 ⟨x, H1, I1, r1, q1⟩ => ?_
  obtain ⟨a, e, q⟩ := q1
  subst e
  cases r1
  rcases q with ⟨⟨xs, hq⟩, q⟩ | ⟨⟨xs, hq⟩, q⟩
  · obtain ⟨its, rv, p, hz⟩ := I1.list hq
    refine wpAny_pyIter_list p.isList ?_
    refine ⟨s1.heap.objs.size, [s1.heap.objs.size], _, _, H1, rfl, I1.kept (t' := s1.toks) fun b o e => Heap.get?_push_of_some _ e, turn_list a _, ⟨_, Heap.get?_push_size _ rfl, rfl, rfl⟩, fun b hb => ?_, q⟩
    have e : b = s1.heap.objs.size := by simpa using hb
    subst e
    exact I1.fpOk (Nat.le_refl _) (I1.hok.fresh (Nat.le_refl _))
  · obtain ⟨its, rv, p, hz⟩ := I1.tuple hq
    refine wpAny_pyIter_tuple (show s1.heap.IsTuple a its.toArray from p) ?_
    refine ⟨s1.heap.objs.size, [s1.heap.objs.size], _, _, H1, rfl, I1.kept (t' := s1.toks) fun b o e => Heap.get?_push_of_some _ e, turn_tuple a _, ⟨_, Heap.get?_push_size _ rfl, rfl, rfl⟩, fun b hb => ?_, q⟩
    have e : b = s1.heap.objs.size := by simpa using hb
    subst e
    exact I1.fpOk (Nat.le_refl _) (I1.hok.fresh (Nat.le_refl _))
theorem rp_items {K : PySem.W.Frag} {F : Hp} {v : V} {d : D} {ds : List D} (r : Rp K F v d) (e : itemsOf d = some ds) : ∃ a vs, v = .ref a ∧ ((d = .lst ds ∧ F a = some (.lst vs)) ∨ (True ∧ SqT K F a vs)) ∧ RpL K F vs ds := by
  cases d with
  | tup xs => cases e; cases r with | tup h r => exact ⟨_, _, rfl, .inr ⟨True.intro, h⟩, r⟩
  | tix xs => cases e; cases r with | tix h _ r => exact ⟨_, _, rfl, .inr ⟨True.intro, .inl (.inr ⟨_, h⟩)⟩, r⟩
  | tky xs => cases e; cases r with | tky h r => exact ⟨_, _, rfl, .inr ⟨True.intro, SqT.of h⟩, r⟩
  | lst xs => cases e; cases r with | lst h r => exact ⟨_, _, rfl, .inl ⟨rfl, h⟩, r⟩
  | _ => cases e
def wiSeq (w : W) : WA := fun G ρ Q => w G ρ fun d => ∃ ds, itemsOf d = some ds ∧ Q ds
def wiRange1 (r : WA) : WA := fun G ρ Q => r G ρ fun ds => ∃ j : Int, ds = [.int j] ∧ -(2 ^ 62) ≤ j ∧ j < 2 ^ 62 ∧ Q (rangeD 0 j.toNat)
def wiRange2 (r : WA) : WA := fun G ρ Q => r G ρ fun ds => ∃ i j : Int, ds = [.int i, .int j] ∧ (-(2 ^ 62) ≤ i ∧ i < 2 ^ 62 ∧ -(2 ^ 62) ≤ j ∧ j < 2 ^ 62) ∧ Q (rangeD i (j - i).toNat)
/-- two of one kind -/
def wiZip (r : WA) : WA := fun G ρ Q => r G ρ fun ds => ∃ x y xs ys, ds = [x, y] ∧ ((tupsOf x = some xs ∧ tupsOf y = some ys) ∨ (x = .lst xs ∧ y = .lst ys)) ∧ Q (zipD xs ys)
def wiEnum (r : WA) : WA := fun G ρ Q => r G ρ fun ds => ∃ xs, ds = [.lst xs] ∧ Q (enumD 0 xs)
section
variable {S : Sta} {tg e a b : Expr} {es : List Expr} {p pos tpos : Pos} {w : W} {r : WA} {kk : Nat}
theorem di_seq (h : DE S e w) : DI S tg e (wiSeq w) := fun X f => (pi_seq (h X f)).imp fun σ H R ⟨G, F, ρ, Qd, ev, hw, hq⟩ =>
  ⟨G, F, ρ, _, ev, hw, fun v H1 F1 d s1 e1 f1 r1 ⟨ds, ed, q1⟩ => by
    rw [f.K]
    obtain ⟨a, vs, rfl, h, r⟩ := rp_items r1 ed
    rcases h with ⟨_, h⟩ | ⟨_, h⟩
    · exact ⟨a, rfl, .inl ⟨⟨vs, SqL.of (e1.sub _ _ h)⟩, hq _ H1 F1 ds s1 e1 f1 (itok_list h r) q1⟩⟩
    · exact ⟨a, rfl, .inr ⟨⟨vs, Same.sqt e1.sub h⟩, hq _ H1 F1 ds s1 e1 f1 (itok_tup h r) q1⟩⟩⟩
theorem glOf {X : Cx} (f : Fam S X) {x : Str} (h : (S.names.lookup x == some .globalImplicit) = true) : Gl X x := by unfold Gl Env.kindOf; rw [f.look]; exact beq_iff_eq.mp h
theorem di_range1 (hm : S.mg "range" = none) (h : DA S [a] r) (hg : (S.names.lookup ("range" : Str) == some .globalImplicit) = true := by kernel_rfl) (hs : ∀ env, starEach [a] env = [(false, eval a env)] := by intro _; rfl) : DI S tg (.Call (.Name "range" p) [a] [] pos) (wiRange1 r) := fun X f =>
  (pi_range1 (glOf f hg) (by rw [f.mg]; exact hm) (h X f) (hs _)).imp fun σ H R ⟨G, F, ρ, Qd, ev, hw, hq⟩ =>
  ⟨G, F, ρ, _, ev, hw, fun vs H1 F1 ds s1 e1 f1 r1 ⟨j, ed, z1, z2, q1⟩ => by
    subst ed
    cases r1 with
    | cons rv rr => cases rr; cases rv; exact ⟨j, rfl, z1, z2, hq _ H1 F1 _ s1 e1 f1 (itok_range _ _) q1⟩⟩
theorem di_range2 (hm : S.mg "range" = none) (h : DA S [a, b] r) (hg : (S.names.lookup ("range" : Str) == some .globalImplicit) = true := by kernel_rfl) (hs : ∀ env, starEach [a, b] env = [(false, eval a env), (false, eval b env)] := by intro _; rfl) (hs2 : ∀ env, starEach [b] env = [(false, eval b env)] := by intro _; rfl) :
    DI S tg (.Call (.Name "range" p) [a, b] [] pos) (wiRange2 r) := fun X f =>
  (pi_range2 (glOf f hg) (by rw [f.mg]; exact hm) (h X f) (hs _) (hs2 _)).imp fun σ H R ⟨G, F, ρ, Qd, ev, hw, hq⟩ =>
  ⟨G, F, ρ, _, ev, hw, fun vs H1 F1 ds s1 e1 f1 r1 ⟨i, j, ed, z, q1⟩ => by
    subst ed
    cases r1 with
    | cons rv rr =>
      cases rr with
      | cons rv2 rr => cases rr; cases rv; cases rv2; exact ⟨i, j, rfl, z, hq _ H1 F1 _ s1 e1 f1 (itok_range _ _) q1⟩⟩
theorem di_zip (hm : S.mg "zip" = none) (h : DA S [a, b] r) (hg : (S.names.lookup ("zip" : Str) == some .globalImplicit) = true := by kernel_rfl) (hs : ∀ env, starEach [a, b] env = (false, eval a env) :: starEach [b] env := by intro _; rfl) (hpl : ∀ env, (backTo pos (starEach [b] env)).any (·.1) = false := by intro _; rfl) :
    DI S (.Tuple es kk tpos) (.Call (.Name "zip" p) [a, b] [] pos) (wiZip r) := fun X f =>
  (RZ.pi_zipA (glOf f hg) (by rw [f.mg]; exact hm) (h X f) (hs _) (hpl _)).imp fun σ H R ⟨G, F, ρ, Qd, ev, hw, hq⟩ =>
  ⟨G, F, ρ, _, ev, hw, fun vs H1 F1 ds s1 e1 f1 r1 ⟨x, y, xs, ys, ed, z, q1⟩ => by
    subst ed
    rw [f.K]
    cases r1 with
    | cons rv rr =>
      cases rr with
      | cons rv2 rr =>
        cases rr
        rcases z with ⟨z1, z2⟩ | ⟨rfl, rfl⟩
        · obtain ⟨a, vs, rfl, h1, r1⟩ := rp_tups rv z1
          obtain ⟨b, us, rfl, h2, r2⟩ := rp_tups rv2 z2
          exact ⟨_, _, _, _, rfl, .inr ⟨Same.sqt e1.sub h1, Same.sqt e1.sub h2, hq _ H1 F1 _ s1 e1 f1 (itok_zipT h1 r1 h2 r2) q1⟩⟩
        · cases rv with
          | lst h1 r1 => cases rv2 with
            | lst h2 r2 => exact ⟨_, _, _, _, rfl, .inl ⟨SqL.of (e1.sub _ _ h1), SqL.of (e1.sub _ _ h2), hq _ H1 F1 _ s1 e1 f1 (itok_zipL h1 r1 h2 r2) q1⟩⟩⟩
theorem di_enum (hm : S.mg "enumerate" = none) (h : DA S [a] r) (hg : (S.names.lookup ("enumerate" : Str) == some .globalImplicit) = true := by kernel_rfl) (hs : ∀ env, starEach [a] env = [(false, eval a env)] := by intro _; rfl) :
    DI S (.Tuple es kk tpos) (.Call (.Name "enumerate" p) [a] [] pos) (wiEnum r) := fun X f =>
  (pi_enum (glOf f hg) (by rw [f.mg]; exact hm) (h X f) (hs _)).imp fun σ H R ⟨G, F, ρ, Qd, ev, hw, hq⟩ =>
  ⟨G, F, ρ, _, ev, hw, fun vs H1 F1 ds s1 e1 f1 r1 ⟨xs, ed, q1⟩ => by
    subst ed
    rw [f.K]
    cases r1 with
    | cons rv rr =>
      cases rr
      cases rv with
      | lst h1 r1 => exact ⟨_, _, rfl, SqL.of (e1.sub _ _ h1), hq _ H1 F1 _ s1 e1 f1 (itok_enum h1 r1) q1⟩⟩
end
end DL
set_option maxHeartbeats 4000000
namespace DL
open PySem PySem.Spec PyProof.Rows L2

/-! ### list comprehensions -/
/-- G' keeps what G keeps, and more -/
structure GExt (G G' : Gc) : Prop where
  R : ∀ a, G.R a → G'.R a
  wd : ∀ H, G'.Wd H → G.Wd H
  st : ∀ H H', G'.Wd H → G.Wd H' → (∀ a, G'.R a → ¬ G.R a → H' a = H a) → G'.Wd H'
theorem GExt.refl (G : Gc) : GExt G G := ⟨fun _ h => h, fun _ h => h, fun _ _ _ h _ => h⟩
theorem GExt.trans {G G1 G2 : Gc} (a : GExt G G1) (b : GExt G1 G2) : GExt G G2 := ⟨fun x h => b.R x (a.R x h), fun H h => a.wd H (b.wd H h), fun H H' h h' q => by
  have h1 : G1.Wd H' := a.st H H' (b.wd _ h) h' fun x r n => q x (b.R x r) n
  refine b.st H H' h h1 fun x r n => q x r fun z => n (a.R x z)⟩
/-- the list at D stays acc meanwhile -/
def Gc.more (G : Gc) (D : Addr) (o : HO) : Gc where
  R := fun a => G.R a ∨ a = D
  Wd := fun H => G.Wd H ∧ H D = some o ∧ isMutO o = true
  live := fun H a h r => by
    rcases r with r | r
    · exact G.live H a h.1 r
    · rw [r, h.2.1]; exact fun z => nomatch z
  nt := fun H A u h r e => by
    rcases r with r | r
    · exact G.nt H A u h.1 r e
    · rw [r, h.2.1] at e
      cases e
      cases h.2.2
  st := fun H H' h q x => ⟨G.st H H' h.1 (fun a r => q a (.inl r)) x, by rw [q D (.inr rfl)]; exact h.2.1, h.2.2⟩
theorem Gc.more_ext (G : Gc) (D : Addr) (o : HO) (n : ¬ G.R D) : GExt G (G.more D o) := ⟨fun _ r => .inl r, fun _ h => h.1, fun H H' h h' q => ⟨h', by rw [q D (.inr rfl) n]; exact h.2.1, h.2.2⟩⟩
def wipeD (ρ : En) : List Nat → En
  | [] => ρ
  | v :: vs => (wipeD ρ vs).set v none
theorem wipeD_len (ρ : En) : ∀ vs : List Nat, (wipeD ρ vs).length = ρ.length
  | [] => rfl
  | v :: vs => by unfold wipeD; rw [List.length_set, wipeD_len ρ vs]
theorem wipeD_get {ρ : En} {i : Nat} {sv : SV} : ∀ {vs : List Nat}, (wipeD ρ vs)[i]? = some (some sv) → ρ[i]? = some (some sv) ∧ i ∉ vs
  | [], h => ⟨h, by simp⟩
  | v :: vs, h => by
    unfold wipeD at h
    rcases set_get h with ⟨_, e⟩ | ⟨ne, h⟩
    · cases e
    · obtain ⟨h1, h2⟩ := wipeD_get h
      exact ⟨h1, by simp only [List.mem_cons, not_or]; exact ⟨fun e => ne e.symm, h2⟩⟩
theorem wipe_get {σ : St} {i : Nat} {v : Option V} : ∀ {vs : List Nat}, σ[i]? = some v → i ∉ vs → (wipe σ vs)[i]? = some v
  | [], h, _ => h
  | w :: vs, h, n => by
    unfold wipe
    simp only [List.mem_cons, not_or] at n
    rw [List.getElem?_set_ne (Ne.symm n.1)]
    exact wipe_get h n.2
theorem wipe_set {σ : St} {i : Nat} {v : Option V} : ∀ {vs : List Nat}, i ∈ vs → wipe (σ.set i v) vs = wipe σ vs
  | w :: vs, h => by
    unfold wipe
    by_cases e : i = w
    · subst e
      by_cases h2 : i ∈ vs
      · rw [wipe_set h2]
      · have : wipe (σ.set i v) vs = (wipe σ vs).set i v := by
          clear h
          induction vs with
          | nil => rfl
          | cons u us ih =>
            simp only [List.mem_cons, not_or] at h2
            show (wipe (σ.set i v) us).set u none = ((wipe σ us).set u none).set i v
            rw [ih h2.2, List.set_comm _ _ h2.1]
        rw [this, List.set_set]
    · rcases List.mem_cons.mp h with h | h
      · exact absurd h e
      · rw [wipe_set h]
def relN (a b : List (Str × NameKind)) : List (Str × NameKind) := a.map fun (n, k) => if (k == .free && b.lookup n == some .cell) then (n, .cell) else (n, k)
/-- a comprehension's block of a def -/
def Sta.blk (S : Sta) (scope : Scope) : Sta := { S with names := relN scope.names S.names, fc := fun x => scope.names.lookup x == some .cell, cd := none }
theorem fam_blk {S : Sta} {X : Cx} (f : Fam S X) {scope : Scope} (hk : scope.kind = .function) (s : Shared) (H : Hp) (C : Addr) (cl : List (Str × Addr)) (fp : List Addr) : Fam (S.blk scope) (X.blk s H scope (compEnvC scope cl C X.env) fp) where
  P := f.P
  w := f.w
  K := f.K
  mg := f.mg
  base := f.base
  N := f.N
  look := by
    show (relS scope X.env.scope).names = relN scope.names S.names
    unfold relS relN
    rw [f.kind, f.look]
    simp
  calm := f.calm
  room := f.room
  po := PassesOwn.never
  fn := fun x h => h
  kind := hk
  ns := f.ns
  cd := fun _ _ z => nomatch z
def DTs (S : Sta) (ifs : List Expr) (w : WT) : Prop := ∀ X, Fam S X → PTs X ifs (tT S.K w)
def wtTrue : WT := fun _ _ Q => Q true
theorem _root_.L2.PTs.imp {X : Cx} {es : List Expr} {t t' : TT} (h : PTs X es t) (i : ∀ σ H Q, t' σ H Q → t σ H Q) : PTs X es t' := ⟨fun pins s σ H Q I q => h.run pins s σ H Q I (i σ H Q q)⟩
theorem dts_nil {S : Sta} : DTs S [] wtTrue := fun X f => pts_nil.imp fun σ H Q ⟨G, F, ρ, Qd, ev, hw, hq⟩ => hq true H F (Same.refl _) ev Fr.refl hw
theorem dts_one {S : Sta} {c : Expr} {t : WT} (h : DT S c t) : DTs S [c] t := fun X f => pts_one (h X f)
/-- the turns over ds, acc made so far -/
def wcL (wg : WG) (wt : WT) (we : W) (vs : List Nat) (G : Gc) (ρ : En) : List D → List D → (List D → Prop) → Prop
  | [], acc, Q => Q acc
  | d :: r, acc, Q => ∀ G', GExt G G' → wg d (wipeD ρ vs) fun ρ2 => wt G' ρ2 fun b => if b = true then we G' ρ2 fun y => acc.length < sizeLine ∧ wcL wg wt we vs G ρ r (acc ++ [y]) Q else wcL wg wt we vs G ρ r acc Q
def wComp (wi : WA) (wg : WG) (wt : WT) (we : W) (vs : List Nat) : WO := fun G ρ Q => wi G ρ fun ds => wcL wg wt we vs G ρ ds [] fun acc => Q (.ow acc)
theorem wipe_at {σ : St} {i : Nat} : ∀ {vs : List Nat}, i ∈ vs → i < σ.length → (wipe σ vs)[i]? = some none
  | w :: vs, h, hl => by
    unfold wipe
    by_cases e : w = i
    · subst e; exact List.getElem?_set_self (by rw [wipe_length]; exact hl)
    · rw [List.getElem?_set_ne e]
      rcases List.mem_cons.mp h with h | h
      · exact absurd h.symm e
      · exact wipe_at h hl
theorem wipe_out2 {σ : St} {i : Nat} : ∀ {vs : List Nat}, i ∉ vs → (wipe σ vs)[i]? = σ[i]?
  | [], _ => rfl
  | w :: vs, n => by
    unfold wipe
    simp only [List.mem_cons, not_or] at n
    rw [List.getElem?_set_ne (Ne.symm n.1)]
    exact wipe_out2 n.2
theorem wipe_wipe (σ : St) (vs : List Nat) : wipe (wipe σ vs) vs = wipe σ vs := by
  apply List.ext_getElem?
  intro i
  by_cases h : i ∈ vs
  · by_cases hl : i < σ.length
    · rw [wipe_at h (by rw [wipe_length]; exact hl), wipe_at h hl]
    · rw [List.getElem?_eq_none (by rw [wipe_length, wipe_length]; omega), List.getElem?_eq_none (by rw [wipe_length]; omega)]
  · rw [wipe_out2 h]
theorem evr_wipe {K : PySem.W.Frag} {G : Gc} {F H : Hp} {σ : St} {ρ : En} (e : EvR K G F H σ ρ) (vs : List Nat) : EvR K G F H (wipe σ vs) (wipeD ρ vs) :=
  ⟨e.sub, e.res, e.wd, fun i sv h => by
    obtain ⟨h1, h2⟩ := wipeD_get h
    obtain ⟨v, q1, q2⟩ := e.slot i sv h1
    exact ⟨v, wipe_get q1 h2, q2⟩, by rw [wipe_length, wipeD_len]; exact e.len⟩
theorem evr_set {K : PySem.W.Frag} {G : Gc} {F H : Hp} {σ : St} {ρ : En} (e : EvR K G F H σ ρ) {i : Nat} {v : V} {d : D} (hi : i < ρ.length) (r : Rp K F v d) : EvR K G F H (σ.set i (some v)) (ρ.set i (some (.fz d))) :=
  ⟨e.sub, e.res, e.wd, fun j sv h => by
    rcases set_get h with ⟨rfl, z⟩ | ⟨ne, h⟩
    · cases z; exact ⟨v, List.getElem?_set_self (by rw [e.len]; exact hi), r⟩
    · obtain ⟨u, h1, h2⟩ := e.slot j sv h
      exact ⟨u, by rw [List.getElem?_set_ne ne]; exact h1, h2⟩, by rw [List.length_set, List.length_set]; exact e.len⟩
/-- .. while the list at D is kept -/
theorem evr_more {K : PySem.W.Frag} {G : Gc} {F H : Hp} {σ : St} {ρ : En} (e : EvR K G F H σ ρ) {D : Addr} {o : HO} (hD : H D = some o) (hm : isMutO o = true) (nF : F D = none) (nS : ∀ (i : Nat) (sv : SV), ρ[i]? = some (some sv) → isOwn sv = true → σ[i]? ≠ some (some (.ref D))) : EvR K (G.more D o) F H σ ρ where
  sub := e.sub
  res := fun a r => by
    rcases r with r | r
    · exact e.res a r
    · rw [r]; exact nF
  wd := ⟨e.wd, hD, hm⟩
  slot := fun i sv h => by
    obtain ⟨v, q1, q2⟩ := e.slot i sv h
    refine ⟨v, q1, ?_⟩
    cases sv with
    | fz d => exact q2
    | ow xs =>
      obtain ⟨a, vs, rfl, z1, z2, z3⟩ := q2
      exact ⟨a, vs, rfl, z1, z2, fun r => r.elim z3 fun e => nS i _ h rfl (by rw [q1, e])⟩
    | od t kds =>
      obtain ⟨a, vs, rfl, z1, z0, z2, z3⟩ := q2
      exact ⟨a, vs, rfl, z1, z0, z2, fun r => r.elim z3 fun e => nS i _ h rfl (by rw [q1, e])⟩
  len := e.len
theorem evr_less {K : PySem.W.Frag} {G : Gc} {F H : Hp} {σ : St} {ρ : En} {D : Addr} {o : HO} (e : EvR K (G.more D o) F H σ ρ) : EvR K G F H σ ρ where
  sub := e.sub
  res := fun a r => e.res a (.inl r)
  wd := e.wd.1
  slot := fun i sv h => by
    obtain ⟨v, q1, q2⟩ := e.slot i sv h
    refine ⟨v, q1, ?_⟩
    cases sv with
    | fz d => exact q2
    | ow xs =>
      obtain ⟨a, vs, rfl, z1, z2, z3⟩ := q2
      exact ⟨a, vs, rfl, z1, z2, fun r => z3 (.inl r)⟩
    | od t kds =>
      obtain ⟨a, vs, rfl, z1, z0, z2, z3⟩ := q2
      exact ⟨a, vs, rfl, z1, z0, z2, fun r => z3 (.inl r)⟩
  len := e.len
theorem lc_imp {K : PySem.W.Frag} {wi : WA} {g : TG} {wg : WG} {wt : WT} {we : W} {vs is : List Nat} (hg : GOk K is g wg) (hsub : ∀ i ∈ is, i ∈ vs) (σ : St) (H : Hp) (Q : VK) :
    tO K (wComp wi wg wt we vs) σ H Q → tLc (tI K wi) g (tT K wt) (tD K we) vs σ H Q := fun ⟨G, F, ρ, Qd, ev, hw, hq⟩ => by
  refine ⟨G, F, ρ, _, ev, hw, fun J H1 F1 ds s1 e1 f1 it q1 D hD => ?_⟩
  have nR : ¬ G.R D := e1.nr hD
  -- what holds ahead of turn i
  let I : Nat → Hp → Prop := fun i H2 => ∃ F2 acc accd, Same F1 F2 ∧ Same F2 H2 ∧ H2 D = some (.lst acc) ∧ RpL K F2 acc accd ∧ F2 D = none ∧ (∀ a, G.R a → F2 a = none) ∧ G.Wd H2 ∧ Fr G H1 H2 ∧ wcL wg wt we vs G ρ (ds.drop i) accd fun acc => Qd (.ow acc)
  refine ⟨fun i m H2 => m = ds.length - i ∧ i ≤ ds.length ∧ I i H2, ⟨ds.length, by omega, Nat.zero_le _, F1, [], [], Same.refl _, fun b x h => ?_, upd_same, .nil, e1.fnone hD, e1.res, ?_, Fr.upd hD, q1⟩, ?_⟩
  · rw [upd_ne (ne_of_none (e1.sub _ _ h) hD)]; exact e1.sub _ _ h
  · exact G.st _ _ e1.wd (fun a r => upd_ne (by rintro rfl; exact nR r)) (extK_new hD)
  rintro i m H2 ⟨rfl, hi, F2, acc, accd, s2, s2', hDl, rl, nF, res, wd, fr, hwl⟩
  have e2 : EvR K G F2 H2 σ ρ := e1.go s2 s2' fr res wd
  by_cases hlt : i < ds.length
  · obtain ⟨hgo, hy⟩ := it.go i H2 F2 s2 s2' hlt
    refine .inr ⟨hgo, I (i + 1), fun H' h => ⟨ds.length - (i + 1), by omega, rfl, hlt, h⟩, fun x H3 y => ?_⟩
    obtain ⟨d, hd, hx⟩ := hy x H3 y
    rw [List.drop_eq_getElem_cons hlt] at hwl
    rw [List.getElem?_eq_getElem hlt] at hd
    cases hd
    -- the state with the item
    obtain ⟨F3, s3, s3', nF3, res3, wd3, fr3, hD3, rx⟩ : ∃ F3, Same F2 F3 ∧ Same F3 H3 ∧ F3 D = none ∧ (∀ a, G.R a → F3 a = none) ∧ G.Wd H3 ∧ Fr G H2 H3 ∧ H3 D = some (.lst acc) ∧ Rp K F3 x ds[i] := by
      rcases hx with ⟨rfl, rx⟩ | ⟨T, o, nT, rfl, rx⟩
      · exact ⟨F2, Same.refl _, s2', nF, res, wd, Fr.refl, hDl, rx⟩
      · have ne : D ≠ T := ne_of_none hDl nT
        have e3 := e2.live (o := o) nT
        exact ⟨upd F2 T o, same_upd (none_sub s2' nT), e3.sub, by rw [upd_ne ne]; exact nF, e3.res, e3.wd, Fr.upd nT, by rw [upd_ne ne]; exact hDl, rx⟩
    have e3 : EvR K G F3 H3 σ ρ := e2.go s3 s3' fr3 res3 wd3
    have nS : ∀ (j : Nat) (sv : SV), ρ[j]? = some (some sv) → isOwn sv = true → σ[j]? ≠ some (some (.ref D)) := fun j sv h ho z => by
      obtain ⟨o, q, _, _⟩ := e1.ownAt h ho z
      rw [hD] at q; cases q
    have e4 := evr_wipe (evr_more e3 hD3 rfl nF3 nS) vs
    have step := hwl (G.more D (.lst acc)) (G.more_ext D _ nR)
    refine hg (fun σ' ρ' => EvR K (G.more D (.lst acc)) F3 H3 σ' ρ' ∧ wipe σ' vs = wipe σ vs) F3 H3 (wipe σ vs) (wipeD ρ vs) x ds[i] _ _ (fun j v d σ' ρ' hj ⟨p1, p2⟩ hl r => ⟨evr_set p1 hl r, by rw [wipe_set (hsub j hj)]; exact p2⟩) s3' ⟨e4, ?_⟩ rx step fun σ' ρ' ⟨p1, p2⟩ q => ?_
    · exact wipe_wipe σ vs
    · refine ⟨p2, G.more D (.lst acc), F3, ρ', _, p1, q, fun b H4 F4 s4 e4 f4 q4 => ?_⟩
      have hD4 : H4 D = some (.lst acc) := e4.wd.2.1
      have nF4 : F4 D = none := e4.res D (.inr rfl)
      have fr4 : Fr G H1 H4 := fun c o hc nr => by
        have ne : c ≠ D := ne_of_none hc hD
        exact f4 c o (fr3 c o (fr c o hc nr) nr) fun r => r.elim nr ne
      cases b with
      | false =>
        rw [if_neg Bool.false_ne_true] at q4
        refine iteF ?_
        exact ⟨F4, acc, accd, s2.trans (s3.trans s4), e4.sub, hD4, rl.mono (s3.trans s4), nF4, fun a r => e4.res a (.inl r), e4.wd.1, fr4, q4⟩
      | true =>
        rw [if_pos rfl] at q4
        refine iteT ?_
        refine ⟨G.more D (.lst acc), F4, ρ', _, e4, q4, fun v H5 F5 d5 s5 e5 f5 r5 ⟨hz, q5⟩ => ?_⟩
        have hD5 : H5 D = some (.lst acc) := e5.wd.2.1
        have nF5 : F5 D = none := e5.res D (.inr rfl)
        refine ⟨acc, hD5, by rw [rl.len]; exact hz, F5, acc ++ [v], accd ++ [d5], s2.trans (s3.trans (s4.trans s5)), fun c o hc => ?_, upd_same, (rl.mono (s3.trans (s4.trans s5))).append (.cons r5 .nil), nF5, fun a r => e5.res a (.inl r), ?_, fun c o hc nr => ?_, q5⟩
        · have ne : c ≠ D := by rintro rfl; rw [nF5] at hc; cases hc
          rw [upd_ne ne]; exact e5.sub _ _ hc
        · exact G.st _ _ e5.wd.1 (fun a r => upd_ne (by rintro rfl; exact nR r)) (extK_at hD5 fun φ z => nomatch z)
        · have ne : c ≠ D := ne_of_none hc hD
          rw [upd_ne ne]
          exact f5 c o (fr4 c o hc nr) fun r => r.elim nr ne
  · have ei : i = ds.length := by omega
    subst ei
    rw [List.drop_length] at hwl
    exact .inl ⟨it.stop H2 F2 s2 s2', hq _ H2 F2 (.ow accd) (s1.trans s2) e2 (f1.trans fr) ⟨D, acc, rfl, hDl, rl, nR, f1.free nR hD, nF⟩ hwl⟩
section
variable {S : Sta} {elt tg iter : Expr} {ifs : List Expr} {scope : Scope} {own : List (Str × Nat)} {pos : Pos} {wi : WA} {wg : WG} {wt : WT} {we : W} {is : List Nat}
theorem blkOf {X : Cx} (f : Fam S X) (h : blkC S.N ⟨.function, S.names, false, false, []⟩ scope own = true) : BlkOk X.N X.env.scope scope own := by
  have ok := blkOk_by h
  exact ⟨ok.kind, ok.uniq, by rw [f.N]; exact ok.ix, fun y hy e => by rw [f.look]; exact ok.free y hy e, by rw [f.N]; exact ok.own⟩
theorem do_lc (hi : DI S tg iter wi) (nd : S.N.Nodup) (hk : blkC S.N ⟨.function, S.names, false, false, []⟩ scope own = true) (hg : DG (S.blk scope) tg is wg) (hsub : ∀ i ∈ is, i ∈ own.map (·.2)) (ht : DTs (S.blk scope) ifs wt) (he : DE (S.blk scope) elt we)
    (hs : ∀ env x, foldedSetIterable iter env x = pure x := by intro _ _; rfl) : DO S (.ListComp elt [⟨tg, iter, ifs, 0⟩] scope pos) (wComp wi wg wt we (own.map (·.2))) := fun X f => by
  obtain ⟨g, pg, ok⟩ := hg
  have bk := blkOf f hk
  exact (pe_lc f.calm (by rw [f.N]; exact nd) (hi X f) bk (fun s H C cl fp => pg _ (fam_blk f bk.kind s H C cl fp)) (fun s H C cl fp => ht _ (fam_blk f bk.kind s H C cl fp)) (fun s H C cl fp => he _ (fam_blk f bk.kind s H C cl fp)) (hs _)).imp fun σ H Q h => lc_imp ok hsub σ H Q h
theorem ds_setLc {i : Nat} {y : Str} {py spos : Pos} (hi : DI S tg iter wi) (nd : S.N.Nodup) (hk : blkC S.N ⟨.function, S.names, false, false, []⟩ scope own = true) (hg : DG (S.blk scope) tg is wg) (hsub : ∀ i ∈ is, i ∈ own.map (·.2)) (ht : DTs (S.blk scope) ifs wt) (he : DE (S.blk scope) elt we)
    (hN : (S.N[i]? == some y) = true := by kernel_rfl) (hl : (S.names.lookup y == some .local) = true := by kernel_rfl) (hln : (py.line == pos.line) = true := by kernel_rfl) (ha : (scope.names.any fun (n, k) => n == y && (k == .local || k == .cell)) = false := by kernel_rfl)
    (hs : ∀ env x, foldedSetIterable iter env x = pure x := by intro _ _; rfl) : DS S (.Assign [.Name y py] (.ListComp elt [⟨tg, iter, ifs, 0⟩] scope pos) spos) (wSet i (wComp wi wg wt we (own.map (·.2)))) := fun X f => by
  obtain ⟨g, pg, ok⟩ := hg
  have bk := blkOf f hk
  have hy : X.env.scope.names.lookup y = some .local := by rw [f.look]; exact beq_iff_eq.mp hl
  refine (ps_setLc (i := i) f.calm (by rw [f.N]; exact nd) (by rw [f.N]; exact beq_iff_eq.mp hN) hy (sw_true f.kind hy hln ha) (hi X f) bk (fun s H C cl fp => pg _ (fam_blk f bk.kind s H C cl fp)) (fun s H C cl fp => ht _ (fam_blk f bk.kind s H C cl fp)) (fun s H C cl fp => he _ (fam_blk f bk.kind s H C cl fp)) (hs _)).imp fun D σ H ⟨G, H0, F0, F, ρ, E, ev, ⟨hi, hw⟩, gg⟩ => ?_
  refine lc_imp ok hsub σ H _ ⟨G, F, ρ, _, ev.r, hw, fun v H' F' sv s e' fr r q => ?_⟩
  obtain ⟨F2, ev2, s2⟩ := ev.put s e' fr hi r
  exact gg.nx _ H' F2 _ ev2 s2 q
end
end DL
set_option maxHeartbeats 4000000
namespace DL
open PySem PySem.Spec PyProof.Rows L2

/-! ### values that are handed on for good -/
abbrev WV := Gc → En → (D → En → Prop) → Prop
def tG (K : PySem.W.Frag) (w : WV) : TE := fun σ H Q => ∃ G H0 F0 F ρ Qd, Ev K G H0 F0 F H σ ρ ∧ w G ρ Qd ∧ ∀ v H' F' d ρ', Ev K G H0 F0 F' H' σ ρ' → Same F F' → Rp K F' v d → Qd d ρ' → Q v H'
def DV (S : Sta) (e : Expr) (w : WV) : Prop := ∀ X, Fam S X → PE X e (tG S.K w)
def wvO (wo : WO) : WV := fun G ρ Q => wo G ρ fun sv => match sv with
  | .fz d => Q d (if imm d = true then ρ else frzAll ρ)
  | .ow xs => Q (.lst xs) (if immL xs = true then ρ else frzAll ρ)
  | .od t kds => Q (.dic t kds) (if immL (kds.map (·.2)) = true then ρ else frzAll ρ)
def wvVar (i : Nat) : WV := fun _ ρ Q => ∃ sv, ρ[i]? = some (some sv) ∧ match sv with
  | .fz d => Q d ρ
  | .ow xs => Q (.lst xs) (ρ.set i (some (.fz (.lst xs))))
  | .od t kds => Q (.dic t kds) (ρ.set i (some (.fz (.dic t kds))))
section
variable {K : PySem.W.Frag} {G : Gc} {H0 F0 F H : Hp} {σ : St} {ρ : En}
/-- an object that is no slot's own is kept for good -/
theorem Ev.see (e : Ev K G H0 F0 F H σ ρ) {a : Addr} {o : HO} (h : H a = some o) (n : ¬ G.R a) (ns : ∀ (j : Nat) (sw : SV), ρ[j]? = some (some sw) → isOwn sw = true → σ[j]? ≠ some (some (.ref a))) : Ev K G H0 F0 (upd F a o) H σ ρ ∧ Same F (upd F a o) := by
  obtain ⟨e1, s⟩ := e.r.see h n
  exact ⟨⟨e1, e.f0.trans s, e.fr, fun i sv b q ho hb => by
    obtain ⟨q1, q2⟩ := e.own i sv b q ho hb
    have ne : b ≠ a := by rintro rfl; exact ns i sv q ho hb
    exact ⟨by rw [upd_ne ne]; exact q1, q2⟩, e.apart⟩, s⟩
theorem Ev.ne (e : Ev K G H0 F0 F H σ ρ) {a : Addr} (h : H a = none) : ∀ (j : Nat) (sw : SV), ρ[j]? = some (some sw) → isOwn sw = true → σ[j]? ≠ some (some (.ref a)) := fun j sw q ho z => by
  obtain ⟨o, q1, _, _⟩ := e.r.ownAt q ho z
  rw [h] at q1; cases q1
/-- a slot's own object is kept for good -/
theorem Ev.frzS (e : Ev K G H0 F0 F H σ ρ) {i : Nat} {sw : SV} {a : Addr} {o : HO} (q : ρ[i]? = some (some sw)) (ow : isOwn sw = true) (ha : σ[i]? = some (some (.ref a))) (h : H a = some o) (r : Rp K (upd F a o) (.ref a) (asD sw)) (n : ¬ G.R a) :
    Ev K G H0 F0 (upd F a o) H σ (ρ.set i (some (.fz (asD sw)))) ∧ Same F (upd F a o) := by
  obtain ⟨e1, s⟩ := e.r.see h n
  have hi : i < ρ.length := (List.getElem?_eq_some_iff.mp q).1
  have hs : σ.set i (some (.ref a)) = σ := by
    apply List.ext_getElem?
    intro j
    by_cases hj : i = j
    · subst hj; rw [List.getElem?_set_self (by rw [e.len]; exact hi), ha]
    · rw [List.getElem?_set_ne hj]
  refine ⟨⟨⟨e1.sub, e1.res, e1.wd, fun j sv z => ?_, by rw [List.length_set]; exact e1.len⟩, e.f0.trans s, e.fr, fun j sv b z ho hb => ?_, fun j k sv sw b ne z1 o1 z2 o2 b1 b2 => ?_⟩, s⟩
  · rcases set_get z with ⟨rfl, zz⟩ | ⟨ne, z⟩
    · cases zz; exact ⟨_, ha, r⟩
    · exact e1.slot j sv z
  · rcases set_get z with ⟨rfl, zz⟩ | ⟨ne, z⟩
    · cases zz; cases ho
    · obtain ⟨q1, q2⟩ := e.own j sv b z ho hb
      have nb : b ≠ a := by rintro rfl; exact e.apart i j _ sv _ ne q ow z ho ha hb
      exact ⟨by rw [upd_ne nb]; exact q1, q2⟩
  · rcases set_get z1 with ⟨rfl, zz⟩ | ⟨n1, z1⟩
    · cases zz; cases o1
    · rcases set_get z2 with ⟨rfl, zz⟩ | ⟨n2, z2⟩
      · cases zz; cases o2
      · exact e.apart j k sv sw b ne z1 o1 z2 o2 b1 b2
/-- a slot's own list is kept for good -/
theorem Ev.frz (e : Ev K G H0 F0 F H σ ρ) {i : Nat} {xs : List D} {a : Addr} {vs : List V} (q : ρ[i]? = some (some (.ow xs))) (ha : σ[i]? = some (some (.ref a))) (h : H a = some (.lst vs)) (r : RpL K F vs xs) (n : ¬ G.R a) :
    Ev K G H0 F0 (upd F a (.lst vs)) H σ (ρ.set i (some (.fz (.lst xs)))) ∧ Same F (upd F a (.lst vs)) :=
  e.frzS (sw := .ow xs) q rfl ha h (.lst upd_same (r.mono (e.r.see h n).2)) n
theorem frzAll_own {ρ : En} {j : Nat} {sw : SV} (h : (frzAll ρ)[j]? = some (some sw)) : isOwn sw = false := by
  rcases frzAll_get h with ⟨xs, rfl, _, _⟩ | ⟨h, _⟩
  · rfl
  · exact h
end
section
variable {S : Sta} {e a b : Expr} {es : List Expr} {pos p : Pos} {wo : WO} {w : W} {wv wv2 : WV}
theorem dv_do (h : DO S e wo) : DV S e (wvO wo) := fun X f => (h X f).imp fun σ H Q ⟨G, H0, F0, F, ρ, Qd, ev, hw, hq⟩ => ⟨G, F, ρ, _, ev.r, hw, fun v H' F' sv s e' fr r q => by
  cases sv with
  | fz d =>
    dsimp only at q
    by_cases hi : imm d = true
    · rw [if_pos hi] at q
      exact hq v H' _ d ρ (ev.goT s e' fr) tupOf_same (Rp.tupOf s r hi) q
    · rw [if_neg hi] at q
      exact hq v H' _ d _ (ev.goA s e' fr) (s.trans ownOf_same) (r.mono ownOf_same) q
  | ow xs =>
    obtain ⟨a, vs, rfl, h1, h2, h3, h4, h5⟩ := r
    dsimp only at q
    by_cases hi : immL xs = true
    · rw [if_pos hi] at q
      obtain ⟨ev2, s2⟩ := (ev.goT s e' fr).see h1 h3 (ev.ne h4)
      exact hq _ H' _ _ ρ ev2 (tupOf_same.trans s2) (.lst upd_same ((RpL.tupOf s h2 hi).mono s2)) q
    · rw [if_neg hi] at q
      obtain ⟨ev2, s2⟩ := (ev.goA s e' fr).see h1 h3 fun j sw z ho => by rw [frzAll_own z] at ho; cases ho
      exact hq _ H' _ _ _ ev2 ((s.trans ownOf_same).trans s2) (.lst upd_same ((h2.mono ownOf_same).mono s2)) q
  | od t kds =>
    obtain ⟨a, vs, rfl, h1, h0, h2, h3, h4, h5⟩ := r
    dsimp only at q
    by_cases hi : immL (kds.map (·.2)) = true
    · rw [if_pos hi] at q
      obtain ⟨ev2, s2⟩ := (ev.goT s e' fr).see h1 h3 (ev.ne h4)
      exact hq _ H' _ _ ρ ev2 (tupOf_same.trans s2) (.dic upd_same (RpK.join h0 ((RpL.tupOf s h2 hi).mono s2))) q
    · rw [if_neg hi] at q
      obtain ⟨ev2, s2⟩ := (ev.goA s e' fr).see h1 h3 fun j sw z ho => by rw [frzAll_own z] at ho; cases ho
      exact hq _ H' _ _ _ ev2 ((s.trans ownOf_same).trans s2) (.dic upd_same (RpK.join h0 ((h2.mono ownOf_same).mono s2))) q⟩
theorem visOf {X : Cx} (f : Fam S X) {x : Str} (hv : (S.names.lookup x == some .local || S.names.lookup x == some .cell || S.names.lookup x == some .free) = true) : Vis X.env.scope x := by
  unfold Vis
  rw [f.look]
  rcases Bool.or_eq_true_iff.mp hv with h | h
  · rcases Bool.or_eq_true_iff.mp h with h | h
    · exact .inl (beq_iff_eq.mp h)
    · exact .inr (.inl (beq_iff_eq.mp h))
  · exact .inr (.inr (beq_iff_eq.mp h))
theorem pvN {X : Cx} (f : Fam S X) {i : Nat} {x : Str} (hN : (S.N[i]? == some x) = true) (hv : (S.names.lookup x == some .local || S.names.lookup x == some .cell || S.names.lookup x == some .free) = true)
    (hd : (x == ("__debug__" : Str)) = false) (hcd : (x == ("__classdict__" : Str)) = false) : PE X (.Name x p) (tVar i) := pe_var (by rw [f.N]; exact beq_iff_eq.mp hN) (visOf f hv) hd hcd
theorem dv_var {i : Nat} {x : Str} (hN : (S.N[i]? == some x) = true := by kernel_rfl) (hv : (S.names.lookup x == some .local || S.names.lookup x == some .cell || S.names.lookup x == some .free) = true := by kernel_rfl)
    (hd : (x == ("__debug__" : Str)) = false := by kernel_rfl) (hcd : (x == ("__classdict__" : Str)) = false := by kernel_rfl) : DV S (.Name x p) (wvVar i) := fun X f => (pvN f hN hv hd hcd).imp fun σ H Q ⟨G, H0, F0, F, ρ, Qd, ev, ⟨sv, q, hw⟩, hq⟩ => by
  obtain ⟨v, h1, h2⟩ := ev.r.slot i sv q
  refine ⟨v, h1, ?_⟩
  cases sv with
  | fz d => exact hq v H F d ρ ev (Same.refl _) h2 hw
  | ow xs =>
    obtain ⟨a, vs, rfl, z1, z2, z3⟩ := h2
    obtain ⟨ev2, s2⟩ := ev.frz q h1 z1 z2 z3
    exact hq _ H _ _ _ ev2 s2 (.lst upd_same (z2.mono s2)) hw
  | od t kds =>
    obtain ⟨a, vs, rfl, z1, z0, z2, z3⟩ := h2
    obtain ⟨ev2, s2⟩ := ev.frzS (sw := .od t kds) q rfl h1 z1 (.dic upd_same (RpK.join z0 (z2.mono (ev.r.see z1 z3).2))) z3
    exact hq _ H _ _ _ ev2 s2 (.dic upd_same (RpK.join z0 (z2.mono s2))) hw
end

/-! ### stores into what is ours -/
section
variable {K : PySem.W.Frag} {G : Gc} {H0 F0 F H : Hp} {σ : St} {ρ : En}
/-- a slot's own list is changed -/
theorem Ev.chg (e : Ev K G H0 F0 F H σ ρ) {i : Nat} {xs ys : List D} {a : Addr} {us : List V} (q : ρ[i]? = some (some (.ow xs))) (ha : σ[i]? = some (some (.ref a))) (r : RpL K F us ys) (n : ¬ G.R a) :
    Ev K G H0 F0 F (upd H a (.lst us)) σ (ρ.set i (some (.ow ys))) := by
  have hi : i < ρ.length := (List.getElem?_eq_some_iff.mp q).1
  obtain ⟨nF, n0⟩ := e.own i _ a q rfl ha
  have hx : ExtK H (upd H a (.lst us)) := by
    obtain ⟨v, h1, h2⟩ := e.r.slot i _ q
    rw [ha] at h1; cases h1
    obtain ⟨b, vs, eb, h3, _⟩ := h2
    cases eb
    exact extK_at h3 fun φ z => nomatch z
  have fr : ∀ b o, H b = some o → b ≠ a → (upd H a (.lst us)) b = some o := fun b o h ne => by rw [upd_ne ne]; exact h
  refine ⟨⟨fun b o h => fr b o (e.r.sub _ _ h) (by rintro rfl; rw [nF] at h; cases h), e.r.res, G.st _ _ e.r.wd (fun b rb => upd_ne (by rintro rfl; exact n rb)) hx, fun j sv z => ?_, by rw [List.length_set]; exact e.len⟩, e.f0, fun b o h nb => fr b o (e.fr b o h nb) (by rintro rfl; rw [n0] at h; cases h), fun j sv b z ho hb => ?_, fun j k sv sw b ne z1 o1 z2 o2 b1 b2 => ?_⟩
  · rcases set_get z with ⟨rfl, zz⟩ | ⟨ne, z⟩
    · cases zz; exact ⟨_, ha, a, us, rfl, upd_same, r, n⟩
    · obtain ⟨v, h1, h2⟩ := e.r.slot j sv z
      refine ⟨v, h1, ?_⟩
      cases sv with
      | fz d => exact h2
      | ow zs =>
        obtain ⟨b, vs, rfl, z1, z2, z3⟩ := h2
        exact ⟨b, vs, rfl, fr b _ z1 (by rintro rfl; exact e.apart i j _ _ _ ne q rfl z rfl ha h1), z2, z3⟩
      | od t kds =>
        obtain ⟨b, vs, rfl, z1, z0, z2, z3⟩ := h2
        exact ⟨b, vs, rfl, fr b _ z1 (by rintro rfl; exact e.apart i j _ _ _ ne q rfl z rfl ha h1), z0, z2, z3⟩
  · rcases set_get z with ⟨rfl, zz⟩ | ⟨ne, z⟩
    · cases zz
      rw [ha] at hb
      cases hb
      exact ⟨nF, n0⟩
    · exact e.own j sv b z ho hb
  · have back : ∀ {j sv}, (ρ.set i (some (.ow ys)))[j]? = some (some sv) → isOwn sv = true → ∃ sv', ρ[j]? = some (some sv') ∧ isOwn sv' = true := fun {j sv} z ho => by
      rcases set_get z with ⟨rfl, z⟩ | ⟨ne, z⟩
      · exact ⟨_, q, rfl⟩
      · exact ⟨_, z, ho⟩
    obtain ⟨sv', z1', o1'⟩ := back z1 o1
    obtain ⟨sw', z2', o2'⟩ := back z2 o2
    exact e.apart j k sv' sw' b ne z1' o1' z2' o2' b1 b2
end
def wApp (i : Nat) (wv : WV) : WS := fun G E ρ => (∃ xs, ρ[i]? = some (some (.ow xs))) ∧ wv G ρ fun d ρ' => ∃ xs, ρ'[i]? = some (some (.ow xs)) ∧ xs.length < sizeLine ∧ E.nx (ρ'.set i (some (.ow (xs ++ [d]))))
def wExt (i : Nat) (wv : WV) : WS := fun G E ρ => (∃ xs, ρ[i]? = some (some (.ow xs))) ∧ wv G ρ fun d ρ' => ∃ xs ys, ρ'[i]? = some (some (.ow xs)) ∧ d = .lst ys ∧ xs.length + ys.length ≤ sizeLine ∧ E.nx (ρ'.set i (some (.ow (xs ++ ys))))
def wStoreIx (i : Nat) (wk : W) (wv : WV) : WS := fun G E ρ => wv G ρ fun d ρ' => (∃ xs, ρ'[i]? = some (some (.ow xs))) ∧ wk G ρ' fun kd => ∃ k j xs, kd = .int k ∧ ρ'[i]? = some (some (.ow xs)) ∧ ixN xs.length k = some j ∧ E.nx (ρ'.set i (some (.ow (xs.set j d))))
def wRemove (i : Nat) (wk : W) : WS := fun G E ρ => (∃ xs, ρ[i]? = some (some (.ow xs))) ∧ wk G ρ fun kd => ∃ (k : Int) (ns : List Int), kd = .int k ∧ ρ[i]? = some (some (.ow (ns.map D.int))) ∧ k ∈ ns ∧ E.nx (ρ.set i (some (.ow ((ns.erase k).map D.int))))
def wvPopAt (i : Nat) (wk : W) : WV := fun G ρ Q => (∃ xs, ρ[i]? = some (some (.ow xs))) ∧ wk G ρ fun kd => ∃ k j xs d, kd = .int k ∧ ρ[i]? = some (some (.ow xs)) ∧ -(2 ^ 63) ≤ k ∧ k < 2 ^ 63 ∧ seqIndex? k xs.length = some j ∧ xs[j]? = some d ∧ Q d (ρ.set i (some (.ow (xs.eraseIdx j))))
def wvPop (i : Nat) : WV := fun G ρ Q => ∃ xs d, ρ[i]? = some (some (.ow xs)) ∧ xs[xs.length - 1]? = some d ∧ Q d (ρ.set i (some (.ow xs.dropLast)))
def wSetG (i : Nat) (wv : WV) : WS := fun G E ρ => wv G ρ fun d ρ' => i < ρ'.length ∧ E.nx (ρ'.set i (some (.fz d)))
/-- any target -/
def wSetT (wg : WG) (wv : WV) : WS := fun G E ρ => wv G ρ fun d ρ' => wg d ρ' E.nx
section
variable {S : Sta} {e a b k : Expr} {es : List Expr} {pos spos p apos cpos : Pos} {wo : WO} {w wk : W} {wv wv2 : WV} {i : Nat} {x : Str}
theorem ownList {K : PySem.W.Frag} {G : Gc} {H0 F0 F H : Hp} {σ : St} {ρ : En} (ev : Ev K G H0 F0 F H σ ρ) {xs : List D} (q : ρ[i]? = some (some (.ow xs))) : ∃ a vs, σ[i]? = some (some (.ref a)) ∧ H a = some (.lst vs) ∧ RpL K F vs xs ∧ ¬ G.R a := by
  obtain ⟨v, h1, a, vs, rfl, h2, h3, h4⟩ := ev.r.slot i _ q
  exact ⟨a, vs, h1, h2, h3, h4⟩
theorem ds_app (hv : DV S e wv) (hN : (S.N[i]? == some x) = true := by kernel_rfl) (hx : (S.names.lookup x == some .local || S.names.lookup x == some .cell || S.names.lookup x == some .free) = true := by kernel_rfl) (hd : (x == ("__debug__" : Str)) = false := by kernel_rfl) (hcd : (x == ("__classdict__" : Str)) = false := by kernel_rfl)
    (hbase : ∀ env, attributeBase (.Name x p) "append" env (eval (.Name x p) env) = eval (.Name x p) env := by intro _; rfl)
    (hfew : ∀ env, ((backTo cpos (starEach [e] env)).all (fun x => !x.1) && (backToKw cpos (keywordEach [] env)).all (fun x => x.1.isSome) && decide ([e].length + ([] : List Keyword).length + (if ([] : List Keyword).isEmpty then 0 else 1) < 30)) = true := by intro _; rfl)
    (hline : (apos.endLine == cpos.line) = true := by kernel_rfl) (hs : ∀ env, starEach [e] env = (false, eval e env) :: starEach [] env := by intro _; rfl)
    (hsw : ∀ env, swapsWith (.Call (.Attribute (.Name x p) "append" apos) [e] [] cpos) none spos.line env = pure false := by intro _; rfl) :
    DS S (.Expr (.Call (.Attribute (.Name x p) "append" apos) [e] [] cpos) spos) (wApp i wv) := fun X f => by
  have pa := pa_cons (hv X f) pa_nil (hs _)
  refine (ps_expr (pe_bm PySem.F.plainAttrs_list PySem.F.slot_list_append PySem.F.type_list_append mt_append (pvN f hN hx hd hcd) pa (hbase _) (hfew _) hline (hs _) rfl) (hsw _)).imp fun D σ H ⟨G, H0, F0, F, ρ, E, ev, ⟨⟨xs0, q0⟩, hw⟩, g⟩ => ?_
  obtain ⟨a, vs0, h1, h2, _, _⟩ := ownList ev q0
  refine ⟨.ref a, h1, .inl ⟨rfl, _, .inl (.inl h2)⟩, G, H0, F0, F, ρ, _, ev, hw, fun v H' F' d ρ' ev' s r ⟨xs, q, hz, z⟩ => ?_⟩
  obtain ⟨a', vs, h1', h3, h4, h5⟩ := ownList ev' q
  rw [h1] at h1'
  cases h1'
  exact ⟨a, vs, v, rfl, rfl, h3, by rw [h4.len]; exact hz, g.nx _ _ F' _ (ev'.chg q h1 (h4.append (.cons r .nil)) h5) s z⟩
theorem ds_ext (hv : DV S e wv) (hN : (S.N[i]? == some x) = true := by kernel_rfl) (hx : (S.names.lookup x == some .local || S.names.lookup x == some .cell || S.names.lookup x == some .free) = true := by kernel_rfl) (hd : (x == ("__debug__" : Str)) = false := by kernel_rfl) (hcd : (x == ("__classdict__" : Str)) = false := by kernel_rfl)
    (hbase : ∀ env, attributeBase (.Name x p) "extend" env (eval (.Name x p) env) = eval (.Name x p) env := by intro _; rfl)
    (hfew : ∀ env, ((backTo cpos (starEach [e] env)).all (fun x => !x.1) && (backToKw cpos (keywordEach [] env)).all (fun x => x.1.isSome) && decide ([e].length + ([] : List Keyword).length + (if ([] : List Keyword).isEmpty then 0 else 1) < 30)) = true := by intro _; rfl)
    (hline : (apos.endLine == cpos.line) = true := by kernel_rfl) (hs : ∀ env, starEach [e] env = (false, eval e env) :: starEach [] env := by intro _; rfl)
    (hsw : ∀ env, swapsWith (.Call (.Attribute (.Name x p) "extend" apos) [e] [] cpos) none spos.line env = pure false := by intro _; rfl) :
    DS S (.Expr (.Call (.Attribute (.Name x p) "extend" apos) [e] [] cpos) spos) (wExt i wv) := fun X f => by
  have pa := pa_cons (hv X f) pa_nil (hs _)
  refine (ps_expr (pe_bm PySem.F.plainAttrs_list PySem.F.slot_list_extend PySem.F.type_list_extend mt_extend (pvN f hN hx hd hcd) pa (hbase _) (hfew _) hline (hs _) rfl) (hsw _)).imp fun D σ H ⟨G, H0, F0, F, ρ, E, ev, ⟨⟨xs0, q0⟩, hw⟩, g⟩ => ?_
  obtain ⟨a, vs0, h1, h2, _, _⟩ := ownList ev q0
  refine ⟨.ref a, h1, .inl ⟨rfl, _, .inl (.inl h2)⟩, G, H0, F0, F, ρ, _, ev, hw, fun v H' F' d ρ' ev' s r ⟨xs, ys, q, ed, hz, z⟩ => ?_⟩
  obtain ⟨a', vs, h1', h3, h4, h5⟩ := ownList ev' q
  rw [h1] at h1'
  cases h1'
  subst ed
  cases r with
  | lst hb rb => exact ⟨a, _, vs, _, rfl, rfl, h3, ev'.r.sub _ _ hb, by rw [h4.len, rb.len]; exact hz, g.nx _ _ F' _ (ev'.chg q h1 (h4.append rb) h5) s z⟩
theorem dv_popAt (hk : DE S k wk) (hN : (S.N[i]? == some x) = true := by kernel_rfl) (hx : (S.names.lookup x == some .local || S.names.lookup x == some .cell || S.names.lookup x == some .free) = true := by kernel_rfl) (hd : (x == ("__debug__" : Str)) = false := by kernel_rfl) (hcd : (x == ("__classdict__" : Str)) = false := by kernel_rfl)
    (hbase : ∀ env, attributeBase (.Name x p) "pop" env (eval (.Name x p) env) = eval (.Name x p) env := by intro _; rfl)
    (hfew : ∀ env, ((backTo cpos (starEach [k] env)).all (fun x => !x.1) && (backToKw cpos (keywordEach [] env)).all (fun x => x.1.isSome) && decide ([k].length + ([] : List Keyword).length + (if ([] : List Keyword).isEmpty then 0 else 1) < 30)) = true := by intro _; rfl)
    (hline : (apos.endLine == cpos.line) = true := by kernel_rfl) (hs : ∀ env, starEach [k] env = (false, eval k env) :: starEach [] env := by intro _; rfl) :
    DV S (.Call (.Attribute (.Name x p) "pop" apos) [k] [] cpos) (wvPopAt i wk) := fun X f => by
  have pa := pa_cons (hk X f) pa_nil (hs _)
  refine (pe_bm PySem.F.plainAttrs_list PySem.F.slot_list_pop PySem.F.type_list_pop mt_popAt (pvN f hN hx hd hcd) pa (hbase _) (hfew _) hline (hs _) rfl).imp fun σ H Q ⟨G, H0, F0, F, ρ, Qd, ev, ⟨⟨xs0, q0⟩, hw⟩, hq⟩ => ?_
  obtain ⟨a, vs0, h1, h2, _, _⟩ := ownList ev q0
  refine ⟨.ref a, h1, .inl ⟨rfl, _, .inl (.inl h2)⟩, G, F, ρ, _, ev.r, hw, fun v H' F' kd s e' fr r ⟨kk, j, xs, d, ek, q, b1, b2, hj, hd, z⟩ => ?_⟩
  have ev' := ev.go s e' fr
  obtain ⟨a', vs, h1', h3, h4, h5⟩ := ownList ev' q
  rw [h1] at h1'
  cases h1'
  subst ek
  cases r
  obtain ⟨y, hy, ry⟩ := h4.get hd
  exact ⟨a, vs, kk, j, y, rfl, rfl, h3, b1, b2, by rw [h4.len]; exact hj, hy, hq _ _ F d _ (ev'.chg q h1 (h4.eraseIdx j) h5) (Same.refl _) ry z⟩
theorem dv_pop (hN : (S.N[i]? == some x) = true := by kernel_rfl) (hx : (S.names.lookup x == some .local || S.names.lookup x == some .cell || S.names.lookup x == some .free) = true := by kernel_rfl) (hd : (x == ("__debug__" : Str)) = false := by kernel_rfl) (hcd : (x == ("__classdict__" : Str)) = false := by kernel_rfl)
    (hbase : ∀ env, attributeBase (.Name x p) "pop" env (eval (.Name x p) env) = eval (.Name x p) env := by intro _; rfl) (hline : (apos.endLine == cpos.line) = true := by kernel_rfl) :
    DV S (.Call (.Attribute (.Name x p) "pop" apos) [] [] cpos) (wvPop i) := fun X f => by
  refine (pe_bm0 PySem.F.plainAttrs_list PySem.F.slot_list_pop PySem.F.type_list_pop mt_pop (pvN f hN hx hd hcd) (hbase _) hline).imp fun σ H Q ⟨G, H0, F0, F, ρ, Qd, ev, ⟨xs, d, q, hd, z⟩, hq⟩ => ?_
  obtain ⟨a, vs, h1, h2, h4, h5⟩ := ownList ev q
  obtain ⟨y, hy, ry⟩ := h4.get hd
  exact ⟨.ref a, h1, .inl ⟨rfl, _, .inl (.inl h2)⟩, a, vs, y, rfl, rfl, h2, by rw [h4.len]; exact hy, hq _ _ F d _ (ev.chg q h1 h4.dropLast h5) (Same.refl _) ry z⟩
theorem ds_storeIx {tpos : Pos} (hv : DV S e wv) (hk : DE S k wk) (hN : (S.N[i]? == some x) = true := by kernel_rfl) (hx : (S.names.lookup x == some .local || S.names.lookup x == some .cell || S.names.lookup x == some .free) = true := by kernel_rfl) (hd : (x == ("__debug__" : Str)) = false := by kernel_rfl) (hcd : (x == ("__classdict__" : Str)) = false := by kernel_rfl)
    (ha : ∀ env v, assign (.Subscript (.Name x p) k tpos) env v = (do
      let ov ← holding [v] (eval (.Name x p) env)
      let iv ← holding [v, ov] (eval k env)
      standAt tpos
      holding [v, ov, iv] (setItem ov iv v)
      release [v, ov, iv] []) := by intro _ _; rfl)
    (hs : ∀ env, swapsWithSole [.Subscript (.Name x p) k tpos] e pos.line env = pure false := by intro _; rfl) (hw : ∀ env, swappedStores [.Subscript (.Name x p) k tpos] e env = pure none := by intro _; rfl) (h1 : ∀ env, (assignEach [.Subscript (.Name x p) k tpos] env).map (·.2) = [assign (.Subscript (.Name x p) k tpos) env] := by intro _; rfl) :
    DS S (.Assign [.Subscript (.Name x p) k tpos] e pos) (wStoreIx i wk wv) := fun X f => by
  refine (ps_asg (hv X f) (pg_sub (pvN f hN hx hd hcd) (hk X f) set_list (ha _)) (hs _) (hw _) (h1 _)).imp fun D σ H ⟨G, H0, F0, F, ρ, E, ev, hw, g⟩ => ?_
  refine ⟨G, H0, F0, F, ρ, _, ev, hw, fun v H1 F1 d ρ1 ev1 s1 r1 ⟨⟨xs0, q0⟩, hw2⟩ => ?_⟩
  obtain ⟨a, vs0, hu, h2, _, _⟩ := ownList ev1 q0
  refine ⟨.ref a, hu, G, F1, ρ1, _, ev1.r, hw2, fun kv H2 F2 kd s2 e2 fr2 rk ⟨kk, j, xs, ek, q, hj, z⟩ => ?_⟩
  have ev2 := ev1.go s2 e2 fr2
  obtain ⟨a', vs, h1', h3, h4, h5⟩ := ownList ev2 q
  rw [hu] at h1'
  cases h1'
  subst ek
  cases rk
  exact ⟨a, vs, kk, j, rfl, rfl, h3, by rw [h4.len]; exact hj, g.nx _ _ F1 _ (ev2.chg q hu (h4.set r1 j) h5) s1 z⟩
end
end DL
set_option maxHeartbeats 4000000
namespace DL
open PySem PySem.Spec PyProof.Rows L2

/-! ### stores of names, once more -/
section
variable {S : Sta} {e a b c : Expr} {es : List Expr} {pos p : Pos} {wo wo1 wo2 wo3 : WO} {wv : WV} {i j l : Nat} {x y z : Str}
theorem ds_setG (hv : DV S e wv) (nd : S.N.Nodup) (hN : (S.N[i]? == some x) = true := by kernel_rfl) (hl : (S.names.lookup x == some .local || (S.names.lookup x == some .cell && S.fc x)) = true := by kernel_rfl)
    (hs : ∀ env, swapsWith e (some (.Name x p)) pos.line env = pure false := by intro _; rfl) : DS S (.Assign [.Name x p] e pos) (wSetG i wv) := fun X f => by
  obtain ⟨h1, h2⟩ := locOf f hl
  refine (ps_set (i := i) (by rw [f.N]; exact nd) (by rw [f.N]; exact beq_iff_eq.mp hN) h1 (hv X f) (hs _) h2).imp fun D σ H ⟨G, H0, F0, F, ρ, E, ev, hw, g⟩ => ?_
  exact ⟨G, H0, F0, F, ρ, _, ev, hw, fun v H' F' d ρ' ev' s r ⟨hi, q⟩ => g.nx _ H' F' _ (ev'.set (sv := .fz d) hi r fun h => by cases h) s q⟩
theorem Ev.setP {K : PySem.W.Frag} {G : Gc} {H0 F0 F H : Hp} {is : List Nat} : ∀ i v d σ ρ, i ∈ is → Ev K G H0 F0 F H σ ρ → i < ρ.length → Rp K F v d → Ev K G H0 F0 F H (σ.set i (some v)) (ρ.set i (some (.fz d))) :=
  fun i v d σ ρ _ ev hi r => ev.set (sv := .fz d) hi r fun h => by cases h
theorem ds_asgT {tg : Expr} {is : List Nat} {wg : WG} (hv : DV S e wv) (hg : DG S tg is wg) (hs : ∀ env, swapsWithSole [tg] e pos.line env = pure false := by intro _; rfl) (hw : ∀ env, swappedStores [tg] e env = pure none := by intro _; rfl)
    (h1 : ∀ env, (assignEach [tg] env).map (·.2) = [assign tg env] := by intro _; rfl) : DS S (.Assign [tg] e pos) (wSetT wg wv) := fun X f => by
  obtain ⟨g0, pg, ok⟩ := hg
  refine (ps_asg (hv X f) (pg X f) (hs _) (hw _) (h1 _)).imp fun D σ H ⟨G, H0, F0, F, ρ, E, ev, hw, g⟩ => ?_
  exact ⟨G, H0, F0, F, ρ, _, ev, hw, fun v H' F' d ρ' ev' s r q => ok (fun σ ρ => Ev S.K G H0 F0 F' H' σ ρ) F' H' σ ρ' v d _ _ Ev.setP ev'.r.sub ev' r q fun σ2 ρ2 p2 q2 => g.nx σ2 H' F' ρ2 p2 s q2⟩
/-- two values side by side -/
def put2 (ρ : En) (i : Nat) (sv : SV) (j : Nat) (sw : SV) : En := match immS sv && immS sw with
  | true => (ρ.set i (some sv)).set j (some sw)
  | false => ((frzAll ρ).set i (some sv)).set j (some sw)
theorem rpo_keep {K : PySem.W.Frag} {G : Gc} {F1 F2 H H1 H2 : Hp} {v : V} {sv : SV} (h : RpO K G F1 H H1 v sv) (s : Same F1 F2) (fr : Fr G H1 H2) (nF : isOwn sv = true → ∀ a, v = .ref a → F2 a = none) : RpO K G F2 H H2 v sv := by
  cases sv with
  | fz d => exact Rp.mono s h
  | ow xs =>
    obtain ⟨a, vs, rfl, h1, h2, h3, h4, h5⟩ := h
    exact ⟨a, vs, rfl, fr _ _ h1 h3, h2.mono s, h3, h4, nF rfl a rfl⟩
  | od t kds =>
    obtain ⟨a, vs, rfl, h1, h0, h2, h3, h4, h5⟩ := h
    exact ⟨a, vs, rfl, fr _ _ h1 h3, h0, h2.mono s, h3, h4, nF rfl a rfl⟩
/-- what a value just made pins -/
def pinO (G : Gc) (H : Hp) (v : V) (sv : SV) : Gc := match isOwn sv, v with
  | true, .ref a => match H a with
    | some o => G.more a o
    | none => G
  | _, _ => G
theorem rpo_ref {K : PySem.W.Frag} {G : Gc} {F1 H H1 : Hp} {v : V} {sv : SV} (h : RpO K G F1 H H1 v sv) (ho : isOwn sv = true) : ∃ a o, v = .ref a ∧ H1 a = some o ∧ ¬ G.R a ∧ H a = none ∧ F1 a = none := by
  cases sv with
  | fz d => cases ho
  | ow xs => obtain ⟨a, vs, rfl, h1, h2, h3, h4, h5⟩ := h; exact ⟨a, _, rfl, h1, h3, h4, h5⟩
  | od t kds => obtain ⟨a, vs, rfl, h1, h0, h2, h3, h4, h5⟩ := h; exact ⟨a, _, rfl, h1, h3, h4, h5⟩
theorem rpo_mut {K : PySem.W.Frag} {G : Gc} {F1 H H1 : Hp} {a : Addr} {o : HO} {sv : SV} (h : RpO K G F1 H H1 (.ref a) sv) (ho : isOwn sv = true) (e : H1 a = some o) : isMutO o = true := by
  cases sv with
  | fz d => cases ho
  | ow xs => obtain ⟨b, vs, eb, h1, _⟩ := h; cases eb; rw [e] at h1; cases h1; rfl
  | od t kds => obtain ⟨b, vs, eb, h1, _⟩ := h; cases eb; rw [e] at h1; cases h1; exact isMutO_od t vs
theorem pin_ext {K : PySem.W.Frag} {G : Gc} {F1 H H1 : Hp} {v : V} {sv : SV} (h : RpO K G F1 H H1 v sv) : GExt G (pinO G H1 v sv) := by
  unfold pinO
  cases ho : isOwn sv with
  | false => exact GExt.refl G
  | true =>
    obtain ⟨a, o, rfl, h1, h2, _, _⟩ := rpo_ref h ho
    dsimp only
    rw [h1]
    exact G.more_ext a o h2
theorem pin_evr {K : PySem.W.Frag} {G : Gc} {F1 H H1 : Hp} {v : V} {sv : SV} {σ : St} {ρ : En} (h : RpO K G F1 H H1 v sv) (e0 : ∀ (j : Nat) (sw : SV), ρ[j]? = some (some sw) → isOwn sw = true → ∀ a, H a = none → σ[j]? ≠ some (some (.ref a))) (e : EvR K G F1 H1 σ ρ) : EvR K (pinO G H1 v sv) F1 H1 σ ρ := by
  unfold pinO
  cases ho : isOwn sv with
  | false => exact e
  | true =>
    obtain ⟨a, o, rfl, h1, h2, h3, h4⟩ := rpo_ref h ho
    dsimp only
    rw [h1]
    exact evr_more e h1 (rpo_mut h ho h1) h4 fun j sw q ho => e0 j sw q ho a h3
theorem pin_less {K : PySem.W.Frag} {G : Gc} {F1 F2 H H1 H2 : Hp} {v : V} {sv : SV} {σ : St} {ρ : En} (h : RpO K G F1 H H1 v sv) (e : EvR K (pinO G H1 v sv) F2 H2 σ ρ) (fr : Fr (pinO G H1 v sv) H1 H2) : EvR K G F2 H2 σ ρ ∧ Fr G H1 H2 ∧ (isOwn sv = true → ∀ a, v = .ref a → F2 a = none) := by
  unfold pinO at e fr
  cases ho : isOwn sv with
  | false => rw [ho] at e fr; exact ⟨e, fr, fun z => by cases z⟩
  | true =>
    obtain ⟨a, o, rfl, h1, h2, h3, h4⟩ := rpo_ref h ho
    rw [ho] at e fr
    dsimp only at e fr
    rw [h1] at e fr
    refine ⟨evr_less e, fun b u hb nb => ?_, fun _ b eb => by cases eb; exact e.res a (.inr rfl)⟩
    by_cases hba : b = a
    · subst hba; rw [h1] at hb; cases hb; exact e.wd.2.1
    · exact fr b u hb fun r => r.elim nb hba
theorem rpo_unpin {K : PySem.W.Frag} {G G' : Gc} {F2 H2 H3 : Hp} {u : V} {sw : SV} (hx : GExt G G') (h : RpO K G' F2 H2 H3 u sw) : RpO K G F2 H2 H3 u sw := by
  cases sw with
  | fz d => exact h
  | ow xs =>
    obtain ⟨a, vs, rfl, h1, h2, h3, h4, h5⟩ := h
    exact ⟨a, vs, rfl, h1, h2, fun r => h3 (hx.R a r), h4, h5⟩
  | od t kds =>
    obtain ⟨a, vs, rfl, h1, h0, h2, h3, h4, h5⟩ := h
    exact ⟨a, vs, rfl, h1, h0, h2, fun r => h3 (hx.R a r), h4, h5⟩
def wPar2 (i j : Nat) (w1 w2 : WO) : WS := fun G E ρ => i < ρ.length ∧ j < ρ.length ∧ w1 G ρ fun sv => ∀ G', GExt G G' → w2 G' ρ fun sw => E.nx (put2 ρ i sv j sw)
theorem rps_of {K : PySem.W.Frag} {G : Gc} {F H H' : Hp} {v : V} {sv : SV} (h : RpO K G F H H' v sv) : RpS K G F H' v sv := by
  cases sv with
  | fz d => exact h
  | ow xs => obtain ⟨a, vs, rfl, h1, h2, h3, _⟩ := h; exact ⟨a, vs, rfl, h1, h2, h3⟩
  | od t kds => obtain ⟨a, vs, rfl, h1, h0, h2, h3, _⟩ := h; exact ⟨a, vs, rfl, h1, h0, h2, h3⟩
/-- what stands for good behind new values: F2 -/
theorem rpo_base {K : PySem.W.Frag} {G : Gc} {F F' H H' : Hp} {v : V} {sv : SV} (h : RpO K G F' H H' v sv) (s : Same F F') (hm : immS sv = true) : RpO K G (tupOf F F') H H' v sv := by
  cases sv with
  | fz d => exact Rp.tupOf s h hm
  | ow xs => obtain ⟨a, vs, rfl, h1, h2, h3, h4, h5⟩ := h; exact ⟨a, vs, rfl, h1, RpL.tupOf s h2 hm, h3, h4, tupOf_none h5 s⟩
  | od t kds => obtain ⟨a, vs, rfl, h1, h0, h2, h3, h4, h5⟩ := h; exact ⟨a, vs, rfl, h1, h0, RpL.tupOf s h2 hm, h3, h4, tupOf_none h5 s⟩
theorem rpo_baseA {K : PySem.W.Frag} {G : Gc} {H0 F0 F F' H H' : Hp} {v : V} {sv : SV} {σ : St} {ρ : En} (ev : Ev K G H0 F0 F H σ ρ) (h : RpO K G F' H H' v sv) : RpO K G (ownOf F' H' σ ρ) H H' v sv := by
  refine rpo_keep h ownOf_same Fr.refl fun ho a ea => ?_
  obtain ⟨b, o, eb, _, _, h3, h4⟩ := rpo_ref h ho
  rw [ea] at eb
  cases eb
  exact ownOf_none h4 fun j sw q ho z => ev.ne h3 j sw q ho z
theorem Ev.put2 {K : PySem.W.Frag} {G : Gc} {H0 F0 F F' H H' : Hp} {σ : St} {ρ : En} (e : Ev K G H0 F0 F H σ ρ) (s : Same F F') (e' : EvR K G F' H' σ ρ) (fr : Fr G H H') {i j : Nat} {v u : V} {sv sw : SV} (hi : i < ρ.length) (hj : j < ρ.length) (hij : i ≠ j)
    (h1 : RpO K G F' H H' v sv) (h2 : RpO K G F' H H' u sw) (hne : isOwn sv = true → isOwn sw = true → v ≠ u) : ∃ F2, Ev K G H0 F0 F2 H' ((σ.set i (some v)).set j (some u)) (DL.put2 ρ i sv j sw) ∧ Same F F2 := by
  have go : ∀ (F2 : Hp) (ρ2 : En), ρ2.length = ρ.length → Ev K G H0 F0 F2 H' σ ρ2 → RpO K G F2 H H' v sv → RpO K G F2 H H' u sw → (∀ (k : Nat) (sx : SV), ρ2[k]? = some (some sx) → isOwn sx = true → ∀ a, H a = none → σ[k]? ≠ some (some (.ref a))) → Ev K G H0 F0 F2 H' ((σ.set i (some v)).set j (some u)) ((ρ2.set i (some sv)).set j (some sw)) := fun F2 ρ2 hl ev r1 r2 ns => by
    have ev1 : Ev K G H0 F0 F2 H' (σ.set i (some v)) (ρ2.set i (some sv)) := ev.set (by rw [hl]; exact hi) (rps_of r1) fun ho a ea => by
      obtain ⟨b, o, eb, _, q2, q3, q4⟩ := rpo_ref r1 ho
      rw [ea] at eb; cases eb
      exact ⟨q4, e.fr.free q2 q3, fun k sx _ q ho => ns k sx q ho a q3⟩
    refine ev1.set (by rw [List.length_set, hl]; exact hj) (rps_of r2) fun ho a ea => ?_
    obtain ⟨b, o, eb, _, q2, q3, q4⟩ := rpo_ref r2 ho
    rw [ea] at eb; cases eb
    refine ⟨q4, e.fr.free q2 q3, fun k sx nk q hok z => ?_⟩
    rcases set_get q with ⟨rfl, zz⟩ | ⟨ne, q⟩
    · cases zz
      rw [List.getElem?_set_self (by rw [e.len]; exact hi)] at z
      cases z
      exact hne hok ho ea.symm
    · rw [List.getElem?_set_ne ne] at z
      exact ns k sx q hok a q3 z
  unfold DL.put2
  cases hm : (immS sv && immS sw) with
  | true =>
    obtain ⟨m1, m2⟩ := Bool.and_eq_true_iff.mp hm
    exact ⟨tupOf F F', go _ ρ rfl (e.goT s e' fr) (rpo_base h1 s m1) (rpo_base h2 s m2) fun k sx q ho a ha => e.ne ha k sx q ho, tupOf_same⟩
  | false =>
    exact ⟨ownOf F' H' σ ρ, go _ (frzAll ρ) (by unfold frzAll; rw [List.length_map]) (e.goA s e' fr) (rpo_baseA e h1) (rpo_baseA e h2) (fun k sx q ho => by rw [frzAll_own q] at ho; cases ho), s.trans ownOf_same⟩
theorem swap2 {a b : Expr} {x y : Str} {px py pt pt2 : Pos} {kt k2 : Nat} (hne : (x == y) = false) (hl : (py.line == px.line) = true) (sa : (match a with | .Starred .. => true | _ => false) = false) (sb : (match b with | .Starred .. => true | _ => false) = false)
    (hf : (foldedForSure 8 a && foldedForSure 8 b) = false) (hc : (constantsAlone 8 a && constantsAlone 8 b) = false) (env : Env) (hk : env.scope.kind = .function) (hx : env.scope.names.lookup x = some .local) (hy : env.scope.names.lookup y = some .local) :
    swappedStores [.Tuple [.Name x px, .Name y py] kt pt] (.Tuple [a, b] k2 pt2) env = pure (some [x, y]) := by
  have hb : env.blockKind = .function := by unfold Env.blockKind; rw [hk]; rfl
  have kx : env.kindOf x = some .local := hx
  have ky : env.kindOf y = some .local := hy
  have hne' : (y == x) = false := by
    cases h : y == x with
    | false => rfl
    | true => rw [beq_iff_eq.mp h] at hne; simp at hne
  unfold swappedStores
  simp only [hb, kx, ky, List.length_cons, List.length_nil, List.any_cons, List.any_nil, sa, sb, List.filterMap_cons, List.filterMap_nil, Expr.pos, List.head?_cons, Option.map_some, Option.getD_some, hl, List.all_cons, List.all_nil, Bool.and_true, hf, hc, beq_self_eq_true, Bool.and_self, if_true, List.eraseDups_cons, hne, hne']
  simp [hne, hne']
  rw [if_neg, if_pos (by simp [List.eraseDups_cons])]
  rintro (h | h)
  · cases a <;> first | exact Bool.noConfusion h | exact Bool.noConfusion sa
  · cases b <;> first | exact Bool.noConfusion h | exact Bool.noConfusion sb
theorem ds_par2 {px py pt : Pos} {kt k2 pt2} (h1 : DO S a wo1) (h2 : DO S b wo2) (nd : S.N.Nodup) (hi : (S.N[i]? == some x) = true := by kernel_rfl) (hj : (S.N[j]? == some y) = true := by kernel_rfl) (hij : (i == j) = false := by kernel_rfl)
    (hx : (S.names.lookup x == some .local) = true := by kernel_rfl) (hy : (S.names.lookup y == some .local) = true := by kernel_rfl)
    (hs : ∀ env, starEach (a :: [b]) env = (false, eval a env) :: starEach [b] env := by intro _; rfl) (hs2 : ∀ env, starEach (b :: []) env = (false, eval b env) :: starEach [] env := by intro _; rfl)
    (hw : ∀ env : Env, env.scope.kind = .function → env.scope.names.lookup x = some .local → env.scope.names.lookup y = some .local → swappedStores [.Tuple [.Name x px, .Name y py] kt pt] (.Tuple [a, b] k2 pt2) env = pure (some [x, y]))
    (hsw : ∀ env, swapsWithSole [.Tuple [.Name x px, .Name y py] kt pt] (.Tuple [a, b] k2 pt2) pos.line env = pure false := by intro _; rfl) :
    DS S (.Assign [.Tuple [.Name x px, .Name y py] kt pt] (.Tuple [a, b] k2 pt2) pos) (wPar2 i j wo1 wo2) := fun X f => by
  have lx : X.env.scope.names.lookup x = some .local := by rw [f.look]; exact beq_iff_eq.mp hx
  have ly : X.env.scope.names.lookup y = some .local := by rw [f.look]; exact beq_iff_eq.mp hy
  have nij : i ≠ j := fun z => by subst z; simp at hij
  refine (ps_par (i := i) (j := j) f.calm (by rw [f.N]; exact nd) (by rw [f.N]; exact beq_iff_eq.mp hi) (by rw [f.N]; exact beq_iff_eq.mp hj) nij lx ly (pa_cons (h1 X f) (pa_cons (h2 X f) pa_nil (hs2 _)) (hs _)) (hw _ f.kind lx ly) (hsw _)).imp fun D σ H ⟨G, H0, F0, F, ρ, E, ev, ⟨li, lj, hw⟩, g⟩ => ?_
  refine ⟨G, F, ρ, _, ev.r, hw, fun v H1 F1 sv s1 e1 f1 r1 q1 => ?_⟩
  have ns : ∀ (k : Nat) (sx : SV), ρ[k]? = some (some sx) → isOwn sx = true → ∀ a, H a = none → σ[k]? ≠ some (some (.ref a)) := fun k sx q ho a ha => ev.ne ha k sx q ho
  refine ⟨pinO G H1 v sv, F1, ρ, _, pin_evr r1 ns e1, q1 _ (pin_ext r1), fun u H2 F2 sw s2 e2 f2 r2 q2 => ?_⟩
  obtain ⟨e2', f2', nF⟩ := pin_less r1 e2 f2
  have r2' : RpO S.K G F2 H1 H2 u sw := rpo_unpin (pin_ext r1) r2
  obtain ⟨F3, ev3, s3⟩ := ev.put2 (s1.trans s2) e2' (f1.trans f2') li lj nij (rpo_keep r1 s2 f2' nF) (r2'.back f1) (fun o1 o2 z => by
    obtain ⟨b1, o1', eb1, q1, _, _, _⟩ := rpo_ref r1 o1
    obtain ⟨b2, o2', eb2, _, _, q3, _⟩ := rpo_ref r2' o2
    rw [z, eb2] at eb1
    cases eb1
    rw [q1] at q3; cases q3)
  exact ⟨v, u, rfl, g.nx _ H2 F3 _ ev3 s3 q2⟩
end
end DL
set_option maxHeartbeats 4000000
namespace DL
open PySem PySem.Spec PyProof.Rows L2

/-! ### loops -/
abbrev WIS := Gc → En → (List D → En → Prop) → Prop
def tGI (K : PySem.W.Frag) (w : WIS) : TI := fun σ H R => ∃ G H0 F0 F ρ Qd, Ev K G H0 F0 F H σ ρ ∧ w G ρ Qd ∧ ∀ J H' F' ds ρ', Ev K G H0 F0 F' H' σ ρ' → Same F F' → ItOk K J F' ds → Qd ds ρ' → R J H'
def DJ (S : Sta) (tg e : Expr) (w : WIS) : Prop := ∀ X, Fam S X → PI X tg e (tGI S.K w)
def wjSeq (w : WV) : WIS := fun G ρ Q => w G ρ fun d ρ' => ∃ ds, itemsOf d = some ds ∧ Q ds ρ'
def wjRange1 (r : WA) : WIS := fun G ρ Q => r G ρ fun ds => ∃ j : Int, ds = [.int j] ∧ -(2 ^ 62) ≤ j ∧ j < 2 ^ 62 ∧ Q (rangeD 0 j.toNat) ρ
def wjRange2 (r : WA) : WIS := fun G ρ Q => r G ρ fun ds => ∃ i j : Int, ds = [.int i, .int j] ∧ (-(2 ^ 62) ≤ i ∧ i < 2 ^ 62 ∧ -(2 ^ 62) ≤ j ∧ j < 2 ^ 62) ∧ Q (rangeD i (j - i).toNat) ρ
def wjZip (w1 w2 : WV) : WIS := fun G ρ Q => w1 G ρ fun x ρ1 => w2 G ρ1 fun y ρ2 => ∃ xs ys, ((tupsOf x = some xs ∧ tupsOf y = some ys) ∨ (x = .lst xs ∧ y = .lst ys)) ∧ Q (zipD xs ys) ρ2
def wjEnum (w : WV) : WIS := fun G ρ Q => w G ρ fun d ρ' => ∃ xs, d = .lst xs ∧ Q (enumD 0 xs) ρ'
section
variable {S : Sta} {tg e a b : Expr} {es : List Expr} {p pos tpos : Pos} {w w1 w2 : WV} {r : WA} {kk : Nat}
theorem dj_seq (h : DV S e w) : DJ S tg e (wjSeq w) := fun X f => (pi_seq (h X f)).imp fun σ H R ⟨G, H0, F0, F, ρ, Qd, ev, hw, hq⟩ =>
  ⟨G, H0, F0, F, ρ, _, ev, hw, fun v H1 F1 d ρ1 ev1 s1 r1 ⟨ds, ed, q1⟩ => by
    rw [f.K]
    obtain ⟨a, vs, rfl, h, r⟩ := rp_items r1 ed
    rcases h with ⟨_, h⟩ | ⟨_, h⟩
    · exact ⟨a, rfl, .inl ⟨⟨vs, SqL.of (ev1.r.sub _ _ h)⟩, hq _ H1 F1 ds ρ1 ev1 s1 (itok_list h r) q1⟩⟩
    · exact ⟨a, rfl, .inr ⟨⟨vs, Same.sqt ev1.r.sub h⟩, hq _ H1 F1 ds ρ1 ev1 s1 (itok_tup h r) q1⟩⟩⟩
theorem dj_range1 (hm : S.mg "range" = none) (h : DA S [a] r) (hg : (S.names.lookup ("range" : Str) == some .globalImplicit) = true := by kernel_rfl) (hs : ∀ env, starEach [a] env = [(false, eval a env)] := by intro _; rfl) : DJ S tg (.Call (.Name "range" p) [a] [] pos) (wjRange1 r) := fun X f =>
  (pi_range1 (glOf f hg) (by rw [f.mg]; exact hm) (h X f) (hs _)).imp fun σ H R ⟨G, H0, F0, F, ρ, Qd, ev, hw, hq⟩ =>
  ⟨G, F, ρ, _, ev.r, hw, fun vs H1 F1 ds s1 e1 f1 r1 ⟨j, ed, z1, z2, q1⟩ => by
    subst ed
    cases r1 with
    | cons rv rr => cases rr; cases rv; exact ⟨j, rfl, z1, z2, hq _ H1 F _ ρ (ev.go s1 e1 f1) (Same.refl _) (itok_range _ _) q1⟩⟩
theorem dj_range2 (hm : S.mg "range" = none) (h : DA S [a, b] r) (hg : (S.names.lookup ("range" : Str) == some .globalImplicit) = true := by kernel_rfl) (hs : ∀ env, starEach [a, b] env = [(false, eval a env), (false, eval b env)] := by intro _; rfl) (hs2 : ∀ env, starEach [b] env = [(false, eval b env)] := by intro _; rfl) :
    DJ S tg (.Call (.Name "range" p) [a, b] [] pos) (wjRange2 r) := fun X f =>
  (pi_range2 (glOf f hg) (by rw [f.mg]; exact hm) (h X f) (hs _) (hs2 _)).imp fun σ H R ⟨G, H0, F0, F, ρ, Qd, ev, hw, hq⟩ =>
  ⟨G, F, ρ, _, ev.r, hw, fun vs H1 F1 ds s1 e1 f1 r1 ⟨i, j, ed, z, q1⟩ => by
    subst ed
    cases r1 with
    | cons rv rr =>
      cases rr with
      | cons rv2 rr => cases rr; cases rv; cases rv2; exact ⟨i, j, rfl, z, hq _ H1 F _ ρ (ev.go s1 e1 f1) (Same.refl _) (itok_range _ _) q1⟩⟩
theorem dj_zip (hm : S.mg "zip" = none) (h1 : DV S a w1) (h2 : DV S b w2) (hg : (S.names.lookup ("zip" : Str) == some .globalImplicit) = true := by kernel_rfl) (hs : ∀ env, starEach [a, b] env = (false, eval a env) :: starEach [b] env := by intro _; rfl) (hs2 : ∀ env, starEach [b] env = (false, eval b env) :: starEach [] env := by intro _; rfl) (hpl : ∀ env, (backTo pos (starEach [b] env)).any (·.1) = false := by intro _; rfl) :
    DJ S (.Tuple es kk tpos) (.Call (.Name "zip" p) [a, b] [] pos) (wjZip w1 w2) := fun X f =>
  (RZ.pi_zipA (glOf f hg) (by rw [f.mg]; exact hm) (pa_cons (h1 X f) (pa_cons (h2 X f) pa_nil (hs2 _)) (hs _)) (hs _) (hpl _)).imp fun σ H R ⟨G, H0, F0, F, ρ, Qd, ev, hw, hq⟩ =>
  ⟨G, H0, F0, F, ρ, _, ev, hw, fun v H1 F1 x ρ1 ev1 s1 r1 q1 => ⟨G, H0, F0, F1, ρ1, _, ev1, q1, fun u H2 F2 y ρ2 ev2 s2 r2 ⟨xs, ys, z, q2⟩ => by
    rw [f.K]
    have r1' := r1.mono s2
    rcases z with ⟨z1, z2⟩ | ⟨rfl, rfl⟩
    · obtain ⟨a, vs, rfl, h1, r1⟩ := rp_tups r1' z1
      obtain ⟨b, us, rfl, h2, r2⟩ := rp_tups r2 z2
      exact ⟨_, _, _, _, rfl, .inr ⟨Same.sqt ev2.r.sub h1, Same.sqt ev2.r.sub h2, hq _ H2 F2 _ ρ2 ev2 (s1.trans s2) (itok_zipT h1 r1 h2 r2) q2⟩⟩
    · cases r1' with
      | lst h1 r1 => cases r2 with
        | lst h2 r2 => exact ⟨_, _, _, _, rfl, .inl ⟨SqL.of (ev2.r.sub _ _ h1), SqL.of (ev2.r.sub _ _ h2), hq _ H2 F2 _ ρ2 ev2 (s1.trans s2) (itok_zipL h1 r1 h2 r2) q2⟩⟩⟩⟩
theorem dj_enum (hm : S.mg "enumerate" = none) (h : DV S a w) (hg : (S.names.lookup ("enumerate" : Str) == some .globalImplicit) = true := by kernel_rfl) (hs : ∀ env, starEach [a] env = [(false, eval a env)] := by intro _; rfl) (hs2 : ∀ env, starEach [a] env = (false, eval a env) :: starEach [] env := by intro _; rfl) :
    DJ S (.Tuple es kk tpos) (.Call (.Name "enumerate" p) [a] [] pos) (wjEnum w) := fun X f =>
  (pi_enum (glOf f hg) (by rw [f.mg]; exact hm) (pa_cons (h X f) pa_nil (hs2 _)) (hs _)).imp fun σ H R ⟨G, H0, F0, F, ρ, Qd, ev, hw, hq⟩ =>
  ⟨G, H0, F0, F, ρ, _, ev, hw, fun v H1 F1 d ρ1 ev1 s1 r1 ⟨xs, ed, q1⟩ => by
    subst ed
    rw [f.K]
    cases r1 with
    | lst h1 r1 => exact ⟨_, _, rfl, SqL.of (ev1.r.sub _ _ h1), hq _ H1 F1 _ ρ1 ev1 s1 (itok_enum h1 r1) q1⟩⟩
end
def wForL (wg : WG) (wb : WS) (G : Gc) (E : EndsD) : List D → En → Prop
  | [], ρ => E.nx ρ
  | d :: r, ρ => wg d ρ fun ρ2 => wb G { nx := wForL wg wb G E r, rt := E.rt, bk := E.nx, ct := wForL wg wb G E r } ρ2
def wFor (wi : WIS) (wg : WG) (wb : WS) : WS := fun G E ρ => wi G ρ fun ds ρ' => wForL wg wb G E ds ρ'
def wWhileN (t : WT) (b : WS) (G : Gc) (E : EndsD) : Nat → En → Prop
  | 0, _ => False
  | n + 1, ρ => t G ρ fun k => if k = true then b G { nx := wWhileN t b G E n, rt := E.rt, bk := E.nx, ct := wWhileN t b G E n } ρ else E.nx ρ
def wWhile (t : WT) (b : WS) : WS := fun G E ρ => ∃ n, wWhileN t b G E n ρ
section
variable {K : PySem.W.Frag} {G : Gc} {H0 F0 F H : Hp} {σ : St} {ρ : En}
theorem Ev.live (e : Ev K G H0 F0 F H σ ρ) {p : Addr} {o : HO} (h : H p = none) : Ev K G H0 F0 (upd F p o) (upd H p o) σ ρ := by
  have nF := none_sub e.r.sub h
  refine ⟨e.r.live h, e.f0.trans (same_upd nF), e.fr.trans (Fr.upd h), fun i sv a q ho ha => ?_, e.apart⟩
  obtain ⟨q1, q2⟩ := e.own i sv a q ho ha
  have ne : a ≠ p := by rintro rfl; exact e.ne h i sv q ho ha
  exact ⟨by rw [upd_ne ne]; exact q1, q2⟩
end
section
variable {S : Sta} {tg iter c : Expr} {body : List Stmt} {pos : Pos} {wi : WIS} {wg : WG} {wb : WS} {is : List Nat} {t : WT}
theorem ds_for (hi : DJ S tg iter wi) (hg : DG S tg is wg) (hb : DSs S body wb) (hs : ∀ env x, foldedSetIterable iter env x = pure x := by intro _ _; rfl) : DS S (.For tg iter body [] pos) (wFor wi wg wb) := fun X f => by
  obtain ⟨g0, pg, ok⟩ := hg
  refine (ps_for f.po f.calm (hi X f) (pg X f) (hb X f) (hs _)).imp fun D σ H ⟨G, H0, F0, F, ρ, E, ev, hw, g⟩ => ?_
  refine ⟨G, H0, F0, F, ρ, _, ev, hw, fun J H1 F1 ds ρ1 ev1 s1 it q1 => ?_⟩
  let I : Nat → St → Hp → Prop := fun i σ H2 => ∃ F2 ρ2, Same F1 F2 ∧ Ev S.K G H0 F0 F2 H2 σ ρ2 ∧ wForL wg wb G E (ds.drop i) ρ2
  refine ⟨fun i m σ H2 => m = ds.length - i ∧ i ≤ ds.length ∧ I i σ H2, ⟨ds.length, by omega, Nat.zero_le _, F1, ρ1, Same.refl _, ev1, q1⟩, ?_⟩
  rintro i m σ2 H2 ⟨rfl, hi, F2, ρ2, s2, ev2, hwl⟩
  by_cases hlt : i < ds.length
  · obtain ⟨hgo, hy⟩ := it.go i H2 F2 s2 ev2.r.sub hlt
    refine .inr ⟨hgo, I (i + 1), fun σ' H' h => ⟨ds.length - (i + 1), by omega, rfl, hlt, h⟩, fun x H3 y => ?_⟩
    obtain ⟨d, hd, hx⟩ := hy x H3 y
    rw [List.drop_eq_getElem_cons hlt] at hwl
    rw [List.getElem?_eq_getElem hlt] at hd
    cases hd
    obtain ⟨F3, s3, ev3, rx⟩ : ∃ F3, Same F2 F3 ∧ Ev S.K G H0 F0 F3 H3 σ2 ρ2 ∧ Rp S.K F3 x ds[i] := by
      rcases hx with ⟨rfl, rx⟩ | ⟨T, o, nT, rfl, rx⟩
      · exact ⟨F2, Same.refl _, ev2, rx⟩
      · exact ⟨upd F2 T o, same_upd (none_sub ev2.r.sub nT), ev2.live nT, rx⟩
    refine ok (fun σ ρ => Ev S.K G H0 F0 F3 H3 σ ρ) F3 H3 σ2 ρ2 x ds[i] _ _ Ev.setP ev3.r.sub ev3 rx hwl fun σ4 ρ4 ev4 q4 => ?_
    refine ⟨G, H0, F0, F3, ρ4, _, ev4, q4, ⟨fun σ' H' F' ρ' e' s' q => ?_, fun σ' H' F' ρ' e' s' q => ?_, fun σ' H' F' ρ' e' s' q => ?_, g.rt⟩⟩
    · exact ⟨F', ρ', s2.trans (s3.trans s'), e', q⟩
    · exact g.nx σ' H' F' ρ' e' (s1.trans (s2.trans (s3.trans s'))) q
    · exact ⟨F', ρ', s2.trans (s3.trans s'), e', q⟩
  · have ei : i = ds.length := by omega
    subst ei
    rw [List.drop_length] at hwl
    exact .inl ⟨it.stop H2 F2 s2 ev2.r.sub, g.nx σ2 H2 F2 ρ2 ev2 (s1.trans s2) hwl⟩
theorem ds_while (hc : DT S c t) (hb : DSs S body wb) : DS S (.While c body [] pos) (wWhile t wb) := fun X f => by
  refine (ps_while f.po (hc X f) (hb X f)).imp fun D σ H ⟨G, H0, F0, F, ρ, E, ev, ⟨n, hw⟩, g⟩ => ?_
  refine ⟨fun m σ H2 => ∃ F2 ρ2, Same F F2 ∧ Ev S.K G H0 F0 F2 H2 σ ρ2 ∧ wWhileN t wb G E m ρ2, ⟨n, F, ρ, Same.refl _, ev, hw⟩, ?_⟩
  rintro m σ2 H2 ⟨F2, ρ2, s2, ev2, hwl⟩
  cases m with
  | zero => exact hwl.elim
  | succ m =>
    refine ⟨G, F2, ρ2, _, ev2.r, hwl, fun k H3 F3 s3 e3 f3 q3 => ?_⟩
    have ev3 := ev2.go s3 e3 f3
    cases k with
    | false =>
      rw [if_neg Bool.false_ne_true] at q3
      exact iteF (g.nx σ2 H3 F2 ρ2 ev3 s2 q3)
    | true =>
      rw [if_pos rfl] at q3
      refine iteT ⟨fun σ H => ∃ F' ρ', Same F F' ∧ Ev S.K G H0 F0 F' H σ ρ' ∧ wWhileN t wb G E m ρ', fun σ' H' h => ⟨m, Nat.lt_succ_self m, h⟩, G, H0, F0, F2, ρ2, _, ev3, q3, ⟨fun σ' H' F' ρ' e' s' q => ?_, fun σ' H' F' ρ' e' s' q => ?_, fun σ' H' F' ρ' e' s' q => ?_, g.rt⟩⟩
      · exact ⟨F', ρ', s2.trans s', e', q⟩
      · exact g.nx σ' H' F' ρ' e' (s2.trans s') q
      · exact ⟨F', ρ', s2.trans s', e', q⟩
end
end DL
set_option maxHeartbeats 4000000
namespace DL
open PySem PySem.Spec PyProof.Rows L2

/-! ### sorted(xs): a list's or a tuple's items, as data -/
section
open PySem.W PySem.Calls
variable {prog : Program} {w : World} {A : Around} {E : Value → Shared → Prop} {s : Shared}
theorem sorted_seq {β : Type} {bs : List β} {enc : β → PyData} {R : Value → β → Prop} {T : String} {it : Addr} {ob : Obj} {items : Array Value} {n : Nat} {Q : Value → Shared → Prop} (hT : T = "list" ∨ T = "tuple")
    (ho : s.heap.get? it = some ob) (hc : ob.cls = .type T) (hd : ob.data = .seq items n) (e : EachIs R items.toList bs) (er : EachIs (fun v b => ∃ as, Reads s.heap v (enc b) as) items.toList bs)
    (hal : AllAlike (bs.map enc)) (hk : Sortable (bs.map enc)) (hL : bs.length ≤ sizeLine) (hu : ∀ b, b ∈ bs → A.units + 2 + (enc b).depth < cLine)
    (h : ∀ (h1 h' : Heap) (p : Addr) (out : List Value) (c : Nat), (∀ b o, s.heap.get? b = some o → h1.get? b = some o) → (∀ b o, h1.get? b = some o → h'.get? b = some o) → h1.objs.size ≤ p → h'.get? p = some (seqObj "list" out.toArray c) → out.length = bs.length → EachIs R out (bs.mergeSort (dataLe false enc)) → Q (.ref p) { s with heap := h' }) :
    wpAny (model prog w) A (call (.builtin "sorted") [.ref it]) Q E s := by
  have hsz : items.size ≤ sizeLine := by rw [← Array.length_toList, e.length]; exact hL
  refine call_function_entry kind_sorted plain_sorted entry_sorted (args_sorted1 _) ?_
  unfold Builtin.«sorted»
  refine wpAny_bind (m := checkCount "sorted" 1 1 _) (wpAny_pure ?_)
  refine wpAny_bind (wpAny_collect_seq it hT ho hc hd (fun h1 k1 => ?_) hsz)
  refine wpAny_bind (wpAny_newList ?_ (by rw [e.length]; exact hL))
  have hp : (h1.push (seqObj "list" items.toList.toArray 0)).get? h1.objs.size = some (seqObj "list" items.toList.toArray 0) := Heap.get?_push_size _ rfl
  have kp : ∀ b o, s.heap.get? b = some o → (h1.push (seqObj "list" items.toList.toArray 0)).get? b = some o := fun b o q => Heap.get?_push_of_some _ (k1 b o q)
  have out1 : ∀ v d as, Reads s.heap v d as → h1.objs.size ∉ as := fun v d as r hm => by
    obtain ⟨o, q⟩ := PyProof.On.reads_mem_get r _ hm
    exact Nat.lt_irrefl _ (Heap.lt_size (k1 _ _ q))
  show wpAny _ _ _ _ _ { s with heap := h1.push (seqObj "list" items.toList.toArray 0) }
  refine wpAny_bind (wpAny_holding (list_sort_data (s := { s with heap := h1.push (seqObj "list" items.toList.toArray 0) }) (R := R) (bs := bs) (enc := enc) hp e (er.mono fun v b ⟨as, r⟩ => ⟨as, Reads.keeps kp r, out1 _ _ _ r⟩) hal hk hL (fun b hb => hu b hb) fun out hl hs => ?_))
  obtain ⟨c, hc'⟩ := sortedHeap_at (vs := items.toList) (out := out.toArray) hp
  refine wpAny_pure ⟨_, rfl, h h1 _ _ out c k1 (fun b o q => ?_) (Nat.le_refl _) hc' hl hs⟩
  exact sortedHeap_old (Nat.ne_of_lt (Heap.lt_size q)) (Heap.lt_size (Heap.get?_push_of_some _ q)) ▸ Heap.get?_push_of_some _ q
end

/-! ### built-in functions, over data -/
def rD (K : PySem.W.Frag) (o : List D → (SV → Prop) → Prop) : List V → Hp → VK → Prop := fun vs H Q => ∃ G F σ ρ ds Qd, EvR K G F H σ ρ ∧ RpL K F vs ds ∧ o ds Qd ∧
  ∀ v H' F' sv, Same F F' → EvR K G F' H' σ ρ → Fr G H H' → RpO K G F' H H' v sv → Qd sv → Q v H'
def CD (S : Sta) (f : Value) (o : List D → (SV → Prop) → Prop) : Prop := ∀ X, Fam S X → CallR X f (rD S.K o)
theorem _root_.L2.CallR.imp {X : Cx} {f : Value} {r r' : List V → Hp → VK → Prop} (h : CallR X f r) (i : ∀ vs H Q, r' vs H Q → r vs H Q) : CallR X f r' := fun pins s σ H xs us Q I rv q => h pins s σ H xs us Q I rv (i xs H Q q)
section
variable {K : PySem.W.Frag} {G : Gc} {F H : Hp} {σ : St} {ρ : En}
theorem EvR.newL (e : EvR K G F H σ ρ) {p : Addr} {vs : List V} {ds : List D} (h : H p = none) (r : RpL K F vs ds) {Q : V → Hp → Prop} {Qd : SV → Prop} (q : Qd (.ow ds)) (hq : ∀ v H' F' sv, Same F F' → EvR K G F' H' σ ρ → Fr G H H' → RpO K G F' H H' v sv → Qd sv → Q v H') : Q (.ref p) (upd H p (.lst vs)) :=
  hq _ _ F (.ow ds) (Same.refl _) (e.liveO h) (Fr.upd h) ⟨p, vs, rfl, upd_same, r, e.nr h, h, e.fnone h⟩ q
theorem EvR.newT (e : EvR K G F H σ ρ) {p : Addr} {vs : List V} {ds : List D} (h : H p = none) (r : RpL K F vs ds) {Q : V → Hp → Prop} {Qd : SV → Prop} (q : Qd (.fz (.tup ds))) (hq : ∀ v H' F' sv, Same F F' → EvR K G F' H' σ ρ → Fr G H H' → RpO K G F' H H' v sv → Qd sv → Q v H') : Q (.ref p) (upd H p (.tup vs)) :=
  hq _ _ _ (.fz (.tup ds)) (same_upd (e.fnone h)) (e.live h) (Fr.upd h) (Rp.tup (SqT.of upd_same) (r.mono (same_upd (e.fnone h)))) q
theorem EvR.giv (e : EvR K G F H σ ρ) {v : V} {d : D} (r : Rp K F v d) {Q : V → Hp → Prop} {Qd : SV → Prop} (q : Qd (.fz d)) (hq : ∀ v H' F' sv, Same F F' → EvR K G F' H' σ ρ → Fr G H H' → RpO K G F' H H' v sv → Qd sv → Q v H') : Q v H :=
  hq _ _ F (.fz d) (Same.refl _) e Fr.refl r q
theorem RpL.one {v : List V} {d : D} (r : RpL K F v [d]) : ∃ u, v = [u] ∧ Rp K F u d := by
  cases r with
  | cons h t => cases t; exact ⟨_, rfl, h⟩
theorem RpL.two {v : List V} {d e : D} (r : RpL K F v [d, e]) : ∃ u w, v = [u, w] ∧ Rp K F u d ∧ Rp K F w e := by
  cases r with
  | cons h t =>
    obtain ⟨w, rfl, h2⟩ := t.one
    exact ⟨_, _, rfl, h, h2⟩
theorem Rp.intI {v : V} {i : Int} (r : Rp K F v (.int i)) : v = .int i := by cases r; rfl
theorem Rp.blI {v : V} {i : Bool} (r : Rp K F v (.bl i)) : v = .bl i := by cases r; rfl
theorem Rp.strI {v : V} {i : Str} (r : Rp K F v (.str i)) : v = .str i := by cases r; rfl
theorem rp_sq {v : V} {d : D} {ds : List D} (s : Same F H) (r : Rp K F v d) (e : itemsOf d = some ds) : ∃ a vs, v = .ref a ∧ (SqL K H a vs ∨ SqT K H a vs) ∧ RpL K F vs ds := by
  obtain ⟨a, vs, rfl, h, r⟩ := rp_items r e
  rcases h with ⟨_, h⟩ | ⟨_, h⟩
  · exact ⟨a, vs, rfl, .inl (SqL.of (s _ _ h)), r⟩
  · exact ⟨a, vs, rfl, .inr (Same.sqt s h), r⟩
end
def oLen : List D → (SV → Prop) → Prop := fun ds Q => ∃ x, ds = [x] ∧ ((∃ xs, itemsOf x = some xs ∧ Q (.fz (.int xs.length))) ∨ ∃ z, x = .str z ∧ z.length ≤ sizeLine ∧ Q (.fz (.int z.length)))
def oList : List D → (SV → Prop) → Prop := fun ds Q => ∃ x xs, ds = [x] ∧ itemsOf x = some xs ∧ Q (.ow xs)
def oTuple : List D → (SV → Prop) → Prop := fun ds Q => ∃ x xs, ds = [x] ∧ itemsOf x = some xs ∧ Q (.fz (.tup xs))
def oInt : List D → (SV → Prop) → Prop := fun ds Q => ∃ i, ds = [.int i] ∧ Q (.fz (.int i))
def oMax : List D → (SV → Prop) → Prop := fun ds Q => ∃ i j : Int, ds = [.int i, .int j] ∧ Q (.fz (.int (if j > i then j else i)))
def oMin : List D → (SV → Prop) → Prop := fun ds Q => ∃ i j : Int, ds = [.int i, .int j] ∧ Q (.fz (.int (if j < i then j else i)))
def oAny : List D → (SV → Prop) → Prop := fun ds Q => ∃ bs : List Bool, ds = [.lst (bs.map .bl)] ∧ Q (.fz (.bl (bs.any id)))
def oAll : List D → (SV → Prop) → Prop := fun ds Q => ∃ bs : List Bool, ds = [.lst (bs.map .bl)] ∧ Q (.fz (.bl (bs.all id)))
def oSum : List D → (SV → Prop) → Prop := fun ds Q => ∃ ns : List Int, ds = [.lst (ns.map .int)] ∧ Q (.fz (.int ns.sum))
def oStrI : List D → (SV → Prop) → Prop := fun ds Q => ∃ i : Int, ds = [.int i] ∧ i.natAbs.log2 < 1920 ∧ Q (.fz (.str (toString i)))
def keyD (d : D) : PyData := (toPy d).getD .none
def oSorted : List D → (SV → Prop) → Prop := fun ds Q => ∃ x xs, ds = [x] ∧ itemsOf x = some xs ∧ (∀ d ∈ xs, (toPy d).isSome = true) ∧ PySem.W.AllAlike (xs.map keyD) ∧ PySem.W.Sortable (xs.map keyD) ∧ (∀ d ∈ xs, (keyD d).depth ≤ 100) ∧
  Q (.ow (xs.mergeSort (PySem.W.dataLe false keyD)))
def oRepr : List D → (SV → Prop) → Prop := fun ds Q => ∃ x p, ds = [x] ∧ toPy x = some p ∧ p.showable = true ∧ p.depth ≤ 60 ∧ p.shown.length ≤ sizeLine ∧ Q (.fz (.str p.shown))
section
variable {S : Sta}
theorem cd_len : CD S (.builtin "len") oLen := fun X f => (call_len_seq.or call_len_str).imp fun vs H Q ⟨G, F, σ, ρ, ds, Qd, ev, rl, ⟨x, e, h⟩, hq⟩ => by
  subst e
  obtain ⟨u, rfl, r⟩ := rl.one
  rcases h with ⟨xs, e2, q⟩ | ⟨z, rfl, hz, q⟩
  · obtain ⟨a, ws, rfl, h, rr⟩ := rp_sq ev.sub r e2
    rw [f.K]
    exact .inl ⟨a, ws, rfl, h, by rw [rr.len]; exact ev.giv (.int _) q hq⟩
  · rw [r.strI]
    exact .inr ⟨z, rfl, hz, ev.giv (.int _) q hq⟩
theorem cd_list : CD S (.type "list") oList := fun X f => call_list_of.imp fun vs H Q ⟨G, F, σ, ρ, ds, Qd, ev, rl, ⟨x, xs, e, e2, q⟩, hq⟩ => by
  subst e
  obtain ⟨u, rfl, r⟩ := rl.one
  obtain ⟨a, ws, rfl, h, rr⟩ := rp_sq ev.sub r e2
  rw [f.K]
  exact ⟨a, ws, rfl, h, fun l hl => ev.newL hl rr q hq⟩
theorem cd_tuple : CD S (.type "tuple") oTuple := fun X f => call_tuple_of.imp fun vs H Q ⟨G, F, σ, ρ, ds, Qd, ev, rl, ⟨x, xs, e, e2, q⟩, hq⟩ => by
  subst e
  obtain ⟨u, rfl, r⟩ := rl.one
  rw [f.K]
  obtain ⟨a, ws, rfl, h, rr⟩ := rp_items r e2
  rcases h with ⟨_, h⟩ | ⟨_, h⟩
  · exact ⟨a, ws, rfl, .inl ⟨SqL.of (ev.sub _ _ h), fun l hl => ev.newT hl rr q hq⟩⟩
  · exact ⟨a, ws, rfl, .inr ⟨Same.sqt ev.sub h, ev.giv (Rp.tup h rr) q hq⟩⟩
theorem cd_int : CD S (.type "int") oInt := fun X f => call_int1.imp fun vs H Q ⟨G, F, σ, ρ, ds, Qd, ev, rl, ⟨i, e, q⟩, hq⟩ => by
  subst e
  obtain ⟨u, rfl, r⟩ := rl.one
  rw [r.intI]
  exact .inl ⟨i, rfl, ev.giv (.int i) q hq⟩
theorem cd_max : CD S (.builtin "max") oMax := fun X f => (call_max2 f.calm).imp fun vs H Q ⟨G, F, σ, ρ, ds, Qd, ev, rl, ⟨i, j, e, q⟩, hq⟩ => by
  subst e
  obtain ⟨u, w, rfl, r1, r2⟩ := rl.two
  rw [r1.intI, r2.intI]
  exact ⟨i, j, rfl, ev.giv (.int _) q hq⟩
theorem cd_min : CD S (.builtin "min") oMin := fun X f => (call_min2 f.calm).imp fun vs H Q ⟨G, F, σ, ρ, ds, Qd, ev, rl, ⟨i, j, e, q⟩, hq⟩ => by
  subst e
  obtain ⟨u, w, rfl, r1, r2⟩ := rl.two
  rw [r1.intI, r2.intI]
  exact ⟨i, j, rfl, ev.giv (.int _) q hq⟩
theorem rp_lstI {K : PySem.W.Frag} {F H : Hp} {v : V} {ds : List D} (s : Same F H) (r : Rp K F v (.lst ds)) : ∃ a vs, v = .ref a ∧ SqL K H a vs ∧ RpL K F vs ds := by
  cases r with
  | lst h r => exact ⟨_, _, rfl, SqL.of (s _ _ h), r⟩
theorem cd_any : CD S (.builtin "any") oAny := fun X f => (cr_any f.calm).imp fun vs H Q ⟨G, F, σ, ρ, ds, Qd, ev, rl, ⟨bs, e, q⟩, hq⟩ => by
  subst e
  obtain ⟨u, rfl, r⟩ := rl.one
  obtain ⟨a, ws, rfl, h, rr⟩ := rp_lstI ev.sub r
  rw [f.K]
  exact ⟨a, bs, rfl, rr.bls ▸ h, ev.giv (.bl _) q hq⟩
theorem cd_all : CD S (.builtin "all") oAll := fun X f => (cr_all f.calm).imp fun vs H Q ⟨G, F, σ, ρ, ds, Qd, ev, rl, ⟨bs, e, q⟩, hq⟩ => by
  subst e
  obtain ⟨u, rfl, r⟩ := rl.one
  obtain ⟨a, ws, rfl, h, rr⟩ := rp_lstI ev.sub r
  rw [f.K]
  exact ⟨a, bs, rfl, rr.bls ▸ h, ev.giv (.bl _) q hq⟩
theorem cd_sum : CD S (.builtin "sum") oSum := fun X f => (cr_sum f.calm).imp fun vs H Q ⟨G, F, σ, ρ, ds, Qd, ev, rl, ⟨bs, e, q⟩, hq⟩ => by
  subst e
  obtain ⟨u, rfl, r⟩ := rl.one
  obtain ⟨a, ws, rfl, h, rr⟩ := rp_lstI ev.sub r
  rw [f.K]
  exact ⟨a, bs, rfl, rr.ints ▸ h, ev.giv (.int _) q hq⟩
theorem cd_str : CD S (.type "str") oStrI := fun X f => call_str_int.imp fun vs H Q ⟨G, F, σ, ρ, ds, Qd, ev, rl, ⟨i, e, hi, q⟩, hq⟩ => by
  subst e
  obtain ⟨u, rfl, r⟩ := rl.one
  rw [r.intI]
  exact ⟨i, rfl, hi, ev.giv (.str _) q hq⟩
open PySem.W in
/-- two lists side by side -/
theorem each_zip {X : Cx} {pins : List (Addr × Obj)} {σ : St} {H F : Hp} {s : Shared} (I : Inv X pins σ H s) (sub : Same F H) : ∀ {vs : List V} {us : List Value} {ds : List D}, Vals vs us → RpL X.K F vs ds → (∀ d ∈ ds, (toPy d).isSome = true) →
    EachIs (fun u (b : V × D) => RelV b.1 u) us (vs.zip ds) ∧ EachIs (fun u (b : V × D) => ∃ as, Reads s.heap u (keyD b.2) as) us (vs.zip ds)
  | _, _, _, .nil, .nil, _ => ⟨.nil, .nil⟩
  | _, _, _, .cons r t, .cons p q, h => by
    obtain ⟨h1, h2⟩ := each_zip I sub t q fun d hd => h d (List.mem_cons_of_mem _ hd)
    have hs := h _ List.mem_cons_self
    refine ⟨.cons r h1, .cons ?_ h2⟩
    obtain ⟨y, hy⟩ := Option.isSome_iff_exists.mp hs
    obtain ⟨as, ra⟩ := Dp.reads I y _ _ (p.dp sub hy) r
    exact ⟨as, by show Reads s.heap _ ((toPy _).getD .none) as; rw [hy]; exact ra⟩
theorem vals_each : ∀ {us : List Value} {bs : List (V × D)}, PySem.W.EachIs (fun u b => RelV b.1 u) us bs → Vals (bs.map (·.1)) us
  | _, _, .nil => .nil
  | _, _, .cons r t => .cons r (vals_each t)
theorem rpl_zip {K : PySem.W.Frag} {F : Hp} : ∀ {vs : List V} {ds : List D}, RpL K F vs ds → ∀ b ∈ vs.zip ds, Rp K F b.1 b.2
  | _, _, .nil, _, h => by simp at h
  | _, _, .cons r t, b, h => by
    rw [List.zip_cons_cons] at h
    rcases List.mem_cons.mp h with e | h
    · rw [e]; exact r
    · exact rpl_zip t b h
theorem rpl_of {K : PySem.W.Frag} {F : Hp} : ∀ (bs : List (V × D)), (∀ b ∈ bs, Rp K F b.1 b.2) → RpL K F (bs.map (·.1)) (bs.map (·.2))
  | [], _ => .nil
  | b :: bs, h => .cons (h _ List.mem_cons_self) (rpl_of bs fun c hc => h c (List.mem_cons_of_mem _ hc))
open PySem.W in
theorem cd_sorted : CD S (.builtin "sorted") oSorted := fun X f => by
  intro pins s σ0 H vs us Q I rv ⟨G, F, σ, ρ, ds, Qd, ev, rl, ⟨x, xs, e, e2, hs, hal, hk, hdp, q⟩, hq⟩
  subst e
  obtain ⟨u, rfl, r⟩ := rl.one
  obtain ⟨a, ws, rfl, h, rr⟩ := rp_sq ev.sub r e2
  rw [← f.K] at h rr
  rw [Vals.ref1 rv]
  obtain ⟨T, hT, its, rv2, ob, ho, hc, n, hd, hz⟩ : ∃ T, (T = "list" ∨ T = "tuple") ∧ ∃ its : List Value, Vals ws its ∧ ∃ ob, s.heap.get? a = some ob ∧ ob.cls = .type T ∧ ∃ n, ob.data = .seq its.toArray n ∧ ws.length ≤ sizeLine := by
    rcases h with h | h
    · obtain ⟨its, rv2, pl, hz⟩ := I.list h
      obtain ⟨o, ho, hc, n, hd⟩ := pl.isList
      exact ⟨_, .inl rfl, its, rv2, o, ho, hc, n, hd, hz⟩
    · obtain ⟨its, rv2, pl, hz⟩ := I.tuple h
      obtain ⟨o, ho, hc, n, hd⟩ := pl
      exact ⟨_, .inr rfl, its, rv2, o, ho, hc, n, hd, hz⟩
  obtain ⟨z1, z2⟩ := each_zip I ev.sub rv2 rr hs
  have em : (ws.zip xs).map (fun b => keyD b.2) = xs.map keyD := by
    rw [show (fun b : V × D => keyD b.2) = keyD ∘ (·.2) from rfl, ← List.map_map, List.map_snd_zip (Nat.le_of_eq rr.len.symm)]
  have hlen : (ws.zip xs).length = ws.length := by rw [List.length_zip, rr.len, Nat.min_self]
  refine sorted_seq (bs := ws.zip xs) (enc := fun b => keyD b.2) (R := fun u b => RelV b.1 u) hT ho hc hd z1 z2 (by rw [em]; exact hal) (by rw [em]; exact hk) (by rw [hlen]; exact hz) (fun b hb => ?_) fun h1 h' p out c k1 k2 hp hg hol hos => ?_
  · have := hdp b.2 (List.of_mem_zip hb).2
    have := f.room.un
    show X.A.units + 2 + (keyD b.2).depth < cLine
    omega
  · have hval := vals_each hos
    have I1 : Inv X pins σ0 H { s with heap := h1 } := I.kept (t' := s.toks) k1
    have hlz : (((ws.zip xs).mergeSort (dataLe false fun b => keyD b.2)).map (·.1)).length ≤ sizeLine := by
      rw [List.length_map, List.length_mergeSort, hlen]; exact hz
    have hn : H p = none := I1.hok.fresh hp
    have I2 : Inv X pins σ0 (upd H p (.lst (((ws.zip xs).mergeSort (dataLe false fun b => keyD b.2)).map (·.1)))) { s with heap := h' } :=
      I1.laid (t' := s.toks) k2 hp (show ObjOk X.prog X.w _ _ _ (.lst _) from ⟨hlz, out, c, hval, hg⟩)
    refine ⟨.ref p, _, I2, rfl, ?_⟩
    refine ev.newL (ds := xs.mergeSort (dataLe false keyD)) hn ?_ q hq
    have e3 : ((ws.zip xs).mergeSort (dataLe false fun b => keyD b.2)).map (·.2) = xs.mergeSort (dataLe false keyD) := by
      rw [List.map_mergeSort (r := dataLe false fun b : V × D => keyD b.2) (s := dataLe false keyD) (f := fun b => b.2) (fun _ _ _ _ => rfl), List.map_snd_zip (Nat.le_of_eq rr.len.symm)]
    rw [← e3, ← f.K]
    refine rpl_of _ fun b hb => rpl_zip rr b ?_
    exact (List.mergeSort_perm _ _).mem_iff.mp hb
end
end DL
set_option maxHeartbeats 4000000
namespace DL
open PySem PySem.Spec PyProof.Rows L2

/-! ### calls of built-ins -/
def woCB (o : List D → (SV → Prop) → Prop) (r : WA) : WO := fun G ρ Q => r G ρ fun ds => o ds Q
theorem cb_imp {K : PySem.W.Frag} {o : List D → (SV → Prop) → Prop} {r : WA} (σ : St) (H : Hp) (Q : VK) : tO K (woCB o r) σ H Q → tCB (rD K o) (tA K r) σ H Q := fun ⟨G, F, ρ, Qd, ev, hw, hq⟩ =>
  ⟨G, F, ρ, _, ev, hw, fun vs H1 F1 ds s1 e1 f1 r1 q1 => ⟨G, F1, σ, ρ, ds, Qd, e1, r1, q1, fun v H' F' sv s2 e2 f2 r2 q2 => hq v H' F' sv (s1.trans s2) e2 (f1.trans f2) (r2.back f1) q2⟩⟩
section
variable {S : Sta} {x : Str} {e : Expr} {es : List Expr} {p pos : Pos} {id T : String} {o : List D → (SV → Prop) → Prop} {r : WA}
theorem do_callB (h : CD S (.builtin id) o) (hm : S.mg x = none) (hv : bootBuiltins x = some (.builtin id)) (ha : DA S (e :: es) r) (hg : (S.names.lookup x == some .globalImplicit) = true := by kernel_rfl) (hn : x ≠ "__name__" := by decide) (hdb : (x == ("__debug__" : Str)) = false := by decide)
    (he : ∀ env, starEach (e :: es) env = (false, eval e env) :: starEach es env := by intro _; rfl) (hpl : ∀ env, (backTo pos (starEach es env)).any (·.1) = false := by intro _; rfl) : DO S (.Call (.Name x p) (e :: es) [] pos) (woCB o r) := fun X f =>
  (pe_callB (h X f) (glOf f hg) (by rw [f.mg]; exact hm) hv (ha X f) hn hdb (he _) (hpl _)).imp fun σ H Q h => cb_imp σ H Q h
theorem do_callTy (h : CD S (.type T) o) (hm : S.mg x = none) (hv : bootBuiltins x = some (.type T)) (ha : DA S (e :: es) r) (hg : (S.names.lookup x == some .globalImplicit) = true := by kernel_rfl) (hn : x ≠ "__name__" := by decide) (hdb : (x == ("__debug__" : Str)) = false := by decide)
    (he : ∀ env, starEach (e :: es) env = (false, eval e env) :: starEach es env := by intro _; rfl) (hpl : ∀ env, (backTo pos (starEach es env)).any (·.1) = false := by intro _; rfl) : DO S (.Call (.Name x p) (e :: es) [] pos) (woCB o r) := fun X f =>
  (pe_callTy (h X f) (glOf f hg) (by rw [f.mg]; exact hm) hv (ha X f) hn hdb (he _) (hpl _)).imp fun σ H Q h => cb_imp σ H Q h
end
/-! ### isinstance -/
def tyD : D → String
  | .non => "NoneType"
  | .bl _ => "bool"
  | .int _ => "int"
  | .str _ => "str"
  | .tup _ => "tuple"
  | .tix _ => "tuple"
  | .tky _ => "tuple"
  | .lst _ => "list"
  | .dic _ _ => "dict"
  | .ob _ => ""
def isD (T : String) (d : D) : Bool := tyD d == T || (tyD d == "bool" && T == "int")
def wIsi (T : String) (w : W) : W := fun G ρ Q => w G ρ fun d => (∀ a, d ≠ .ob a) ∧ Q (.bl (isD T d))
theorem tyx_of {K : PySem.W.Frag} {F H : Hp} {v : V} {d : D} (s : Same F H) (r : Rp K F v d) (n : ∀ a, d ≠ .ob a) : TyX K H v (.type (tyD d)) := by
  cases r with
  | non => exact .base .non
  | bl b => exact .base (.bl b)
  | int i => exact .base (.int i)
  | str x => exact .base (.str x)
  | tup h r =>
    rcases h with (h | ⟨o, h⟩) | ⟨o, us, n, h1, h2, h3, h4⟩
    · exact .base (.tup (s _ _ h))
    · exact .fTuple (s _ _ h)
    · exact .kTuple h1 h2
  | tix h _ r => exact .fTuple (s _ _ h)
  | tky h r => exact .base (.tup (s _ _ h))
  | lst h r => exact .base (.lst (s _ _ h))
  | @dic a t kvs kds h r =>
    cases t with
    | true => exact .base (.dT (s _ _ h))
    | false => exact .base (.dK (s _ _ h))
  | ob a => exact absurd rfl (n a)
theorem kit_one {K : PySem.W.Frag} {T : String} (hT : T ∈ ["int", "bool", "str", "tuple", "list", "dict"]) : ∀ d : D, (∀ a, d ≠ .ob a) → PySem.W.kitOne K (.type (tyD d)) (.type T) = some (isD T d) := by
  have hk : ∀ t ∈ ["NoneType", "bool", "int", "str", "tuple", "list", "dict"], ∀ T ∈ ["int", "bool", "str", "tuple", "list", "dict"], kitB t T = some (t == T || (t == "bool" && T == "int")) := by decide +kernel
  intro d n
  have hd : tyD d ∈ ["NoneType", "bool", "int", "str", "tuple", "list", "dict"] := by
    cases d with
    | ob a => exact absurd rfl (n a)
    | _ => simp [tyD]
  exact kit_ty (hk _ hd _ hT)
section
variable {S : Sta} {e : Expr} {p p2 pos : Pos} {T : String} {x : Str} {w : W}
theorem de_isi (hm : S.mg "isinstance" = none) (hmx : S.mg x = none) (hx : bootBuiltins x = some (.type T)) (hT : T ∈ ["int", "bool", "str", "tuple", "list", "dict"]) (h : DE S e w) (hg : (S.names.lookup ("isinstance" : Str) == some .globalImplicit) = true := by kernel_rfl) (hgx : (S.names.lookup x == some .globalImplicit) = true := by kernel_rfl)
    (hn : x ≠ "__name__" := by decide) (hd : (x == ("__debug__" : Str)) = false := by decide)
    (hs : ∀ env, starEach [e, .Name x p2] env = (false, eval e env) :: starEach [.Name x p2] env := by intro _; rfl) (hpl : ∀ env, (backTo pos (starEach [.Name x p2] env)).any (·.1) = false := by intro _; rfl) : DE S (.Call (.Name "isinstance" p) [e, .Name x p2] [] pos) (wIsi T w) := fun X f => by
  have ga : PE X (.Name x p2) (tC (.ty T)) := pe_bltn (glOf f hgx) (by rw [f.mg]; exact hmx) hx rfl hn hd
  refine (pe_callB call_isi (glOf f hg) (by rw [f.mg]; exact hm) (by decide +kernel) (pa_cons (h X f) (pa_cons ga pa_nil (by rfl)) (hs _)) (by decide) (by decide) (hs _) (hpl _)).imp fun σ H Q ⟨G, F, ρ, Qd, ev, hw, hq⟩ => ?_
  refine ⟨G, F, ρ, _, ev, hw, fun v H1 F1 d s1 e1 f1 r1 ⟨n, q1⟩ => ?_⟩
  exact ⟨v, .ty T, .type (tyD d), .type T, isD T d, rfl, .ty T, tyx_of e1.sub (by rw [f.K]; exact r1) n, kit_one hT d n, hq _ H1 F1 _ s1 e1 f1 (.bl _) q1⟩
end

/-! ### operators over data -/
def r2D (K : PySem.W.Frag) (o : D → D → (SV → Prop) → Prop) : R2 := fun x y H Q => ∃ G F σ ρ d e Qd, EvR K G F H σ ρ ∧ Rp K F x d ∧ Rp K F y e ∧ o d e Qd ∧
  ∀ v H' F' sv, Same F F' → EvR K G F' H' σ ρ → Fr G H H' → RpO K G F' H H' v sv → Qd sv → Q v H'
def OD (S : Sta) (f : Value → Value → Sem Value) (o : D → D → (SV → Prop) → Prop) : Prop := ∀ X, Fam S X → OpR X f (r2D S.K o)
theorem opo {K : PySem.W.Frag} {o : D → D → (SV → Prop) → Prop} : OpO K (r2D K o) o := fun G F σ H ρ v1 d1 v2 d2 Qd Q ev r1 r2 h hq => ⟨G, F, σ, ρ, d1, d2, Qd, ev, r1, r2, h, hq⟩
theorem _root_.L2.OpR.imp {X : Cx} {f : Value → Value → Sem Value} {r r' : R2} (h : OpR X f r) (i : ∀ x y H Q, r' x y H Q → r x y H Q) : OpR X f r' := fun pins s σ H x y v u Q I rx ry q => h pins s σ H x y v u Q I rx ry (i x y H Q q)
def oAdd : D → D → (SV → Prop) → Prop := fun x y Q => (∃ i j, x = .int i ∧ y = .int j ∧ Q (.fz (.int (i + j)))) ∨ (∃ a b, x = .str a ∧ y = .str b ∧ a.length + b.length ≤ sizeLine ∧ Q (.fz (.str (a ++ b)))) ∨
  (∃ a b, x = .lst a ∧ y = .lst b ∧ a.length + b.length ≤ sizeLine ∧ Q (.ow (a ++ b))) ∨ (∃ a b, tupsOf x = some a ∧ tupsOf y = some b ∧ a.length + b.length ≤ sizeLine ∧ Q (.fz (.tup (a ++ b))))
def oMul : D → D → (SV → Prop) → Prop := fun x y Q => (∃ i j, x = .int i ∧ y = .int j ∧ CMul i j ∧ Q (.fz (.int (i * j)))) ∨
  (∃ a k, x = .lst a ∧ y = .int k ∧ (-(2 ^ 63) ≤ k ∧ k < 2 ^ 63 ∧ a.length * k.toNat ≤ sizeLine) ∧ Q (.ow (List.replicate k.toNat a).flatten)) ∨
  (∃ a k, tupsOf x = some a ∧ y = .int k ∧ (a ≠ [] ∧ 2 ≤ k ∧ k ≤ 1000 ∧ a.length ≤ 1000) ∧ Q (.fz (.tup (List.replicate k.toNat a).flatten)))
theorem rp_lstH {K : PySem.W.Frag} {F H : Hp} {v : V} {ds : List D} (s : Same F H) (r : Rp K F v (.lst ds)) : ∃ a vs, v = .ref a ∧ H a = some (.lst vs) ∧ RpL K F vs ds := by
  cases r with
  | lst h r => exact ⟨_, _, rfl, s _ _ h, r⟩
theorem rp_tupsH {K : PySem.W.Frag} {F H : Hp} {v : V} {d : D} {ds : List D} (s : Same F H) (r : Rp K F v d) (e : tupsOf d = some ds) : ∃ a vs, v = .ref a ∧ SqT K H a vs ∧ RpL K F vs ds ∧ Rp K F v (.tup ds) := by
  obtain ⟨a, vs, rfl, h, rr⟩ := rp_tups r e
  exact ⟨a, vs, rfl, Same.sqt s h, rr, .tup h rr⟩
theorem rp_tupH {K : PySem.W.Frag} {F H : Hp} {v : V} {ds : List D} (s : Same F H) (r : Rp K F v (.tup ds)) : ∃ a vs, v = .ref a ∧ SqT K H a vs ∧ RpL K F vs ds := by
  cases r with
  | tup h r => exact ⟨_, _, rfl, Same.sqt s h, r⟩
section
variable {S : Sta} {a b e : Expr} {pos : Pos} {wa wb w : W} {op : Operator} {o : D → D → (SV → Prop) → Prop}
theorem od_add : OD S (binaryOp .Add) oAdd := fun X f => (op_add.or (op_add_str.or (op_cat.or op_catA))).imp fun x y H Q ⟨G, F, σ, ρ, d, e, Qd, ev, r1, r2, h, hq⟩ => by
  rw [f.K]
  rcases h with ⟨i, j, rfl, rfl, q⟩ | ⟨i, j, rfl, rfl, z, q⟩ | ⟨i, j, rfl, rfl, z, q⟩ | ⟨i, j, g1, g2, z, q⟩
  · rw [r1.intI, r2.intI]
    exact .inl ⟨i, j, rfl, rfl, ev.giv (.int _) q hq⟩
  · rw [r1.strI, r2.strI]
    exact .inr (.inl ⟨i, j, rfl, rfl, z, ev.giv (.str _) q hq⟩)
  · obtain ⟨a, vs, rfl, h1, l1⟩ := rp_lstH ev.sub r1
    obtain ⟨b, us, rfl, h2, l2⟩ := rp_lstH ev.sub r2
    exact .inr (.inr (.inl ⟨a, b, vs, us, rfl, rfl, h1, h2, by rw [l1.len, l2.len]; exact z, fun p hp => ev.newL hp (l1.append l2) q hq⟩))
  · obtain ⟨a, vs, rfl, h1, l1, r1⟩ := rp_tupsH ev.sub r1 g1
    obtain ⟨b, us, rfl, h2, l2, r2⟩ := rp_tupsH ev.sub r2 g2
    refine .inr (.inr (.inr ⟨a, b, vs, us, rfl, rfl, h1, h2, by rw [l1.len, l2.len]; exact z, fun e0 => ?_, fun _ e0 => ?_, fun _ _ p hp => ev.newT hp (l1.append l2) q hq⟩))
    · subst e0
      cases l1
      exact ev.giv r2 q hq
    · subst e0
      cases l2
      rw [List.append_nil] at q
      exact ev.giv r1 q hq
theorem od_mul : OD S (binaryOp .Mult) oMul := fun X f => (op_mul.or (op_rep.or op_repT)).imp fun x y H Q ⟨G, F, σ, ρ, d, e, Qd, ev, r1, r2, h, hq⟩ => by
  rw [f.K]
  rcases h with ⟨i, j, rfl, rfl, z, q⟩ | ⟨i, j, rfl, rfl, z, q⟩ | ⟨i, j, g1, rfl, z, q⟩
  · rw [r1.intI, r2.intI]
    exact .inl ⟨i, j, rfl, rfl, z, ev.giv (.int _) q hq⟩
  · obtain ⟨a, vs, rfl, h1, l1⟩ := rp_lstH ev.sub r1
    rw [r2.intI]
    exact .inr (.inl ⟨a, j, vs, rfl, rfl, h1, z.1, z.2.1, by rw [l1.len]; exact z.2.2, fun p hp => ev.newL hp (l1.rep _) q hq⟩)
  · obtain ⟨a, vs, rfl, h1, l1, _⟩ := rp_tupsH ev.sub r1 g1
    rw [r2.intI]
    exact .inr (.inr ⟨a, j, vs, rfl, rfl, h1, fun e0 => z.1 (by subst e0; cases l1; rfl), z.2.1, z.2.2.1, by rw [l1.len]; exact z.2.2.2, fun p hp => ev.newT hp (l1.rep _) q hq⟩)
theorem do_op (h : OD S (binaryOp op) o) (ha : DE S a wa) (hb : DE S b wb) : DO S (.BinOp a op b pos) (wOpO o wa wb) := fun X f => (pe_op (h X f) (ha X f) (hb X f)).imp (tO_op opo)
def oNeg : D → (D → Prop) → Prop := fun x Q => ∃ i, x = .int i ∧ Q (.int (-i))
def wNeg (w : W) : W := fun G ρ Q => w G ρ fun d => ∃ i, d = .int i ∧ Q (.int (-i))
theorem de_neg (ha : DE S a w) : DE S (.UnaryOp .USub a pos) (wNeg w) := fun X f => (pe_un un_neg (ha X f)).imp fun σ H Q ⟨G, F, ρ, Qd, ev, hw, hq⟩ =>
  ⟨G, F, ρ, _, ev, hw, fun v H1 F1 d s1 e1 f1 r1 ⟨i, ei, q1⟩ => by
    subst ei
    rw [r1.intI]
    exact ⟨i, rfl, hq _ H1 F1 _ s1 e1 f1 (.int _) q1⟩⟩

/-! ### subscripts, slices -/
theorem rpl_at {K : PySem.W.Frag} {F : Hp} {vs : List V} {ds : List D} {i : Int} {d : D} (r : RpL K F vs ds) (h : atI ds i = some d) : ∃ v, atI vs i = some v ∧ Rp K F v d := by
  unfold atI at h ⊢
  rw [r.len]
  cases q : ixN ds.length i with
  | none => rw [q] at h; cases h
  | some j => rw [q] at h; exact r.get h
def oIx : D → D → (D → Prop) → Prop := fun x y Q => ∃ i, y = .int i ∧ ((∃ xs d, itemsOf x = some xs ∧ atI xs i = some d ∧ Q d) ∨ ∃ z c, x = .str z ∧ z.length ≤ sizeLine ∧ atI z.cps.toList i = some c ∧ Q (.str ⟨#[c]⟩))
theorem de_ix (ha : DE S a wa) (hb : DE S b wb) (hs : PlainIx b := by intro _ _; rfl) : DE S (.Subscript a b pos) (wOp oIx wa wb) := fun X f => by
  refine (pe_ix (ix_list.or (ix_tup.or ix_str)) (ha X f) (hb X f) hs).imp (tD_op (K := S.K) fun G F σ H ρ v1 d1 v2 d2 Qd Q ev r1 r2 ⟨i, e2, h⟩ hq => ?_)
  subst e2
  rw [r2.intI, f.K]
  rcases h with ⟨xs, d, e1, e3, q⟩ | ⟨z, c, rfl, hz, e3, q⟩
  · obtain ⟨p, ws, rfl, h, rr⟩ := rp_sq ev.sub r1 e1
    obtain ⟨v, e4, r4⟩ := rpl_at rr e3
    rcases h with h | h
    · exact .inl ⟨p, ws, i, v, rfl, rfl, h, e4, hq v H F d (Same.refl _) ev Fr.refl r4 q⟩
    · exact .inr (.inl ⟨p, ws, i, v, rfl, rfl, h, e4, hq v H F d (Same.refl _) ev Fr.refl r4 q⟩)
  · rw [r1.strI]
    exact .inr (.inr ⟨z, i, c, rfl, rfl, hz, e3, hq _ H F _ (Same.refl _) ev Fr.refl (.str _) q⟩)
abbrev WP := Gc → En → (Option Int → Prop) → Prop
def tP (K : PySem.W.Frag) (w : WP) : TO := fun σ H Q => ∃ G F ρ Qd, EvR K G F H σ ρ ∧ w G ρ Qd ∧ ∀ o H' F', Same F F' → EvR K G F' H' σ ρ → Fr G H H' → Qd o → Q o H'
def DP (S : Sta) (e : Option Expr) (w : WP) : Prop := ∀ X, Fam S X → PO X e (tP S.K w)
theorem _root_.L2.PO.imp {X : Cx} {e : Option Expr} {t t' : TO} (h : PO X e t) (i : ∀ σ H Q, t' σ H Q → t σ H Q) : PO X e t' := ⟨fun pins s σ H Q I q => h.run pins s σ H Q I (i σ H Q q)⟩
def wpNone : WP := fun _ _ Q => Q none
def wpSome (w : W) : WP := fun G ρ Q => w G ρ fun d => ∃ i, d = .int i ∧ Q (some i)
theorem dp_none : DP S none wpNone := fun X f => po_none.imp fun σ H Q ⟨G, F, ρ, Qd, ev, hw, hq⟩ => hq none H F (Same.refl _) ev Fr.refl hw
theorem dp_some (h : DE S e w) : DP S (some e) (wpSome w) := fun X f => (po_some (h X f)).imp fun σ H Q ⟨G, F, ρ, Qd, ev, hw, hq⟩ =>
  ⟨G, F, ρ, _, ev, hw, fun v H1 F1 d s1 e1 f1 r1 ⟨i, ei, q1⟩ => by
    subst ei
    rw [r1.intI]
    exact ⟨i, rfl, hq _ H1 F1 s1 e1 f1 q1⟩⟩
def cutD (xs : List D) (lo hi : Option Int) : List D := (xs.drop (HT.sIx xs.length 0 lo)).take (HT.sIx xs.length xs.length hi - HT.sIx xs.length 0 lo)
def oSl : D → Option Int → Option Int → (SV → Prop) → Prop := fun x lo hi Q => (∃ xs, x = .lst xs ∧ Q (.ow (cutD xs lo hi))) ∨ ∃ xs, tupsOf x = some xs ∧ Q (.fz (.tup (cutD xs lo hi)))
def woSl (w : W) (l h : WP) : WO := fun G ρ Q => w G ρ fun d => l G ρ fun lo => h G ρ fun hi => oSl d lo hi Q
theorem rpl_cut {K : PySem.W.Frag} {F : Hp} {vs : List V} {ds : List D} (r : RpL K F vs ds) (lo hi : Option Int) : RpL K F (cutV vs lo hi) (cutD ds lo hi) := by
  unfold cutV cutD
  rw [r.len]
  exact (r.drop _).take _
theorem cutD_all {xs : List D} {lo hi : Option Int} (h : HT.sIx xs.length 0 lo = 0 ∧ HT.sIx xs.length xs.length hi = xs.length) : cutD xs lo hi = xs := by
  unfold cutD
  rw [h.1, h.2]
  simp
theorem do_slice {lo hi : Option Expr} {l u : WP} {p2 : Pos} (ha : DE S a wa) (hl : DP S lo l) (hu : DP S hi u) : DO S (.Subscript a (.Slice lo hi none p2) pos) (woSl wa l u) := fun X f => (pe_slice (sl_list.or sl_tupA) (ha X f) (hl X f) (hu X f)).imp fun σ H Q ⟨G, F, ρ, Qd, ev, hw, hq⟩ =>
  ⟨G, F, ρ, _, ev, hw, fun v H1 F1 d s1 e1 f1 r1 q1 => ⟨G, F1, ρ, _, e1, q1, fun lo H2 F2 s2 e2 f2 q2 => ⟨G, F2, ρ, _, e2, q2, fun hi H3 F3 s3 e3 f3 q3 => by
    rw [f.K]
    have r3 := r1.mono (s2.trans s3)
    have s4 := s1.trans (s2.trans s3)
    have f4 := f1.trans (f2.trans f3)
    have hq4 : ∀ v H' F' sv, Same F3 F' → EvR S.K G F' H' σ ρ → Fr G H3 H' → RpO S.K G F' H3 H' v sv → Qd sv → Q v H' := fun v H' F' sv s5 e5 f5 r5 q5 => hq v H' F' sv (s4.trans s5) e5 (f4.trans f5) (r5.back f4) q5
    rcases q3 with ⟨xs, rfl, q⟩ | ⟨xs, g1, q⟩
    · obtain ⟨p, vs, rfl, h, rr⟩ := rp_lstI e3.sub r3
      exact .inl ⟨p, vs, rfl, h, fun p hp => e3.newL hp (rpl_cut rr _ _) q hq4⟩
    · obtain ⟨p, vs, rfl, h, rr, r3⟩ := rp_tupsH e3.sub r3 g1
      refine .inr ⟨p, vs, rfl, h, fun hw => ?_, fun _ p hp => e3.newT hp (rpl_cut rr _ _) q hq4⟩
      rw [rr.len] at hw
      rw [cutD_all hw] at q
      exact e3.giv r3 q hq4⟩⟩⟩
def woRev (w : W) : WO := fun G ρ Q => w G ρ fun d => ∃ xs, d = .lst xs ∧ Q (.ow xs.reverse)
theorem do_rev {k : Nat} {p1 p2 p3 : Pos} (ha : DE S a wa) : DO S (.Subscript a (.Slice none none (some (.UnaryOp .USub (.Constant (.int 1) k p1) p2)) p3) pos) (woRev wa) := fun X f => (pe_revL (ha X f)).imp fun σ H Q ⟨G, F, ρ, Qd, ev, hw, hq⟩ =>
  ⟨G, F, ρ, _, ev, hw, fun v H1 F1 d s1 e1 f1 r1 ⟨xs, ed, q1⟩ => by
    subst ed
    obtain ⟨p, vs, rfl, h, rr⟩ := rp_lstI e1.sub r1
    rw [f.K]
    exact ⟨p, vs, rfl, h, fun p hp => e1.newL hp rr.reverse q1 fun v H' F' sv s2 e2 f2 r2 q2 => hq v H' F' sv (s1.trans s2) e2 (f1.trans f2) (r2.back f1) q2⟩⟩
/-! ### list(range(..)) -/
end
end DL
set_option maxHeartbeats 4000000
namespace DL
open PySem PySem.Spec PyProof.Rows L2

/-! ### set(xs) of a list of ints (the kit has it of tuples) -/
section
variable {P : Program} {w : World} {A : Around} {E : Value → Shared → Prop} {s : Shared}
abbrev setNew (w : World) : Obj := { cls := .type "set", dict := none, data := .set #[] 0 (.fresh 0 0 (!w.params.followText "set-order")) }
/-- what set.__init__ leaves -/
def SetDone (w : World) (s : Shared) (ns : List Int) (s2 : Shared) : Prop := ∃ h' tk c, s2 = { s with heap := h', toks := tk } ∧ SetR w h' s.heap.objs.size (fun j => decide (j ∈ ns)) c ∧ c ≤ ns.length ∧ ∀ b o, s.heap.get? b = some o → h'.get? b = some o
theorem set_done {l : Addr} {s' : Shared} {ns : List Int} {c : Nat} {it : Obj} {wr : List Addr} {G : Array GenState → Array GenState → Prop} (hG : ∀ a b, G a b → b = a) (hw : ∀ b ∈ wr, b = (s.heap.push (setNew w)).objs.size)
    (m : Moved (s.heap.objs.size :: wr) G { s with heap := (s.heap.push (setNew w)).push it } s') (hc : c ≤ ns.length) (R : SetR w s'.heap s.heap.objs.size (fun j => decide (j ∈ ns)) c) : SetDone w s ns s' := by
  obtain ⟨h', g, d, tk, os⟩ := s'
  obtain rfl : g = s.gens := hG _ _ m.gens
  obtain rfl : d = s.drawn := m.drawn
  obtain rfl : os = s.os := m.os
  refine ⟨h', tk, c, rfl, R, hc, fun b o e => ?_⟩
  have lt := Heap.lt_size e
  refine m.heap b o (fun hb => ?_) (Heap.get?_push_of_some _ (Heap.get?_push_of_some _ e))
  rcases List.mem_cons.mp hb with z | z
  · exact Nat.lt_irrefl _ (z ▸ lt)
  · have z := hw b z
    rw [Heap.size_push] at z
    rw [z] at lt
    exact Nat.not_lt_of_le (Nat.le_succ _) lt
set_option maxHeartbeats 8000000 in
theorem call_set_ints {l : Addr} {items : Array Value} (ns : List Int) {Q : Value → Shared → Prop} (hh : A.handled = none) (hl : s.heap.IsList l items) (hit : IntsAre items.toList ns) (hb : ns.length + 1 < scanBound) (h : ∀ s', SetDone w s ns s' → Q (.ref s.heap.objs.size) s') :
    wpAny (model P w) A (call (.type "set") [.ref l]) Q E s := by
  have hn : items.size = ns.length := by simpa using IntsAre.length hit
  obtain ⟨c0, t0, m0⟩ := F.called_set.mro
  have m1 := F.called_set.made
  have m2 := F.called_set.sub
  have m3 := F.called_set.notType
  have m4 := F.called_set.canCreate
  have m5 := F.typeCall_set_1 (.ref l)
  apply wpAny_call
  apply codeAny_of_tree
  show wpAny _ _ (callAny (.type "set") _) _ _ _
  apply wpAny_pure
  refine ⟨Code.quiet_builtin _ (by decide +kernel), codeAny_builtin F.entry_type_call ?_⟩
  rw [Around.under_plain (weight_type_call_type "set" [.ref l] []) rfl]
  repeat (any_goals (first | assumption | wp_step))
  refine codeAny_mono (code_set_led1 (.ref l) (E := E) (Q₁ := fun v t => v = .ref s.heap.objs.size ∧ t = { s with heap := s.heap.push (setNew w) }) ⟨rfl, rfl⟩) fun r t ht => ?_
  rcases r with e | fl
  · exact ht
  cases fl with
  | ret v =>
    obtain ⟨rfl, rfl⟩ := ht
    have at0 : (s.heap.push (setNew w)).get? s.heap.objs.size = some (setNew w) := Heap.get?_push_size _ rfl
    have ty0 : Shared.TypeIs { s with heap := s.heap.push (setNew w) } (.ref s.heap.objs.size) "set" := ⟨_, at0, rfl⟩
    have m6 := F.called_set.init.lookup
    have m7 := F.called_set.init.bind (.ref s.heap.objs.size)
    repeat (any_goals (first | assumption | wp_step))
    refine codeAny_mono (codeAny_call_builtin (R := wants (fun r t => r = .none ∧ SetDone w s ns t) E) F.called_set.init.plain F.entry_set_init (check_set_init_1 ty0 ?_)) fun r t ht => ?_
    · have hl1 : (s.heap.push (setNew w)).IsList l items := hl.push _
      obtain ⟨⟨oc, od, da, sl⟩, ho, hc, k, hd⟩ := id hl1
      obtain rfl : oc = _ := hc
      obtain rfl : da = _ := hd
      have lt := Heap.lt_size (show s.heap.get? l = some hl.choose from hl.choose_spec.1)
      have n1 := F.sub_list_set
      have n2 := F.sub_list_frozenset
      have n3 : (Value.type "list" == Value.type "dict") = false := by decide
      unfold Builtin.«set.__init__» noKeywords Builtin.Frozenset.updateFrom
      generalize hI : pyIter = J
      wp_walk
      subst hI
      refine wpAny_pyIter_list hl1 (wpAny_bind (wpAny_runValue ?_))
      have sz : (s.heap.push (setNew w)).objs.size = s.heap.objs.size + 1 := Heap.size_push ..
      have ne : l ≠ (s.heap.push (setNew w)).objs.size := fun z => by
        rw [z, sz] at lt
        exact Nat.not_lt_of_le (Nat.le_succ _) lt
      refine set_update_ints ((Walks.list (by simp [hh]) _ l ne items).toS) s.heap.objs.size (fun q => ?_) ns hn hb (fun i v q => ?_) (items.size - 0) 0 _ (by omega) (Nat.zero_le _) ⟨⟨_, Heap.get?_push_size _ rfl, rfl, rfl⟩, hl1.push _⟩ ⟨0, Nat.le_refl 0, setR_new_at (Heap.get?_push_of_some _ at0)⟩ fun s' c m hc R => ?_
      · simp only [List.mem_cons, List.not_mem_nil, or_false] at q
        rcases q with z | z
        · rw [sz] at z
          exact Nat.ne_of_lt (Nat.lt_succ_self _) z
        · rw [← z] at lt
          exact Nat.lt_irrefl _ lt
      · have q' : items.toList[i]? = some v := by simpa using q
        have hi : i < ns.length := by rw [← hn]; exact (Array.getElem?_eq_some_iff.mp q).1
        obtain ⟨t, e⟩ := PyProof.Rows.IntsAre.int_at hit i v q'
        exact ⟨ns[i], t, List.getElem?_eq_getElem hi, by rw [e, List.getD_eq_getElem?_getD, List.getElem?_eq_getElem hi]; rfl⟩
      · show wpAny _ _ _ _ _ _
        apply wpAny_pure
        show wpAny _ _ (ret Value.none) _ _ _
        exact wpAny_pure ⟨rfl, set_done (l := l) (fun _ _ z => z) (fun b z => List.mem_singleton.mp z) m (by rw [← hn]; exact hc) R⟩
    · rcases r with e | fl
      · exact ht
      cases fl with
      | ret v =>
        obtain ⟨rfl, k, tk, c, rfl, R⟩ := ht
        repeat (any_goals (first | assumption | wp_step))
        exact h _ ⟨k, tk, c, rfl, R⟩
      | _ => exact ht.elim
  | _ => exact ht.elim
end
end DL
set_option maxHeartbeats 4000000
namespace DL
open PySem PySem.Spec PyProof.Rows L2

/-! ### sorted(set(xs)) -/
def rSetL (K : PySem.W.Frag) (w : World) : List V → Hp → VK → Prop := fun xs H Q => ∃ (a : Addr) (ns : List Int), xs = [.ref a] ∧ SqL K H a (ns.map V.int) ∧ ns.length + 1 < scanBound ∧ ∀ p n, H p = none → n ≤ ns.length → Q (.ref p) (upd H p (SetO w p (fun j => decide (j ∈ ns)) n))
theorem cr_setL {X : Cx} (hc : X.calm = true) : CallR X (.type "set") (rSetL X.K X.w) := by
  intro pins s σ H xs us Q I rv ⟨a, ns, e, hs, hb, q⟩
  subst e
  rw [Vals.ref1 rv]
  obtain ⟨its, rr, pl, hz⟩ := I.list hs
  refine call_set_ints ns (I.ok.hd hc) pl.isList rr.ints hb fun s' ⟨h', tk, c, e, R, hcn, kp⟩ => ?_
  subst e
  exact ⟨.ref _, _, I.laid (t' := tk) kp (Nat.le_refl _) (setO_new R), rfl, q _ c (I.hok.fresh (Nat.le_refl _)) hcn⟩
/-- what stands in the heap besides -/
theorem EvR.ext {K : PySem.W.Frag} {G : Gc} {F H : Hp} {σ : St} {ρ : En} (e : EvR K G F H σ ρ) {p : Addr} {o : HO} (h : H p = none) : EvR K G F (upd H p o) σ ρ := e.liveO h
def woSortSet (w : W) : WO := fun G ρ Q => w G ρ fun d => ∃ ns : List Int, d = .lst (ns.map .int) ∧ ns.length < 64 ∧ ∀ ms : List Int, ms.Pairwise (· < ·) → (∀ k, k ∈ ms ↔ k ∈ ns) → Q (.ow (ms.map .int))
section
variable {S : Sta} {a b e : Expr} {es : List Expr} {p p2 pos pos2 : Pos} {w : W} {x : Str}
theorem do_sortSet (hm : S.mg "sorted" = none) (hm2 : S.mg "set" = none) (h : DE S e w) (hg : (S.names.lookup ("sorted" : Str) == some .globalImplicit) = true := by kernel_rfl) (hg2 : (S.names.lookup ("set" : Str) == some .globalImplicit) = true := by kernel_rfl)
    (he : ∀ env, starEach [.Call (.Name "set" p2) [e] [] pos2] env = (false, eval (.Call (.Name "set" p2) [e] [] pos2) env) :: starEach [] env := by intro _; rfl) (he2 : ∀ env, starEach [e] env = (false, eval e env) :: starEach [] env := by intro _; rfl) :
    DO S (.Call (.Name "sorted" p) [.Call (.Name "set" p2) [e] [] pos2] [] pos) (woSortSet w) := fun X f => by
  have h1 : PE X (.Call (.Name "set" p2) [e] [] pos2) _ := pe_callTy (cr_setL f.calm) (glOf f hg2) (by rw [f.mg]; exact hm2) (by decide +kernel) (pa_cons (h X f) pa_nil (he2 _)) (by decide) (by decide) (he2 _) rfl
  refine (pe_callB (cr_sortedSet f.calm) (glOf f hg) (by rw [f.mg]; exact hm) (by decide +kernel) (pa_cons h1 pa_nil (he _)) (by decide) (by decide) (he _) rfl).imp fun σ H Q ⟨G, F, ρ, Qd, ev, hw, hq⟩ => ?_
  refine ⟨G, F, ρ, _, ev, hw, fun v H1 F1 d s1 e1 f1 r1 ⟨ns, ed, hn, q1⟩ => ?_⟩
  subst ed
  obtain ⟨q, vs, rfl, hs, rr⟩ := rp_lstI e1.sub r1
  rw [f.K]
  refine ⟨q, ns, rfl, rr.ints ▸ hs, by have : scanBound > 65 := by decide
                                       omega, fun t n ht hle => ?_⟩
  refine ⟨t, _, n, rfl, upd_same, by omega, fun ms p2 hp hm _ hp2 => ?_⟩
  have e2 := e1.ext (o := SetO X.w t (fun j => decide (j ∈ ns)) n) ht
  exact e2.newL hp2 RpL.of_ints (q1 ms hp fun k => by rw [hm]; exact decide_eq_true_iff) fun v H' F' sv s2 e3 f2 r2 q2 => hq v H' F' sv (s1.trans s2) e3 (f1.trans ((Fr.upd ht).trans f2)) (r2.back (f1.trans (Fr.upd ht))) q2

/-! ### list(range(..)) -/
def woListRg1 (w : W) : WO := fun G ρ Q => w G ρ fun d => ∃ n : Int, d = .int n ∧ -(2 ^ 62) ≤ n ∧ n ≤ 2 ^ 24 ∧ Q (.ow (rangeD 0 n.toNat))
def woListRg2 (w w2 : W) : WO := fun G ρ Q => w G ρ fun d => w2 G ρ fun e => ∃ m n : Int, d = .int m ∧ e = .int n ∧ RgOk m n ∧ Q (.ow (rangeD m (n - m).toNat))
theorem rg_rp {K : PySem.W.Frag} {F : Hp} (m n : Int) : RpL K F (rgV m n) (rangeD m (n - m).toNat) := by
  have h : ∀ l : List Nat, RpL K F (l.map fun i : Nat => V.int (m + (i : Nat))) (l.map fun i : Nat => D.int (m + (i : Nat))) := fun l => by
    induction l with
    | nil => exact .nil
    | cons i l ih => exact .cons (.int _) ih
  exact h _
theorem do_listRg1 (hm : S.mg "list" = none) (hm2 : S.mg "range" = none) (h : DE S e w) (hg : (S.names.lookup ("list" : Str) == some .globalImplicit) = true := by kernel_rfl) (hg2 : (S.names.lookup ("range" : Str) == some .globalImplicit) = true := by kernel_rfl)
    (he : ∀ env, starEach [.Call (.Name "range" p2) [e] [] pos2] env = (false, eval (.Call (.Name "range" p2) [e] [] pos2) env) :: starEach [] env := by intro _; rfl) (he2 : ∀ env, starEach [e] env = (false, eval e env) :: starEach [] env := by intro _; rfl) :
    DO S (.Call (.Name "list" p) [.Call (.Name "range" p2) [e] [] pos2] [] pos) (woListRg1 w) := fun X f =>
  (pe_listRg f.calm (glOf f hg) (by rw [f.mg]; exact hm) (prg_1 (glOf f hg2) (by rw [f.mg]; exact hm2) (h X f) (he2 _)) (he _)).imp fun σ H Q ⟨G, F, ρ, Qd, ev, hw, hq⟩ =>
    ⟨G, F, ρ, _, ev, hw, fun v H1 F1 d s1 e1 f1 r1 ⟨n, ed, h1, h2, q1⟩ => by
      subst ed
      rw [r1.intI]
      refine ⟨n, rfl, ⟨by omega, by omega, by omega, by omega, by omega⟩, fun q hq2 => ?_⟩
      have e3 := rg_rp (K := S.K) (F := F1) 0 n
      rw [Int.sub_zero] at e3
      exact e1.newL hq2 e3 q1 fun v H' F' sv s2 e2 f2 r2 q2 => hq v H' F' sv (s1.trans s2) e2 (f1.trans f2) (r2.back f1) q2⟩

/-! ### repr(x) -/
mutual
theorem toPy_nodict : ∀ {d : D} {p : PyData}, toPy d = some p → p.hasDict = false
  | .non, _, e => by cases e; rfl
  | .bl _, _, e => by cases e; rfl
  | .int _, _, e => by cases e; rfl
  | .str _, _, e => by cases e; rfl
  | .tup xs, p, e => by
    unfold toPy at e
    cases q : toPyL xs with
    | none => rw [q] at e; cases e
    | some ps => rw [q] at e; cases e; show PyData.hasDictAll ps = false; exact toPyL_nodict q
  | .tix xs, p, e => by
    unfold toPy at e
    cases q : toPyL xs with
    | none => rw [q] at e; cases e
    | some ps => rw [q] at e; cases e; show PyData.hasDictAll ps = false; exact toPyL_nodict q
  | .tky xs, p, e => by
    unfold toPy at e
    cases q : toPyL xs with
    | none => rw [q] at e; cases e
    | some ps => rw [q] at e; cases e; show PyData.hasDictAll ps = false; exact toPyL_nodict q
  | .lst xs, p, e => by
    unfold toPy at e
    cases q : toPyL xs with
    | none => rw [q] at e; cases e
    | some ps => rw [q] at e; cases e; show PyData.hasDictAll ps = false; exact toPyL_nodict q
  | .dic _ _, _, e => by cases e
  | .ob _, _, e => by cases e
theorem toPyL_nodict : ∀ {ds : List D} {ps : List PyData}, toPyL ds = some ps → PyData.hasDictAll ps = false
  | [], _, e => by cases e; rfl
  | d :: ds, ps, e => by
    unfold toPyL at e
    cases q : toPy d with
    | none => rw [q] at e; cases e
    | some p =>
      rw [q] at e
      cases q2 : toPyL ds with
      | none => rw [q2] at e; cases e
      | some r => rw [q2] at e; cases e; show (p.hasDict || PyData.hasDictAll r) = false; rw [toPy_nodict q, toPyL_nodict q2]; rfl
end
theorem cd_repr : CD S (.builtin "repr") oRepr := fun X f => by
  intro pins s σ0 H vs us Q I rv ⟨G, F, σ, ρ, ds, Qd, ev, rl, ⟨x, pd, e, e2, hs, hd, hsz, q⟩, hq⟩
  subst e
  obtain ⟨u, rfl, r⟩ := rl.one
  obtain ⟨u1, rfl, r1⟩ := vals1 rv
  have nd := toPy_nodict e2
  have dp := r.dp ev.sub e2
  rw [← f.K] at dp
  obtain ⟨as, ra⟩ := Dp.reads I pd u u1 dp r1
  have fin : ∀ {h' : Heap} {tk : Nat} {t : Tok}, (∀ b o, s.heap.get? b = some o → h'.get? b = some o) → EP X pins σ0 Q (.str pd.shown t) { s with heap := h', toks := tk } := fun {h' tk t} k =>
    ⟨.str pd.shown, H, I.kept (t' := tk) k, ⟨t, rfl⟩, ev.giv (.str _) q hq⟩
  have un : X.A.units + (pd.depth + 1) < cLine := by have := f.room.un; omega
  have box : isDisplay pd = true → wpAny (model X.prog X.w) X.A (call (.builtin "repr") [u1]) (EP X pins σ0 Q) X.xe s := fun hb => by
    obtain ⟨a, rfl⟩ := isRef_of_reads ra hb
    exact repr_of_reads' ra hs (PyData.noDict_hsm nd) f.ns un (fun _ _ z => z) (fun h' u tk hk => fin hk) hsz
  cases pd with
  | none => cases dp; cases r1; exact PySem.P.repr_of_none (fin fun _ _ e => e)
  | bool b => cases dp; cases r1; exact PySem.P.repr_of_bool (fin fun _ _ e => e)
  | int i => cases dp; obtain ⟨t, rfl⟩ := r1; exact PySem.P.repr_of_int (by simpa [PyData.showable] using hs) (fin fun _ _ e => e)
  | str z => cases dp; obtain ⟨t, rfl⟩ := r1; exact PySem.P.repr_of_str (fin fun _ _ e => e) hsz
  | list l => exact box rfl
  | tuple l => exact box rfl
  | dict l => cases dp
end
end DL
set_option maxHeartbeats 4000000
namespace DL
open PySem PySem.Spec PyProof.Rows L2

/-! ### f(k = v, ..), all by name -/
def permL {α : Type} (is : List Nat) (zs : List α) : List α := is.filterMap fun i => zs[i]?
theorem permL_cons {α : Type} (i : Nat) (is : List Nat) (zs : List α) : permL (i :: is) zs = (match zs[i]? with | some z => z :: permL is zs | none => permL is zs) := by
  unfold permL
  rw [List.filterMap_cons]
  cases zs[i]? <;> rfl
theorem vals_at {vs : List V} {us : List Value} (r : Vals vs us) (i : Nat) : (vs[i]? = none ∧ us[i]? = none) ∨ ∃ v u, vs[i]? = some v ∧ us[i]? = some u ∧ RelV v u := by
  induction r generalizing i with
  | nil => exact .inl ⟨by simp, by simp⟩
  | cons h t ih =>
    cases i with
    | zero => exact .inr ⟨_, _, by simp, by simp, h⟩
    | succ i => simpa using ih i
theorem permL_vals {vs : List V} {us : List Value} (r : Vals vs us) : ∀ is : List Nat, Vals (permL is vs) (permL is us)
  | [] => .nil
  | i :: is => by
    rw [permL_cons, permL_cons]
    rcases vals_at r i with ⟨h1, h2⟩ | ⟨v, u, h1, h2, h3⟩
    · rw [h1, h2]; exact permL_vals r is
    · rw [h1, h2]; exact .cons h3 (permL_vals r is)
theorem permL_rpl {K : PySem.W.Frag} {F : Hp} {vs : List V} {ds : List D} (r : RpL K F vs ds) : ∀ is : List Nat, RpL K F (permL is vs) (permL is ds)
  | [] => .nil
  | i :: is => by
    rw [permL_cons, permL_cons]
    cases h : ds[i]? with
    | some d =>
      obtain ⟨v, h1, h2⟩ := r.get h
      rw [h1]; exact .cons h2 (permL_rpl r is)
    | none =>
      have h1 : vs[i]? = none := by
        rw [List.getElem?_eq_none_iff] at h ⊢
        rw [r.len]; exact h
      rw [h1]; exact permL_rpl r is
def kwG {α : Type} (n : Nat) (is : List Nat) (us ws : List α) : List α := match us with
  | [] => if ws.length = n then permL is ws else []
  | _ => []
theorem kwG_nil {α : Type} {n : Nat} {is : List Nat} {ws : List α} (h : ws.length = n) : kwG n is [] ws = permL is ws := by unfold kwG; rw [if_pos h]
def DK (S : Sta) (kws : List Keyword) (r : WA) : Prop := ∀ X, Fam S X → PK X kws (tA S.K r)
theorem _root_.L2.PK.imp {X : Cx} {es : List Keyword} {t t' : TA} (h : PK X es t) (i : ∀ σ H Q, t' σ H Q → t σ H Q) : PK X es t' := ⟨fun pos pins s σ H Q I q => h.run pos pins s σ H Q I (i σ H Q q)⟩
def woCallK (n : Nat) (is : List Nat) (sp : FS) (r : WA) : WO := fun G ρ Q => r G ρ fun ds => ds.length = n ∧ sp G (permL is ds) Q
section
variable {S : Sta} {a b c e : Expr} {es : List Expr} {p p2 pos kpos : Pos} {w : W} {x : Str} {r : WA} {kws : List Keyword} {nm : Option Str}
theorem dk_nil : DK S [] waNil := fun X f => pk_nil.imp fun σ H Q ⟨G, F, ρ, Qd, ev, q, hq⟩ => hq [] H F [] (Same.refl _) ev Fr.refl .nil q
theorem dk_cons (ha : DE S e w) (hr : DK S kws r) : DK S (⟨nm, e, kpos⟩ :: kws) (waCons w r) := fun X f =>
  (pk_cons (ha X f) (hr X f)).imp fun σ H Q ⟨G, F, ρ, Qd, ev, hw, hq⟩ =>
    ⟨G, F, ρ, _, ev, hw, fun v1 H1 F1 d1 s1 e1 f1 r1 q1 => ⟨G, F1, ρ, _, e1, q1, fun vs H2 F2 ds s2 e2 f2 r2 q2 => hq (v1 :: vs) H2 F2 (d1 :: ds) (s1.trans s2) e2 (f1.trans f2) (.cons (r1.mono s2) r2) q2⟩⟩
theorem do_callK {j : Nat} {st : Stmt} {ps ks : List Str} {sp : FS} {is : List Nat} (h : Kn S.toBs j x st ps sp) (hj : j ≤ S.k) (hr : DK S kws r) (hp : ps ≠ [])
    (hb : ∀ (kV doc pm : Value) (an : Option Addr) (cdv ct : Value) (ws : List Value), ws.length = ks.length → bindArgs (PySem.W.fnOf x x (defArgs st) (defBody st) (defScope st) .none kV doc pm an cdv ct) ⟨[], ks.zip ws⟩ = pure (ps.zip (permL is ws)))
    (hall : ∀ env, (backToKw pos (keywordEach kws env)).all (·.1.isSome) = true := by intro _; rfl) (hks : ∀ env, (backToKw pos (keywordEach kws env)).filterMap (·.1) = ks := by intro _; rfl)
    (hpl : ∀ env, ((backTo pos (starEach [] env)).any (·.1) || (backToKw pos (keywordEach kws env)).any (·.1.isNone)) = false := by intro _; rfl)
    (hg : (S.names.lookup x == some .globalImplicit) = true := by kernel_rfl) (hdb : (x == ("__debug__" : Str)) = false := by kernel_rfl) :
    DO S (.Call (.Name x p) [] kws pos) (woCallK ks.length is sp r) := fun X f => by
  obtain ⟨fa, fd, F, hm, FD, _⟩ := h.ex
  have hkp := FD.kp
  have kb : KBinds S.K fd ps ks (kwG ks.length is) (kwG ks.length is) := by
    obtain ⟨oc, od, dV, kV, doc, pm, an, cdv, ct, osl, rfl, lk, hcd, hD, hK⟩ := FD.ex
    rcases hD with ⟨_, rfl⟩ | ⟨e, _⟩
    · refine ⟨fun s us ws X hl => ?_, fun {vs us zs ws} r1 r2 => ?_⟩
      · cases us with
        | cons u us => cases ps with
          | nil => exact absurd rfl hp
          | cons _ _ => simp [kwG] at hl
        | nil =>
          by_cases hw : ws.length = ks.length
          · rw [kwG_nil hw]; exact .of_eq (hb kV doc pm an cdv ct ws hw)
          · cases ps with
            | nil => exact absurd rfl hp
            | cons _ _ => simp [kwG, hw] at hl
      · cases r1 with
        | cons _ _ => exact .nil
        | nil =>
          unfold kwG
          rw [r2.length]
          by_cases hw : ws.length = ks.length
          · rw [if_pos hw, if_pos hw]; exact permL_vals r2 is
          · rw [if_neg hw, if_neg hw]; exact .nil
    · exact absurd rfl e
  rw [← f.P, ← f.w, ← f.K, ← f.mg, ← f.base] at F
  refine (pe_callGK F (f.room.mono hj) f.ns (glOf f hg) (by rw [f.mg]; exact hm) (by rw [f.K]; exact hkp) (by rw [f.K]; exact kb) pass0 (hr X f) (hall _) (hks _) hdb (hpl _)).imp fun σ H Q ⟨G, F, ρ, Qd, ev, hw, hq⟩ =>
    ⟨G, F, ρ, _, ev, hw, fun vs H1 F1 ds s1 e1 f1 r1 ⟨hl, q1⟩ => ⟨G, F1, permL is ds, Qd, e1.sub, e1.res, e1.wd, by rw [kwG_nil (by rw [r1.len]; exact hl), f.K]; exact permL_rpl r1 is, q1, fun v H' F' sv s2 s3 s4 f2 w2 r2 q2 =>
      hq v H' F' sv (s1.trans s2) (e1.go s2 s3 f2 s4 w2) (f1.trans f2) (by rw [f.K] at r2; exact r2.back f1) q2⟩⟩
end
end DL
set_option maxHeartbeats 4000000
namespace DL
open PySem PySem.Spec PyProof.Rows L2

/-! ### a, b, c = e1, e2, e3 -/
section
variable {K : PySem.W.Frag} {G : Gc} {H0 F0 F F' F1 F2 F3 H H1 H2 H3 H' : Hp} {σ : St} {ρ : En}
theorem pin_fr {v : V} {sv : SV} (h : RpO K G F1 H H1 v sv) (e2 : EvR K (pinO G H1 v sv) F2 H2 σ ρ) (e3 : EvR K (pinO G H1 v sv) F3 H3 σ ρ) (fr : Fr (pinO G H1 v sv) H2 H3) : Fr G H2 H3 := by
  unfold pinO at e2 e3 fr
  cases ho : isOwn sv with
  | false => rw [ho] at fr; exact fr
  | true =>
    obtain ⟨a, o, rfl, h1, h2, h3, h4⟩ := rpo_ref h ho
    rw [ho] at e2 e3 fr
    dsimp only at e2 e3 fr
    rw [h1] at e2 e3 fr
    intro b u hb nb
    by_cases hba : b = a
    · subst hba
      have := e2.wd.2.1
      rw [this] at hb; cases hb
      exact e3.wd.2.1
    · exact fr b u hb fun r => r.elim nb hba
def usedAt : Bool → V → List Addr → List Addr
  | true, .ref a, l => a :: l
  | _, _, l => l
theorem usedAt_sub {b : Bool} {v : V} {l : List Addr} {a : Addr} (h : a ∈ l) : a ∈ usedAt b v l := by
  unfold usedAt
  split
  · exact List.mem_cons_of_mem _ h
  · exact h
theorem usedAt_inv {b : Bool} {v : V} {l : List Addr} {a : Addr} (h : a ∈ usedAt b v l) : a ∈ l ∨ (b = true ∧ v = .ref a) := by
  unfold usedAt at h
  split at h
  · rcases List.mem_cons.mp h with e | h
    · exact .inr ⟨rfl, by rw [e]⟩
    · exact .inl h
  · exact .inl h
theorem Ev.puts (frH : Fr G H0 H) : ∀ (l : List (Nat × V × SV)) (σ1 : St) (ρ1 : En) (used : List Addr), Ev K G H0 F0 F2 H' σ1 ρ1 → (∀ p ∈ l, p.1 < ρ1.length ∧ RpO K G F2 H H' p.2.1 p.2.2) →
    (∀ (k : Nat) (sx : SV) (a : Addr), ρ1[k]? = some (some sx) → isOwn sx = true → σ1[k]? = some (some (.ref a)) → H a ≠ none ∨ a ∈ used) → (l.Pairwise fun p q => isOwn p.2.2 = true → isOwn q.2.2 = true → p.2.1 ≠ q.2.1) →
    (∀ p ∈ l, isOwn p.2.2 = true → ∀ a, p.2.1 = .ref a → a ∉ used) → Ev K G H0 F0 F2 H' (l.foldl (fun s p => s.set p.1 (some p.2.1)) σ1) (l.foldl (fun r p => r.set p.1 (some p.2.2)) ρ1)
  | [], _, _, _, e, _, _, _, _ => e
  | (i, v, sv) :: l, σ1, ρ1, used, e, hl, hu, hp, hn => by
    obtain ⟨hi, r⟩ := hl _ List.mem_cons_self
    have hn0 := hn _ List.mem_cons_self
    obtain ⟨hp1, hp2⟩ := List.pairwise_cons.mp hp
    have ev1 : Ev K G H0 F0 F2 H' (σ1.set i (some v)) (ρ1.set i (some sv)) := e.set hi (rps_of r) fun ho a ea => by
      obtain ⟨b, o, eb, _, q2, q3, q4⟩ := rpo_ref r ho
      rw [ea] at eb; cases eb
      exact ⟨q4, frH.free q2 q3, fun k sx _ q hok z => (hu k sx a q hok z).elim (fun n => n q3) (hn0 ho a ea)⟩
    refine Ev.puts frH l _ _ (usedAt (isOwn sv) v used) ev1 (fun p hp => ⟨by rw [List.length_set]; exact (hl p (List.mem_cons_of_mem _ hp)).1, (hl p (List.mem_cons_of_mem _ hp)).2⟩) (fun k sx a q hok z => ?_) hp2 (fun p hm ho a ea hin => ?_)
    · rcases set_get q with ⟨rfl, zz⟩ | ⟨ne, q⟩
      · cases zz
        rw [List.getElem?_set_self (by rw [e.len]; exact hi)] at z
        cases z
        rw [hok]
        exact .inr List.mem_cons_self
      · rw [List.getElem?_set_ne ne] at z
        exact (hu k sx a q hok z).imp id usedAt_sub
    · rcases usedAt_inv hin with h | ⟨hb, ev'⟩
      · exact hn p (List.mem_cons_of_mem _ hm) ho a ea h
      · exact hp1 p hm hb ho (by rw [ea]; exact ev')
def put3 (ρ : En) (i : Nat) (sv : SV) (j : Nat) (sw : SV) (l : Nat) (sx : SV) : En := match immS sv && immS sw && immS sx with
  | true => ((ρ.set i (some sv)).set j (some sw)).set l (some sx)
  | false => (((frzAll ρ).set i (some sv)).set j (some sw)).set l (some sx)
theorem Ev.put3 (e : Ev K G H0 F0 F H σ ρ) (s : Same F F') (e' : EvR K G F' H' σ ρ) (fr : Fr G H H') {i j l : Nat} {v u t : V} {sv sw sx : SV} (hi : i < ρ.length) (hj : j < ρ.length) (hl : l < ρ.length)
    (h1 : RpO K G F' H H' v sv) (h2 : RpO K G F' H H' u sw) (h3 : RpO K G F' H H' t sx) (n12 : isOwn sv = true → isOwn sw = true → v ≠ u) (n13 : isOwn sv = true → isOwn sx = true → v ≠ t) (n23 : isOwn sw = true → isOwn sx = true → u ≠ t) :
    ∃ F2, Ev K G H0 F0 F2 H' (((σ.set i (some v)).set j (some u)).set l (some t)) (DL.put3 ρ i sv j sw l sx) ∧ Same F F2 := by
  have go : ∀ (F2 : Hp) (ρ2 : En), ρ2.length = ρ.length → Ev K G H0 F0 F2 H' σ ρ2 → RpO K G F2 H H' v sv → RpO K G F2 H H' u sw → RpO K G F2 H H' t sx → (∀ (k : Nat) (sx : SV), ρ2[k]? = some (some sx) → isOwn sx = true → ∀ a, H a = none → σ[k]? ≠ some (some (.ref a))) →
      Ev K G H0 F0 F2 H' (((σ.set i (some v)).set j (some u)).set l (some t)) (((ρ2.set i (some sv)).set j (some sw)).set l (some sx)) := fun F2 ρ2 hlen ev r1 r2 r3 ns => by
    refine Ev.puts e.fr [(i, v, sv), (j, u, sw), (l, t, sx)] σ ρ2 [] ev (fun p hp => ?_) (fun k sy a q ho z => .inl fun hn => ns k sy q ho a hn z) ?_ (fun _ _ _ _ _ h => by cases h)
    · simp only [List.mem_cons, List.not_mem_nil, or_false] at hp
      rw [hlen]
      rcases hp with rfl | rfl | rfl
      · exact ⟨hi, r1⟩
      · exact ⟨hj, r2⟩
      · exact ⟨hl, r3⟩
    · simp only [List.pairwise_cons, List.mem_cons, List.not_mem_nil, or_false, forall_eq_or_imp, forall_eq, List.Pairwise.nil, and_true, false_implies, implies_true]
      exact ⟨⟨n12, n13⟩, n23⟩
  unfold DL.put3
  cases hm : (immS sv && immS sw && immS sx) with
  | true =>
    obtain ⟨m12, m3⟩ := Bool.and_eq_true_iff.mp hm
    obtain ⟨m1, m2⟩ := Bool.and_eq_true_iff.mp m12
    exact ⟨tupOf F F', go _ ρ rfl (e.goT s e' fr) (rpo_base h1 s m1) (rpo_base h2 s m2) (rpo_base h3 s m3) fun k sx q ho a ha => e.ne ha k sx q ho, tupOf_same⟩
  | false =>
    exact ⟨ownOf F' H' σ ρ, go _ (frzAll ρ) (by unfold frzAll; rw [List.length_map]) (e.goA s e' fr) (rpo_baseA e h1) (rpo_baseA e h2) (rpo_baseA e h3) (fun k sx q ho => by rw [frzAll_own q] at ho; cases ho), s.trans ownOf_same⟩
end
def wPar3 (i j l : Nat) (w1 w2 w3 : WO) : WS := fun G E ρ => i < ρ.length ∧ j < ρ.length ∧ l < ρ.length ∧ w1 G ρ fun sv => ∀ G', GExt G G' → w2 G' ρ fun sw => ∀ G2, GExt G' G2 → w3 G2 ρ fun sx => E.nx (put3 ρ i sv j sw l sx)
theorem swap3 {a b c : Expr} {x y z : Str} {px py pz pt pt2 : Pos} {kt k2 : Nat} (hne : (x == y) = false) (hne2 : (x == z) = false) (hne3 : (y == z) = false) (hl : (py.line == px.line) = true) (hl2 : (pz.line == px.line) = true) (sa : (match a with | .Starred .. => true | _ => false) = false) (sb : (match b with | .Starred .. => true | _ => false) = false) (sc : (match c with | .Starred .. => true | _ => false) = false)
    (hf : (foldedForSure 8 a && (foldedForSure 8 b && foldedForSure 8 c)) = false) (hc : (constantsAlone 8 a && (constantsAlone 8 b && constantsAlone 8 c)) = false) (env : Env) (hk : env.scope.kind = .function) (hx : env.scope.names.lookup x = some .local) (hy : env.scope.names.lookup y = some .local) (hz : env.scope.names.lookup z = some .local) :
    swappedStores [.Tuple [.Name x px, .Name y py, .Name z pz] kt pt] (.Tuple [a, b, c] k2 pt2) env = pure (some [x, y, z]) := by
  have hb : env.blockKind = .function := by unfold Env.blockKind; rw [hk]; rfl
  have kx : env.kindOf x = some .local := hx
  have ky : env.kindOf y = some .local := hy
  have kz : env.kindOf z = some .local := hz
  have sym : ∀ {u v : Str}, (u == v) = false → (v == u) = false := fun {u v} e => by
    cases h : v == u with
    | false => rfl
    | true => rw [beq_iff_eq.mp h] at e; simp at e
  have e1 := sym hne
  have e2 := sym hne2
  have e3 := sym hne3
  unfold swappedStores
  simp only [hb, kx, ky, kz, List.length_cons, List.length_nil, List.any_cons, List.any_nil, sa, sb, sc, List.filterMap_cons, List.filterMap_nil, Expr.pos, List.head?_cons, Option.map_some, Option.getD_some, hl, hl2, List.all_cons, List.all_nil, Bool.and_true, hf, hc, beq_self_eq_true, Bool.and_self, if_true, List.eraseDups_cons, hne, hne2, hne3, e1, e2, e3]
  simp [hne, hne2, hne3, e1, e2, e3]
  rw [if_neg, if_pos (by simp [List.eraseDups_cons, hne, hne2, hne3, e1, e2, e3])]
  rintro (h | h | h)
  · cases a <;> first | exact Bool.noConfusion h | exact Bool.noConfusion sa
  · cases b <;> first | exact Bool.noConfusion h | exact Bool.noConfusion sb
  · cases c <;> first | exact Bool.noConfusion h | exact Bool.noConfusion sc
section
variable {S : Sta} {a b c : Expr} {pos : Pos} {wo1 wo2 wo3 : WO} {i j l : Nat} {x y z : Str}
theorem ds_par3 {px py pz pt : Pos} {kt k2 pt2} (h1 : DO S a wo1) (h2 : DO S b wo2) (h3 : DO S c wo3) (nd : S.N.Nodup) (hi : (S.N[i]? == some x) = true := by kernel_rfl) (hj : (S.N[j]? == some y) = true := by kernel_rfl) (hl : (S.N[l]? == some z) = true := by kernel_rfl) (hij : (i == j || i == l || j == l) = false := by kernel_rfl)
    (hx : (S.names.lookup x == some .local) = true := by kernel_rfl) (hy : (S.names.lookup y == some .local) = true := by kernel_rfl) (hz : (S.names.lookup z == some .local) = true := by kernel_rfl)
    (hs : ∀ env, starEach (a :: [b, c]) env = (false, eval a env) :: starEach [b, c] env := by intro _; rfl) (hs2 : ∀ env, starEach (b :: [c]) env = (false, eval b env) :: starEach [c] env := by intro _; rfl) (hs3 : ∀ env, starEach (c :: []) env = (false, eval c env) :: starEach [] env := by intro _; rfl)
    (hw : ∀ env : Env, env.scope.kind = .function → env.scope.names.lookup x = some .local → env.scope.names.lookup y = some .local → env.scope.names.lookup z = some .local → swappedStores [.Tuple [.Name x px, .Name y py, .Name z pz] kt pt] (.Tuple [a, b, c] k2 pt2) env = pure (some [x, y, z]))
    (hsw : ∀ env, swapsWithSole [.Tuple [.Name x px, .Name y py, .Name z pz] kt pt] (.Tuple [a, b, c] k2 pt2) pos.line env = pure false := by intro _; rfl) :
    DS S (.Assign [.Tuple [.Name x px, .Name y py, .Name z pz] kt pt] (.Tuple [a, b, c] k2 pt2) pos) (wPar3 i j l wo1 wo2 wo3) := fun X f => by
  have lx : X.env.scope.names.lookup x = some .local := by rw [f.look]; exact beq_iff_eq.mp hx
  have ly : X.env.scope.names.lookup y = some .local := by rw [f.look]; exact beq_iff_eq.mp hy
  have lz : X.env.scope.names.lookup z = some .local := by rw [f.look]; exact beq_iff_eq.mp hz
  have nij : i ≠ j := fun q => by subst q; simp at hij
  have nil' : i ≠ l := fun q => by subst q; simp at hij
  have njl : j ≠ l := fun q => by subst q; simp at hij
  refine (ps_par3 (i := i) (j := j) (l := l) f.calm (by rw [f.N]; exact nd) (by rw [f.N]; exact beq_iff_eq.mp hi) (by rw [f.N]; exact beq_iff_eq.mp hj) (by rw [f.N]; exact beq_iff_eq.mp hl) nij nil' njl lx ly lz (pa_cons (h1 X f) (pa_cons (h2 X f) (pa_cons (h3 X f) pa_nil (hs3 _)) (hs2 _)) (hs _)) (hw _ f.kind lx ly lz) (hsw _)).imp fun D σ H ⟨G, H0, F0, F, ρ, E, ev, ⟨li, lj, ll, hw⟩, g⟩ => ?_
  refine ⟨G, F, ρ, _, ev.r, hw, fun v H1 F1 sv s1 e1 f1 r1 q1 => ?_⟩
  have ns : ∀ (k : Nat) (sx : SV), ρ[k]? = some (some sx) → isOwn sx = true → ∀ a, H a = none → σ[k]? ≠ some (some (.ref a)) := fun k sx q ho a ha => ev.ne ha k sx q ho
  have p1 := pin_evr r1 ns e1
  have ns1 : ∀ (k : Nat) (sx : SV), ρ[k]? = some (some sx) → isOwn sx = true → ∀ a, H1 a = none → σ[k]? ≠ some (some (.ref a)) := fun k sx q ho a ha hz => by
    obtain ⟨o, q1, _⟩ := e1.ownAt q ho hz
    rw [ha] at q1; cases q1
  refine ⟨pinO G H1 v sv, F1, ρ, _, p1, q1 _ (pin_ext r1), fun u H2 F2 sw s2 e2 f2 r2 q2 => ?_⟩
  have p2 := pin_evr r2 ns1 e2
  refine ⟨pinO (pinO G H1 v sv) H2 u sw, F2, ρ, _, p2, q2 _ (pin_ext r2), fun t H3 F3 sx s3 e3 f3 r3 q3 => ?_⟩
  -- back to the first pin, then to G
  obtain ⟨e3', f3', nF2⟩ := pin_less r2 e3 f3
  have r3' : RpO S.K (pinO G H1 v sv) F3 H2 H3 t sx := rpo_unpin (pin_ext r2) r3
  obtain ⟨e3g, f13, nF1⟩ := pin_less r1 e3' (f2.trans f3')
  obtain ⟨e2g, f12, _⟩ := pin_less r1 e2 f2
  have f23 : Fr G H2 H3 := pin_fr r1 e2 e3' f3'
  have R1 : RpO S.K G F3 H H3 v sv := rpo_keep r1 (s2.trans s3) f13 nF1
  have R2 : RpO S.K G F3 H1 H3 u sw := rpo_keep (rpo_unpin (pin_ext r1) r2) s3 f23 nF2
  have R3 : RpO S.K G F3 H2 H3 t sx := rpo_unpin (pin_ext r1) r3'
  have n12 : isOwn sv = true → isOwn sw = true → v ≠ u := fun o1 o2 z => by
    obtain ⟨b1, o1', eb1, q1, _, _, _⟩ := rpo_ref r1 o1
    obtain ⟨b2, o2', eb2, _, _, q3, _⟩ := rpo_ref R2 o2
    rw [z, eb2] at eb1
    cases eb1
    rw [q1] at q3; cases q3
  have n13 : isOwn sv = true → isOwn sx = true → v ≠ t := fun o1 o2 z => by
    obtain ⟨b1, o1', eb1, q1, n1, _, _⟩ := rpo_ref r1 o1
    obtain ⟨b2, o2', eb2, _, _, q3, _⟩ := rpo_ref R3 o2
    rw [z, eb2] at eb1
    cases eb1
    have := f12 _ _ q1 n1
    rw [this] at q3; cases q3
  have n23 : isOwn sw = true → isOwn sx = true → u ≠ t := fun o1 o2 z => by
    obtain ⟨b1, o1', eb1, q1, n1, _, _⟩ := rpo_ref r2 o1
    obtain ⟨b2, o2', eb2, _, _, q3, _⟩ := rpo_ref R3 o2
    rw [z, eb2] at eb1
    cases eb1
    rw [q1] at q3; cases q3
  obtain ⟨F4, ev4, s4⟩ := ev.put3 (s1.trans (s2.trans s3)) e3g (f1.trans (f12.trans f23)) li lj ll R1 (R2.back f1) (R3.back (f1.trans f12)) n12 n13 n23
  exact ⟨v, u, t, rfl, g.nx _ H3 F4 _ ev4 s4 q3⟩
end
end DL
set_option maxHeartbeats 4000000
namespace DL
open PySem PySem.Spec PyProof.Rows L2

section
variable {K : PySem.W.Frag} {G : Gc} {H0 F0 F H : Hp} {σ : St} {ρ : En}
/-- a slot's own object is changed -/
theorem Ev.chgS (e : Ev K G H0 F0 F H σ ρ) {i : Nat} {sv sv' : SV} {a : Addr} {o : HO} (q : ρ[i]? = some (some sv)) (hw : isOwn sv = true) (ha : σ[i]? = some (some (.ref a))) (r : RpS K G F (upd H a o) (.ref a) sv') (n : ¬ G.R a) :
    Ev K G H0 F0 F (upd H a o) σ (ρ.set i (some sv')) := by
  have hi : i < ρ.length := (List.getElem?_eq_some_iff.mp q).1
  obtain ⟨nF, n0⟩ := e.own i _ a q hw ha
  have hx : ExtK H (upd H a o) := by
    obtain ⟨v, h1, h2⟩ := e.r.slot i _ q
    rw [ha] at h1; cases h1
    cases sv with
    | fz d => cases hw
    | ow xs =>
      obtain ⟨b, vs, eb, h3, _⟩ := h2
      cases eb
      exact extK_at h3 fun φ z => nomatch z
    | od t kds =>
      obtain ⟨b, vs, eb, h3, _⟩ := h2
      cases eb
      exact extK_at h3 (odO_ext t vs)
  have fr : ∀ b u, H b = some u → b ≠ a → (upd H a o) b = some u := fun b u h ne => by rw [upd_ne ne]; exact h
  refine ⟨⟨fun b u h => fr b u (e.r.sub _ _ h) (fun z => by rw [z, nF] at h; cases h), e.r.res, G.st _ _ e.r.wd (fun b rb => upd_ne (fun z => n (z ▸ rb))) hx, fun j sw z => ?_, by rw [List.length_set]; exact e.len⟩, e.f0, fun b u h nb => fr b u (e.fr b u h nb) (fun z => by rw [z, n0] at h; cases h), fun j sw b z ho hb => ?_, fun j k s1 s2 b ne z1 o1 z2 o2 b1 b2 => ?_⟩
  · rcases set_get z with ⟨rfl, zz⟩ | ⟨ne, z⟩
    · cases zz; exact ⟨_, ha, r⟩
    · obtain ⟨v, h1, h2⟩ := e.r.slot j sw z
      refine ⟨v, h1, ?_⟩
      cases sw with
      | fz d => exact h2
      | ow zs =>
        obtain ⟨b, vs, rfl, z1, z2, z3⟩ := h2
        exact ⟨b, vs, rfl, fr b _ z1 (fun z' => e.apart i j _ _ _ ne q hw z rfl ha (z' ▸ h1)), z2, z3⟩
      | od t kds =>
        obtain ⟨b, vs, rfl, z1, z0, z2, z3⟩ := h2
        exact ⟨b, vs, rfl, fr b _ z1 (fun z' => e.apart i j _ _ _ ne q hw z rfl ha (z' ▸ h1)), z0, z2, z3⟩
  · rcases set_get z with ⟨rfl, zz⟩ | ⟨ne, z⟩
    · rw [ha] at hb
      cases hb
      exact ⟨nF, n0⟩
    · exact e.own j sw b z ho hb
  · have back : ∀ {j s}, (ρ.set i (some sv'))[j]? = some (some s) → isOwn s = true → ∃ s', ρ[j]? = some (some s') ∧ isOwn s' = true := fun {j s} z ho => by
      rcases set_get z with ⟨rfl, z⟩ | ⟨ne, z⟩
      · exact ⟨_, q, hw⟩
      · exact ⟨_, z, ho⟩
    obtain ⟨s1', z1', o1'⟩ := back z1 o1
    obtain ⟨s2', z2', o2'⟩ := back z2 o2
    exact e.apart j k s1' s2' b ne z1' o1' z2' o2' b1 b2
end
/-! ### xs.remove(k) -/
theorem erase_first : ∀ {ns : List Int} {k : Int}, k ∈ ns → ∃ j, ns[j]? = some k ∧ (∀ m : Nat, m < j → ns[m]? ≠ some k) ∧ ns.eraseIdx j = ns.erase k
  | n :: ns, k, h => by
    by_cases e : n = k
    · subst e
      exact ⟨0, rfl, fun m hm => by omega, by simp⟩
    · obtain ⟨j, h1, h2, h3⟩ := erase_first (ns := ns) (k := k) ((List.mem_cons.mp h).resolve_left (Ne.symm e))
      refine ⟨j + 1, by simpa using h1, fun m hm => ?_, ?_⟩
      · cases m with
        | zero => simp [e]
        | succ m => simpa using h2 m (by omega)
      · rw [List.eraseIdx_cons_succ, h3, List.erase_cons_tail (by simpa using e)]
section
variable {S : Sta} {e a b k : Expr} {es : List Expr} {pos spos p apos cpos : Pos} {wo : WO} {w wk : W} {wv wv2 : WV} {i : Nat} {x : Str} {r : WA}
theorem ds_remove (hk : DE S e wk) (hN : (S.N[i]? == some x) = true := by kernel_rfl) (hx : (S.names.lookup x == some .local || S.names.lookup x == some .cell || S.names.lookup x == some .free) = true := by kernel_rfl) (hd : (x == ("__debug__" : Str)) = false := by kernel_rfl) (hcd : (x == ("__classdict__" : Str)) = false := by kernel_rfl)
    (hbase : ∀ env, attributeBase (.Name x p) "remove" env (eval (.Name x p) env) = eval (.Name x p) env := by intro _; rfl)
    (hfew : ∀ env, ((backTo cpos (starEach [e] env)).all (fun x => !x.1) && (backToKw cpos (keywordEach [] env)).all (fun x => x.1.isSome) && decide ([e].length + ([] : List Keyword).length + (if ([] : List Keyword).isEmpty then 0 else 1) < 30)) = true := by intro _; rfl)
    (hline : (apos.endLine == cpos.line) = true := by kernel_rfl) (hs : ∀ env, starEach [e] env = (false, eval e env) :: starEach [] env := by intro _; rfl)
    (hsw : ∀ env, swapsWith (.Call (.Attribute (.Name x p) "remove" apos) [e] [] cpos) none spos.line env = pure false := by intro _; rfl) :
    DS S (.Expr (.Call (.Attribute (.Name x p) "remove" apos) [e] [] cpos) spos) (wRemove i wk) := fun X f => by
  have pa := pa_cons (hk X f) pa_nil (hs _)
  refine (ps_expr (pe_bm PySem.F.plainAttrs_list PySem.F.slot_list_remove PySem.F.type_list_remove mt_remove (pvN f hN hx hd hcd) pa (hbase _) (hfew _) hline (hs _) rfl) (hsw _)).imp fun D σ H ⟨G, H0, F0, F, ρ, E, ev, ⟨⟨xs0, q0⟩, hw⟩, g⟩ => ?_
  obtain ⟨a, vs0, h1, h2, _, _⟩ := ownList ev q0
  refine ⟨.ref a, h1, .inl ⟨rfl, _, .inl (.inl h2)⟩, G, F, ρ, _, ev.r, hw, fun v H' F' kd s e' fr r ⟨kk, ns, ek, q, hin, z⟩ => ?_⟩
  have ev' := ev.go s e' fr
  obtain ⟨a', vs, h1', h3, h4, h5⟩ := ownList ev' q
  rw [h1] at h1'
  cases h1'
  subst ek
  cases r
  obtain ⟨j, j1, j2, j3⟩ := erase_first hin
  refine ⟨a, ns, kk, j, rfl, rfl, by rw [h3, h4.ints], j1, j2, ?_⟩
  rw [j3]
  exact g.nx _ _ F _ (ev'.chg q h1 RpL.of_ints h5) (Same.refl _) z

/-! ### dicts -/
def kD : Key → D
  | .inl i => .int i
  | .inr x => .str x
theorem kD_rp {K : PySem.W.Frag} {F : Hp} (k : Key) : Rp K F (kV k) (kD k) := by
  cases k with
  | inl i => exact .int i
  | inr x => exact .str x
theorem kD_of {K : PySem.W.Frag} {F : Hp} {v : V} {k : Key} (r : Rp K F v (kD k)) : v = kV k := by
  cases k with
  | inl i => exact r.intI
  | inr x => exact r.strI
theorem kDs_of {K : PySem.W.Frag} {F : Hp} : ∀ {ks : List Key} {vs : List V}, RpL K F vs (ks.map kD) → vs = ks.map kV
  | [], vs, r => by cases r; rfl
  | k :: ks, vs, r => by
    cases r with
    | cons h t => rw [kD_of h, kDs_of t]; rfl
theorem kDs_rp {K : PySem.W.Frag} {F : Hp} : ∀ (ks : List Key), RpL K F (ks.map kV) (ks.map kD)
  | [] => .nil
  | k :: ks => .cons (kD_rp k) (kDs_rp ks)
def woDnew : WO := fun _ _ Q => Q (.od true [])
def wDnew : W := fun _ _ Q => Q (.dic false [])
theorem do_dnew : DO S (.Dict [] [] pos) woDnew := fun X f => pe_dnewT.imp fun σ H Q ⟨G, F, ρ, Qd, ev, hw, hq⟩ p hp =>
  hq _ _ F (.od true []) (Same.refl _) (ev.liveO hp) (Fr.upd hp) ⟨p, [], rfl, upd_same, rfl, .nil, ev.nr hp, hp, ev.fnone hp⟩ hw
theorem de_dnew : DE S (.Dict [] [] pos) wDnew := fun X f => pe_dnewK.imp fun σ H Q ⟨G, F, ρ, Qd, ev, hw, hq⟩ p hp =>
  hq _ _ _ (.dic false []) (same_upd (ev.fnone hp)) (ev.live hp) (Fr.upd hp) (.dic upd_same .nil) hw
def putD {κ : Type} [DecidableEq κ] (kds : List (κ × D)) (k : κ) (d : D) : List (κ × D) := if (kds.any fun kv => decide (kv.1 = k)) = true then kds.map (fun kv => if kv.1 = k then (kv.1, d) else kv) else kds ++ [(k, d)]
theorem putD_rp {κ : Type} [DecidableEq κ] {K : PySem.W.Frag} {F : Hp} {k : κ} {v : V} {d : D} (r : Rp K F v d) {kvs : List (κ × V)} {kds : List (κ × D)} (h1 : kvs.map (·.1) = kds.map (·.1)) (h2 : RpL K F (kvs.map (·.2)) (kds.map (·.2))) :
    (putK kvs k v).map (·.1) = (putD kds k d).map (·.1) ∧ RpL K F ((putK kvs k v).map (·.2)) ((putD kds k d).map (·.2)) := by
  have ha : ∀ (kvs : List (κ × V)) (kds : List (κ × D)), kvs.map (·.1) = kds.map (·.1) → (kvs.any fun kv => decide (kv.1 = k)) = kds.any fun kv => decide (kv.1 = k) := fun kvs kds e => by
    have e1 : (kvs.any fun kv => decide (kv.1 = k)) = (kvs.map (·.1)).any fun z => decide (z = k) := by rw [List.any_map]; rfl
    have e2 : (kds.any fun kv => decide (kv.1 = k)) = (kds.map (·.1)).any fun z => decide (z = k) := by rw [List.any_map]; rfl
    rw [e1, e2, e]
  have hm : ∀ (kvs : List (κ × V)) (kds : List (κ × D)), kvs.map (·.1) = kds.map (·.1) → RpL K F (kvs.map (·.2)) (kds.map (·.2)) →
      (kvs.map (fun kv => if kv.1 = k then (kv.1, v) else kv)).map (·.1) = (kds.map (fun kv => if kv.1 = k then (kv.1, d) else kv)).map (·.1) ∧ RpL K F ((kvs.map (fun kv => if kv.1 = k then (kv.1, v) else kv)).map (·.2)) ((kds.map (fun kv => if kv.1 = k then (kv.1, d) else kv)).map (·.2)) := fun kvs => by
    induction kvs with
    | nil => intro kds e _; cases kds with
      | nil => exact ⟨rfl, .nil⟩
      | cons _ _ => cases e
    | cons p ps ih =>
      intro kds e rr
      cases kds with
      | nil => cases e
      | cons q qs =>
        rw [List.map_cons, List.map_cons] at e
        rw [List.map_cons, List.map_cons] at rr
        obtain ⟨e1, e2⟩ := List.cons.inj e
        cases rr with
        | cons rh rt =>
          obtain ⟨i1, i2⟩ := ih qs e2 rt
          simp only [List.map_cons]
          by_cases c : p.1 = k
          · have c' : q.1 = k := by rw [← e1]; exact c
            rw [if_pos c, if_pos c']
            exact ⟨by rw [i1, e1], .cons r i2⟩
          · have c' : ¬ q.1 = k := by rw [← e1]; exact c
            rw [if_neg c, if_neg c']
            exact ⟨by rw [i1, e1], .cons rh i2⟩
  unfold putK putD
  rw [ha kvs kds h1]
  by_cases c : (kds.any fun kv => decide (kv.1 = k)) = true
  · rw [if_pos c, if_pos c]
    exact hm kvs kds h1 h2
  · rw [if_neg c, if_neg c, List.map_append, List.map_append, List.map_append, List.map_append, h1]
    exact ⟨rfl, h2.append (.cons r .nil)⟩
def wStoreT (i : Nat) (r : WA) (wv : WV) : WS := fun G E ρ => wv G ρ fun d ρ' => (∃ kds, ρ'[i]? = some (some (.od true kds))) ∧ r G ρ' fun ds => ∃ (ks : List Key) (kds : List (List Key × D)), ds = ks.map kD ∧ ks.length ≤ sizeLine ∧ ρ'[i]? = some (some (.od true kds)) ∧ kds.length < sizeLine ∧ E.nx (ρ'.set i (some (.od true (putD kds ks d))))
theorem ownDict {K : PySem.W.Frag} {G : Gc} {H0 F0 F H : Hp} {σ : St} {ρ : En} {i : Nat} (ev : Ev K G H0 F0 F H σ ρ) {kds : List (List Key × D)} (q : ρ[i]? = some (some (.od true kds))) : ∃ a kvs, σ[i]? = some (some (.ref a)) ∧ H a = some (.dT kvs) ∧ kvs.map (·.1) = kds.map (·.1) ∧ RpL K F (kvs.map (·.2)) (kds.map (·.2)) ∧ ¬ G.R a := by
  obtain ⟨v, h1, a, vs, rfl, h2, h3, h4, h5⟩ := ev.r.slot i _ q
  exact ⟨a, vs, h1, h2, h3, h4, h5⟩
theorem ds_storeT {kk : Nat} {kpos tpos : Pos} (hv : DV S e wv) (hk : DA S es r) (hN : (S.N[i]? == some x) = true := by kernel_rfl) (hx : (S.names.lookup x == some .local || S.names.lookup x == some .cell || S.names.lookup x == some .free) = true := by kernel_rfl) (hd : (x == ("__debug__" : Str)) = false := by kernel_rfl) (hcd : (x == ("__classdict__" : Str)) = false := by kernel_rfl)
    (ha : ∀ env v, assign (.Subscript (.Name x p) (.Tuple es kk kpos) tpos) env v = (do
      let ov ← holding [v] (eval (.Name x p) env)
      let iv ← holding [v, ov] (eval (.Tuple es kk kpos) env)
      standAt tpos
      holding [v, ov, iv] (setItem ov iv v)
      release [v, ov, iv] []) := by intro _ _; rfl)
    (hs : ∀ env, swapsWithSole [.Subscript (.Name x p) (.Tuple es kk kpos) tpos] e pos.line env = pure false := by intro _; rfl) (hw : ∀ env, swappedStores [.Subscript (.Name x p) (.Tuple es kk kpos) tpos] e env = pure none := by intro _; rfl) (h1 : ∀ env, (assignEach [.Subscript (.Name x p) (.Tuple es kk kpos) tpos] env).map (·.2) = [assign (.Subscript (.Name x p) (.Tuple es kk kpos) tpos) env] := by intro _; rfl) :
    DS S (.Assign [.Subscript (.Name x p) (.Tuple es kk kpos) tpos] e pos) (wStoreT i r wv) := fun X f => by
  refine (ps_asg (hv X f) (pg_sub (pvN f hN hx hd hcd) (pe_tup (hk X f)) (set_dict (by have := f.room.un; omega)) (ha _)) (hs _) (hw _) (h1 _)).imp fun D σ H ⟨G, H0, F0, F, ρ, E, ev, hw, g⟩ => ?_
  refine ⟨G, H0, F0, F, ρ, _, ev, hw, fun v H1 F1 d ρ1 ev1 s1 r1 ⟨⟨kds0, q0⟩, hw2⟩ => ?_⟩
  obtain ⟨a, vs0, hu, h2, _, _, _⟩ := ownDict ev1 q0
  refine ⟨.ref a, hu, G, F1, ρ1, _, ev1.r, hw2, fun us H2 F2 ds s2 e2 fr2 rl ⟨ks, kds, ed, hlen, q, hz, z⟩ => ?_⟩
  subst ed
  have ev2 := ev1.go s2 e2 fr2
  obtain ⟨a', kvs, h1', h3, h4, h5, h6⟩ := ownDict ev2 q
  rw [hu] at h1'
  cases h1'
  have eu := kDs_of rl
  subst eu
  refine ⟨by rw [List.length_map]; exact hlen, fun t ht => ?_⟩
  have ne : a ≠ t := ne_of_none h3 ht
  have hl : kvs.length = kds.length := by
    have := congrArg List.length h4
    simpa using this
  refine ⟨a, _, rfl, DPut.t (kvs := kvs) (k := ks) (by rw [upd_ne ne]; exact h3) upd_same (by rw [hl]; exact hz), ?_⟩
  have ev3 := ev2.live (o := .tup (ks.map kV)) ht
  obtain ⟨p1, p2⟩ := putD_rp (k := ks) (r1.mono (same_upd (ev2.r.fnone ht))) h4 (h5.mono (same_upd (ev2.r.fnone ht)))
  have ev4 := ev3.chgS (sv' := .od true (putD kds ks d)) (o := .dT (putK kvs ks v)) q rfl hu ⟨a, putK kvs ks v, rfl, upd_same, p1, p2, h6⟩ h6
  exact g.nx _ _ _ _ ev4 (s1.trans (same_upd (ev2.r.fnone ht))) z
end
end DL
set_option maxHeartbeats 4000000
namespace DL
open PySem PySem.Spec PyProof.Rows L2

/-! ### list(d), the keys are tuples -/
section
variable {K : PySem.W.Frag} {G : Gc} {F H : Hp} {σ : St} {ρ : En}
theorem EvR.seeT : ∀ (bs : List Addr) {F : Hp}, EvR K G F H σ ρ → (∀ b ∈ bs, ∃ xs, H b = some (.tup xs)) → ∃ F', Same F F' ∧ EvR K G F' H σ ρ ∧ ∀ b ∈ bs, F' b = H b
  | [], F, e, _ => ⟨F, Same.refl _, e, fun _ h => by cases h⟩
  | b :: bs, F, e, h => by
    obtain ⟨xs, hb⟩ := h b List.mem_cons_self
    obtain ⟨e1, s1⟩ := e.see hb fun r => G.nt _ _ _ e.wd r hb
    obtain ⟨F', s2, e2, k⟩ := EvR.seeT bs e1 fun c hc => h c (List.mem_cons_of_mem _ hc)
    refine ⟨F', s1.trans s2, e2, fun c hc => ?_⟩
    rcases List.mem_cons.mp hc with e | hc
    · rw [e, s2 _ _ (upd_same (a := b)), hb]
    · exact k c hc
end
def keyT (k : List Key) : D := .tup (k.map kD)
def woListD (i : Nat) : WO := fun _ ρ Q => ∃ kds : List (List Key × D), ρ[i]? = some (some (.od true kds)) ∧ Q (.ow (kds.map fun kv => keyT kv.1))
theorem keys_rpl {K : PySem.W.Frag} {F H : Hp} : ∀ {kvs : List (List Key × V)} {bs : List Addr}, IsKeys H kvs bs → (∀ b ∈ bs, F b = H b) → RpL K F (bs.map V.ref) (kvs.map fun kv => keyT kv.1)
  | _, _, .nil, _ => .nil
  | _, _, .cons h t, k => .cons (.tup (SqT.of ((k _ List.mem_cons_self).trans h)) (kDs_rp _)) (keys_rpl t fun b hb => k b (List.mem_cons_of_mem _ hb))
theorem keys_all {H : Hp} : ∀ {kvs : List (List Key × V)} {bs : List Addr}, IsKeys H kvs bs → ∀ b ∈ bs, ∃ xs, H b = some (.tup xs)
  | _, _, .nil, _, h => by cases h
  | _, _, .cons h t, b, hb => by
    rcases List.mem_cons.mp hb with e | hb
    · rw [e]; exact ⟨_, h⟩
    · exact keys_all t b hb
theorem keys_upd {H : Hp} {p : Addr} {o : HO} (hp : H p = none) : ∀ {kvs : List (List Key × V)} {bs : List Addr}, IsKeys H kvs bs → ∀ b ∈ bs, b ≠ p := fun h b hb e => by
  obtain ⟨xs, q⟩ := keys_all h b hb
  rw [e, hp] at q; cases q
section
variable {S : Sta} {a b e : Expr} {p p2 pos : Pos} {x : Str} {i : Nat} {w wa wb : W}
theorem do_listD (hm : S.mg "list" = none) (hN : (S.N[i]? == some x) = true := by kernel_rfl) (hx : (S.names.lookup x == some .local || S.names.lookup x == some .cell || S.names.lookup x == some .free) = true := by kernel_rfl) (hd : (x == ("__debug__" : Str)) = false := by kernel_rfl) (hcd : (x == ("__classdict__" : Str)) = false := by kernel_rfl)
    (hg : (S.names.lookup ("list" : Str) == some .globalImplicit) = true := by kernel_rfl) (hs : ∀ env, starEach [.Name x p2] env = (false, eval (.Name x p2) env) :: starEach [] env := by intro _; rfl) : DO S (.Call (.Name "list" p) [.Name x p2] [] pos) (woListD i) := fun X f => by
  refine (pe_callTy (call_list_dT f.calm) (glOf f hg) (by rw [f.mg]; exact hm) (by decide +kernel) (pa_cons (pvN f hN hx hd hcd) pa_nil (hs _)) (by decide) (by decide) (hs _) rfl).imp fun σ H Q ⟨G, F, ρ, Qd, ev, ⟨kds, q, hw⟩, hq⟩ => ?_
  obtain ⟨v, h1, a, kvs, rfl, h2, h3, h4, h5⟩ := ev.slot i _ q
  refine ⟨.ref a, h1, a, kvs, rfl, .inl h2, fun t bs ht hk => ?_⟩
  obtain ⟨F', s1, e1, k1⟩ := EvR.seeT bs ev (keys_all hk)
  have em : kds.map (fun kv => keyT kv.1) = kvs.map fun kv => keyT kv.1 := by
    have m1 : (kds.map fun kv => keyT kv.1) = (kds.map (·.1)).map keyT := by rw [List.map_map]; rfl
    have m2 : (kvs.map fun kv => keyT kv.1) = (kvs.map (·.1)).map keyT := by rw [List.map_map]; rfl
    rw [m1, m2, h3]
  rw [em] at hw
  exact e1.newL ht (keys_rpl hk k1) hw fun v H' F2 sv s2 e2 f2 r2 q2 => hq v H' F2 sv (s1.trans s2) e2 f2 r2 q2

/-! ### {k: v} -/
def wDisp1 (k : Key) (w : W) : W := fun G ρ Q => ∀ G', GExt G G' → w G' ρ fun d => Q (.dic false [([k], d)])
theorem de_disp1 {k : Key} {kx v : Expr} (hk : ∀ X, Fam S X → PE X kx (tC (kV k))) (h : DE S v w) : DE S (.Dict [some kx] [v] pos) (wDisp1 k w) := fun X f => by
  refine (pe_disp (pps_cons (hk X f) (h X f) pps_nil) rfl rfl (by simp) (by simp)).imp fun σ H Q ⟨G, F, ρ, Qd, ev, hw, hq⟩ p hp => ?_
  have e1 := ev.liveO (o := .dK []) hp
  have nS : ∀ (j : Nat) (sv : SV), ρ[j]? = some (some sv) → isOwn sv = true → σ[j]? ≠ some (some (.ref p)) := fun j sv q ho z => by
    obtain ⟨o, q1, _⟩ := ev.ownAt q ho z
    rw [hp] at q1; cases q1
  have e2 := evr_more e1 upd_same rfl (ev.fnone hp) nS
  refine ⟨G.more p (.dK []), F, ρ, _, e2, hw _ (G.more_ext p _ (ev.nr hp)), fun v H2 F2 d s2 e3 f2 r2 q2 => ?_⟩
  have h2 := e3.wd.2.1
  refine ⟨h2, [(k, v)], rfl, by simp, ?_⟩
  have nF2 := e3.res p (.inr rfl)
  have e4 := evr_less e3
  -- the dict stands for good from here on
  have fr2 : Fr G H H2 := fun b o hb nb => by
    have ne : b ≠ p := ne_of_none hb hp
    exact f2 b o (by rw [upd_ne ne]; exact hb) fun r => r.elim nb ne
  have e5 : EvR S.K G (upd F2 p (.dK [(k, v)])) (upd H2 p (.dK [(k, v)])) σ ρ := by
    refine ⟨fun b x q => ?_, fun b r => ?_, G.st _ _ e4.wd (fun b r => upd_ne fun z => ev.nr hp (by rw [← z]; exact r)) (extK_at h2 fun φ z => nomatch z), fun j sv q => ?_, e4.len⟩
    · by_cases hb : b = p
      · subst hb; rw [upd_same] at q ⊢; exact q
      · rw [upd_ne hb] at q ⊢; exact e4.sub _ _ q
    · rw [upd_ne (fun z => ev.nr hp (by rw [← z]; exact r))]; exact e4.res b r
    · obtain ⟨u, h1, h2⟩ := e4.slot j sv q
      refine ⟨u, h1, ?_⟩
      cases sv with
      | fz d => exact Rp.mono (same_upd nF2) h2
      | ow xs =>
        obtain ⟨b, vs, rfl, z1, z2, z3⟩ := h2
        exact ⟨b, vs, rfl, (upd_ne (show b ≠ p from fun z => nS j _ q rfl (by rw [← z]; exact h1))).trans z1, z2.mono (same_upd nF2), z3⟩
      | od t kds =>
        obtain ⟨b, vs, rfl, z1, z0, z2, z3⟩ := h2
        exact ⟨b, vs, rfl, (upd_ne (show b ≠ p from fun z => nS j _ q rfl (by rw [← z]; exact h1))).trans z1, z0, z2.mono (same_upd nF2), z3⟩
  have em : mergeK [] [(k, v)] = [(k, v)] := by simp [mergeK, putK]
  rw [em]
  exact hq _ _ _ (.dic false [([k], d)]) (s2.trans (same_upd nF2)) e5 (fun b o hb nb => by rw [upd_ne (ne_of_none hb hp)]; exact fr2 b o hb nb) (.dic upd_same (.cons (r2.mono (same_upd nF2)) .nil)) q2

/-! ### x == (), x any tuple -/
def rEq0 (K : PySem.W.Frag) : R2 := fun x y H Q => ∃ a b xs, x = .ref a ∧ y = .ref b ∧ SqT K H a xs ∧ SqT K H b [] ∧ Q (.bl xs.isEmpty) H
theorem op_eq0 {X : Cx} (hu : X.A.units < cLine) : OpR X (compareOp .Eq) (rEq0 X.K) := by
  intro pins s σ H x y v u Q I rx ry ⟨a, b, xs, e1, e2, ha, hb, q⟩
  subst e1 e2
  cases rx
  cases ry
  obtain ⟨its, r1, p1, _⟩ := I.tuple ha
  obtain ⟨its2, r2, p2, _⟩ := I.tuple hb
  cases r2
  refine SeqAt.eq_tupleAt (e := fun _ => true) p1 p2 hu (fun j h1 h2 => absurd h2 (by simp)) ⟨.bl xs.isEmpty, H, I, ?_, q⟩
  show Value.bool _ = Value.bool _
  cases r1 with
  | nil => rfl
  | cons _ _ => simp
def oEq0 : D → D → (D → Prop) → Prop := fun x y Q => ∃ xs, tupsOf x = some xs ∧ y = .tup [] ∧ Q (.bl xs.isEmpty)
theorem cm_eq0 : CmpR S .Eq (rEq0 S.K) oEq0 := ⟨fun X f => f.K ▸ op_eq0 (by have := f.room.un; omega), fun G F σ H ρ v1 d1 v2 d2 Qd Q ev r1 r2 ⟨xs, e1, e2, hQ⟩ hq => by
  subst e2
  obtain ⟨a, vs, rfl, h1, l1, _⟩ := rp_tupsH ev.sub r1 e1
  obtain ⟨b, us, rfl, h2, l2⟩ := rp_tupH ev.sub r2
  cases l2
  have ee : xs.isEmpty = vs.isEmpty := by cases l1 <;> rfl
  rw [ee] at hQ
  exact ⟨a, b, vs, rfl, rfl, h1, h2, hq _ H F _ (Same.refl _) ev Fr.refl (.bl _) hQ⟩⟩
end
end DL
set_option maxHeartbeats 4000000
namespace DL
open PySem PySem.Spec PyProof.Rows L2

/-! ### what the generator writes -/
def wExpr (w : W) : WS := fun G E ρ => w G ρ fun _ => E.nx ρ
section
variable {S : Sta} {a b c d e : Expr} {pos p : Pos} {w wa wb wc wd : W} {wo1 wo2 wo3 : WO} {i j l : Nat} {x y z : Str}
theorem de_nm (hN : (S.N[i]? == some x) = true := by kernel_rfl) (hv : (S.names.lookup x == some .local || S.names.lookup x == some .cell || S.names.lookup x == some .free) = true := by kernel_rfl)
    (hd : (x == ("__debug__" : Str)) = false := by kernel_rfl) (hcd : (x == ("__classdict__" : Str)) = false := by kernel_rfl) : DE S (.Name x p) (wVar i) := by
  refine de_var (beq_iff_eq.mp hN) ?_ hd hcd
  rcases Bool.or_eq_true_iff.mp hv with h | h
  · rcases Bool.or_eq_true_iff.mp h with h | h
    · exact .inl (beq_iff_eq.mp h)
    · exact .inr (.inl (beq_iff_eq.mp h))
  · exact .inr (.inr (beq_iff_eq.mp h))
theorem de_gi {k : Int} (hm : ∃ t, S.mg x = some (.int k t)) (hg : (S.names.lookup x == some .globalImplicit) = true := by kernel_rfl) (hd : (x == ("__debug__" : Str)) = false := by kernel_rfl) : DE S (.Name x p) (wC (.int k)) := de_gint (beq_iff_eq.mp hg) hm hd

/-! ### a < b of tuples of ints -/
def oLtT : D → D → (D → Prop) → Prop := fun x y Q => ∃ ns ms : List Int, tupsOf x = some (ns.map .int) ∧ tupsOf y = some (ms.map .int) ∧ Q (.bl (HT.lexLt ns ms))
theorem cm_ltT : CmpR S .Lt (rLtT S.K) oLtT := ⟨fun X f => f.K ▸ op_ltT (by have := f.room.un; omega), fun G F σ H ρ v1 d1 v2 d2 Qd Q ev r1 r2 ⟨ns, ms, e1, e2, hQ⟩ hq => by
  obtain ⟨a, vs, rfl, h1, l1, _⟩ := rp_tupsH ev.sub r1 e1
  obtain ⟨b, us, rfl, h2, l2, _⟩ := rp_tupsH ev.sub r2 e2
  exact ⟨a, b, ns, ms, rfl, rfl, l1.ints ▸ h1, l2.ints ▸ h2, hq _ H F _ (Same.refl _) ev Fr.refl (.bl _) hQ⟩⟩

/-! ### a op b op c op d -/
variable {op1 op2 op3 : CmpOp} {r1 r2 r3 : R2} {o1 o2 o3 : D → D → (D → Prop) → Prop}
def tChain3 (r1 r2 r3 : R2) (ta tb tc td : TE) : TE := fun σ H Q => ta σ H fun x H1 => tb σ H1 fun y H2 => r1 x y H2 fun z H3 => ∃ k, z = .bl k ∧
  (if k = true then tc σ H3 fun u H4 => r2 y u H4 fun z2 H5 => ∃ k2, z2 = .bl k2 ∧ (if k2 = true then td σ H5 fun v H6 => r3 u v H6 Q else Q (.bl false) H5) else Q (.bl false) H3)
theorem pt_chain3 {X : Cx} {ta tb tc td : TE} (h1 : OpR X (compareOp op1) r1) (h2 : OpR X (compareOp op2) r2) (h3 : OpR X (compareOp op3) r3) (ha : PE X a ta) (hb : PE X b tb) (hc : PE X c tc) (hd : PE X d td)
    (hm : lastMarks [op1, op2, op3] [b, c, d] = false) : PT X (.Compare a [op1, op2, op3] [b, c, d] pos) (tTest (tChain3 r1 r2 r3 ta tb tc td)) := by
  refine ⟨fun pins s σ H Q I h => ?_⟩
  refine isTrue_chain (thn (ha.run pins s σ H _ I h) fun v s1 ⟨x, H1, I1, rx, q1⟩ => test_link (thn (hb.run pins s1 σ H1 _ I1 q1) fun u s2 ⟨y, H2, I2, ry, q2⟩ =>
    thn (h1 pins s2 σ H2 x y v u _ I2 rx ry q2) fun t s3 ⟨z, H3, I3, rz, k, e, q3⟩ => ?_)) hm
  subst e
  cases rz
  refine wpAny_truthy_bool ?_
  cases k with
  | false =>
    obtain ⟨k', e', q'⟩ := q3
    cases e'
    exact ite_ff ⟨H3, I3, q'⟩
  | true =>
    refine ite_tt (test_link (thn (hc.run pins s3 σ H3 _ I3 q3) fun u2 s4 ⟨y2, H4, I4, ry2, q4⟩ => thn (h2 pins s4 σ H4 y y2 u u2 _ I4 ry ry2 q4) fun t2 s5 ⟨z2, H5, I5, rz2, k2, e2, q5⟩ => ?_))
    subst e2
    cases rz2
    refine wpAny_truthy_bool ?_
    cases k2 with
    | false =>
      obtain ⟨k', e', q'⟩ := q5
      cases e'
      exact ite_ff ⟨H5, I5, q'⟩
    | true =>
      refine ite_tt (test_last (thn (hd.run pins s5 σ H5 _ I5 q5) fun u3 s6 ⟨y3, H6, I6, ry3, q6⟩ => thn (h3 pins s6 σ H6 y2 y3 u2 u3 _ I6 ry2 ry3 q6) fun t3 s7 ⟨z3, H7, I7, rz3, k3, e3, q7⟩ => ?_))
      subst e3
      cases rz3
      exact wpAny_truthy_bool ⟨H7, I7, q7⟩
def wChain3 (o1 o2 o3 : D → D → (D → Prop) → Prop) (wa wb wc wd : W) : W := fun G ρ Q => wa G ρ fun x => wb G ρ fun y => o1 x y fun z => ∃ k, z = .bl k ∧ if k = true then wc G ρ fun u => o2 y u fun z2 => ∃ k2, z2 = .bl k2 ∧ if k2 = true then wd G ρ fun v => o3 u v Q else Q (.bl false) else Q (.bl false)
theorem dt_chain3 (h1 : CmpR S op1 r1 o1) (h2 : CmpR S op2 r2 o2) (h3 : CmpR S op3 r3 o3) (ha : DE S a wa) (hb : DE S b wb) (hc : DE S c wc) (hd : DE S d wd) (hm : lastMarks [op1, op2, op3] [b, c, d] = false := by with_unfolding_all rfl) :
    DT S (.Compare a [op1, op2, op3] [b, c, d] pos) (wtV (wChain3 o1 o2 o3 wa wb wc wd)) := fun X f =>
  (pt_chain3 (h1.1 X f) (h2.1 X f) (h3.1 X f) (ha X f) (hb X f) (hc X f) (hd X f) hm).imp fun σ H Q ⟨G, F, ρ, Qd, ev, hw, hq⟩ =>
  ⟨G, F, ρ, _, ev, hw, fun v1 H1 F1 d1 s1 e1 f1 p1 q1 => ⟨G, F1, ρ, _, e1, q1, fun v2 H2 F2 d2 s2 e2 f2 p2 q2 =>
    h1.2 G F2 σ H2 ρ v1 d1 v2 d2 _ _ e2 (p1.mono s2) p2 q2 fun v3 H3 F3 d3 s3 e3 f3 p3 ⟨k, ek, q3⟩ => by
      subst ek
      cases p3
      refine ⟨k, rfl, ?_⟩
      cases k with
      | true =>
        refine iteT ⟨G, F3, ρ, _, e3, (by rw [if_pos rfl] at q3; exact q3), fun v4 H4 F4 d4 s4 e4 f4 p4 q4 => ?_⟩
        refine h2.2 G F4 σ H4 ρ v2 d2 v4 d4 _ _ e4 (p2.mono (s3.trans s4)) p4 q4 fun v5 H5 F5 d5 s5 e5 f5 p5 ⟨k2, ek2, q5⟩ => ?_
        subst ek2
        cases p5
        refine ⟨k2, rfl, ?_⟩
        have S5 := s1.trans (s2.trans (s3.trans (s4.trans s5)))
        have R5 := f1.trans (f2.trans (f3.trans (f4.trans f5)))
        cases k2 with
        | true =>
          refine iteT ⟨G, F5, ρ, _, e5, (by rw [if_pos rfl] at q5; exact q5), fun v6 H6 F6 d6 s6 e6 f6 p6 q6 => ?_⟩
          exact h3.2 G F6 σ H6 ρ v4 d4 v6 d6 _ _ e6 (p4.mono (s5.trans s6)) p6 q6 fun v H' F' d' s7 e7 f7 p7 ⟨k3, ek3, q7⟩ => by
            subst ek3
            cases p7
            exact ⟨k3, rfl, hq k3 H' F' (S5.trans (s6.trans s7)) e7 (R5.trans (f6.trans f7)) q7⟩
        | false =>
          rw [if_neg Bool.false_ne_true] at q5
          obtain ⟨k', e', q'⟩ := q5
          cases e'
          exact iteF ⟨false, rfl, hq false H5 F5 S5 e5 R5 q'⟩
      | false =>
        rw [if_neg Bool.false_ne_true] at q3
        obtain ⟨k', e', q'⟩ := q3
        cases e'
        exact iteF ⟨false, rfl, hq false H3 F3 (s1.trans (s2.trans s3)) e3 (f1.trans (f2.trans f3)) q'⟩⟩⟩

end
end DL
set_option maxHeartbeats 4000000
namespace DL
open PySem PySem.Spec PyProof.Rows L2

/-! ### the stores of names of which some are cells are not exchanged -/
theorem swapN2 {a b : Expr} {x y : Str} {px py pt pt2 : Pos} {kt k2 : Nat} (env : Env) (hk : env.scope.kind = .function) (h : env.scope.names.lookup x = some .cell ∨ env.scope.names.lookup y = some .cell) :
    swappedStores [.Tuple [.Name x px, .Name y py] kt pt] (.Tuple [a, b] k2 pt2) env = pure none := by
  have hb : env.blockKind = .function := by unfold Env.blockKind; rw [hk]; rfl
  have kx : env.kindOf x = env.scope.names.lookup x := rfl
  have ky : env.kindOf y = env.scope.names.lookup y := rfl
  unfold swappedStores
  simp only [hb, kx, ky, List.length_cons, List.length_nil, List.filterMap_cons, List.filterMap_nil]
  rcases h with h | h <;> simp [h] <;> intro _ _ hl <;> exfalso <;> revert hl <;> split <;> simp
theorem swapN3 {a b c : Expr} {x y z : Str} {px py pz pt pt2 : Pos} {kt k2 : Nat} (env : Env) (hk : env.scope.kind = .function) (h : env.scope.names.lookup x = some .cell ∨ env.scope.names.lookup y = some .cell ∨ env.scope.names.lookup z = some .cell) :
    swappedStores [.Tuple [.Name x px, .Name y py, .Name z pz] kt pt] (.Tuple [a, b, c] k2 pt2) env = pure none := by
  have hb : env.blockKind = .function := by unfold Env.blockKind; rw [hk]; rfl
  have kx : env.kindOf x = env.scope.names.lookup x := rfl
  have ky : env.kindOf y = env.scope.names.lookup y := rfl
  have kz : env.kindOf z = env.scope.names.lookup z := rfl
  unfold swappedStores
  simp only [hb, kx, ky, kz, List.length_cons, List.length_nil, List.filterMap_cons, List.filterMap_nil]
  rcases h with h | h | h <;> simp [h] <;> intro _ _ _ hl <;> exfalso <;> revert hl <;> split <;> (try split) <;> simp
/-! ### a, b, c = e1, e2, e3 with names of which some are cells -/
section
variable {S : Sta} {a b c d e : Expr} {pos p : Pos} {w wa wb wc wd : W} {wo1 wo2 wo3 : WO} {i j l : Nat} {x y z : Str}
theorem ds_parT2 {px py pt : Pos} {kt k2 pt2} (h1 : DO S a wo1) (h2 : DO S b wo2) (nd : S.N.Nodup) (hi : (S.N[i]? == some x) = true := by kernel_rfl) (hj : (S.N[j]? == some y) = true := by kernel_rfl) (hij : (i == j) = false := by kernel_rfl)
    (hx : (S.names.lookup x == some .local || (S.names.lookup x == some .cell && S.fc x)) = true := by kernel_rfl) (hy : (S.names.lookup y == some .local || (S.names.lookup y == some .cell && S.fc y)) = true := by kernel_rfl)
    (hcell : (S.names.lookup x == some .cell || S.names.lookup y == some .cell) = true := by kernel_rfl)
    (hs : ∀ env, starEach (a :: [b]) env = (false, eval a env) :: starEach [b] env := by intro _; rfl) (hs2 : ∀ env, starEach (b :: []) env = (false, eval b env) :: starEach [] env := by intro _; rfl)
    (hsw : ∀ env, swapsWithSole [.Tuple [.Name x px, .Name y py] kt pt] (.Tuple [a, b] k2 pt2) pos.line env = pure false := by intro _; rfl)
    (hw : ∀ env : Env, env.scope.kind = .function → env.scope.names.lookup x = some .cell ∨ env.scope.names.lookup y = some .cell → swappedStores [.Tuple [.Name x px, .Name y py] kt pt] (.Tuple [a, b] k2 pt2) env = pure none := by exact swapN2)
    (h1' : ∀ env, (assignEach [.Tuple [.Name x px, .Name y py] kt pt] env).map (·.2) = [assign (.Tuple [.Name x px, .Name y py] kt pt) env] := by intro _; rfl) :
    DS S (.Assign [.Tuple [.Name x px, .Name y py] kt pt] (.Tuple [a, b] k2 pt2) pos) (wPar2 i j wo1 wo2) := fun X f => by
  obtain ⟨lx, lx2⟩ := locOf f hx
  obtain ⟨ly, ly2⟩ := locOf f hy
  have nij : i ≠ j := fun z => by subst z; simp at hij
  have hc' : X.env.scope.names.lookup x = some .cell ∨ X.env.scope.names.lookup y = some .cell := by
    rw [f.look]
    rcases Bool.or_eq_true_iff.mp hcell with h | h
    · exact .inl (beq_iff_eq.mp h)
    · exact .inr (beq_iff_eq.mp h)
  have nd' : X.N.Nodup := by rw [f.N]; exact nd
  have pgx : PG X (.Name x px) (gName i) := pg_name nd' (by rw [f.N]; exact beq_iff_eq.mp hi) lx lx2
  have pgy : PG X (.Name y py) (gName j) := pg_name nd' (by rw [f.N]; exact beq_iff_eq.mp hj) ly ly2
  refine (ps_asg (pe_tup (pa_cons (h1 X f) (pa_cons (h2 X f) pa_nil (hs2 _)) (hs _))) (pg_tup (n := 2) f.calm (pgs_cons pgx (pgs_cons pgy pgs_nil rfl) rfl) rfl rfl) (hsw _) (hw _ f.kind hc') (h1' _)).imp fun D σ H ⟨G, H0, F0, F, ρ, E, ev, ⟨li, lj, hw⟩, g⟩ => ?_
  refine ⟨G, F, ρ, _, ev.r, hw, fun v H1 F1 sv s1 e1 f1 r1 q1 => ?_⟩
  have ns : ∀ (k : Nat) (sx : SV), ρ[k]? = some (some sx) → isOwn sx = true → ∀ a, H a = none → σ[k]? ≠ some (some (.ref a)) := fun k sx q ho a ha => ev.ne ha k sx q ho
  refine ⟨pinO G H1 v sv, F1, ρ, _, pin_evr r1 ns e1, q1 _ (pin_ext r1), fun u H2 F2 sw s2 e2 f2 r2 q2 => ?_⟩
  obtain ⟨e2', f2', nF⟩ := pin_less r1 e2 f2
  have r2' : RpO S.K G F2 H1 H2 u sw := rpo_unpin (pin_ext r1) r2
  obtain ⟨F3, ev3, s3⟩ := ev.put2 (s1.trans s2) e2' (f1.trans f2') li lj nij (rpo_keep r1 s2 f2' nF) (r2'.back f1) (fun o1 o2 z => by
    obtain ⟨b1, o1', eb1, q1, _, _, _⟩ := rpo_ref r1 o1
    obtain ⟨b2, o2', eb2, _, _, q3, _⟩ := rpo_ref r2' o2
    rw [z, eb2] at eb1
    cases eb1
    rw [q1] at q3; cases q3)
  refine ⟨by show 2 ≤ sizeLine; decide, fun t ht => ⟨t, [v, u], rfl, SqT.of upd_same, rfl, v, [u], rfl, u, [], rfl, rfl, ?_⟩⟩
  exact g.nx _ _ F3 _ (ev3.go (Same.refl _) (ev3.r.liveO ht) (Fr.upd ht)) s3 q2
theorem ds_parT3 {px py pz pt : Pos} {kt k2 pt2} (h1 : DO S a wo1) (h2 : DO S b wo2) (h3 : DO S c wo3) (nd : S.N.Nodup) (hi : (S.N[i]? == some x) = true := by kernel_rfl) (hj : (S.N[j]? == some y) = true := by kernel_rfl) (hl : (S.N[l]? == some z) = true := by kernel_rfl) (hij : (i == j || i == l || j == l) = false := by kernel_rfl)
    (hx : (S.names.lookup x == some .local || (S.names.lookup x == some .cell && S.fc x)) = true := by kernel_rfl) (hy : (S.names.lookup y == some .local || (S.names.lookup y == some .cell && S.fc y)) = true := by kernel_rfl) (hz : (S.names.lookup z == some .local || (S.names.lookup z == some .cell && S.fc z)) = true := by kernel_rfl)
    (hcell : (S.names.lookup x == some .cell || S.names.lookup y == some .cell || S.names.lookup z == some .cell) = true := by kernel_rfl)
    (hs : ∀ env, starEach (a :: [b, c]) env = (false, eval a env) :: starEach [b, c] env := by intro _; rfl) (hs2 : ∀ env, starEach (b :: [c]) env = (false, eval b env) :: starEach [c] env := by intro _; rfl) (hs3 : ∀ env, starEach (c :: []) env = (false, eval c env) :: starEach [] env := by intro _; rfl)
    (hsw : ∀ env, swapsWithSole [.Tuple [.Name x px, .Name y py, .Name z pz] kt pt] (.Tuple [a, b, c] k2 pt2) pos.line env = pure false := by intro _; rfl)
    (hw : ∀ env : Env, env.scope.kind = .function → env.scope.names.lookup x = some .cell ∨ env.scope.names.lookup y = some .cell ∨ env.scope.names.lookup z = some .cell → swappedStores [.Tuple [.Name x px, .Name y py, .Name z pz] kt pt] (.Tuple [a, b, c] k2 pt2) env = pure none := by exact swapN3)
    (h1' : ∀ env, (assignEach [.Tuple [.Name x px, .Name y py, .Name z pz] kt pt] env).map (·.2) = [assign (.Tuple [.Name x px, .Name y py, .Name z pz] kt pt) env] := by intro _; rfl) :
    DS S (.Assign [.Tuple [.Name x px, .Name y py, .Name z pz] kt pt] (.Tuple [a, b, c] k2 pt2) pos) (wPar3 i j l wo1 wo2 wo3) := fun X f => by
  obtain ⟨lx, lx2⟩ := locOf f hx
  obtain ⟨ly, ly2⟩ := locOf f hy
  obtain ⟨lz, lz2⟩ := locOf f hz
  have hc' : X.env.scope.names.lookup x = some .cell ∨ X.env.scope.names.lookup y = some .cell ∨ X.env.scope.names.lookup z = some .cell := by
    rw [f.look]
    rcases Bool.or_eq_true_iff.mp hcell with h | h
    · rcases Bool.or_eq_true_iff.mp h with h | h
      · exact .inl (beq_iff_eq.mp h)
      · exact .inr (.inl (beq_iff_eq.mp h))
    · exact .inr (.inr (beq_iff_eq.mp h))
  have nd' : X.N.Nodup := by rw [f.N]; exact nd
  have pgx : PG X (.Name x px) (gName i) := pg_name nd' (by rw [f.N]; exact beq_iff_eq.mp hi) lx lx2
  have pgy : PG X (.Name y py) (gName j) := pg_name nd' (by rw [f.N]; exact beq_iff_eq.mp hj) ly ly2
  have pgz : PG X (.Name z pz) (gName l) := pg_name nd' (by rw [f.N]; exact beq_iff_eq.mp hl) lz lz2
  refine (ps_asg (pe_tup (pa_cons (h1 X f) (pa_cons (h2 X f) (pa_cons (h3 X f) pa_nil (hs3 _)) (hs2 _)) (hs _))) (pg_tup (n := 3) f.calm (pgs_cons pgx (pgs_cons pgy (pgs_cons pgz pgs_nil rfl) rfl) rfl) rfl rfl) (hsw _) (hw _ f.kind hc') (h1' _)).imp fun D σ H ⟨G, H0, F0, F, ρ, E, ev, ⟨li, lj, ll, hw⟩, g⟩ => ?_
  refine ⟨G, F, ρ, _, ev.r, hw, fun v H1 F1 sv s1 e1 f1 r1 q1 => ?_⟩
  have ns : ∀ (k : Nat) (sx : SV), ρ[k]? = some (some sx) → isOwn sx = true → ∀ a, H a = none → σ[k]? ≠ some (some (.ref a)) := fun k sx q ho a ha => ev.ne ha k sx q ho
  have p1 := pin_evr r1 ns e1
  have ns1 : ∀ (k : Nat) (sx : SV), ρ[k]? = some (some sx) → isOwn sx = true → ∀ a, H1 a = none → σ[k]? ≠ some (some (.ref a)) := fun k sx q ho a ha hz => by
    obtain ⟨o, q1, _⟩ := e1.ownAt q ho hz
    rw [ha] at q1; cases q1
  refine ⟨pinO G H1 v sv, F1, ρ, _, p1, q1 _ (pin_ext r1), fun u H2 F2 sw s2 e2 f2 r2 q2 => ?_⟩
  have p2 := pin_evr r2 ns1 e2
  refine ⟨pinO (pinO G H1 v sv) H2 u sw, F2, ρ, _, p2, q2 _ (pin_ext r2), fun t H3 F3 sx s3 e3 f3 r3 q3 => ?_⟩
  obtain ⟨e3', f3', nF2⟩ := pin_less r2 e3 f3
  have r3' : RpO S.K (pinO G H1 v sv) F3 H2 H3 t sx := rpo_unpin (pin_ext r2) r3
  obtain ⟨e3g, f13, nF1⟩ := pin_less r1 e3' (f2.trans f3')
  obtain ⟨e2g, f12, _⟩ := pin_less r1 e2 f2
  have f23 : Fr G H2 H3 := pin_fr r1 e2 e3' f3'
  have R1 : RpO S.K G F3 H H3 v sv := rpo_keep r1 (s2.trans s3) f13 nF1
  have R2 : RpO S.K G F3 H1 H3 u sw := rpo_keep (rpo_unpin (pin_ext r1) r2) s3 f23 nF2
  have R3 : RpO S.K G F3 H2 H3 t sx := rpo_unpin (pin_ext r1) r3'
  have n12 : isOwn sv = true → isOwn sw = true → v ≠ u := fun o1 o2 z => by
    obtain ⟨b1, o1', eb1, q1, _, _, _⟩ := rpo_ref r1 o1
    obtain ⟨b2, o2', eb2, _, _, q3, _⟩ := rpo_ref R2 o2
    rw [z, eb2] at eb1
    cases eb1
    rw [q1] at q3; cases q3
  have n13 : isOwn sv = true → isOwn sx = true → v ≠ t := fun o1 o2 z => by
    obtain ⟨b1, o1', eb1, q1, n1, _, _⟩ := rpo_ref r1 o1
    obtain ⟨b2, o2', eb2, _, _, q3, _⟩ := rpo_ref R3 o2
    rw [z, eb2] at eb1
    cases eb1
    have := f12 _ _ q1 n1
    rw [this] at q3; cases q3
  have n23 : isOwn sw = true → isOwn sx = true → u ≠ t := fun o1 o2 z => by
    obtain ⟨b1, o1', eb1, q1, n1, _, _⟩ := rpo_ref r2 o1
    obtain ⟨b2, o2', eb2, _, _, q3, _⟩ := rpo_ref R3 o2
    rw [z, eb2] at eb1
    cases eb1
    rw [q1] at q3; cases q3
  obtain ⟨F4, ev4, s4⟩ := ev.put3 (s1.trans (s2.trans s3)) e3g (f1.trans (f12.trans f23)) li lj ll R1 (R2.back f1) (R3.back (f1.trans f12)) n12 n13 n23
  refine ⟨by show 3 ≤ sizeLine; decide, fun t' ht => ⟨t', [v, u, t], rfl, SqT.of upd_same, rfl, v, [u, t], rfl, u, [t], rfl, t, [], rfl, rfl, ?_⟩⟩
  exact g.nx _ _ F4 _ (ev4.go (Same.refl _) (ev4.r.liveO ht) (Fr.upd ht)) s4 q3
end
end DL
set_option maxHeartbeats 4000000
namespace DL
open PySem PySem.Spec PyProof.Rows L2

/-! ### x = [..], x a cell -/
section
variable {S : Sta} {elt tg iter : Expr} {ifs : List Expr} {scope : Scope} {own : List (Str × Nat)} {pos : Pos} {wi : WA} {wg : WG} {wt : WT} {we : W} {is : List Nat}
theorem ds_setLcC {wo : WO} {i : Nat} {y : Str} {py spos : Pos} (he : DO S (.ListComp elt [⟨tg, iter, ifs, 0⟩] scope pos) wo) (nd : S.N.Nodup)
    (hN : (S.N[i]? == some y) = true := by kernel_rfl) (hl : (S.names.lookup y == some .cell && S.fc y) = true := by kernel_rfl) : DS S (.Assign [.Name y py] (.ListComp elt [⟨tg, iter, ifs, 0⟩] scope pos) spos) (wSet i wo) := fun X f => by
  have hl' : (S.names.lookup y == some .local || (S.names.lookup y == some .cell && S.fc y)) = true := by rw [hl, Bool.or_true]
  obtain ⟨h1, h2⟩ := locOf f hl'
  have hc : X.env.scope.names.lookup y = some .cell := by rw [f.look]; exact beq_iff_eq.mp (Bool.and_eq_true_iff.mp hl).1
  have hs : swapsWith (.ListComp elt [⟨tg, iter, ifs, 0⟩] scope pos) (some (.Name y py)) spos.line X.env = pure false := by
    have ky : X.env.kindOf y = some .cell := hc
    unfold swapsWith
    simp [ky, show (NameKind.cell == NameKind.local) = false from rfl]
  refine (ps_set (i := i) (by rw [f.N]; exact nd) (by rw [f.N]; exact beq_iff_eq.mp hN) h1 (he X f) hs h2).imp fun D σ H ⟨G, H0, F0, F, ρ, E, ev, ⟨hi, hw⟩, g⟩ => ?_
  refine ⟨G, F, ρ, _, ev.r, hw, fun v H' F' sv s e' fr r q => ?_⟩
  obtain ⟨F2, ev2, s2⟩ := ev.put s e' fr hi r
  exact g.nx _ H' F2 _ ev2 s2 q
end
end DL
set_option maxHeartbeats 4000000
namespace DL
open PySem PySem.Spec PyProof.Rows L2

/-! ### the deck of a law: a dict of a list of ints and two ints -/
def DeckAt (da ca : Addr) (H : Hp) : Prop := ∃ (m t : Int) (cs : List Int), cs.length < 100 ∧ H da = some (.dK [(.inr "cells", .ref ca), (.inr "mixed", .int m), (.inr "turn", .int t)]) ∧ H ca = some (.lst (cs.map V.int))
structure DeckIn (G : Gc) (da ca : Addr) : Prop where
  r1 : G.R da
  r2 : G.R ca
  at_ : ∀ H, G.Wd H → DeckAt da ca H
  st : ∀ H H', G.Wd H → DeckAt da ca H' → (∀ a, G.R a → a ≠ da → a ≠ ca → H' a = H a) → ExtK H H' → G.Wd H'
def IsDeck (G : Gc) (da : Addr) : Prop := ∃ ca, DeckIn G da ca
theorem IsDeck.ext {G G' : Gc} {da : Addr} (h : IsDeck G da) (e : GExt G G') : IsDeck G' da := by
  obtain ⟨ca, h⟩ := h
  refine ⟨ca, e.R _ h.r1, e.R _ h.r2, fun H w => h.at_ H (e.wd H w), fun H H' w d k x => ?_⟩
  have w1 := h.st H H' (e.wd H w) d (fun a r n1 n2 => k a (e.R a r) n1 n2) x
  exact e.st H H' w w1 fun a r n => k a r (fun z => n (z ▸ h.r1)) (fun z => n (z ▸ h.r2))
/-- below another number, drawn -/
def s_draw : FS := fun G ds Q => ∃ (da : Addr) (n : Int), ds = [.ob da, .int n] ∧ IsDeck G da ∧ 0 < n ∧ n < 1073741824 ∧ ∀ k : Int, 0 ≤ k → k < n → Q (.fz (.int k))

def dkV (a b c : V) : List (Key × V) := [(.inr "cells", a), (.inr "mixed", b), (.inr "turn", c)]
theorem dk_cells (a b c : V) : valV (dkV a b c) (.inr "cells") = some a := by first | rfl | kernel_rfl
theorem dk_mixed (a b c : V) : valV (dkV a b c) (.inr "mixed") = some b := by first | rfl | kernel_rfl
theorem dk_turn (a b c : V) : valV (dkV a b c) (.inr "turn") = some c := by first | rfl | kernel_rfl
theorem dk_put (a b c d : V) : putK (dkV a b c) (.inr "turn") d = dkV a b d := by first | rfl | kernel_rfl
/-- the deck's state within a draw; H the heap at its entry -/
structure DkAt (H H' : Hp) (da ca : Addr) (m t : Int) (cs : List Int) : Prop where
  d : H' da = some (.dK (dkV (.ref ca) (.int m) (.int t)))
  c : H' ca = some (.lst (cs.map V.int))
  fr : ∀ b o, b ≠ da → b ≠ ca → H b = some o → H' b = some o
section
variable {H H' : Hp} {da ca : Addr} {m t : Int} {cs : List Int}
theorem DkAt.ne (J : DkAt H H' da ca m t cs) : da ≠ ca := fun e => by
  have h := J.c
  rw [← e, J.d] at h
  cases h
theorem DkAt.turn (J : DkAt H H' da ca m t cs) : DGet H' da (.str "turn") (some (.int t)) := by
  have h := DGet.k (k := (.inr "turn" : Key)) J.d
  rw [dk_turn] at h
  exact h
theorem DkAt.mixed (J : DkAt H H' da ca m t cs) : DGet H' da (.str "mixed") (some (.int m)) := by
  have h := DGet.k (k := (.inr "mixed" : Key)) J.d
  rw [dk_mixed] at h
  exact h
theorem DkAt.cells (J : DkAt H H' da ca m t cs) : DGet H' da (.str "cells") (some (.ref ca)) := by
  have h := DGet.k (k := (.inr "cells" : Key)) J.d
  rw [dk_cells] at h
  exact h
theorem DkAt.put (J : DkAt H H' da ca m t cs) (v : V) : DPut H' da (.str "turn") v (upd H' da (.dK (dkV (.ref ca) (.int m) v))) := by
  have h := DPut.k (v := v) (k := (.inr "turn" : Key)) J.d (by rw [sizeLine_eq]; show 3 < 16777216; decide)
  rw [dk_put] at h
  exact h
theorem DkAt.after (J : DkAt H H' da ca m t cs) (t' : Int) : DkAt H (upd H' da (.dK (dkV (.ref ca) (.int m) (.int t')))) da ca m t' cs :=
  ⟨upd_same, by rw [upd_ne J.ne.symm]; exact J.c, fun b o h1 h2 h => by rw [upd_ne h1]; exact J.fr b o h1 h2 h⟩
theorem DkAt.new (J : DkAt H H' da ca m t cs) {p : Addr} {o : HO} (h : H' p = none) : DkAt H (upd H' p o) da ca m t cs :=
  ⟨by rw [upd_ne (ne_of_none J.d h)]; exact J.d, by rw [upd_ne (ne_of_none J.c h)]; exact J.c, fun b o h1 h2 hb => by rw [upd_ne (ne_of_none (J.fr b o h1 h2 hb) h)]; exact J.fr b o h1 h2 hb⟩
theorem DkAt.set (J : DkAt H H' da ca m t cs) (cs' : List Int) {vs : List V} (e : vs = cs'.map V.int) : DkAt H (upd H' ca (.lst vs)) da ca m t cs' :=
  ⟨by rw [upd_ne J.ne]; exact J.d, by rw [upd_same, e], fun b o h1 h2 h => by rw [upd_ne h2]; exact J.fr b o h1 h2 h⟩
theorem dp_ints {K : PySem.W.Frag} : ∀ ns : List Int, DpAll K H (ns.map V.int) (ns.map .int)
  | [] => .nil
  | n :: ns => .cons (.int n) (dp_ints ns)
theorem shaped_ints (ns : List Int) : SeqAt.shaped (.list (ns.map .int)) = true := by
  have h1 : ∀ ns : List Int, PyData.canLayAll0 (ns.map .int) = true := fun ns => by
    induction ns with
    | nil => simp [PyData.canLayAll0]
    | cons n ns ih => simp only [List.map_cons, PyData.canLayAll0, PyData.canLay0, ih, Bool.and_self]
  have h2 : PyData.depthAll (ns.map .int) = 0 := PySem.W.depth_ints ns
  unfold SeqAt.shaped
  simp [PyData.canLay0, h1, PyData.depth, h2]
theorem DkAt.fin (J : DkAt H H' da ca m t cs) {K : PySem.W.Frag} {G : Gc} {F : Hp} {Qd : SV → Prop} {Q : VK} (dk : DeckIn G da ca) (hl : cs.length < 100) (sF : Same F H) (sR : ∀ a, G.R a → F a = none) (sW : G.Wd H) {k : Int} (hq : Qd (.fz (.int k)))
    (g : ∀ v H' F' sv, Same F F' → Same F' H' → (∀ a, G.R a → F' a = none) → DL.Fr G H H' → G.Wd H' → RpO K G F' H H' v sv → Qd sv → Q v H') : Q (.int k) H' := by
  have out : ∀ b, ¬ G.R b → b ≠ da ∧ b ≠ ca := fun b nb => ⟨fun e => nb (e ▸ dk.r1), fun e => nb (e ▸ dk.r2)⟩
  refine g (.int k) H' F (.fz (.int k)) (Same.refl _) (fun a o h => ?_) sR (fun b o h nb => J.fr b o (out b nb).1 (out b nb).2 h) (dk.st H H' sW ⟨m, t, cs, hl, J.d, J.c⟩ (fun a r n1 n2 => ?_) fun b φ e => ?_) (Rp.int k) hq
  · have nr : ¬ G.R a := fun r => by rw [sR a r] at h; cases h
    exact J.fr a o (out a nr).1 (out a nr).2 (sF a o h)
  · cases e : H a with
    | none => exact absurd e (G.live H a sW r)
    | some o => exact J.fr a o n1 n2 e
  · obtain ⟨_, _, _, _, h1, h2⟩ := dk.at_ H sW
    exact J.fr b _ (fun z => by rw [z, h1] at e; cases e) (fun z => by rw [z, h2] at e; cases e) e
end
/-- a def by its walk in the hand layer -/
theorem kn_raw {B : Bs} {x : Str} {st : Stmt} {ps N : List Str} {sp : FS} {k : Nat} {f : Addr} {fd : FuncData} (F : FunD B.K x x (defArgs st) (defBody st) (defScope st) [] [] f fd) (sc : FnScope N ps (defScope st)) (hm : B.mg x = some (.ref f)) (hb : Binds B.K fd ps [])
    (len : ∀ G ds Q, sp G ds Q → ds.length = ps.length)
    (body : ∀ X, Fam { B with N := N, names := (defScope st).names, k := k, fc := fun _ => true } X → ∀ vs H Q E, spV B.K sp vs H Q E → ∃ t, PSs X (defBody st) t ∧ t { nx := fun _ H' => Q .non H', rt := Q } (L2.start N vs) H) : Kn B (k + 1) x st ps sp := by
  refine ⟨f, fd, F.okG sc (fun vs H Q E h => ?_) (fun cdv A outer s H vs Q E hr hn h => ?_), hm, F, hb⟩
  · obtain ⟨G, F, ds, Qd, s1, s2, s3, r, h, _⟩ := h
    rw [r.len]
    exact len G ds Qd h
  · obtain ⟨t, h1, h2⟩ := body (Cx.nox (cxOf CX0 B.P B.w B.K B.mg B.base N x (defScope st) f cdv A outer s H E)) ⟨rfl, rfl, rfl, rfl, rfl, rfl, rfl, rfl, hr, PassesOwn.never, fun _ _ => rfl, sc.kind, hn, fun _ _ z => nomatch z⟩ vs H Q E h
    exact ⟨t, PSs.nox h1, h2⟩
end DL
set_option maxHeartbeats 4000000
namespace DL
open PySem PySem.Spec PyProof.Rows L2

/-! ### the script -/
/-- what a caller keeps who looks at the script at a -/
theorem script_gc {K : PySem.W.Frag} {H : Hp} {a : Addr} {vs : List V} (h : SqL K H a vs) : ∃ G : Gc, G.Wd H ∧ (∀ b H', G.R b → G.Wd H' → H' b = H b) ∧ ∀ H', G.Wd H' → SqL K H' a vs := by
  have one : ∀ u : HO, (∀ xs, u ≠ .tup xs) → H a = some u → ∃ G : Gc, G.Wd H ∧ (∀ b H', G.R b → G.Wd H' → H' b = H b) ∧ ∀ H', G.Wd H' → H' a = some u := fun u hu h =>
    ⟨{ R := fun b => b = a, Wd := fun H' => H' a = some u, live := fun H' b w (r : b = a) => (by rw [r, w]; exact fun z => nomatch z), nt := fun H' b xs w (r : b = a) => (by rw [r, w]; exact fun z => hu xs (Option.some.inj z)), st := fun H' H2 w k _ => (by rw [k a rfl]; exact w) }, h, fun b H' (r : b = a) w => (by rw [r, w, h]), fun H' w => w⟩
  rcases h with (h | ⟨o, h⟩) | h
  · obtain ⟨G, h1, h2, h3⟩ := one _ (fun xs z => by cases z) h
    exact ⟨G, h1, h2, fun H' w => .inl (.inl (h3 H' w))⟩
  · obtain ⟨G, h1, h2, h3⟩ := one _ (fun xs z => by cases z) h
    exact ⟨G, h1, h2, fun H' w => .inl (.inr ⟨o, h3 H' w⟩)⟩
  · exact ⟨{ R := fun _ => False, Wd := fun _ => True, live := fun _ _ _ r => r.elim, nt := fun _ _ _ _ r => r.elim, st := fun _ _ _ _ _ => True.intro }, True.intro, fun _ _ r => r.elim, fun H' _ => .inr h⟩
def noHp : Hp := fun _ => none
theorem noHp_same {H : Hp} : Same noHp H := fun _ _ h => by cases h
theorem immL_ints : ∀ ns : List Int, immL (ns.map D.int) = true
  | [] => rfl
  | n :: ns => by show (imm (.int n) && immL (ns.map D.int)) = true; rw [immL_ints ns]; rfl
def cutI (ns : List Int) (lo hi : Option Int) : List Int := (ns.drop (HT.sIx ns.length 0 lo)).take (HT.sIx ns.length ns.length hi - HT.sIx ns.length 0 lo)
theorem cutD_ints (ns : List Int) (lo hi : Option Int) : cutD (ns.map D.int) lo hi = (cutI ns lo hi).map D.int := by
  unfold cutD cutI
  rw [List.length_map, List.map_take, List.map_drop]
theorem cutI_len (ns : List Int) (lo hi : Option Int) : (cutI ns lo hi).length ≤ ns.length := by
  unfold cutI
  rw [List.length_take, List.length_drop]
  omega
/-- script[:m] -/
def woScr (K : PySem.W.Frag) (i : Nat) (m : Int) : WO := fun G ρ Q => ∃ (a : Addr) (ns : List Int), ρ[i]? = some (some (.fz (.ob a))) ∧ (∀ H, G.Wd H → SqL K H a (ns.map V.int)) ∧ Q (.ow (cutD (ns.map .int) none (some m)))
section
variable {S : Sta} {x : Str} {i : Nat} {m : Int} {j : Nat} {p p2 p3 pos : Pos}
theorem do_scr (hN : (S.N[i]? == some x) = true := by kernel_rfl) (hx : (S.names.lookup x == some .local || S.names.lookup x == some .cell || S.names.lookup x == some .free) = true := by kernel_rfl) (hd : (x == ("__debug__" : Str)) = false := by kernel_rfl) (hcd : (x == ("__classdict__" : Str)) = false := by kernel_rfl) :
    DO S (.Subscript (.Name x p) (.Slice none (some (.Constant (.int m) j p2)) none p3) pos) (woScr S.K i m) := fun X f => (pe_slice sl_list (pvN f hN hx hd hcd) po_none (po_some pe_int)).imp fun σ H Q ⟨G, F, ρ, Qd, ev, ⟨a, ns, q, hs, hw⟩, hq⟩ => by
  obtain ⟨v, h1, h2⟩ := ev.slot i _ q
  cases h2
  refine ⟨.ref a, h1, m, rfl, a, ns.map V.int, rfl, by rw [f.K]; exact hs H ev.wd, fun p hp => ?_⟩
  exact ev.newL hp (rpl_cut RpL.of_ints none (some m)) hw hq
end
/-- the call of a law's own maker of its deck: the deck is at a new address -/
def spDeck (K : PySem.W.Frag) : Sp := fun vs H Q _ => ∃ (a : Addr) (ns : List Int), vs = [.ref a] ∧ ns.length ≤ 63 ∧ SqL K H a (ns.map V.int) ∧ ∀ (da ca : Addr) (H' : Hp), H da = none → H ca = none → (∀ b o, H b = some o → H' b = some o) → DeckAt da ca H' → Q (.ref da) H'
end DL
set_option maxHeartbeats 4000000
namespace DL
open PySem PySem.Spec PyProof.Rows L2

/-! ### x = _law_deck(script): from there on the deck is the caller's own -/
def deckGc (G : Gc) (da ca : Addr) : Gc where
  R := fun b => G.R b ∨ b = da ∨ b = ca
  Wd := fun H => G.Wd H ∧ DeckAt da ca H
  live := fun H b ⟨w, m, t, cs, _, h1, h2⟩ r => by
    rcases r with r | r | r
    · exact G.live H b w r
    · rw [r, h1]; exact fun z => nomatch z
    · rw [r, h2]; exact fun z => nomatch z
  nt := fun H b xs ⟨w, m, t, cs, _, h1, h2⟩ r => by
    rcases r with r | r | r
    · exact G.nt H b xs w r
    · rw [r, h1]; intro z; cases z
    · rw [r, h2]; intro z; cases z
  st := fun H H' ⟨w, m, t, cs, hl, h1, h2⟩ k x => ⟨G.st H H' w (fun a r => k a (.inl r)) x, m, t, cs, hl, by rw [k da (.inr (.inl rfl))]; exact h1, by rw [k ca (.inr (.inr rfl))]; exact h2⟩
theorem deckGc_ext {G : Gc} {da ca : Addr} (n1 : ¬ G.R da) (n2 : ¬ G.R ca) : GExt G (deckGc G da ca) := ⟨fun _ r => .inl r, fun _ w => w.1, fun H H' ⟨w, m, t, cs, hl, h1, h2⟩ w' k => ⟨w', m, t, cs, hl, by rw [k da (.inr (.inl rfl)) n1]; exact h1, by rw [k ca (.inr (.inr rfl)) n2]; exact h2⟩⟩
theorem deckGc_in {G : Gc} {da ca : Addr} (n1 : ¬ G.R da) (n2 : ¬ G.R ca) : DeckIn (deckGc G da ca) da ca := ⟨.inr (.inl rfl), .inr (.inr rfl), fun _ w => w.2, fun H H' w d k x => ⟨G.st H H' w.1 (fun a r => k a (.inl r) (fun z => n1 (z ▸ r)) (fun z => n2 (z ▸ r))) x, d⟩⟩
section
variable {K : PySem.W.Frag} {G G' : Gc} {H0 F0 F H H' : Hp} {σ : St} {ρ : En}
theorem rpo_out {F' H1 : Hp} {v : V} {sv : SV} (hx : GExt G G') (h : RpO K G' F' H0 H1 v sv) : RpO K G F' H0 H1 v sv := by
  cases sv with
  | fz d => exact h
  | ow xs => obtain ⟨a, vs, rfl, h1, h2, h3, h4⟩ := h; exact ⟨a, vs, rfl, h1, h2, fun r => h3 (hx.R a r), h4⟩
  | od t kds => obtain ⟨a, vs, rfl, h1, h0, h2, h3, h4⟩ := h; exact ⟨a, vs, rfl, h1, h0, h2, fun r => h3 (hx.R a r), h4⟩
theorem fr_out (hx : GExt G G') (n : ∀ b, G'.R b → ¬ G.R b → H0 b = none) (f : Fr G' H0 H') : Fr G H0 H' := fun b o hb nb => f b o hb fun r => by
  rw [n b r nb] at hb; cases hb
theorem Ev.out (hx : GExt G G') (n : ∀ b, G'.R b → ¬ G.R b → H0 b = none) (e : Ev K G' H0 F0 F H σ ρ) : Ev K G H0 F0 F H σ ρ where
  r := ⟨e.r.sub, fun a r => e.r.res a (hx.R a r), hx.wd _ e.r.wd, fun i sv q => by
    obtain ⟨v, h1, h2⟩ := e.r.slot i sv q
    refine ⟨v, h1, ?_⟩
    cases sv with
    | fz d => exact h2
    | ow xs => obtain ⟨a, vs, rfl, z1, z2, z3⟩ := h2; exact ⟨a, vs, rfl, z1, z2, fun r => z3 (hx.R a r)⟩
    | od t kds => obtain ⟨a, vs, rfl, z1, z0, z2, z3⟩ := h2; exact ⟨a, vs, rfl, z1, z0, z2, fun r => z3 (hx.R a r)⟩, e.r.len⟩
  f0 := e.f0
  fr := fr_out hx n e.fr
  own := e.own
  apart := e.apart
end
def wDeckS (K : PySem.W.Frag) (i j : Nat) (b : WS) : WS := fun G E ρ => i < ρ.length ∧ (∀ (k : Nat) (sv : SV), ρ[k]? = some (some sv) → isOwn sv = false) ∧ (∃ (a : Addr) (ns : List Int), ρ[j]? = some (some (.fz (.ob a))) ∧ ns.length ≤ 63 ∧ ∀ H, G.Wd H → SqL K H a (ns.map V.int)) ∧
  ∀ (da : Addr) (G' : Gc), GExt G G' → IsDeck G' da → b G' E (ρ.set i (some (.fz (.ob da))))
theorem dss_deck {S : Sta} {kd i j : Nat} {x y z : Str} {f : Addr} {fd : FuncData} {P : List Str} {px p py pos pos2 : Pos} {rest : List Stmt} {b : WS} (F : FnG S.P S.w S.K S.mg S.base CX0 kd f fd P (spDeck S.K)) (hm : S.mg z = some (.ref f)) (hkp : PySem.W.keepIn S.K (.ref f) = true) (hb : Binds S.K fd P []) (hk : kd ≤ S.k) (hr : DSs S rest b) (nd : S.N.Nodup)
    (hN : (S.N[i]? == some x) = true := by kernel_rfl) (hl : (S.names.lookup x == some .local || (S.names.lookup x == some .cell && S.fc x)) = true := by kernel_rfl)
    (hNy : (S.N[j]? == some y) = true := by kernel_rfl) (hy : (S.names.lookup y == some .local || S.names.lookup y == some .cell || S.names.lookup y == some .free) = true := by kernel_rfl) (hyd : (y == ("__debug__" : Str)) = false := by kernel_rfl) (hycd : (y == ("__classdict__" : Str)) = false := by kernel_rfl)
    (hg : (S.names.lookup z == some .globalImplicit) = true := by kernel_rfl) (hdb : (z == ("__debug__" : Str)) = false := by kernel_rfl)
    (hs : ∀ env, swapsWith (.Call (.Name z p) [.Name y py] [] pos) (some (.Name x px)) pos2.line env = pure false := by intro _; rfl) (he : ∀ env, starEach [.Name y py] env = (false, eval (.Name y py) env) :: starEach [] env := by intro _; rfl) (hpl : ∀ env, (backTo pos (starEach [] env)).any (·.1) = false := by intro _; rfl) :
    DSs S (.Assign [.Name x px] (.Call (.Name z p) [.Name y py] [] pos) pos2 :: rest) (wDeckS S.K i j b) := fun X f' => by
  obtain ⟨h1, h2⟩ := locOf f' hl
  rw [← f'.P, ← f'.w, ← f'.K, ← f'.mg, ← f'.base] at F
  have pc := pe_callG (p := p) (pos := pos) F (f'.room.mono hk) f'.ns (glOf f' hg) (by rw [f'.mg]; exact hm) (by rw [f'.K]; exact hkp) (by rw [f'.K]; exact hb) pass0 (pa_cons (pvN f' hNy hy hyd hycd) pa_nil (he _)) hdb (he _) (hpl X.env)
  refine (pss_cons (ps_set (i := i) (by rw [f'.N]; exact nd) (by rw [f'.N]; exact beq_iff_eq.mp hN) h1 pc (hs _) h2) (hr X f')).imp fun D σ H ⟨G, H0, F0, F1, ρ, E, ev, ⟨hi, ho, ⟨a, ns, qj, hn, hsq⟩, hw⟩, g⟩ => ?_
  obtain ⟨v, q1, q2⟩ := ev.r.slot j _ qj
  cases q2
  refine ⟨.ref a, q1, ?_⟩
  refine ⟨a, ns, rfl, hn, by rw [f'.K]; exact hsq H ev.r.wd, fun da ca H' hda hca keep dat => ?_⟩
  have n1 : ¬ G.R da := ev.r.nr hda
  have n2 : ¬ G.R ca := ev.r.nr hca
  have hx := deckGc_ext n1 n2
  have z1 := ev.fr.free n1 hda
  have z2 := ev.fr.free n2 hca
  have nn : ∀ b, (deckGc G da ca).R b → ¬ G.R b → H0 b = none := fun b r nr => by
    rcases r with r | r | r
    · exact absurd r nr
    · rw [r]; exact z1
    · rw [r]; exact z2
  have same : ∀ b, G.R b → H' b = H b := fun b r => by
    cases e : H b with
    | none => exact absurd e (G.live H b ev.r.wd r)
    | some o => exact keep b o e
  have wd' : (deckGc G da ca).Wd H' := ⟨G.st H H' ev.r.wd same fun b φ e => keep b _ e, dat⟩
  have ev2 : Ev S.K (deckGc G da ca) H0 F0 F1 H' σ ρ := by
    refine ⟨⟨fun b o h => keep b o (ev.r.sub b o h), fun b r => ?_, wd', fun k sv q => ?_, ev.r.len⟩, ev.f0, fun b o h nb => keep b o (ev.fr b o h fun r => nb (.inl r)), fun k sv b q hq => ?_, fun k l sv sw b _ q hq => ?_⟩
    · rcases r with r | r | r
      · exact ev.r.res b r
      · rw [r]; exact ev.r.fnone hda
      · rw [r]; exact ev.r.fnone hca
    · obtain ⟨u, h1, h2⟩ := ev.r.slot k sv q
      have := ho k sv q
      cases sv with
      | fz d => exact ⟨u, h1, h2⟩
      | ow xs => cases this
      | od t kds => cases this
    · rw [ho k sv q] at hq; cases hq
    · rw [ho k sv q] at hq; cases hq
  refine ⟨deckGc G da ca, H0, F0, F1, _, E, ev2.set (sv := .fz (.ob da)) hi (Rp.ob da) (fun h => by cases h), hw da _ hx ⟨ca, deckGc_in n1 n2⟩, ⟨fun σ' H2 F' ρ' e s q => g.nx σ' H2 F' ρ' (e.out hx nn) s q, fun σ' H2 F' ρ' e s q => g.bk σ' H2 F' ρ' (e.out hx nn) s q, fun σ' H2 F' ρ' e s q => g.ct σ' H2 F' ρ' (e.out hx nn) s q, fun v H2 F' sv a1 a2 a3 a4 a5 a6 a7 => g.rt v H2 F' sv a1 a2 (fun b r => a3 b (hx.R b r)) (fr_out hx nn a4) (hx.wd _ a5) (rpo_out hx a6) a7⟩⟩
end DL
set_option maxHeartbeats 4000000
namespace DL
open PySem PySem.Spec PyProof.Rows L2

/-! ### zip of two tuples, its pairs kept by a name -/
section
variable {prog : Program} {w : World} {A : Around} {E : Value → Shared → Prop} {s : Shared} {z TI TO i1 i2 l1 l2 : Addr} {k1 k2 : Nat} {xs ys : Array Value} {f0 f1 x y a b : Value}
/-- the zip at z: its last tuple f0, whether that was seen held f1 -/
abbrev ZipIs (h : Heap) (z TI TO : Addr) (f0 f1 : Value) : Prop := h.get? z = some { cls := .type "zip", dict := none, data := .fields #[f0, f1, .bool false, .ref TI, .ref TO], slots := #[] }
def ZipSt (h : Heap) (z TI TO : Addr) : Prop := ∃ f0 f1, ZipIs h z TI TO f0 f1 ∧ (f0 = .none ∨ ∃ T : Addr, f0 = rawInt T) ∧ ∃ f : Bool, f1 = .bool f
theorem zip_free {Q : Bool → Shared → Prop} (h0 : f0 = .none ∨ ∃ T : Addr, f0 = rawInt T) (hf : ∃ f : Bool, f1 = .bool f) (hz : ZipIs s.heap z TI TO f0 f1) (h1 : Q true s)
    (h2 : ∀ h', ZipIs h' z TI TO f0 (.bool true) → Heap.SameBut z s.heap h' → Q false { s with heap := h' }) : wpAny (model prog w) A (Builtin.SmallTypes.ownedTupleIsFree (.ref z)) Q E s := by
  obtain ⟨f, rfl⟩ := hf
  rcases h0 with rfl | ⟨T, rfl⟩
  · unfold Builtin.SmallTypes.ownedTupleIsFree
    exact wpAny_bind (wpAny_field hz rfl (x := .none) rfl (wpAny_pure h1))
  · cases hT : s.heap.get? T with
    | some o => exact wpAny_tupleHeld_zip hz hT h2
    | none =>
      unfold Builtin.SmallTypes.ownedTupleIsFree
      refine wpAny_bind (wpAny_field hz rfl (x := rawInt T) rfl ?_)
      show wpAny _ _ (loadIfAlive ((T : Int).toNat) >>= _) _ _ _
      rw [Int.toNat_natCast]
      have ld : ∀ {Q' : Option Obj → Shared → Prop}, Q' none s → wpAny (model prog w) A (loadIfAlive T) Q' E s := fun {Q'} q => by
        have q' : Q' (s.heap.get? T) s := by rw [hT]; exact q
        exact fun _ _ _ => q'
      exact wpAny_bind (ld (wpAny_pure h1))
/-- what a step leaves as it is -/
def ZipKeep (z TO i1 i2 : Addr) (h h' : Heap) : Prop := ∀ c o, c ≠ z → c ≠ TO → c ≠ i1 → c ≠ i2 → h.get? c = some o → h'.get? c = some o
theorem zip_some {Q : Value → Shared → Prop} (D : ZipApart z TI TO i1 i2 l1 l2) (st : ZipSt s.heap z TI TO) (pI : IsPair s.heap TI (.ref i1) (.ref i2)) (pO : ∃ a b, IsPair s.heap TO a b)
    (t1 : s.heap.IsTupleIter i1 l1 k1) (t2 : s.heap.IsTupleIter i2 l2 k2) (q1 : s.heap.IsTuple l1 xs) (q2 : s.heap.IsTuple l2 ys) (hx : xs[k1]? = some x) (hy : ys[k2]? = some y)
    (hQ : ∀ h', ZipSt h' z TI TO → (∃ a b, IsPair h' TO a b) → h'.IsTupleIter i1 l1 (k1 + 1) → h'.IsTupleIter i2 l2 (k2 + 1) → IsPair h' s.heap.objs.size x y → h'.objs.size = s.heap.objs.size + 1 → ZipKeep z TO i1 i2 s.heap h' → Q (.ref s.heap.objs.size) { s with heap := h' }) :
    wpAny (model prog w) A (Builtin.«zip.__next__» ⟨[.ref z], []⟩) (fun r s' => ∃ v, r = .done (.ret v) ∧ Q v s') E s := by
  obtain ⟨f0, f1, hz, hf0, hf1⟩ := st
  obtain ⟨a, b, pO⟩ := pO
  show wpAny _ _ (field (.ref z) 2 >>= _) _ _ _
  apply wpAny_bind
  refine wpAny_field hz rfl (x := .bool false) rfl ?_
  show wpAny _ _ (field (.ref z) 3 >>= _) _ _ _
  apply wpAny_bind
  refine wpAny_field hz rfl (x := .ref TI) rfl ?_
  refine wpAny_bind (wpAny_seqItems pI rfl ?_)
  show wpAny _ _ (Builtin.SmallTypes.ownedTupleIsFree (.ref z) >>= _) _ _ _
  refine wpAny_bind (zip_free hf0 hf1 hz ?free fun hA zA sA => ?held)
  case held =>
    simp only [Bool.false_eq_true, if_false]
    apply wpAny_bind
    rw [← Array.forIn_toList]
    simp only [List.forIn_cons, List.forIn_nil]
    refine wpAny_bind (wpAny_bind (wpAny_holding ?_))
    show wpAny _ _ (Builtin.SmallTypes.nextOf (.ref i1) >>= _) _ _ _
    refine wpAny_bind (RZ.nextOf_tuple_item (s := { s with heap := hA }) (t1.extBut sA.extBut D.i1z) (q1.extBut sA.extBut D.l1z) hx fun hB uB sB => wpAny_pure (wpAny_pure ?_))
    refine wpAny_bind (wpAny_bind (wpAny_holding ?_))
    show wpAny _ _ (Builtin.SmallTypes.nextOf (.ref i2) >>= _) _ _ _
    refine wpAny_bind (RZ.nextOf_tuple_item (s := { s with heap := hB }) ((t2.extBut sA.extBut D.i2z).extBut sB.extBut D.i12.symm) ((q2.extBut sA.extBut D.l2z).extBut sB.extBut D.l2i1) hy fun hC uC sC => wpAny_pure (wpAny_pure (wpAny_pure ?_)))
    show wpAny _ _ (newTuple [x, y] >>= _) _ _ _
    refine wpAny_bind (wpAny_newTuple ?_)
    have sz : hC.objs.size = s.heap.objs.size := by rw [sC.1, sB.1, sA.1]
    have zC : ZipIs hC z TI TO f0 (.bool true) := sC.extBut _ _ D.i2z.symm (sB.extBut _ _ D.i1z.symm zA)
    have kC : ∀ c o, c ≠ z → c ≠ i1 → c ≠ i2 → s.heap.get? c = some o → hC.get? c = some o := fun c o n1 n2 n3 e => sC.extBut _ _ n3 (sB.extBut _ _ n2 (sA.extBut _ _ n1 e))
    have up : ∀ c o, hC.get? c = some o → (hC.push { cls := .type "tuple", data := .seq #[x, y] }).get? c = some o := fun c o e => Heap.get?_push_of_some _ e
    refine wpAny_pure ⟨_, rfl, ?_⟩
    show Q (.ref hC.objs.size) _
    rw [sz]
    refine hQ _ ⟨f0, _, up _ _ zC, hf0, true, rfl⟩ ⟨a, b, up _ _ (kC _ _ D.TOz D.TOi1 D.TOi2 pO)⟩ ((uB.extBut sC.extBut D.i12).at fun o e => up _ o e) (uC.at fun o e => up _ o e) ?_ ?_ fun c o n1 _ n3 n4 e => up _ _ (kC c o n1 n3 n4 e)
    · rw [← sz]; exact Heap.get?_push_size _ rfl
    · rw [← sz]; exact Heap.size_push ..
  case free =>
    simp only [if_true]
    refine wpAny_bind (wpAny_rule ?_)
    refine wpAny_bind (wpAny_field hz rfl (x := .ref TO) rfl ?_)
    refine wpAny_bind (wpAny_setField_rec hz (by simp) fun hA zA sA => ?_)
    replace zA : ZipIs hA z TI TO .ellipsis f1 := zA
    apply wpAny_bind
    simp only [List.zipIdx_cons, List.zipIdx_nil, List.forIn_cons, List.forIn_nil]
    refine wpAny_bind (wpAny_bind (wpAny_onRaise ?_))
    show wpAny _ _ (Builtin.SmallTypes.nextOf (.ref i1) >>= _) _ _ _
    refine wpAny_bind (RZ.nextOf_tuple_item (s := { s with heap := hA }) (t1.extBut sA.extBut D.i1z) (q1.extBut sA.extBut D.l1z) hx fun hB uB sB => wpAny_pure ?_)
    have oB : IsPair hB TO a b := sB.extBut _ _ D.TOi1 (sA.extBut _ _ D.TOz pO)
    refine wpAny_bind (wpAny_seqItems oB rfl (wpAny_bind (wpAny_updateSeq_pair oB fun hC oC sC => wpAny_bind (wpAny_letGo (wpAny_pure ?_)))))
    replace oC : IsPair hC TO x b := oC
    refine wpAny_bind (wpAny_bind (wpAny_onRaise ?_))
    show wpAny _ _ (Builtin.SmallTypes.nextOf (.ref i2) >>= _) _ _ _
    refine wpAny_bind (RZ.nextOf_tuple_item (s := { s with heap := hC }) (((t2.extBut sA.extBut D.i2z).extBut sB.extBut D.i12.symm).extBut sC.extBut D.TOi2.symm) (((q2.extBut sA.extBut D.l2z).extBut sB.extBut D.l2i1).extBut sC.extBut D.l2TO) hy fun hD uD sD => wpAny_pure ?_)
    have oD : IsPair hD TO x b := sD.extBut _ _ D.TOi2 oC
    refine wpAny_bind (wpAny_seqItems oD rfl (wpAny_bind (wpAny_updateSeq_pair oD fun hE oE sE => wpAny_bind (wpAny_letGo (wpAny_pure (wpAny_pure ?_))))))
    replace oE : IsPair hE TO x y := oE
    refine wpAny_bind (wpAny_seqItems oE rfl (wpAny_bind (wpAny_newTuple ?_)))
    have sz : hE.objs.size = s.heap.objs.size := by rw [sE.1, sD.1, sC.1, sB.1, sA.1]
    have zE : ZipIs hE z TI TO .ellipsis f1 := sE.extBut _ _ D.TOz.symm (sD.extBut _ _ D.i2z.symm (sC.extBut _ _ D.TOz.symm (sB.extBut _ _ D.i1z.symm zA)))
    have kE : ∀ c o, c ≠ z → c ≠ TO → c ≠ i1 → c ≠ i2 → s.heap.get? c = some o → hE.get? c = some o := fun c o n1 n2 n3 n4 e => sE.extBut _ _ n2 (sD.extBut _ _ n4 (sC.extBut _ _ n2 (sB.extBut _ _ n3 (sA.extBut _ _ n1 e))))
    have u1 : hE.IsTupleIter i1 l1 (k1 + 1) := ((uB.extBut sC.extBut D.TOi1.symm).extBut sD.extBut D.i12).extBut sE.extBut D.TOi1.symm
    have u2 : hE.IsTupleIter i2 l2 (k2 + 1) := uD.extBut sE.extBut D.TOi2.symm
    have zlt : z < hE.objs.size := Heap.lt_size zE
    show wpAny _ _ (Builtin.SmallTypes.ownedTupleHandOut (.ref z) (.ref hE.objs.size) >>= _) _ _ _
    apply wpAny_bind
    unfold Builtin.SmallTypes.ownedTupleHandOut
    have zF : ZipIs (hE.push { cls := .type "tuple", data := .seq #[x, y] }) z TI TO .ellipsis f1 := Heap.get?_push_of_some _ zE
    refine wpAny_bind (wpAny_setField_rec zF (by simp) fun hG zG sG => ?_)
    replace zG : ZipIs hG z TI TO (rawInt hE.objs.size) f1 := zG
    refine wpAny_setField_rec zG (by simp) fun hH zH sH => ?_
    replace zH : ZipIs hH z TI TO (rawInt hE.objs.size) (.bool false) := zH
    have up : ∀ c o, c ≠ z → hE.get? c = some o → hH.get? c = some o := fun c o n1 e => sH.extBut _ _ n1 (sG.extBut _ _ n1 (Heap.get?_push_of_some _ e))
    have pT : IsPair hH hE.objs.size x y := sH.extBut _ _ (Nat.ne_of_gt zlt) (sG.extBut _ _ (Nat.ne_of_gt zlt) (Heap.get?_push_size _ rfl))
    have sH2 : hH.objs.size = hE.objs.size + 1 := by rw [sH.1, sG.1, Heap.size_push]
    refine wpAny_pure ⟨_, rfl, ?_⟩
    show Q (.ref hE.objs.size) _
    rw [sz] at zH pT sH2 ⊢
    exact hQ hH ⟨_, _, zH, .inr ⟨_, rfl⟩, false, rfl⟩ ⟨x, y, up _ _ D.TOz oE⟩ (u1.at fun o e => up _ o D.i1z e) (u2.at fun o e => up _ o D.i2z e) pT sH2 fun c o n1 n2 n3 n4 e => up c o n1 (kE c o n1 n2 n3 n4 e)
theorem zip_none {Q : PySem.Fin → Shared → Prop} (hh : A.handled = none) (D : ZipApart z TI TO i1 i2 l1 l2) (st : ZipSt s.heap z TI TO) (pI : IsPair s.heap TI (.ref i1) (.ref i2)) (pO : ∃ a b, IsPair s.heap TO a b)
    (t1 : s.heap.IsTupleIter i1 l1 k1) (t2 : s.heap.IsTupleIter i2 l2 k2) (q1 : s.heap.IsTuple l1 xs) (q2 : s.heap.IsTuple l2 ys) (hend : xs[k1]? = none ∨ ys[k2]? = none)
    (hE : ∀ h' e, ZipKeep z TO i1 i2 s.heap h' → (∃ o, h'.get? e = some o ∧ o.cls = .type "StopIteration") → E (.ref e) { s with heap := h' }) : wpAny (model prog w) A (Builtin.«zip.__next__» ⟨[.ref z], []⟩) Q E s := by
  obtain ⟨f0, f1, hz, hf0, hf1⟩ := st
  obtain ⟨a, b, pO⟩ := pO
  show wpAny _ _ (field (.ref z) 2 >>= _) _ _ _
  apply wpAny_bind
  refine wpAny_field hz rfl (x := .bool false) rfl ?_
  show wpAny _ _ (field (.ref z) 3 >>= _) _ _ _
  apply wpAny_bind
  refine wpAny_field hz rfl (x := .ref TI) rfl ?_
  refine wpAny_bind (wpAny_seqItems pI rfl ?_)
  show wpAny _ _ (Builtin.SmallTypes.ownedTupleIsFree (.ref z) >>= _) _ _ _
  refine wpAny_bind (zip_free hf0 hf1 hz ?free fun hA zA sA => ?held)
  case held =>
    simp only [Bool.false_eq_true, if_false]
    apply wpAny_bind
    rw [← Array.forIn_toList]
    simp only [List.forIn_cons, List.forIn_nil]
    refine wpAny_bind (wpAny_bind (wpAny_holding ?_))
    show wpAny _ _ (Builtin.SmallTypes.nextOf (.ref i1) >>= _) _ _ _
    cases hx : xs[k1]? with
    | none => exact wpAny_bind (RZ.nextOf_tuple_end (s := { s with heap := hA }) hh (t1.extBut sA.extBut D.i1z) (q1.extBut sA.extBut D.l1z) hx fun hB e sB he => hE hB e (fun c o n1 _ n3 _ q => sB _ _ n3 (sA.extBut _ _ n1 q)) he)
    | some x =>
      have hy : ys[k2]? = none := hend.resolve_left (by rw [hx]; exact fun q => nomatch q)
      refine wpAny_bind (RZ.nextOf_tuple_item (s := { s with heap := hA }) (t1.extBut sA.extBut D.i1z) (q1.extBut sA.extBut D.l1z) hx fun hB uB sB => wpAny_pure (wpAny_pure ?_))
      refine wpAny_bind (wpAny_bind (wpAny_holding ?_))
      show wpAny _ _ (Builtin.SmallTypes.nextOf (.ref i2) >>= _) _ _ _
      exact wpAny_bind (RZ.nextOf_tuple_end (s := { s with heap := hB }) hh ((t2.extBut sA.extBut D.i2z).extBut sB.extBut D.i12.symm) ((q2.extBut sA.extBut D.l2z).extBut sB.extBut D.l2i1) hy fun hC e sC he => hE hC e (fun c o n1 _ n3 n4 q => sC _ _ n4 (sB.extBut _ _ n3 (sA.extBut _ _ n1 q))) he)
  case free =>
    simp only [if_true]
    refine wpAny_bind (wpAny_rule ?_)
    refine wpAny_bind (wpAny_field hz rfl (x := .ref TO) rfl ?_)
    refine wpAny_bind (wpAny_setField_rec hz (by simp) fun hA zA sA => ?_)
    replace zA : ZipIs hA z TI TO .ellipsis f1 := zA
    apply wpAny_bind
    simp only [List.zipIdx_cons, List.zipIdx_nil, List.forIn_cons, List.forIn_nil]
    refine wpAny_bind (wpAny_bind (wpAny_onRaise ?_))
    show wpAny _ _ (Builtin.SmallTypes.nextOf (.ref i1) >>= _) _ _ _
    cases hx : xs[k1]? with
    | none =>
      refine wpAny_bind (RZ.nextOf_tuple_end (s := { s with heap := hA }) hh (t1.extBut sA.extBut D.i1z) (q1.extBut sA.extBut D.l1z) hx fun hB e sB ⟨oe, he, hc⟩ => ?_)
      have zB : ZipIs hB z TI TO .ellipsis f1 := sB _ _ D.i1z.symm zA
      have ne : e ≠ z := fun q => by subst q; rw [zB] at he; cases he; simp at hc
      exact wpAny_setField_rec zB (by simp) fun hC _ sC => hE hC e (fun c o n1 _ n3 _ q => sC.extBut _ _ n1 (sB _ _ n3 (sA.extBut _ _ n1 q))) ⟨oe, sC.extBut _ _ ne he, hc⟩
    | some x =>
      have hy : ys[k2]? = none := hend.resolve_left (by rw [hx]; exact fun q => nomatch q)
      refine wpAny_bind (RZ.nextOf_tuple_item (s := { s with heap := hA }) (t1.extBut sA.extBut D.i1z) (q1.extBut sA.extBut D.l1z) hx fun hB uB sB => wpAny_pure ?_)
      have oB : IsPair hB TO a b := sB.extBut _ _ D.TOi1 (sA.extBut _ _ D.TOz pO)
      refine wpAny_bind (wpAny_seqItems oB rfl (wpAny_bind (wpAny_updateSeq_pair oB fun hC oC sC => wpAny_bind (wpAny_letGo (wpAny_pure ?_)))))
      refine wpAny_bind (wpAny_bind (wpAny_onRaise ?_))
      show wpAny _ _ (Builtin.SmallTypes.nextOf (.ref i2) >>= _) _ _ _
      refine wpAny_bind (RZ.nextOf_tuple_end (s := { s with heap := hC }) hh (((t2.extBut sA.extBut D.i2z).extBut sB.extBut D.i12.symm).extBut sC.extBut D.TOi2.symm) (((q2.extBut sA.extBut D.l2z).extBut sB.extBut D.l2i1).extBut sC.extBut D.l2TO) hy fun hD e sD ⟨oe, he, hc⟩ => ?_)
      have zD : ZipIs hD z TI TO .ellipsis f1 := sD _ _ D.i2z.symm (sC.extBut _ _ D.TOz.symm (sB.extBut _ _ D.i1z.symm zA))
      have ne : e ≠ z := fun q => by subst q; rw [zD] at he; cases he; simp at hc
      exact wpAny_setField_rec zD (by simp) fun hF _ sF => hE hF e (fun c o n1 n2 n3 n4 q => sF.extBut _ _ n1 (sD _ _ n4 (sC.extBut _ _ n2 (sB.extBut _ _ n3 (sA.extBut _ _ n1 q))))) ⟨oe, sF.extBut _ _ ne he, hc⟩
end
end DL
set_option maxHeartbeats 4000000
namespace DL
open PySem PySem.Spec PyProof.Rows L2

theorem turn_zipN {P : Program} {w : World} {K : PySem.W.Frag} {nm : Str} {np : Pos} {a b z TI TO i1 i2 : Addr} (D : ZipApart z TI TO i1 i2 a b) :
    Turn P w K (.Name nm np) (RZ.ItzT K a b) [z, TI, TO, i1, i2] z (fun i h => ZipSt h z TI TO ∧ IsPair h TI (.ref i1) (.ref i2) ∧ (∃ x y, IsPair h TO x y) ∧ h.IsTupleIter i1 a i ∧ h.IsTupleIter i2 b i) where
  mem := List.mem_cons_self
  obj := fun i h ⟨⟨f0, f1, hz, _⟩, pI, ⟨x, y, pO⟩, ⟨o1, e1, _, d1⟩, ⟨o2, e2, _, d2⟩⟩ c hc => by
    simp only [List.mem_cons, List.not_mem_nil, or_false] at hc
    rcases hc with rfl | rfl | rfl | rfl | rfl
    · exact ⟨_, hz, fun v q => nomatch q⟩
    · exact ⟨_, pI, fun v q => nomatch q⟩
    · exact ⟨_, pO, fun v q => nomatch q⟩
    · exact ⟨o1, e1, fun v q => by rw [d1] at q; cases q⟩
    · exact ⟨o2, e2, fun v q => by rw [d2] at q; cases q⟩
  keep := fun i h h' ⟨⟨f0, f1, hz, hf⟩, pI, ⟨x, y, pO⟩, t1, t2⟩ k =>
    ⟨⟨f0, f1, k z (by simp) _ hz, hf⟩, k TI (by simp) _ pI, ⟨x, y, k TO (by simp) _ pO⟩, t1.at fun o q => k i1 (by simp) o q, t2.at fun o q => k i2 (by simp) o q⟩
  item := fun X hP hw hK hc i pins s σ H E I hf ⟨st, pI, pO, t1, t2⟩ ⟨xs, ys, x, y, hqx, hqy, hx, hy⟩ => by
    subst hP hw hK
    obtain ⟨us, rv, p, _⟩ := I.tuple hqx
    obtain ⟨ws, rv2, p2, _⟩ := I.tuple hqy
    obtain ⟨u, hu, ru⟩ := rv.get hx
    obtain ⟨u2, hu2, ru2⟩ := rv2.get hy
    have hT : s.TypeIs (.ref z) "zip" := by obtain ⟨f0, f1, hz, _⟩ := st; exact ⟨_, hz, rfl⟩
    unfold pyNext
    refine wpAny_bind (wpAny_attempt (wpAny_callSpecial?_slot (name := Str.ofString "__next__") hT PySem.F.slot_zip_next (wpAny_call_entry PySem.F.slot_zip_next hT PySem.F.entry_zip_next (zip_some D st pI pO t1 t2 p p2 (x := u) (y := u2) (by simpa using hu) (by simpa using hu2) fun h' z' pO' t1' t2' pT sz k => wpAny_pure ?_) (PySem.F.args_zip_next_1 _))))
    refine ⟨_, rfl, ?_⟩
    show wpAny _ _ (pure ()) _ _ _
    apply wpAny_pure
    have zl : z < s.heap.objs.size := by obtain ⟨f0, f1, hz, _⟩ := st; exact Heap.lt_size hz
    have tl : TI < s.heap.objs.size := Heap.lt_size pI
    have ol : TO < s.heap.objs.size := by obtain ⟨_, _, q⟩ := pO; exact Heap.lt_size q
    have l1 : i1 < s.heap.objs.size := by obtain ⟨_, q, _⟩ := t1; exact Heap.lt_size q
    have l2 : i2 < s.heap.objs.size := by obtain ⟨_, q, _⟩ := t2; exact Heap.lt_size q
    have new : ObjOk X.prog X.w (upd H s.heap.objs.size (.tup [x, y])) h' s.heap.objs.size (.tup [x, y]) := ⟨by show 2 ≤ sizeLine; decide, [u, u2], .cons ru (.cons ru2 .nil), ⟨_, pT, rfl, _, rfl⟩⟩
    have I1 : Inv X pins σ (upd H s.heap.objs.size (.tup [x, y])) { s with heap := h' } :=
      I.turnedNew (t' := s.toks) (ch := [z, TI, TO, i1, i2]) (fun c o hb q => k c o (fun e => hb (by simp [e])) (fun e => hb (by simp [e])) (fun e => hb (by simp [e])) (fun e => hb (by simp [e])) q) hf (Nat.le_refl _) new
    refine ⟨.ref s.heap.objs.size, _, I1, rfl, ⟨_, x, y, rfl, I.hok.fresh (Nat.le_refl _), rfl, fun l hl => by rw [I.tuple_inj hl hqx]; exact hx, fun l hl => by rw [I.tuple_inj hl hqy]; exact hy⟩, ⟨z', ?_, pO', t1', t2'⟩, fun c hcm => ?_⟩
    · exact k _ _ D.TIz D.TITO D.TIi1 D.TIi2 pI
    · have lt : c < s.heap.objs.size := by
        simp only [List.mem_cons, List.not_mem_nil, or_false] at hcm
        rcases hcm with rfl | rfl | rfl | rfl | rfl <;> assumption
      rw [upd_ne (Nat.ne_of_lt lt)]
      exact (hf c hcm).1
  done := fun X hP hw hK hc i pins s σ H E I hf ⟨st, pI, pO, t1, t2⟩ ⟨xs, ys, hqx, hqy, hend⟩ => by
    subst hP hw hK
    obtain ⟨us, rv, p, _⟩ := I.tuple hqx
    obtain ⟨ws, rv2, p2, _⟩ := I.tuple hqy
    have n1 := rv.length
    have n2 := rv2.length
    have he : us.toArray[i]? = none ∨ ws.toArray[i]? = none := by
      rcases hend with q | q
      · exact .inl (by simp; omega)
      · exact .inr (by simp; omega)
    have hT : s.TypeIs (.ref z) "zip" := by obtain ⟨f0, f1, hz, _⟩ := st; exact ⟨_, hz, rfl⟩
    unfold pyNext
    refine wpAny_bind (wpAny_attempt (wpAny_callSpecial?_slot (name := Str.ofString "__next__") hT PySem.F.slot_zip_next (wpAny_call_entry PySem.F.slot_zip_next hT PySem.F.entry_zip_next (zip_none (I.ok.hd hc) D st pI pO t1 t2 p p2 he fun h' e k ⟨o, ho, hcl⟩ => ?_) (PySem.F.args_zip_next_1 _))))
    refine wpAny_bind (wpAny_isInstance (T := "StopIteration") (b := true) ⟨o, ho, hcl⟩ isSubtype_stop (wpAny_pure ⟨rfl, I.turnedL (t' := s.toks) (ch := [z, TI, TO, i1, i2]) (fun c o hb q => k c o (fun e => hb (by simp [e])) (fun e => hb (by simp [e])) (fun e => hb (by simp [e])) (fun e => hb (by simp [e])) q) hf⟩))
  self := fun A i s Q E ⟨⟨f0, f1, hz, _⟩, _⟩ h => by
    have hT : s.TypeIs (.ref z) "zip" := ⟨_, hz, rfl⟩
    refine wpAny_pyIter_slot hT PySem.F.slot_zip_iter (wpAny_call_entry PySem.F.slot_zip_iter hT PySem.F.entry_zip_iter ?_ (PySem.F.args_zip_iter_1 _))
    show wpAny _ _ (ret (.ref z)) _ _ s
    exact wpAny_pure ⟨_, rfl, "zip", _, hT, PySem.F.slot_zip_next.lookup, h⟩
def iZipN (K : PySem.W.Frag) (ta : TA) : TI := fun σ H R => ta σ H fun vs H1 => ∃ a b xs ys, vs = [.ref a, .ref b] ∧ SqT K H1 a xs ∧ SqT K H1 b ys ∧ R (RZ.ItzT K a b) H1
theorem pi_zipN {X : Cx} {nm : Str} {e e2 : Expr} {ta : TA} {p pos np : Pos} (hg : Gl X "zip") (hm : X.mg "zip" = none) (ha : PA X [e, e2] ta) (hs : starEach [e, e2] X.env = (false, eval e X.env) :: starEach [e2] X.env) (hpl : (backTo pos (starEach [e2] X.env)).any (·.1) = false) :
    PI X (.Name nm np) (.Call (.Name "zip" p) [e, e2] [] pos) (iZipN X.K ta) := by
  refine ⟨fun pins s σ H R I h => Call_ (ld_blt I hg hm PyProof.Rows.boot_zip (PyProof.Rows.callWith_type1 (thn (ha.run pos pins s σ H _ I h) fun us s1 ⟨vs, H1, I1, r1, a, b, xs, ys, ev, hqx, hqy, q⟩ => ?_) hs hpl))⟩
  subst ev
  obtain ⟨u, u2, rfl, r, r'⟩ := vals2 r1
  cases r
  cases r'
  obtain ⟨its, rv, p1, _⟩ := I1.tuple hqx
  obtain ⟨its2, rv2, p2, _⟩ := I1.tuple hqy
  obtain ⟨o1, ho1, _⟩ := id p1
  obtain ⟨o2, ho2, _⟩ := id p2
  refine RZ.call_zipT (show s1.heap.IsTuple a its.toArray from p1) (show s1.heap.IsTuple b its2.toArray from p2) fun h' hz hTI hTO h1 h2 hsz hk => wpAny_pyIter_zip hz ?_
  have I2 : Inv X pins σ H1 { s1 with heap := h' } := I1.kept (t' := s1.toks) hk
  refine ⟨s1.heap.objs.size + 4, [s1.heap.objs.size + 4, s1.heap.objs.size + 2, s1.heap.objs.size + 3, s1.heap.objs.size, s1.heap.objs.size + 1], _, _, H1, rfl, I2, turn_zipN (PySem.W.ktu_apart s1.heap.objs.size a b (Heap.lt_size ho1) (Heap.lt_size ho2)), ⟨⟨_, _, hz, .inl rfl, false, rfl⟩, hTI, ⟨_, _, hTO⟩, h1, h2⟩, fun c hc => ?_, q⟩
  have le : s1.heap.objs.size ≤ c := by
    simp only [List.mem_cons, List.not_mem_nil, or_false] at hc
    rcases hc with z | z | z | z | z <;> rw [z] <;> first | exact Nat.le_add_right _ _ | exact Nat.le_refl _
  exact I1.fpOk le (I1.hok.fresh le)
def wiZipN (r : WA) : WA := fun G ρ Q => r G ρ fun ds => ∃ x y xs ys, ds = [x, y] ∧ tupsOf x = some xs ∧ tupsOf y = some ys ∧ Q (zipD xs ys)
section
variable {S : Sta} {nm : Str} {a b : Expr} {p pos np : Pos} {r : WA}
theorem di_zipN (hm : S.mg "zip" = none) (h : DA S [a, b] r) (hg : (S.names.lookup ("zip" : Str) == some .globalImplicit) = true := by kernel_rfl) (hs : ∀ env, starEach [a, b] env = (false, eval a env) :: starEach [b] env := by intro _; rfl) (hpl : ∀ env, (backTo pos (starEach [b] env)).any (·.1) = false := by intro _; rfl) :
    DI S (.Name nm np) (.Call (.Name "zip" p) [a, b] [] pos) (wiZipN r) := fun X f =>
  (pi_zipN (glOf f hg) (by rw [f.mg]; exact hm) (h X f) (hs _) (hpl _)).imp fun σ H R ⟨G, F, ρ, Qd, ev, hw, hq⟩ =>
  ⟨G, F, ρ, _, ev, hw, fun vs H1 F1 ds s1 e1 f1 r1 ⟨x, y, xs, ys, ed, ex, ey, q1⟩ => by
    subst ed
    rw [f.K]
    obtain ⟨u, w, rfl, ra, rb⟩ := r1.two
    obtain ⟨_, _, rfl, h1, l1⟩ := rp_tups ra ex
    obtain ⟨_, _, rfl, h2, l2⟩ := rp_tups rb ey
    exact ⟨_, _, _, _, rfl, Same.sqt e1.sub h1, Same.sqt e1.sub h2, hq _ H1 F1 _ s1 e1 f1 (itok_zipT h1 l1 h2 l2) q1⟩⟩
end

/-! ### t[::-1] of a tuple -/
theorem rev_part (n : Nat) : Builtin.Slice.sliceAdjust none none (-1) (n : Int) = ((n : Int) - 1, -1) := rfl
theorem rev_places (n : Nat) : Builtin.Slice.slicePlaces ((n : Int) - 1) (-1) (-1) = n := by
  unfold Builtin.Slice.slicePlaces
  rw [if_neg (by decide)]
  by_cases h : (n : Int) - 1 > -1
  · rw [if_pos h, show ((n : Int) - 1 - -1 - 1) / -(-1) + 1 = (n : Int) by rw [show (-(-1) : Int) = 1 by decide, Int.ediv_one]; omega, Int.toNat_natCast]
  · rw [if_neg h]
    show (0 : Int).toNat = n
    simp; omega
theorem fm_congr {α β : Type} {f g : α → Option β} : ∀ {l : List α}, (∀ a ∈ l, f a = g a) → l.filterMap f = l.filterMap g
  | [], _ => rfl
  | a :: l, h => by
    rw [List.filterMap_cons, List.filterMap_cons, h a List.mem_cons_self, fm_congr fun b hb => h b (List.mem_cons_of_mem _ hb)]
theorem rev_pick (xs : Array Value) : ((List.range xs.size).filterMap fun (m : Nat) => xs[(((xs.size : Int) - 1) + (m : Int) * (-1)).toNat]?).toArray = xs.toList.reverse.toArray := by
  have e : (List.range xs.size).filterMap (fun (m : Nat) => xs[(((xs.size : Int) - 1) + (m : Int) * (-1)).toNat]?) = ((List.range xs.size).map fun k => xs.size - 1 - k).filterMap (xs[·]?) := by
    rw [List.filterMap_map]
    refine fm_congr fun m hm => ?_
    have : m < xs.size := List.mem_range.mp hm
    show xs[_]? = xs[xs.size - 1 - m]?
    congr 1
    omega
  rw [e, PySem.W.krv_range, List.filterMap_reverse, PySem.W.krv_all]
section
variable {prog : Program} {w : World} {A : Around} {E : Value → Shared → Prop} {s : Shared}
theorem getItem_tuple_rev {t sl : Addr} {items : Array Value} {t1 : Tok} {Q : Value → Shared → Prop} (ht : IsTup s.heap t items) (hs : s.heap.IsSliceOf sl .none .none (.int (-1) t1)) (hsz : items.size ≤ sizeLine)
    (h : Q (.ref s.heap.objs.size) { s with heap := s.heap.push { cls := .type "tuple", data := .seq items.toList.reverse.toArray } }) : wpAny (model prog w) A (getItem (.ref t) (.ref sl)) Q E s := by
  obtain ⟨so, h1, h2, h3⟩ := id hs
  have ts : s.TypeIs (.ref sl) "slice" := ⟨so, h1, h2⟩
  unfold getItem
  try with_reducible refine wpAny_holding ?_
  first | refine wpAny_bind (wpAny_pure ?_) | skip
  refine wpAny_bind (wpAny_sequenceKey ht.typeIs (by decide) ?_)
  refine wpAny_bind (wpAny_callSpecial?_slot (name := Str.ofString "__getitem__") ht.typeIs PyProof.Rows.slot_tuple_getitem (wpAny_call_entry PyProof.Rows.slot_tuple_getitem ht.typeIs entry_tuple_getitem ?_ (args_tuple_getitem _ _)))
  show wpAny _ _ (Builtin.Tuple.tupleItemsOf (.ref t) >>= _) _ _ s
  refine wpAny_bind (tupleItemsOf_ ht (wpAny_bind (wpAny_typeOf ts ?_)))
  rw [if_pos (by decide)]
  apply wpAny_bind
  unfold Builtin.Slice.sliceApplied Builtin.Slice.sliceFields
  refine wpAny_bind (wpAny_bind (wpAny_field h1 h3 (x := .none) rfl (wpAny_bind (wpAny_field h1 h3 (x := .none) rfl (wpAny_bind (wpAny_field h1 h3 (x := .int (-1) t1) rfl (wpAny_pure ?_)))))))
  refine wpAny_bind (slicePart_int ?_)
  show wpAny _ _ (if ((-1 : Int) == 0) = true then _ else _) _ _ s
  rw [if_neg (by decide)]
  refine wpAny_bind (slicePart_none (wpAny_bind (slicePart_none (wpAny_bind (wpAny_pure ?_)))))
  show wpAny _ _ (match Builtin.Slice.sliceAdjust none none (-1) (items.size : Int) with | (lo, hi) => pure (lo, (-1 : Int), Builtin.Slice.slicePlaces lo hi (-1))) _ _ s
  rw [rev_part]
  show wpAny _ _ (pure (((items.size : Int) - 1), (-1 : Int), Builtin.Slice.slicePlaces ((items.size : Int) - 1) (-1) (-1))) _ _ s
  rw [rev_places]
  apply wpAny_pure
  show wpAny _ _ (if (((items.size : Int) - 1) == 0 && (-1 : Int) == 1 && items.size == items.size) = true then _ else _) _ _ s
  rw [if_neg (by rw [show ((-1 : Int) == 1) = false from rfl]; simp), rev_pick]
  have ok : sizeOk (.seq items.toList.reverse.toArray) := by
    show items.toList.reverse.toArray.size ≤ sizeLine
    rw [List.size_toArray, List.length_reverse, Array.length_toList]
    exact hsz
  first
    | exact wpAny_bind (m := Builtin.Tuple.tupleExact _) (wpAny_newObj_type (wpAny_pure ⟨_, rfl, wpAny_pure h⟩) ok)
    | exact wpAny_bind (wpAny_bind (m := Builtin.Tuple.tupleExact _) (wpAny_newObj_type (wpAny_pure (wpAny_pure ⟨_, rfl, wpAny_pure h⟩)) ok))
    | exact wpAny_bind (wpAny_bind (m := Builtin.Tuple.tupleExact _) (wpAny_newObj_type (wpAny_pure ⟨_, rfl, wpAny_pure h⟩) ok))
    | exact wpAny_bind (m := Builtin.Tuple.tupleExact _) (wpAny_newObj_type (wpAny_bind (wpAny_pure (wpAny_pure ⟨_, rfl, wpAny_pure h⟩))) ok)
end
end DL
set_option maxHeartbeats 4000000
namespace DL
open PySem PySem.Spec PyProof.Rows L2

/-! ### x[::-1], x a list or a tuple -/
def tRevT (K : PySem.W.Frag) (te : TE) : TE := fun σ H Q => te σ H fun x H1 => ∃ a xs, x = .ref a ∧ SqT K H1 a xs ∧ ∀ p, H1 p = none → Q (.ref p) (upd H1 p (.tup xs.reverse))
theorem pe_revT {X : Cx} {e : Expr} {te : TE} {k : Nat} {p1 p2 p3 pos : Pos} (he : PE X e te) : PE X (.Subscript e (.Slice none none (some (.UnaryOp .USub (.Constant (.int 1) k p1) p2)) p3) pos) (tRevT X.K te) := by
  refine ⟨fun pins s σ H Q I h => Subscript_ (thn (he.run pins s σ H _ I h) fun v s1 ⟨x, H1, I1, r1, a, xs, ex, hx, q⟩ => ?_)⟩
  subst ex
  cases r1
  have step : PO X (some (.UnaryOp .USub (.Constant (.int 1) k p1) p2)) (tPart (tUn (rU fun i => .int (-i)) (tC (.int 1)))) := po_some (pe_un un_neg pe_int)
  refine wpAny_Slice (thn (po_none.run pins s1 σ H1 (fun o H2 => o = none ∧ H2 = H1) I1 ⟨rfl, rfl⟩) fun u1 s2 ⟨o1, H2, I2, g1, z1, z2⟩ => ?_)
  subst z1 z2
  refine thn (po_none.run pins s2 σ H2 (fun o H3 => o = none ∧ H3 = H2) I2 ⟨rfl, rfl⟩) fun u2 s3 ⟨o2, H3, I3, g2, z1, z2⟩ => ?_
  subst z1 z2
  refine thn (step.run pins s3 σ H3 (fun o H4 => o = some (-1) ∧ H4 = H3) I3 ⟨1, rfl, -1, rfl, rfl, rfl⟩) fun u3 s4 ⟨o3, H4, I4, g3, z1, z2⟩ => ?_
  subst z1 z2
  cases g1
  cases g2
  cases g3 with
  | int _ t =>
    have I5 : Inv X pins σ H4 { s4 with heap := s4.heap.push { cls := .type "slice", data := .fields #[.none, .none, .int (-1) t] } } := I4.kept (t' := s4.toks) fun b ob q => Heap.get?_push_of_some _ q
    obtain ⟨its, rv, ht, hz⟩ := I5.tuple hx
    have hl := rv.length
    show wpAny (model X.prog X.w) X.A (subscriptTail e (.Slice none none (some (.UnaryOp .USub (.Constant (.int 1) k p1) p2)) p3) (.ref a) (.ref s4.heap.objs.size)) (EP X pins σ Q) X.xe { s4 with heap := s4.heap.push { cls := .type "slice", data := .fields #[.none, .none, .int (-1) t] } }
    refine tail_any (ops := [.ref a, .ref s4.heap.objs.size]) ht.typeIs (PyProof.Rows.slot_tuple_getitem.lookup) (getItem_tuple_rev ht (Heap.IsSliceOf.new _ .none .none (.int (-1) t)) (by rw [List.size_toArray]; omega) ?_) (by with_unfolding_all rfl)
    refine ⟨.ref _, _, I5.laid (t' := s4.toks) (o := .tup xs.reverse) (fun b ob q => Heap.get?_push_of_some _ q) (Nat.le_refl _) ⟨by rw [List.length_reverse]; exact hz, its.reverse, rv.reverse, ?_⟩, rfl, q _ (I5.hok.fresh (Nat.le_refl _))⟩
    exact IsTup.new _ _
theorem _root_.L2.PE.or {X : Cx} {e : Expr} {t t' : TE} (h : PE X e t) (h' : PE X e t') : PE X e (fun σ H Q => t σ H Q ∨ t' σ H Q) := ⟨fun pins s σ H Q I q => q.elim (h.run pins s σ H Q I) (h'.run pins s σ H Q I)⟩
def woRevA (w : W) : WO := fun G ρ Q => (w G ρ fun d => ∃ xs, d = .lst xs ∧ Q (.ow xs.reverse)) ∨ (w G ρ fun d => ∃ xs, tupsOf d = some xs ∧ Q (.fz (.tup xs.reverse)))
section
variable {S : Sta} {a : Expr} {pos : Pos} {wa : W}
theorem do_revA {k : Nat} {p1 p2 p3 : Pos} (ha : DE S a wa) : DO S (.Subscript a (.Slice none none (some (.UnaryOp .USub (.Constant (.int 1) k p1) p2)) p3) pos) (woRevA wa) := fun X f => ((pe_revL (ha X f)).or (pe_revT (ha X f))).imp fun σ H Q ⟨G, F, ρ, Qd, ev, hw, hq⟩ => by
  rw [f.K]
  rcases hw with hw | hw
  · exact .inl ⟨G, F, ρ, _, ev, hw, fun v H1 F1 d s1 e1 f1 r1 ⟨xs, ed, q1⟩ => by
      subst ed
      obtain ⟨p, vs, rfl, h, rr⟩ := rp_lstI e1.sub r1
      exact ⟨p, vs, rfl, h, fun p hp => e1.newL hp rr.reverse q1 fun v H' F' sv s2 e2 f2 r2 q2 => hq v H' F' sv (s1.trans s2) e2 (f1.trans f2) (r2.back f1) q2⟩⟩
  · exact .inr ⟨G, F, ρ, _, ev, hw, fun v H1 F1 d s1 e1 f1 r1 ⟨xs, ed, q1⟩ => by
      obtain ⟨p, vs, rfl, h, rr, _⟩ := rp_tupsH e1.sub r1 ed
      exact ⟨p, vs, rfl, h, fun p hp => e1.newT hp rr.reverse q1 fun v H' F' sv s2 e2 f2 r2 q2 => hq v H' F' sv (s1.trans s2) e2 (f1.trans f2) (r2.back f1) q2⟩⟩
end
end DL
set_option maxHeartbeats 4000000
namespace DL
open PySem PySem.Spec PyProof.Rows L2

/-! ### ints and pairs of ints, as the library reads them -/
theorem toPyL_ints : ∀ ns : List Int, toPyL (ns.map D.int) = some (ns.map .int)
  | [] => rfl
  | n :: ns => by
    show (match toPy (D.int n) with | some p => (toPyL (ns.map D.int)).map (p :: ·) | none => none) = _
    rw [toPyL_ints ns]
    rfl
theorem toPy_lstI (ns : List Int) : toPy (.lst (ns.map D.int)) = some (.list (ns.map .int)) := by unfold toPy; rw [toPyL_ints]; rfl
theorem toPy_tupI (ns : List Int) : toPy (.tup (ns.map D.int)) = some (.tuple (ns.map .int)) := by unfold toPy; rw [toPyL_ints]; rfl
theorem canLay_ints : ∀ ns : List Int, PyData.canLayAll0 (ns.map .int) = true
  | [] => by simp [PyData.canLayAll0]
  | n :: ns => by simp only [List.map_cons, PyData.canLayAll0, PyData.canLay0, canLay_ints ns, Bool.and_self]
theorem depth0_ints (ns : List Int) : PyData.depthAll (ns.map .int) = 0 := PySem.W.depth_ints ns
theorem shaped_tupI (ns : List Int) : SeqAt.shaped (.tuple (ns.map .int)) = true := by
  unfold SeqAt.shaped
  simp [PyData.canLay0, canLay_ints, PyData.depth, depth0_ints]
theorem shaped_int (i : Int) : SeqAt.shaped (.int i) = true := by simp [SeqAt.shaped, PyData.canLay0, PyData.depth]
theorem shaped_str {x : Str} (h : PyData.canLay0 (.str x) = true) : SeqAt.shaped (.str x) = true := by simp [SeqAt.shaped, h, PyData.depth]
theorem eqvAll_ints : ∀ a b : List Int, PyData.eqvAll (a.map .int) (b.map .int) = decide (a = b)
  | [], [] => by simp [PyData.eqvAll]
  | [], _ :: _ => by simp [PyData.eqvAll]
  | _ :: _, [] => by simp [PyData.eqvAll]
  | x :: xs, y :: ys => by
    rw [List.map_cons, List.map_cons, PyData.eqvAll, eqvAll_ints xs ys, PyData.eqv]
    by_cases h : x = y <;> by_cases h2 : xs = ys <;> simp [h, h2]
theorem eqv_lstI (a b : List Int) : PyData.eqv (.list (a.map .int)) (.list (b.map .int)) = decide (a = b) := by rw [PyData.eqv]; exact eqvAll_ints a b
theorem eqv_tupI (a b : List Int) : PyData.eqv (.tuple (a.map .int)) (.tuple (b.map .int)) = decide (a = b) := by rw [PyData.eqv]; exact eqvAll_ints a b
theorem eqv_int (i j : Int) : PyData.eqv (.int i) (.int j) = decide (i = j) := by rw [PyData.eqv]; by_cases h : i = j <;> simp [h]
theorem eqv_str (x y : Str) : PyData.eqv (.str x) (.str y) = (x == y) := by rw [PyData.eqv]
/-- == of ints, texts, lists of ints -/
theorem oEq_int {i j : Int} {Q : D → Prop} (q : Q (.bl (decide (i = j)))) : oEq (.int i) (.int j) Q := ⟨_, _, rfl, rfl, shaped_int i, shaped_int j, by rw [eqv_int]; exact q⟩
theorem oNe_int {i j : Int} {Q : D → Prop} (q : Q (.bl (!decide (i = j)))) : oNe (.int i) (.int j) Q := ⟨_, _, rfl, rfl, shaped_int i, shaped_int j, by rw [eqv_int]; exact q⟩
theorem oEq_str {x y : Str} {Q : D → Prop} (hx : PyData.canLay0 (.str x) = true) (hy : PyData.canLay0 (.str y) = true) (q : Q (.bl (x == y))) : oEq (.str x) (.str y) Q := ⟨_, _, rfl, rfl, shaped_str hx, shaped_str hy, by rw [eqv_str]; exact q⟩
theorem oNe_str {x y : Str} {Q : D → Prop} (hx : PyData.canLay0 (.str x) = true) (hy : PyData.canLay0 (.str y) = true) (q : Q (.bl (!(x == y)))) : oNe (.str x) (.str y) Q := ⟨_, _, rfl, rfl, shaped_str hx, shaped_str hy, by rw [eqv_str]; exact q⟩
theorem oEq_lstI {a b : List Int} {Q : D → Prop} (q : Q (.bl (decide (a = b)))) : oEq (.lst (a.map .int)) (.lst (b.map .int)) Q := ⟨_, _, toPy_lstI a, toPy_lstI b, shaped_ints a, shaped_ints b, by rw [eqv_lstI]; exact q⟩
theorem oNe_lstI {a b : List Int} {Q : D → Prop} (q : Q (.bl (!decide (a = b)))) : oNe (.lst (a.map .int)) (.lst (b.map .int)) Q := ⟨_, _, toPy_lstI a, toPy_lstI b, shaped_ints a, shaped_ints b, by rw [eqv_lstI]; exact q⟩
theorem any_ints (i : Int) : ∀ ns : List Int, ((ns.map PyData.int).any fun z => PyData.eqv z (.int i)) = decide (i ∈ ns)
  | [] => by simp
  | n :: ns => by
    rw [List.map_cons, List.any_cons, any_ints i ns, eqv_int]
    by_cases h : n = i
    · simp [h]
    · have h' : ¬ i = n := fun e => h e.symm
      simp [h, h']
theorem oIn_lstI {i : Int} {ns : List Int} {Q : D → Prop} (q : Q (.bl (decide (i ∈ ns)))) : oIn (.int i) (.lst (ns.map .int)) Q := ⟨_, _, _, rfl, rfl, toPyL_ints ns, shaped_int i, shaped_tupI ns, by rw [any_ints]; exact q⟩
theorem oNotIn_lstI {i : Int} {ns : List Int} {Q : D → Prop} (q : Q (.bl (!decide (i ∈ ns)))) : oNotIn (.int i) (.lst (ns.map .int)) Q := ⟨_, _, _, rfl, rfl, toPyL_ints ns, shaped_int i, shaped_tupI ns, by rw [any_ints]; exact q⟩
/-! pairs -/
def pD (t : Int × Int) : D := .tup [.int t.1, .int t.2]
def pP (t : Int × Int) : PyData := .tuple [.int t.1, .int t.2]
theorem toPy_pD (t : Int × Int) : toPy (pD t) = some (pP t) := rfl
theorem toPyL_pairs : ∀ ts : List (Int × Int), toPyL (ts.map pD) = some (ts.map pP)
  | [] => rfl
  | t :: ts => by
    show (match toPy (pD t) with | some p => (toPyL (ts.map pD)).map (p :: ·) | none => none) = _
    rw [toPyL_pairs ts]
    rfl
theorem shaped_pP (t : Int × Int) : SeqAt.shaped (pP t) = true := shaped_tupI [t.1, t.2]
theorem canLay_pairs : ∀ ts : List (Int × Int), PyData.canLayAll0 (ts.map pP) = true
  | [] => by simp [PyData.canLayAll0]
  | t :: ts => by
    rw [List.map_cons, PyData.canLayAll0, canLay_pairs ts]
    simp [pP, PyData.canLay0, PyData.canLayAll0]
theorem depth_pairs : ∀ ts : List (Int × Int), PyData.depthAll (ts.map pP) ≤ 1
  | [] => by simp [PyData.depthAll]
  | t :: ts => by
    have := depth_pairs ts
    rw [List.map_cons, PyData.depthAll]
    have h : (pP t).depth ≤ 1 := by simp [pP, PyData.depth, PyData.depthAll]
    omega
theorem shaped_pairs (ts : List (Int × Int)) : SeqAt.shaped (.tuple (ts.map pP)) = true := by
  have h := depth_pairs ts
  unfold SeqAt.shaped
  rw [PyData.canLay0, canLay_pairs, PyData.depth]
  simp; omega
theorem eqv_pair (t u : Int × Int) : PyData.eqv (pP t) (pP u) = decide (t = u) := by
  have := eqv_tupI [t.1, t.2] [u.1, u.2]
  show PyData.eqv (.tuple ([t.1, t.2].map .int)) (.tuple ([u.1, u.2].map .int)) = _
  rw [this]
  obtain ⟨a, b⟩ := t
  obtain ⟨c, d⟩ := u
  by_cases h : a = c <;> by_cases h2 : b = d <;> simp [h, h2]
theorem any_pairs (t : Int × Int) : ∀ ts : List (Int × Int), ((ts.map pP).any fun z => PyData.eqv z (pP t)) = decide (t ∈ ts)
  | [] => by simp
  | u :: ts => by
    rw [List.map_cons, List.any_cons, any_pairs t ts, eqv_pair]
    by_cases h : u = t
    · simp [h]
    · have h' : ¬ t = u := fun e => h e.symm
      simp [h, h']
theorem oIn_pairs {t : Int × Int} {ts : List (Int × Int)} {Q : D → Prop} (q : Q (.bl (decide (t ∈ ts)))) : oIn (pD t) (.tup (ts.map pD)) Q := ⟨_, _, _, rfl, toPy_pD t, toPyL_pairs ts, shaped_pP t, shaped_pairs ts, by rw [any_pairs]; exact q⟩
theorem oNotIn_pairs {t : Int × Int} {ts : List (Int × Int)} {Q : D → Prop} (q : Q (.bl (!decide (t ∈ ts)))) : oNotIn (pD t) (.tup (ts.map pD)) Q := ⟨_, _, _, rfl, toPy_pD t, toPyL_pairs ts, shaped_pP t, shaped_pairs ts, by rw [any_pairs]; exact q⟩
/-! sorted -/
theorem alike_all {β : Type} {f : β → PyData} (h : ∀ a b, PySem.W.alike (f a) (f b) = true) (l : List β) : PySem.W.AllAlike (l.map f) := PySem.W.AllAlike.of h
theorem oSorted_ints {x : D} {ns : List Int} {Q : SV → Prop} (hx : itemsOf x = some (ns.map .int)) (q : ∀ ms : List Int, ms.Perm ns → ms.Pairwise (· ≤ ·) → Q (.ow (ms.map .int))) : oSorted [x] Q := by
  have ek : (ns.map D.int).map keyD = ns.map PyData.int := by rw [List.map_map]; rfl
  refine ⟨x, _, rfl, hx, fun d hd => ?_, ?_, ?_, fun d hd => ?_, ?_⟩
  · obtain ⟨n, _, rfl⟩ := List.mem_map.mp hd
    rfl
  · rw [ek]; exact PySem.W.AllAlike.of (enc := PyData.int) fun a b => by simp [PySem.W.alike]
  · rw [ek]; exact PySem.W.Sortable.others (enc := PyData.int) fun b => ⟨(fun z : PyData.int b = PyData.none => PyData.noConfusion z), fun xs (z : PyData.int b = PyData.tuple xs) => PyData.noConfusion z⟩
  · obtain ⟨n, _, rfl⟩ := List.mem_map.mp hd
    show (PyData.int n).depth ≤ 100
    simp [PyData.depth]
  · have e : (ns.map D.int).mergeSort (PySem.W.dataLe false keyD) = (ns.mergeSort (fun a b => decide (a ≤ b))).map D.int := by
      rw [List.map_mergeSort (r := fun a b : Int => decide (a ≤ b)) (s := PySem.W.dataLe false keyD) (f := D.int)]
      intro a _ b _
      have := congrFun (congrFun (PySem.W.dataLe_int (fun i : Int => i)) a) b
      exact this.symm
    rw [e]
    refine q _ (List.mergeSort_perm _ _) ?_
    have := List.pairwise_mergeSort (le := fun a b : Int => decide (a ≤ b)) (fun a b c h1 h2 => by simp at *; omega) (fun a b => by simp; omega) ns
    exact this.imp fun h => of_decide_eq_true h
def tLe (t u : Int × Int) : Prop := t.1 < u.1 ∨ (t.1 = u.1 ∧ t.2 ≤ u.2)
instance (t u : Int × Int) : Decidable (tLe t u) := by unfold tLe; infer_instance
theorem oSorted_pairs {x : D} {ts : List (Int × Int)} {Q : SV → Prop} (hx : itemsOf x = some (ts.map pD)) (q : ∀ us : List (Int × Int), us.Perm ts → us.Pairwise tLe → Q (.ow (us.map pD))) : oSorted [x] Q := by
  have ek : (ts.map pD).map keyD = ts.map pP := by rw [List.map_map]; rfl
  refine ⟨x, _, rfl, hx, fun d hd => ?_, ?_, ?_, fun d hd => ?_, ?_⟩
  · obtain ⟨n, _, rfl⟩ := List.mem_map.mp hd
    rfl
  · rw [ek]; exact PySem.W.AllAlike.of (enc := pP) fun a b => by simp [pP, PySem.W.alike, PySem.W.alikeAll]
  · rw [ek]; exact PySem.W.Sortable.tuples (enc := pP) fun b => ⟨_, _, rfl⟩
  · obtain ⟨n, _, rfl⟩ := List.mem_map.mp hd
    show (pP n).depth ≤ 100
    simp [pP, PyData.depth, PyData.depthAll]
  · have e : (ts.map pD).mergeSort (PySem.W.dataLe false keyD) = (ts.mergeSort (fun a b => decide (tLe a b))).map pD := by
      rw [List.map_mergeSort (r := fun a b : Int × Int => decide (tLe a b)) (s := PySem.W.dataLe false keyD) (f := pD)]
      intro a _ b _
      have := congrFun (congrFun (PySem.W.dataLe_ii (fun t : Int × Int => t.1) (fun t => t.2)) a) b
      exact this.symm
    rw [e]
    refine q _ (List.mergeSort_perm _ _) ?_
    have tr : ∀ a b c : Int × Int, decide (tLe a b) = true → decide (tLe b c) = true → decide (tLe a c) = true := fun a b c h1 h2 => by
      have h1 : a.1 < b.1 ∨ (a.1 = b.1 ∧ a.2 ≤ b.2) := of_decide_eq_true h1
      have h2 : b.1 < c.1 ∨ (b.1 = c.1 ∧ b.2 ≤ c.2) := of_decide_eq_true h2
      exact decide_eq_true (show a.1 < c.1 ∨ (a.1 = c.1 ∧ a.2 ≤ c.2) by omega)
    have to : ∀ a b : Int × Int, (decide (tLe a b) || decide (tLe b a)) = true := fun a b => by
      rw [Bool.or_eq_true, decide_eq_true_iff, decide_eq_true_iff]
      show (a.1 < b.1 ∨ (a.1 = b.1 ∧ a.2 ≤ b.2)) ∨ (b.1 < a.1 ∨ (b.1 = a.1 ∧ b.2 ≤ a.2))
      omega
    have := List.pairwise_mergeSort (le := fun a b : Int × Int => decide (tLe a b)) tr to ts
    exact this.imp fun h => of_decide_eq_true h
end DL
set_option maxHeartbeats 4000000
namespace DL
open PySem PySem.Spec PyProof.Rows L2

/-! ### what is shown is short -/
mutual
/-- the weight of data that may be shown: texts of ints are at most 600 signs long -/
def fitD : D → Bool
  | .int i => decide (i.natAbs < 2 ^ 500)
  | .str x => x.cps.toList.all fun c => decide (c < 16 ^ 8)
  | .tup xs => fitL xs
  | .tix xs => fitL xs
  | .tky xs => fitL xs
  | .lst xs => fitL xs
  | .dic _ _ => false
  | .ob _ => false
  | _ => true
def fitL : List D → Bool
  | [] => true
  | x :: xs => fitD x && fitL xs
def wtD : D → Nat
  | .str x => x.cps.size
  | .tup xs => wtL xs
  | .tix xs => wtL xs
  | .tky xs => wtL xs
  | .lst xs => wtL xs
  | _ => 0
def wtL : List D → Nat
  | [] => 0
  | x :: xs => wtD x + 1 + wtL xs
def dpD : D → Nat
  | .tup xs => dpL xs + 1
  | .tix xs => dpL xs + 1
  | .tky xs => dpL xs + 1
  | .lst xs => dpL xs + 1
  | _ => 0
def dpL : List D → Nat
  | [] => 0
  | x :: xs => max (dpD x) (dpL xs)
end
theorem log2_lt {n k : Nat} (hk : 0 < k) (h : n < 2 ^ k) : n.log2 < k := by
  by_cases z : n = 0
  · rw [z]; exact hk
  · exact (Nat.log2_lt z).mpr h
mutual
theorem fit_py : ∀ d : D, fitD d = true → ∃ p, toPy d = some p ∧ p.showable = true ∧ p.leavesShort 600 = true ∧ p.bulk = wtD d ∧ p.depth = dpD d
  | .non, _ => ⟨_, rfl, rfl, rfl, rfl, rfl⟩
  | .bl b, _ => ⟨_, rfl, rfl, rfl, rfl, rfl⟩
  | .int i, h => by
    have hi : i.natAbs < 2 ^ 500 := by unfold fitD at h; exact of_decide_eq_true h
    have hl := log2_lt (by decide) hi
    refine ⟨.int i, rfl, ?_, ?_, rfl, rfl⟩
    · show decide (i.natAbs.log2 < 1920) = true
      exact decide_eq_true (by omega)
    · show decide ((PyData.shown (.int i)).length ≤ 600) = true
      have e := int_text_length_le (a := i) (k := 500) (by decide) hl
      exact decide_eq_true (Nat.le_trans (show (PyData.shown (.int i)).length ≤ 501 by simp only [PyData.shown]; rw [PySem.ofString_length]; exact e) (by decide))
  | .str x, h => ⟨_, rfl, rfl, by unfold fitD at h; exact h, rfl, rfl⟩
  | .tup xs, h => by
    obtain ⟨ps, e, h1, h2, h3, h4⟩ := fit_pyL xs (by unfold fitD at h; exact h)
    exact ⟨.tuple ps, by unfold toPy; rw [e]; rfl, h1, h2, h3, by show PyData.depthAll ps + 1 = dpL xs + 1; rw [h4]⟩
  | .tix xs, h => by
    obtain ⟨ps, e, h1, h2, h3, h4⟩ := fit_pyL xs (by unfold fitD at h; exact h)
    exact ⟨.tuple ps, by unfold toPy; rw [e]; rfl, h1, h2, h3, by show PyData.depthAll ps + 1 = dpL xs + 1; rw [h4]⟩
  | .tky xs, h => by
    obtain ⟨ps, e, h1, h2, h3, h4⟩ := fit_pyL xs (by unfold fitD at h; exact h)
    exact ⟨.tuple ps, by unfold toPy; rw [e]; rfl, h1, h2, h3, by show PyData.depthAll ps + 1 = dpL xs + 1; rw [h4]⟩
  | .lst xs, h => by
    obtain ⟨ps, e, h1, h2, h3, h4⟩ := fit_pyL xs (by unfold fitD at h; exact h)
    exact ⟨.list ps, by unfold toPy; rw [e]; rfl, h1, h2, h3, by show PyData.depthAll ps + 1 = dpL xs + 1; rw [h4]⟩
  | .dic _ _, h => by unfold fitD at h; cases h
  | .ob _, h => by unfold fitD at h; cases h
theorem fit_pyL : ∀ ds : List D, fitL ds = true → ∃ ps, toPyL ds = some ps ∧ PyData.showableAll ps = true ∧ PyData.leavesShortAll 600 ps = true ∧ PyData.bulkAll ps = wtL ds ∧ PyData.depthAll ps = dpL ds
  | [], _ => ⟨_, rfl, rfl, rfl, rfl, rfl⟩
  | d :: ds, h => by
    obtain ⟨g1, g2⟩ := Bool.and_eq_true_iff.mp (show (fitD d && fitL ds) = true from by unfold fitL at h; exact h)
    obtain ⟨p, e, h1, h2, h3, h4⟩ := fit_py d g1
    obtain ⟨ps, e', k1, k2, k3, k4⟩ := fit_pyL ds g2
    refine ⟨p :: ps, by unfold toPyL; rw [e, e']; rfl, ?_, ?_, ?_, ?_⟩
    · show (p.showable && PyData.showableAll ps) = true; rw [h1, k1]; rfl
    · show (p.leavesShort 600 && PyData.leavesShortAll 600 ps) = true; rw [h2, k2]; rfl
    · show p.bulk + 1 + PyData.bulkAll ps = wtD d + 1 + wtL ds; rw [h3, k3]
    · show max p.depth (PyData.depthAll ps) = max (dpD d) (dpL ds); rw [h4, k4]
end
/-- what can be shown -/
def Shw (d : D) : Prop := fitD d = true ∧ wtD d ≤ 20000 ∧ dpD d ≤ 60
theorem oRepr_of {x : D} {Q : SV → Prop} (h : Shw x) (q : ∀ p, toPy x = some p → Q (.fz (.str p.shown))) : oRepr [x] Q := by
  obtain ⟨h1, h2, h3⟩ := h
  obtain ⟨p, e, s1, s2, s3, s4⟩ := fit_py x h1
  refine ⟨x, p, rfl, e, s1, by omega, ?_, q p e⟩
  have z := PyData.shown_le_bulk 600 (by decide) p s2
  rw [s3] at z
  rw [sizeLine_eq]
  have : (600 + 2) * wtD x ≤ 602 * 20000 := Nat.mul_le_mul (by decide) h2
  omega
/-! ### a module's name for an object that stands still: a tuple, a table with text keys -/
def GTup (B : Bs) (x : Str) (ds : List D) : Prop := ∃ (c : Addr) (vs : List V), B.mg x = some (.ref c) ∧ (∀ H, SqT B.K H c vs) ∧ RpL B.K (fun _ => none) vs ds
def GTab (B : Bs) (x : Str) (kvs : List (Str × D)) : Prop := ∃ c : Addr, B.mg x = some (.ref c) ∧ ∀ k z, kvs.lookup k = some z → ∃ v, KDct B.K B.w c k v ∧ Rp B.K (fun _ => none) v z
/-! ### texts compared -/
def oEqS : D → D → (D → Prop) → Prop := fun x y Q => ∃ a b : Str, x = .str a ∧ y = .str b ∧ Q (.bl (decide (a = b)))
def oNeS : D → D → (D → Prop) → Prop := fun x y Q => ∃ a b : Str, x = .str a ∧ y = .str b ∧ Q (.bl (!decide (a = b)))
theorem dec_strV {a b : Str} : decide (V.str a = V.str b) = decide (a = b) := by rw [Bool.eq_iff_iff]; simp
section
variable {S : Sta} {a b e : Expr} {es : List Expr} {pos p : Pos} {wa wb : W} {x : Str}
theorem cm_eqS : CmpR S .Eq rEq oEqS := ⟨fun X f => op_eq, fun G F σ H ρ v1 d1 v2 d2 Qd Q ev r1 r2 ⟨i, j, e1, e2, hQ⟩ hq => by
  subst e1 e2
  cases r1; cases r2
  exact ⟨rfl, by rw [dec_strV]; exact hq _ H F _ (Same.refl _) ev Fr.refl (.bl _) hQ⟩⟩
theorem cm_neS : CmpR S .NotEq rNe oNeS := ⟨fun X f => op_ne, fun G F σ H ρ v1 d1 v2 d2 Qd Q ev r1 r2 ⟨i, j, e1, e2, hQ⟩ hq => by
  subst e1 e2
  cases r1; cases r2
  exact ⟨rfl, by rw [dec_strV]; exact hq _ H F _ (Same.refl _) ev Fr.refl (.bl _) hQ⟩⟩
theorem de_fdivW (ha : DE S a wa) (hb : DE S b wb) : DE S (.BinOp a .FloorDiv b pos) (wOp (oI CDivW fun i j => i / j) wa wb) := fun X f => (pe_op op_fdivW (ha X f) (hb X f)).imp (tD_op opd_I)
/-! ### what is never reached -/
def wNo : W := fun _ _ _ => False
def woNo : WO := fun _ _ _ => False
theorem de_no : DE S e wNo := fun X f => ⟨fun pins s σ H Q I ⟨_, _, _, _, _, h, _⟩ => h.elim⟩
theorem do_no : DO S e woNo := fun X f => ⟨fun pins s σ H Q I ⟨_, _, _, _, _, h, _⟩ => h.elim⟩
/-- x not in a tuple of the module -/
def wNotInG (ds : List D) (wa : W) : W := fun G ρ Q => wa G ρ fun d => oNotIn d (.tup ds) Q
theorem de_notInG {ds : List D} (h : GTup S.toBs x ds) (ha : DE S a wa) (hg : (S.names.lookup x == some .globalImplicit) = true := by kernel_rfl) (hd : (x == ("__debug__" : Str)) = false := by kernel_rfl) (hm : behindInMarks .NotIn (.Name x p) = false := by rfl) : DE S (.Compare a [.NotIn] [.Name x p] pos) (wNotInG ds wa) := fun X f => by
  obtain ⟨c, vs, hmg, hs, hr⟩ := h
  have op : OpR X (compareOp .NotIn) (rNotInS S.K) := f.K ▸ op_notInS f.room.units65
  exact (pe_cmpR op (ha X f) (pe_glob (v := .ref c) (u := .ref c) (glOf f hg) (by rw [f.mg]; exact hmg) rfl hd) hm).imp fun σ H Q ⟨G, F, ρ, Qd, ev, hw, hq⟩ => ⟨G, F, ρ, _, ev, hw, fun v1 H1 F1 d1 s1 e1 f1 r1 ⟨ys, p, q, e0, e2, e3, sh1, sh2, hQ⟩ => by
    cases e0
    exact ⟨p, q, r1.dp e1.sub e2, .inr (.tup (hs H1) (RpL.dp (fun _ _ z => by cases z) hr e3)), sh1, sh2, hq _ H1 F1 _ s1 e1 f1 (.bl _) hQ⟩⟩
/-- a table of the module, read -/
def wTab (kvs : List (Str × D)) (w : W) : W := fun G ρ Q => w G ρ fun d => ∃ k z, d = .str k ∧ kvs.lookup k = some z ∧ Q z
theorem de_tab {kvs : List (Str × D)} (h : GTab S.toBs x kvs) (hb : DE S b wb) (hg : (S.names.lookup x == some .globalImplicit) = true := by kernel_rfl) (hd : (x == ("__debug__" : Str)) = false := by kernel_rfl) (hs : PlainIx b := by intro _ _; rfl) :
    DE S (.Subscript (.Name x p) b pos) (wTab kvs wb) := fun X f => by
  obtain ⟨c, hm, hk⟩ := h
  exact (pe_ix ix_kdict (pe_glob (v := .ref c) (u := .ref c) (glOf f hg) (by rw [f.mg]; exact hm) rfl hd) (hb X f) hs).imp fun σ H Q ⟨G, F, ρ, Qd, ev, hw, hq⟩ => ⟨G, F, ρ, fun d => ∃ k z, d = .str k ∧ kvs.lookup k = some z ∧ Qd z, ev, hw, fun v1 H1 F1 d1 s1 e1 f1 r1 ⟨k, z, ed, hl, q⟩ => by
    subst ed
    obtain ⟨v, kd, rz⟩ := hk k z hl
    rw [r1.strI]
    exact ⟨c, k, v, rfl, rfl, by rw [f.K, f.w]; exact kd, hq v H1 F1 z s1 e1 f1 (rz.mono fun _ _ z => by cases z) q⟩⟩
def woGcd (r : WA) : WO := fun G ρ Q => r G ρ fun ds => ∃ i j : Int, ds = [.int i, .int j] ∧ Q (.fz (.int ((Nat.gcd i.natAbs j.natAbs : Nat) : Int)))
theorem do_gcd {r : WA} (hm : S.mg x = some (.builtin "math.gcd")) (ha : DA S (e :: es) r) (hg : (S.names.lookup x == some .globalImplicit) = true := by kernel_rfl) (hdb : (x == ("__debug__" : Str)) = false := by decide)
    (he : ∀ env, starEach (e :: es) env = (false, eval e env) :: starEach es env := by intro _; rfl) (hpl : ∀ env, (backTo pos (starEach es env)).any (·.1) = false := by intro _; rfl) : DO S (.Call (.Name x p) (e :: es) [] pos) (woGcd r) := fun X f =>
  (pe_callBfun cr_gcd (glOf f hg) (by rw [f.mg]; exact hm) (ha X f) hdb (he _) (hpl _)).imp fun σ H Q ⟨G, F, ρ, Qd, ev, hw, hq⟩ => ⟨G, F, ρ, _, ev, hw, fun vs H1 F1 ds s1 e1 f1 r1 ⟨i, j, e2, q⟩ => by
    subst e2
    obtain ⟨u, v, rfl, h1, h2⟩ := r1.two
    obtain rfl := h1.intI
    obtain rfl := h2.intI
    exact ⟨i, j, rfl, hq _ H1 F1 (.fz (.int _)) s1 e1 f1 (Rp.int _) q⟩⟩
end
end DL
set_option maxHeartbeats 4000000
/-! dicts with flat keys and with keys that are tuples, the keys as values -/
namespace DL
open PySem PySem.Spec PyProof.Rows L2

def sg {α : Type} (kvs : List (Key × α)) : List (List Key × α) := kvs.map fun kv => ([kv.1], kv.2)
/-- a dict with flat keys -/
abbrev dK (kvs : List (Key × D)) : D := .dic false (sg kvs)
abbrev oK (kvs : List (Key × D)) : SV := .od false (sg kvs)
def lookD {κ : Type} [DecidableEq κ] (kds : List (κ × D)) (k : κ) : Option D := (kds.find? fun kv => decide (kv.1 = k)).map (·.2)
section
variable {K : PySem.W.Frag} {F H : Hp}
theorem look_rp {κ : Type} [DecidableEq κ] (k : κ) : ∀ {kvs : List (κ × V)} {kds : List (κ × D)}, kvs.map (·.1) = kds.map (·.1) → RpL K F (kvs.map (·.2)) (kds.map (·.2)) →
    (lookD kds k = none ∧ valV kvs k = none) ∨ ∃ d v, lookD kds k = some d ∧ valV kvs k = some v ∧ Rp K F v d
  | [], [], _, _ => .inl ⟨rfl, rfl⟩
  | [], _ :: _, e, _ => by cases e
  | _ :: _, [], e, _ => by cases e
  | (k1, v) :: kvs, (k2, d) :: kds, e, r => by
    rw [List.map_cons, List.map_cons] at e r
    obtain ⟨e1, e2⟩ := List.cons.inj e
    have e1 : k1 = k2 := e1
    subst e1
    cases r with
    | cons h r =>
      by_cases c : k1 = k
      · exact .inr ⟨d, v, by simp [lookD, List.find?_cons, c], valV_pos c, h⟩
      · rcases look_rp k e2 r with ⟨h1, h2⟩ | ⟨d', v', h1, h2, h3⟩
        · exact .inl ⟨by simpa [lookD, List.find?_cons, c] using h1, (valV_neg c).trans h2⟩
        · exact .inr ⟨d', v', by simpa [lookD, List.find?_cons, c] using h1, (valV_neg c).trans h2, h3⟩
/-- the flat list behind -/
def unsg (kvs : List (List Key × V)) : List (Key × V) := kvs.map fun kv => (kv.1.headD (.inl 0), kv.2)
theorem unsg_keys : ∀ {kvs : List (List Key × V)} {kds : List (Key × D)}, kvs.map (·.1) = (sg kds).map (·.1) → (unsg kvs).map (·.1) = kds.map (·.1)
  | [], [], _ => rfl
  | [], _ :: _, e => by cases e
  | _ :: _, [], e => by cases e
  | (k, v) :: kvs, (k2, d) :: kds, e => by
    obtain ⟨e1, e2⟩ := List.cons.inj (show k :: kvs.map (·.1) = [k2] :: (sg kds).map (·.1) from e)
    subst e1
    show k2 :: (unsg kvs).map (·.1) = k2 :: kds.map (·.1)
    rw [unsg_keys e2]
theorem unsg_vals (kvs : List (List Key × V)) : (unsg kvs).map (·.2) = kvs.map (·.2) := by
  unfold unsg
  rw [List.map_map]
  rfl
theorem sg_vals {α : Type} (kds : List (Key × α)) : (sg kds).map (·.2) = kds.map (·.2) := by
  unfold sg
  rw [List.map_map]
  rfl
theorem sg_keys {α : Type} (kds : List (Key × α)) : (sg kds).map (·.1) = kds.map fun kv => [kv.1] := by
  unfold sg
  rw [List.map_map]
  rfl
/-- the key x and the dict y: what is found -/
inductive Fnd : D → D → Option D → Prop
  | flat (k : Key) (kvs : List (Key × D)) : Fnd (kD k) (dK kvs) (lookD kvs k)
  | tup (ks : List Key) (kds : List (List Key × D)) : Fnd (.tky (ks.map kD)) (.dic true kds) (lookD kds ks)
theorem dget_of {v1 v2 : V} {x y : D} {o : Option D} (s : Same F H) (r1 : Rp K F v1 x) (r2 : Rp K F v2 y) (c : Fnd x y o) :
    ∃ (a : Addr) (ov : Option V), v2 = .ref a ∧ DGet H a v1 ov ∧ ((o = none ∧ ov = none) ∨ ∃ d v, o = some d ∧ ov = some v ∧ Rp K F v d) := by
  cases c with
  | flat k kvs =>
    cases r2 with
    | @dic a t vs kds h r =>
      obtain ⟨e1, e2⟩ := r.split
      have hk := unsg_keys e1
      have hv : RpL K F ((unsg vs).map (·.2)) (kvs.map (·.2)) := by rw [unsg_vals, ← sg_vals]; exact e2
      rw [kD_of r1]
      refine ⟨a, valV (unsg vs) k, rfl, DGet.k (s _ _ h), ?_⟩
      rcases look_rp k hk hv with ⟨h1, h2⟩ | ⟨d, v, h1, h2, h3⟩
      · exact .inl ⟨h1, h2⟩
      · exact .inr ⟨d, v, h1, h2, h3⟩
  | tup ks kds =>
    cases r2 with
    | @dic a t vs kds h r =>
      obtain ⟨e1, e2⟩ := r.split
      cases r1 with
      | @tky b us ds hb rb =>
        have eu := kDs_of rb
        subst eu
        refine ⟨a, valV vs ks, rfl, DGet.t (s _ _ h) (s _ _ hb), ?_⟩
        rcases look_rp ks e1 e2 with ⟨h1, h2⟩ | ⟨d, v, h1, h2, h3⟩
        · exact .inl ⟨h1, h2⟩
        · exact .inr ⟨d, v, h1, h2, h3⟩
end
def oDIn : D → D → (D → Prop) → Prop := fun x y Q => ∃ o, Fnd x y o ∧ Q (.bl o.isSome)
def oDNotIn : D → D → (D → Prop) → Prop := fun x y Q => ∃ o, Fnd x y o ∧ Q (.bl (!o.isSome))
def oDGet : D → D → (D → Prop) → Prop := fun y x Q => ∃ d, Fnd x y (some d) ∧ Q d
section
variable {S : Sta} {a b e : Expr} {es : List Expr} {pos p p2 tpos : Pos} {wa wb wk w : W} {x : Str} {wv : WV} {r : WA}
theorem units1 {X : Cx} (f : Fam S X) : X.A.units + 1 < cLine := by have := f.room.un; omega
theorem de_din (ha : DE S a wa) (hb : DE S b wb) (hm : behindInMarks .In b = false := by rfl) : DE S (.Compare a [.In] [b] pos) (wOp oDIn wa wb) := fun X f =>
  (pe_cmp (pc_din (units1 f) (ha X f) (hb X f)) hm).imp fun σ H Q ⟨G, F, ρ, Qd, ev, hw, hq⟩ => ⟨G, F, ρ, _, ev, hw, fun v1 H1 F1 d1 s1 e1 f1 r1 q1 => ⟨G, F1, ρ, _, e1, q1, fun v2 H2 F2 d2 s2 e2 f2 r2 ⟨o, c, q⟩ => by
    obtain ⟨a, ov, rfl, g, h⟩ := dget_of e2.sub (r1.mono s2) r2 c
    refine ⟨a, ov, rfl, g, ?_⟩
    have eo : ov.isSome = o.isSome := by
      rcases h with ⟨h1, h2⟩ | ⟨d, v, h1, h2, _⟩
      · rw [h1, h2]; rfl
      · rw [h1, h2]; rfl
    rw [eo]
    exact hq _ H2 F2 _ (s1.trans s2) e2 (f1.trans f2) (.bl _) q⟩⟩
theorem de_dnotin (ha : DE S a wa) (hb : DE S b wb) (hm : behindInMarks .NotIn b = false := by rfl) : DE S (.Compare a [.NotIn] [b] pos) (wOp oDNotIn wa wb) := fun X f =>
  (pe_cmp (pc_dnotin (units1 f) (ha X f) (hb X f)) hm).imp fun σ H Q ⟨G, F, ρ, Qd, ev, hw, hq⟩ => ⟨G, F, ρ, _, ev, hw, fun v1 H1 F1 d1 s1 e1 f1 r1 q1 => ⟨G, F1, ρ, _, e1, q1, fun v2 H2 F2 d2 s2 e2 f2 r2 ⟨o, c, q⟩ => by
    obtain ⟨a, ov, rfl, g, h⟩ := dget_of e2.sub (r1.mono s2) r2 c
    refine ⟨a, ov, rfl, g, ?_⟩
    have eo : ov.isSome = o.isSome := by
      rcases h with ⟨h1, h2⟩ | ⟨d, v, h1, h2, _⟩
      · rw [h1, h2]; rfl
      · rw [h1, h2]; rfl
    rw [eo]
    exact hq _ H2 F2 _ (s1.trans s2) e2 (f1.trans f2) (.bl _) q⟩⟩
theorem de_dget (ha : DE S a wa) (hb : DE S b wb) (hs : NoSl b := by intro _ _; rfl) : DE S (.Subscript a b pos) (wOp oDGet wa wb) := fun X f =>
  (pe_dget (units1 f) (ha X f) (hb X f) hs).imp fun σ H Q ⟨G, F, ρ, Qd, ev, hw, hq⟩ => ⟨G, F, ρ, _, ev, hw, fun v1 H1 F1 d1 s1 e1 f1 r1 q1 => ⟨G, F1, ρ, _, e1, q1, fun v2 H2 F2 d2 s2 e2 f2 r2 ⟨d, c, q⟩ => by
    obtain ⟨a, ov, ea, g, h⟩ := dget_of e2.sub r2 (r1.mono s2) c
    rcases h with ⟨h1, _⟩ | ⟨d', v, h1, h2, h3⟩
    · cases h1
    · cases h1
      rw [h2] at g
      exact ⟨a, v, ea, g, hq v H2 F2 d (s1.trans s2) e2 (f1.trans f2) h3 q⟩⟩⟩
/-! ### {} to be filled with flat keys -/
def woDnewK : WO := fun _ _ Q => Q (oK [])
theorem do_dnewK : DO S (.Dict [] [] pos) woDnewK := fun X f => pe_dnewK.imp fun σ H Q ⟨G, F, ρ, Qd, ev, hw, hq⟩ p hp =>
  hq _ _ F (oK []) (Same.refl _) (ev.liveO hp) (Fr.upd hp) ⟨p, [], rfl, upd_same, rfl, .nil, ev.nr hp, hp, ev.fnone hp⟩ hw
/-! ### d[k] = v, d ours -/
/-- d with v at x -/
inductive Ptd : D → D → SV → SV → Prop
  | flat (k : Key) (kvs : List (Key × D)) (d : D) (h : kvs.length < sizeLine) : Ptd (kD k) d (oK kvs) (oK (putD kvs k d))
  | tup (ks : List Key) (kds : List (List Key × D)) (d : D) (h : kds.length < sizeLine) : Ptd (.tky (ks.map kD)) d (.od true kds) (.od true (putD kds ks d))
def wStoreD (i : Nat) (wk : W) (wv : WV) : WS := fun G E ρ => wv G ρ fun d ρ' => (∃ t kds, ρ'[i]? = some (some (.od t kds))) ∧ wk G ρ' fun kd => ∃ sv sw, ρ'[i]? = some (some sv) ∧ Ptd kd d sv sw ∧ E.nx (ρ'.set i (some sw))
theorem ownDictA {K : PySem.W.Frag} {G : Gc} {H0 F0 F H : Hp} {σ : St} {ρ : En} {i : Nat} (ev : Ev K G H0 F0 F H σ ρ) {t : Bool} {kds : List (List Key × D)} (q : ρ[i]? = some (some (.od t kds))) : ∃ a kvs, σ[i]? = some (some (.ref a)) ∧ H a = some (odO t kvs) ∧ kvs.map (·.1) = kds.map (·.1) ∧ RpL K F (kvs.map (·.2)) (kds.map (·.2)) ∧ ¬ G.R a := by
  obtain ⟨v, h1, a, vs, rfl, h2, h3, h4, h5⟩ := ev.r.slot i _ q
  exact ⟨a, vs, h1, h2, h3, h4, h5⟩
theorem keys_len {α β κ : Type} {xs : List (κ × α)} {ys : List (κ × β)} (h : xs.map (·.1) = ys.map (·.1)) : xs.length = ys.length := by
  have := congrArg List.length h
  simpa using this
theorem ds_storeD {i : Nat} (hv : DV S e wv) (hk : DE S b wk) (hN : (S.N[i]? == some x) = true := by kernel_rfl) (hx : (S.names.lookup x == some .local || S.names.lookup x == some .cell || S.names.lookup x == some .free) = true := by kernel_rfl) (hd : (x == ("__debug__" : Str)) = false := by kernel_rfl) (hcd : (x == ("__classdict__" : Str)) = false := by kernel_rfl)
    (ha : ∀ env v, assign (.Subscript (.Name x p) b tpos) env v = (do
      let ov ← holding [v] (eval (.Name x p) env)
      let iv ← holding [v, ov] (eval b env)
      standAt tpos
      holding [v, ov, iv] (setItem ov iv v)
      release [v, ov, iv] []) := by intro _ _; rfl)
    (hs : ∀ env, swapsWithSole [.Subscript (.Name x p) b tpos] e pos.line env = pure false := by intro _; rfl) (hw : ∀ env, swappedStores [.Subscript (.Name x p) b tpos] e env = pure none := by intro _; rfl) (h1 : ∀ env, (assignEach [.Subscript (.Name x p) b tpos] env).map (·.2) = [assign (.Subscript (.Name x p) b tpos) env] := by intro _; rfl) :
    DS S (.Assign [.Subscript (.Name x p) b tpos] e pos) (wStoreD i wk wv) := fun X f => by
  refine (ps_asg (hv X f) (pg_sub (pvN f hN hx hd hcd) (hk X f) (set_dict (units1 f)) (ha _)) (hs _) (hw _) (h1 _)).imp fun D σ H ⟨G, H0, F0, F, ρ, E, ev, hw, g⟩ => ?_
  refine ⟨G, H0, F0, F, ρ, _, ev, hw, fun v H1 F1 d ρ1 ev1 s1 r1 ⟨⟨t0, kds0, q0⟩, hw2⟩ => ?_⟩
  obtain ⟨a, vs0, hu, _⟩ := ownDictA ev1 q0
  refine ⟨.ref a, hu, G, F1, ρ1, _, ev1.r, hw2, fun u H2 F2 kd s2 e2 fr2 rk ⟨sv, sw, q, pt, z⟩ => ?_⟩
  -- the tuple that is the key, made meanwhile, is kept for good
  have evT := ev1.goT s2 e2 fr2
  cases pt with
  | flat k kvs _ hz =>
    obtain ⟨a', vs, h1', h3, h4, h5, h6⟩ := ownDictA (ev1.go s2 e2 fr2) q
    rw [hu] at h1'
    cases h1'
    have eu := kD_of rk
    subst eu
    have hk := unsg_keys h4
    have hv : RpL S.K F1 ((unsg vs).map (·.2)) (kvs.map (·.2)) := by rw [unsg_vals, ← sg_vals]; exact h5
    refine ⟨a, _, rfl, DPut.k (kvs := unsg vs) (k := k) h3 (by rw [keys_len hk]; exact hz), ?_⟩
    obtain ⟨p1, p2⟩ := putD_rp (k := k) r1 hk hv
    have hsg : ∀ l : List (Key × V), (sg l).map (fun kv => (kv.1.headD (.inl 0), kv.2)) = l := fun l => by unfold sg; rw [List.map_map]; exact List.map_id' _
    refine g.nx _ _ _ _ ((ev1.go s2 e2 fr2).chgS (sv' := oK (putD kvs k d)) (o := .dK (putK (unsg vs) k v)) q rfl hu ⟨a, sg (putK (unsg vs) k v), rfl, ?_, ?_, ?_, h6⟩ h6) s1 z
    · rw [upd_same]
      show _ = some (HO.dK _)
      rw [hsg]
    · rw [sg_keys, sg_keys]
      have := congrArg (List.map fun (z : Key) => [z]) p1
      rw [List.map_map, List.map_map] at this
      exact this
    · rw [sg_vals, sg_vals]
      exact p2
  | tup ks kds _ hz =>
    obtain ⟨a', vs, h1', h3, h4, h5, h6⟩ := ownDictA (ev1.go s2 e2 fr2) q
    rw [hu] at h1'
    cases h1'
    cases rk with
    | @tky b us ds hb rb =>
      have eu := kDs_of rb
      subst eu
      refine ⟨a, _, rfl, DPut.t (kvs := vs) (k := ks) h3 (e2.sub _ _ hb) (by rw [keys_len h4]; exact hz), ?_⟩
      obtain ⟨p1, p2⟩ := putD_rp (k := ks) r1 h4 h5
      exact g.nx _ _ _ _ ((ev1.go s2 e2 fr2).chgS (sv' := .od true (putD kds ks d)) (o := .dT (putK vs ks v)) q rfl hu ⟨a, putK vs ks v, rfl, upd_same, p1, p2, h6⟩ h6) s1 z
end
end DL
set_option maxHeartbeats 4000000
/-! built-ins over more data: {} of either kind, len of a dict, max and min of one argument, set of more items, index of a tuple -/
namespace DL
open PySem PySem.Spec PyProof.Rows L2

section
variable {S : Sta} {a b e : Expr} {es : List Expr} {pos p p2 pos2 : Pos} {w wa wb wo we : W} {x : Str}
def woDnewA : WO := fun _ _ Q => Q (oK []) ∨ Q (.od true [])
theorem do_dnewA : DO S (.Dict [] [] pos) woDnewA := fun X f => ⟨fun pins s σ H Q I ⟨G, F, ρ, Qd, ev, hw, hq⟩ => by
  rcases hw with hw | hw
  · exact (do_dnewK X f).run pins s σ H Q I ⟨G, F, ρ, Qd, ev, hw, hq⟩
  · exact (do_dnew X f).run pins s σ H Q I ⟨G, F, ρ, Qd, ev, hw, hq⟩⟩
/-! ### len -/
def rLenK : List V → Hp → VK → Prop := fun xs H Q => ∃ (p : Addr) (kvs : List (Key × V)), xs = [.ref p] ∧ H p = some (.dK kvs) ∧ Q (.int ((kvs.length : Nat) : Int)) H
theorem call_len_dK {X : Cx} : CallR X (.builtin "len") rLenK := by
  intro pins s σ H xs us Q I r ⟨p, kvs, e, hp, q⟩
  subst e
  obtain ⟨u, rfl, rx⟩ := vals1 r
  obtain rfl : u = .ref p := rx
  exact d_len I (.inl hp) fun t s' I' => ⟨.int ((kvs.length : Nat) : Int), H, I', ⟨t, rfl⟩, q⟩
def oLenD : List D → (SV → Prop) → Prop := fun ds Q => oLen ds Q ∨ ∃ t kds, ds = [.dic t kds] ∧ Q (.fz (.int kds.length))
theorem cd_lenD : CD S (.builtin "len") oLenD := fun X f => ((cd_len X f).or (call_len_dT.or call_len_dK)).imp fun vs H Q ⟨G, F, σ, ρ, ds, Qd, ev, rl, h, hq⟩ => by
  rcases h with h | ⟨t, kds, rfl, q⟩
  · exact .inl ⟨G, F, σ, ρ, ds, Qd, ev, rl, h, hq⟩
  · obtain ⟨u, rfl, r⟩ := rl.one
    cases r with
    | @dic a _ kvs _ h r =>
      have hl : kds.length = kvs.length := (keys_len r.split.1).symm
      rw [hl] at q
      cases t with
      | true => exact .inr (.inl ⟨a, kvs, rfl, ev.sub _ _ h, ev.giv (.int _) q hq⟩)
      | false => exact .inr (.inr ⟨a, unsg kvs, rfl, ev.sub _ _ h, by unfold unsg; rw [List.length_map]; exact ev.giv (.int _) q hq⟩)
/-! ### max(xs), min(xs) -/
def rMaxT (K : PySem.W.Frag) (f : Int → Int → Int) : List V → Hp → VK → Prop := fun vs H Q => ∃ (a : Addr) (n : Int) (ns : List Int), vs = [V.ref a] ∧ (SqL K H a ((n :: ns).map V.int) ∨ SqT K H a ((n :: ns).map V.int)) ∧ Q (.int (ns.foldl f n)) H
theorem alike_ints (ns : List Int) : PySem.W.AlikeAll (ns.map PyData.int) := ⟨fun x hx y hy => by
    obtain ⟨i, _, rfl⟩ := List.mem_map.mp hx
    obtain ⟨j, _, rfl⟩ := List.mem_map.mp hy
    rfl, fun x hx z => by
    obtain ⟨i, _, rfl⟩ := List.mem_map.mp hx
    cases z⟩
theorem depth_ints : ∀ ns : List Int, PyData.depthAll (ns.map PyData.int) = 0
  | [] => rfl
  | n :: ns => by rw [List.map_cons]; unfold PyData.depthAll; rw [depth_ints ns]; rfl
theorem max_int_id {h : Heap} {u : Value} {n : Int} {bs : List Addr} (r : Reads h u (.int n) bs) : ∃ t, u = .int n t := by cases r; exact ⟨_, rfl⟩
theorem cr_maxT {X : Cx} (hc : X.calm = true) (hu : X.A.units + 2 < cLine) : CallR X (.builtin "max") (rMaxT X.K max) := by
  intro pins s σ H vs us Q I r ⟨a, n, ns, e, hs, q⟩
  subst e
  rw [Vals.ref1 r]
  have un : X.A.units + 1 + PyData.depthAll ((PyData.int n) :: ns.map .int) < cLine := by
    have := depth_ints (n :: ns)
    rw [List.map_cons] at this
    rw [this]; omega
  have al : PySem.W.AlikeAll ((PyData.int n) :: ns.map .int) := alike_ints (n :: ns)
  rcases hs with hs | hs
  · obtain ⟨its, rv, hl, _⟩ := I.list hs
    refine PySem.W.max_list_data (x := .int n) (xs := ns.map .int) (I.ok.hd hc) hl.isList (rv.ints.reads _) al un fun i v h' tk bs _ rd hk => ?_
    rw [PySem.W.maxD_ints] at rd
    obtain ⟨t, rfl⟩ := max_int_id rd
    exact ⟨.int _, H, I.kept (t' := tk) hk, ⟨t, rfl⟩, q⟩
  · obtain ⟨its, rv, hl, _⟩ := I.tuple hs
    refine PySem.W.max_tuple_data (x := .int n) (xs := ns.map .int) (I.ok.hd hc) (show s.heap.IsTuple a its.toArray from hl) (rv.ints.reads _) al un fun i v h' tk bs _ rd hk => ?_
    rw [PySem.W.maxD_ints] at rd
    obtain ⟨t, rfl⟩ := max_int_id rd
    exact ⟨.int _, H, I.kept (t' := tk) hk, ⟨t, rfl⟩, q⟩
theorem cr_minT {X : Cx} (hc : X.calm = true) (hu : X.A.units + 2 < cLine) : CallR X (.builtin "min") (rMaxT X.K min) := by
  intro pins s σ H vs us Q I r ⟨a, n, ns, e, hs, q⟩
  subst e
  rw [Vals.ref1 r]
  have un : X.A.units + 1 + PyData.depthAll ((PyData.int n) :: ns.map .int) < cLine := by
    have := depth_ints (n :: ns)
    rw [List.map_cons] at this
    rw [this]; omega
  have al : PySem.W.AlikeAll ((PyData.int n) :: ns.map .int) := alike_ints (n :: ns)
  rcases hs with hs | hs
  · obtain ⟨its, rv, hl, _⟩ := I.list hs
    refine PySem.W.min_list_data (x := .int n) (xs := ns.map .int) (I.ok.hd hc) hl.isList (rv.ints.reads _) al un fun i v h' tk bs _ rd hk => ?_
    rw [PySem.W.minD_ints] at rd
    obtain ⟨t, rfl⟩ := max_int_id rd
    exact ⟨.int _, H, I.kept (t' := tk) hk, ⟨t, rfl⟩, q⟩
  · obtain ⟨its, rv, hl, _⟩ := I.tuple hs
    refine PySem.W.min_tuple_data (x := .int n) (xs := ns.map .int) (I.ok.hd hc) (show s.heap.IsTuple a its.toArray from hl) (rv.ints.reads _) al un fun i v h' tk bs _ rd hk => ?_
    rw [PySem.W.minD_ints] at rd
    obtain ⟨t, rfl⟩ := max_int_id rd
    exact ⟨.int _, H, I.kept (t' := tk) hk, ⟨t, rfl⟩, q⟩
def oMax1 (f : Int → Int → Int) : List D → (SV → Prop) → Prop := fun ds Q => ∃ x n ns, ds = [x] ∧ itemsOf x = some ((n :: ns).map .int) ∧ Q (.fz (.int (ns.foldl f n)))
theorem cd_max1 : CD S (.builtin "max") (oMax1 max) := fun X f => (cr_maxT f.calm (by have := f.room.un; omega)).imp fun vs H Q ⟨G, F, σ, ρ, ds, Qd, ev, rl, ⟨x, n, ns, e, e2, q⟩, hq⟩ => by
  subst e
  obtain ⟨u, rfl, r⟩ := rl.one
  obtain ⟨a, ws, rfl, h, rr⟩ := rp_sq ev.sub r e2
  rw [rr.ints] at h
  rw [f.K]
  exact ⟨a, n, ns, rfl, h, ev.giv (.int _) q hq⟩
theorem cd_min1 : CD S (.builtin "min") (oMax1 min) := fun X f => (cr_minT f.calm (by have := f.room.un; omega)).imp fun vs H Q ⟨G, F, σ, ρ, ds, Qd, ev, rl, ⟨x, n, ns, e, e2, q⟩, hq⟩ => by
  subst e
  obtain ⟨u, rfl, r⟩ := rl.one
  obtain ⟨a, ws, rfl, h, rr⟩ := rp_sq ev.sub r e2
  rw [rr.ints] at h
  rw [f.K]
  exact ⟨a, n, ns, rfl, h, ev.giv (.int _) q hq⟩
/-! ### sorted(set(xs)), few of them told often -/
theorem setR_num {w : World} {h : Heap} {a : Addr} {S : Int → Bool} {n : Nat} (R : SetR w h a S n) : ∃ l : List Int, l.Nodup ∧ l.length = n ∧ ∀ k, k ∈ l ↔ S k = true := by
  obtain ⟨o, es, ep, t, ho, hex, hd, g, nd, hm, hb, hf, hn, hr, hl⟩ := R
  exact ⟨_, nd, by rw [List.length_map, Array.length_toList]; exact hn, fun k => (hm k).symm⟩
def rSetA (K : PySem.W.Frag) (w : World) : List V → Hp → VK → Prop := fun xs H Q => ∃ (a : Addr) (ns : List Int), xs = [.ref a] ∧ (SqL K H a (ns.map V.int) ∨ SqT K H a (ns.map V.int)) ∧ ns.length + 1 < scanBound ∧
  ∀ p n, H p = none → (∃ l : List Int, l.Nodup ∧ l.length = n ∧ ∀ k, k ∈ l ↔ k ∈ ns) → Q (.ref p) (upd H p (SetO w p (fun j => decide (j ∈ ns)) n))
theorem cr_setA {X : Cx} (hc : X.calm = true) : CallR X (.type "set") (rSetA X.K X.w) := by
  intro pins s σ H xs us Q I rv ⟨a, ns, e, hs, hb, q⟩
  subst e
  rw [Vals.ref1 rv]
  have fin : ∀ {c : Nat} {h' : Heap}, SetR X.w h' s.heap.objs.size (fun j => decide (j ∈ ns)) c → ∃ l : List Int, l.Nodup ∧ l.length = c ∧ ∀ k, k ∈ l ↔ k ∈ ns := fun R => by
    obtain ⟨l, h1, h2, h3⟩ := setR_num R
    exact ⟨l, h1, h2, fun k => by rw [h3 k]; exact decide_eq_true_iff⟩
  rcases hs with hs | hs
  · obtain ⟨its, rr, pl, hz⟩ := I.list hs
    refine call_set_ints ns (I.ok.hd hc) pl.isList rr.ints hb fun s' ⟨h', tk, c, e, R, hcn, kp⟩ => ?_
    subst e
    exact ⟨.ref _, _, I.laid (t' := tk) kp (Nat.le_refl _) (setO_new R), rfl, q _ c (I.hok.fresh (Nat.le_refl _)) (fin R)⟩
  · obtain ⟨its, rr, pl, hz⟩ := I.tuple hs
    refine call_set_tupI ns (I.ok.hd hc) (show s.heap.IsTuple a its.toArray from pl) rr.ints hb fun h' tk c R hcn kp => ?_
    exact ⟨.ref _, _, I.laid (t' := tk) kp (Nat.le_refl _) (setO_new R), rfl, q _ c (I.hok.fresh (Nat.le_refl _)) (fin R)⟩
/-- few: how many different ones -/
def Few (ns : List Int) : Prop := ns.length < 4000 ∧ ∃ l : List Int, l.length < 64 ∧ ∀ k ∈ ns, k ∈ l
def woSortSetA (w : W) : WO := fun G ρ Q => w G ρ fun d => ∃ ns : List Int, itemsOf d = some (ns.map .int) ∧ Few ns ∧ ∀ ms : List Int, ms.Pairwise (· < ·) → (∀ k, k ∈ ms ↔ k ∈ ns) → Q (.ow (ms.map .int))
theorem nodup_le {l m : List Int} (h : l.Nodup) (s : ∀ k ∈ l, k ∈ m) : l.length ≤ m.length := by
  induction l generalizing m with
  | nil => exact Nat.zero_le _
  | cons x l ih =>
    rw [List.nodup_cons] at h
    have hx := s x List.mem_cons_self
    have := ih (m := m.erase x) h.2 fun k hk => (List.mem_erase_of_ne (fun e => h.1 (by rw [← e]; exact hk))).mpr (s k (List.mem_cons_of_mem _ hk))
    rw [List.length_erase_of_mem hx] at this
    have : 0 < m.length := List.length_pos_of_mem hx
    rw [List.length_cons]; omega
theorem do_sortSetA (hm : S.mg "sorted" = none) (hm2 : S.mg "set" = none) (h : DE S e w) (hg : (S.names.lookup ("sorted" : Str) == some .globalImplicit) = true := by kernel_rfl) (hg2 : (S.names.lookup ("set" : Str) == some .globalImplicit) = true := by kernel_rfl)
    (he : ∀ env, starEach [.Call (.Name "set" p2) [e] [] pos2] env = (false, eval (.Call (.Name "set" p2) [e] [] pos2) env) :: starEach [] env := by intro _; rfl) (he2 : ∀ env, starEach [e] env = (false, eval e env) :: starEach [] env := by intro _; rfl) :
    DO S (.Call (.Name "sorted" p) [.Call (.Name "set" p2) [e] [] pos2] [] pos) (woSortSetA w) := fun X f => by
  have h1 : PE X (.Call (.Name "set" p2) [e] [] pos2) _ := pe_callTy (cr_setA f.calm) (glOf f hg2) (by rw [f.mg]; exact hm2) (by decide +kernel) (pa_cons (h X f) pa_nil (he2 _)) (by decide) (by decide) (he2 _) rfl
  refine (pe_callB (cr_sortedSet f.calm) (glOf f hg) (by rw [f.mg]; exact hm) (by decide +kernel) (pa_cons h1 pa_nil (he _)) (by decide) (by decide) (he _) rfl).imp fun σ H Q ⟨G, F, ρ, Qd, ev, hw, hq⟩ => ?_
  refine ⟨G, F, ρ, _, ev, hw, fun v H1 F1 d s1 e1 f1 r1 ⟨ns, ed, ⟨hn, l, hl, hin⟩, q1⟩ => ?_⟩
  obtain ⟨q, vs, rfl, hs, rr⟩ := rp_sq e1.sub r1 ed
  rw [rr.ints] at hs
  rw [f.K]
  refine ⟨q, ns, rfl, hs, (by have e0 : scanBound = 4096 := rfl; omega), fun t n ht ⟨m, m1, m2, m3⟩ => ?_⟩
  have hle : n ≤ l.length := m2 ▸ nodup_le m1 fun k hk => hin k ((m3 k).mp hk)
  refine ⟨t, _, n, rfl, upd_same, by omega, fun ms p2 hp hm _ hp2 => ?_⟩
  have e2 := e1.ext (o := SetO X.w t (fun j => decide (j ∈ ns)) n) ht
  exact e2.newL hp2 RpL.of_ints (q1 ms hp fun k => by rw [hm]; exact decide_eq_true_iff) fun v H' F' sv s2 e3 f2 r2 q2 => hq v H' F' sv (s1.trans s2) e3 (f1.trans ((Fr.upd ht).trans f2)) (r2.back (f1.trans (Fr.upd ht))) q2
/-! ### t.index(k), t a tuple of ints -/
def rIxT (K : PySem.W.Frag) : V → List V → Hp → VK → Prop := fun x xs H Q => ∃ p, ∃ ys : List Int, ∃ z j, x = .ref p ∧ xs = [.int z] ∧ SqT K H p (ys.map V.int) ∧ ys[j]? = some z ∧ (∀ m, m < j → ys[m]? ≠ some z) ∧ Q (.int (j : Nat)) H
theorem flat_ints (ys : List Int) : (ys.map V.int).all flatV = true := by
  rw [List.all_map]
  exact List.all_eq_true.mpr fun _ _ => rfl
theorem mt_index_ints {X : Cx} : MtR X "tuple.index" (rIxT X.K) := by
  intro pins s σ H x xs v us Q I rx rs ⟨p, ys, z, j, e1, e2, hq, hy, hno, q⟩
  subst e1 e2
  cases rx
  obtain ⟨u, rfl, t, rfl⟩ := vals1 rs
  obtain ⟨its, r, ⟨⟨cls, dd, dt, sl⟩, ho, hc, n, hd⟩, hz⟩ := I.tuple hq
  simp only at hc hd
  subst hc hd
  have hl : its.toArray.size = ys.length := by rw [List.size_toArray, ← r.length, List.length_map]
  have hj : j < its.toArray.size := by rw [hl]; exact (List.getElem?_eq_some_iff.mp hy).1
  have val : ∀ (m : Nat) (hm : m < its.toArray.size), ∃ y t', ys[m]? = some y ∧ its.toArray[m] = Value.int y t' := fun m hm => by
    have hm' : m < ys.length := by rw [← hl]; exact hm
    obtain ⟨w, hw, t', hw'⟩ := r.get (i := m) (x := .int ys[m]) (by simp [hm'])
    exact ⟨ys[m], t', List.getElem?_eq_getElem hm', by rw [← hw', ← (List.getElem?_eq_some_iff.mp hw).2]; simp⟩
  refine call_meets PySem.F.slot_tuple_index ⟨_, ho, rfl⟩ PySem.F.entry_tuple_index (PySem.F.args_tuple_index_2 _ _) (TI.tuple_indexAt p its.toArray n dd sl (.int z t) (eqU (.int z)) j hj ?_ fun m hm hmj => ?_)
    ⟨ho, fun w hw => mem_eqAt (x := .int z) ⟨t, rfl⟩ rfl r (flat_ints ys) w (by simpa using hw), ⟨.int (j : Nat), H, I.tok _, ⟨_, rfl⟩, q⟩⟩
  · obtain ⟨y, t', h1, h2⟩ := val j hj
    rw [hy] at h1
    cases h1
    rw [h2]
    exact beq_self_eq_true (α := Int) z
  · obtain ⟨y, t', h1, h2⟩ := val m hm
    rw [h2]
    exact beq_eq_false_iff_ne.mpr fun e => hno m hmj (by rw [h1, e])
def wIxT (wo we : W) : W := fun G ρ Q => wo G ρ fun x => ∃ ys : List Int, x = .tix (ys.map .int) ∧ we G ρ fun y => ∃ (k : Int) (j : Nat), y = .int k ∧ ys[j]? = some k ∧ (∀ m, m < j → ys[m]? ≠ some k) ∧ Q (.int j)
/-- a method of a tuple that the program made -/
def tTM (K : PySem.W.Frag) (r : V → List V → Hp → VK → Prop) (to : TE) (t : TA) : TE := fun σ H Q => to σ H fun x H1 => (∃ p o ys, x = .ref p ∧ H1 p = some (.frz o (.tup ys)) ∧ o.dict = none) ∧ t σ H1 fun xs H2 => r x xs H2 Q
theorem pe_tm {X : Cx} {o : Expr} {to : TE} {t : TA} {name : Str} {apos cpos : Pos} {id : String} {r : V → List V → Hp → VK → Prop} (slot : Slot "tuple" name id) (hty : typeOf (.builtin id) = pure (.type "method_descriptor")) (hm : MtR X id r) (ho : PE X o to) (ha : PA X (e :: es) t)
    (hbase : attributeBase o name X.env (eval o X.env) = eval o X.env) (hfew : ((backTo cpos (starEach (e :: es) X.env)).all (fun x => !x.1) && (backToKw cpos (keywordEach [] X.env)).all (fun x => x.1.isSome) && decide ((e :: es).length + ([] : List Keyword).length + (if ([] : List Keyword).isEmpty then 0 else 1) < 30)) = true)
    (hline : (apos.endLine == cpos.line) = true) (hs : starEach (e :: es) X.env = (false, eval e X.env) :: starEach es X.env) (hplain : (backTo cpos (starEach es X.env)).any (·.1) = false) :
    PE X (.Call (.Attribute o name apos) (e :: es) [] cpos) (tTM X.K r to t) := ⟨fun pins s σ H Q I h => by
  refine wpAny_Call_method_late hbase hfew hline rfl (thn (ho.run pins s σ H _ I h) fun v s1 ⟨x, H1, I1, r1, ⟨p, ob, ys, ex, hq, hdn⟩, q1⟩ => ?_)
  subst ex
  cases r1
  obtain ⟨ho, hz, its, rv, ob', ho', hc, n, hd⟩ := I1.hok p _ hq
  rw [ho] at ho'
  cases ho'
  refine ⟨"tuple", id, PySem.F.plainAttrs_tuple, slot, hty, ⟨ob, ho, hc⟩, fun a ea => ?_, ?_⟩
  · cases ea; exact ⟨ob, ho, hdn⟩
  have hA := ha.run cpos pins s1 σ H1 _ I1 q1
  rw [hs] at hA ⊢
  refine Calls.callWith_builtin (by show (false || (backTo cpos (starEach es X.env)).any (·.1)) = false; rw [hplain] <;> rfl) (Calls.evalArgs_plain ?_)
  exact thn hA fun us s2 ⟨vs, H2, I2, r2, q2⟩ => hm pins s2 σ H2 (V.ref p) vs (Value.ref p) us Q I2 (show Value.ref p = Value.ref p from rfl) r2 q2⟩
theorem de_ixT {o : Expr} {apos cpos : Pos} (ho : DE S o wo) (he : DE S e we) (hbase : ∀ env, attributeBase o "index" env (eval o env) = eval o env := by intro _; rfl)
    (hfew : ∀ env, ((backTo cpos (starEach [e] env)).all (fun x => !x.1) && (backToKw cpos (keywordEach [] env)).all (fun x => x.1.isSome) && decide ([e].length + ([] : List Keyword).length + (if ([] : List Keyword).isEmpty then 0 else 1) < 30)) = true := by intro _; rfl)
    (hline : (apos.endLine == cpos.line) = true := by kernel_rfl) (hs : ∀ env, starEach [e] env = (false, eval e env) :: starEach [] env := by intro _; rfl) :
    DE S (.Call (.Attribute o "index" apos) [e] [] cpos) (wIxT wo we) := fun X f => by
  refine (pe_tm PySem.F.slot_tuple_index PySem.F.type_tuple_index mt_index_ints (ho X f) (pa_cons (he X f) pa_nil (hs _)) (hbase _) (hfew _) hline (hs _) rfl).imp fun σ H Q ⟨G, F, ρ, Qd, ev, hw, hq⟩ => ?_
  refine ⟨G, F, ρ, _, ev, hw, fun v1 H1 F1 d1 s1 e1 f1 r1 ⟨ys, ed, q1⟩ => ?_⟩
  subst ed
  rw [f.K]
  cases r1 with
  | @tix p ob vs _ h hn rr =>
    have h' := rr.ints
    subst h'
    refine ⟨⟨p, ob, _, rfl, e1.sub _ _ h, hn⟩, G, F1, ρ, _, e1, q1, fun vs H2 F2 ds s2 e2 f2 r2 ⟨k, j, ek, hj, hno, q2⟩ => ?_⟩
    subst ek
    rw [r2.intI]
    exact ⟨p, ys, k, j, rfl, rfl, .inl (.inr ⟨ob, e2.sub _ _ (s2 _ _ h)⟩), hj, hno, hq _ H2 F2 _ (s1.trans s2) e2 (f1.trans f2) (.int _) q2⟩
/-! ### a tuple that is to be a key -/
def wTupK (w : WA) : W := fun G ρ Q => w G ρ fun xs => xs.length ≤ sizeLine ∧ Q (.tky xs)
theorem de_tupK {x1} {r : WA} (h : DA S es r) : DE S (.Tuple es x1 pos) (wTupK r) := fun X f => (pe_tup (h X f)).imp fun σ H Q ⟨G, F, ρ, Qd, ev, hw, hq⟩ =>
  ⟨G, F, ρ, _, ev, hw, fun vs H1 F1 ds s1 e1 f1 r1 ⟨z, q1⟩ => ⟨by rw [r1.len]; exact z, fun p hp =>
    hq (.ref p) _ _ (.tky ds) (s1.trans (same_upd (e1.fnone hp))) (e1.live hp) (f1.trans (Fr.upd hp)) (.tky upd_same (r1.mono (same_upd (e1.fnone hp)))) q1⟩⟩
/-! ### tuple(xs), the object known whole; the tuple tracked -/
def rTupX (K : PySem.W.Frag) : List V → Hp → VK → Prop := fun xs H Q => ∃ p ys, xs = [.ref p] ∧ SqL K H p ys ∧ ∀ l o, H l = none → o.dict = none → Q (.ref l) (upd H l (.frz o (.tup ys)))
theorem call_tupX {X : Cx} : CallR X (.type "tuple") (rTupX X.K) := by
  intro pins s σ H xs us Q I r ⟨p, ys, e, hq, q⟩
  subst e
  obtain ⟨u, rfl, rx⟩ := vals1 r
  cases rx
  obtain ⟨its, r', pl, hz⟩ := I.list hq
  have hlen := r'.length
  refine call_tuple_list pl.isList (fun h' kp => ?_) (by simp only [List.size_toArray] <;> omega)
  have I1 : Inv X pins σ H { s with heap := h' } := I.kept (t' := s.toks) kp
  have I2 : Inv X pins σ (upd H h'.objs.size (.frz { cls := .type "tuple", data := .seq its.toArray } (.tup ys))) { s with heap := h'.push { cls := .type "tuple", data := .seq its.toArray } } :=
    I1.laid (t' := s.toks) (fun b o e => Heap.get?_push_of_some _ e) (Nat.le_refl _) (show ObjOk X.prog X.w _ _ _ (.frz _ (.tup ys)) from ⟨Heap.get?_push_size _ rfl, hz, its, r', IsTup.new _ _⟩)
  exact ⟨.ref h'.objs.size, _, I2, rfl, q _ _ (I1.hok.fresh (Nat.le_refl _)) rfl⟩
def oTupX (m : List D → D) : List D → (SV → Prop) → Prop := fun ds Q => ∃ xs, ds = [.lst xs] ∧ Q (.fz (m xs))
theorem cd_tix : CD S (.type "tuple") (oTupX .tix) := fun X f => call_tupX.imp fun vs H Q ⟨G, F, σ, ρ, ds, Qd, ev, rl, ⟨xs, e, q⟩, hq⟩ => by
  subst e
  obtain ⟨u, rfl, r⟩ := rl.one
  obtain ⟨p, ws, rfl, h, rr⟩ := rp_lstI ev.sub r
  rw [f.K]
  exact ⟨p, ws, rfl, h, fun l o hl ho => hq _ _ _ (.fz (.tix xs)) (same_upd (ev.fnone hl)) (ev.live hl) (Fr.upd hl) (Rp.tix upd_same ho (rr.mono (same_upd (ev.fnone hl)))) q⟩
theorem cd_tky : CD S (.type "tuple") (oTupX .tky) := fun X f => call_tuple_of.imp fun vs H Q ⟨G, F, σ, ρ, ds, Qd, ev, rl, ⟨xs, e, q⟩, hq⟩ => by
  subst e
  obtain ⟨u, rfl, r⟩ := rl.one
  obtain ⟨p, ws, rfl, h, rr⟩ := rp_lstI ev.sub r
  rw [f.K]
  exact ⟨p, ws, rfl, .inl ⟨h, fun l hl => hq _ _ _ (.fz (.tky xs)) (same_upd (ev.fnone hl)) (ev.live hl) (Fr.upd hl) (Rp.tky upd_same (rr.mono (same_upd (ev.fnone hl)))) q⟩⟩
end
end DL
set_option maxHeartbeats 4000000
/-! comprehensions of two clauses, dict comprehensions -/
namespace DL
open PySem PySem.Spec PyProof.Rows L2

section
variable {K : PySem.W.Frag}
abbrev NoOwn (σ : St) (ρ : En) (a : Addr) : Prop := ∀ (j : Nat) (sv : SV), ρ[j]? = some (some sv) → isOwn sv = true → σ[j]? ≠ some (some (.ref a))
/-- the heap besides the list under way -/
def FrD (G : Gc) (D : Addr) (H H' : Hp) : Prop := ∀ c o, H c = some o → ¬ G.R c → c ≠ D → H' c = some o
theorem noOwn_set {σ : St} {ρ : En} {a : Addr} {i : Nat} {v : V} {d : D} (h : NoOwn σ ρ a) : NoOwn (σ.set i (some v)) (ρ.set i (some (.fz d))) a := fun j sv q ho => by
  rcases set_get q with ⟨rfl, z⟩ | ⟨ne, q⟩
  · cases z; cases ho
  · rw [List.getElem?_set_ne ne]
    exact h j sv q ho
theorem noOwn_wipe {σ : St} {ρ : En} {a : Addr} {vs : List Nat} (h : NoOwn σ ρ a) : NoOwn (wipe σ vs) (wipeD ρ vs) a := fun j sv q ho z => by
  obtain ⟨h1, h2⟩ := wipeD_get q
  rw [wipe_out2 h2] at z
  exact h j sv h1 ho z
/-- the turns of one clause, D the list -/
theorem lc_loop {G : Gc} {g : TG} {wg : WG} {wt : WT} {we : W} {vs is : List Nat} {J : It} {ds : List D} {σ : St} {ρ : En} {F1 H1 : Hp} {D : Addr} {acc0 : List V} {accd0 : List DL.D} {Qd : List DL.D → Prop} (Fin : Hp → Prop)
    (hg : GOk K is g wg) (hsub : ∀ i ∈ is, i ∈ vs) (it : ItOk K J F1 ds) (e1 : EvR K G F1 H1 σ ρ) (nR : ¬ G.R D) (nF1 : F1 D = none) (nS : NoOwn σ ρ D) (hD0 : H1 D = some (.lst acc0)) (rl0 : RpL K F1 acc0 accd0) (q : wcL wg wt we vs G ρ ds accd0 Qd)
    (hfin : ∀ H2 F2 acc accd, Same F1 F2 → EvR K G F2 H2 σ ρ → H2 D = some (.lst acc) → RpL K F2 acc accd → F2 D = none → FrD G D H1 H2 → Qd accd → Fin H2) :
    ∃ W : Nat → Nat → Hp → Prop, (∃ m, W 0 m H1) ∧ ∀ i m H, W i m H → (J.stop i H ∧ Fin H) ∨ (J.go i H ∧ ∃ Nx : Hp → Prop, (∀ H', Nx H' → ∃ m', m' < m ∧ W (i + 1) m' H') ∧ ∀ x H', J.yld i H x H' → g x (wipe σ vs) H' fun σ2 H2 => wipe σ2 vs = wipe σ vs ∧ tT K wt σ2 H2 fun b H3 =>
      if b = true then tD K we σ2 H3 fun y H4 => ∃ acc, H4 D = some (.lst acc) ∧ acc.length < sizeLine ∧ Nx (upd H4 D (.lst (acc ++ [y]))) else Nx H3) := by
  let I : Nat → Hp → Prop := fun i H2 => ∃ F2 acc accd, Same F1 F2 ∧ Same F2 H2 ∧ H2 D = some (.lst acc) ∧ RpL K F2 acc accd ∧ F2 D = none ∧ EvR K G F2 H2 σ ρ ∧ FrD G D H1 H2 ∧ wcL wg wt we vs G ρ (ds.drop i) accd Qd
  refine ⟨fun i m H2 => m = ds.length - i ∧ i ≤ ds.length ∧ I i H2, ⟨ds.length, by omega, Nat.zero_le _, F1, acc0, accd0, Same.refl _, e1.sub, hD0, rl0, nF1, e1, fun c o h _ _ => h, q⟩, ?_⟩
  rintro i m H2 ⟨rfl, hi, F2, acc, accd, s2, s2', hDl, rl, nF, e2, fr, hwl⟩
  by_cases hlt : i < ds.length
  · obtain ⟨hgo, hy⟩ := it.go i H2 F2 s2 s2' hlt
    refine .inr ⟨hgo, I (i + 1), fun H' h => ⟨ds.length - (i + 1), by omega, rfl, hlt, h⟩, fun x H3 y => ?_⟩
    obtain ⟨d, hd, hx⟩ := hy x H3 y
    rw [List.drop_eq_getElem_cons hlt] at hwl
    rw [List.getElem?_eq_getElem hlt] at hd
    cases hd
    obtain ⟨F3, s3, nF3, e3, fr3, hD3, rx⟩ : ∃ F3, Same F2 F3 ∧ F3 D = none ∧ EvR K G F3 H3 σ ρ ∧ (∀ c o, H2 c = some o → H3 c = some o) ∧ H3 D = some (.lst acc) ∧ Rp K F3 x ds[i] := by
      rcases hx with ⟨rfl, rx⟩ | ⟨T, o, nT, rfl, rx⟩
      · exact ⟨F2, Same.refl _, nF, e2, fun _ _ h => h, hDl, rx⟩
      · have ne : D ≠ T := ne_of_none hDl nT
        have e3 := e2.live (o := o) nT
        exact ⟨upd F2 T o, same_upd (none_sub s2' nT), by rw [upd_ne ne]; exact nF, e3, fun c u h => by rw [upd_ne (ne_of_none h nT)]; exact h, by rw [upd_ne ne]; exact hDl, rx⟩
    have e4 := evr_wipe (evr_more e3 hD3 rfl nF3 nS) vs
    have step := hwl (G.more D (.lst acc)) (G.more_ext D _ nR)
    refine hg (fun σ' ρ' => EvR K (G.more D (.lst acc)) F3 H3 σ' ρ' ∧ wipe σ' vs = wipe σ vs) F3 H3 (wipe σ vs) (wipeD ρ vs) x ds[i] _ _ (fun j v d σ' ρ' hj ⟨p1, p2⟩ hl r => ⟨evr_set p1 hl r, by rw [wipe_set (hsub j hj)]; exact p2⟩) e3.sub ⟨e4, wipe_wipe σ vs⟩ rx step fun σ' ρ' ⟨p1, p2⟩ q => ?_
    refine ⟨p2, G.more D (.lst acc), F3, ρ', _, p1, q, fun b H4 F4 s4 e4 f4 q4 => ?_⟩
    have hD4 : H4 D = some (.lst acc) := e4.wd.2.1
    have nF4 : F4 D = none := e4.res D (.inr rfl)
    have fr4 : FrD G D H1 H4 := fun c o hc nr ne => f4 c o (fr3 c o (fr c o hc nr ne)) fun r => r.elim nr ne
    -- the def's own slots, as they stand
    have back : ∀ {F5 H5 : Hp}, Same F4 F5 → Same F5 H5 → (∀ a, G.R a → F5 a = none) → G.Wd H5 → (∀ c o, H4 c = some o → ¬ G.R c → c ≠ D → H5 c = some o) → EvR K G F5 H5 σ ρ := fun s5 s5' r5 w5 fr5 => by
      refine ⟨s5', r5, w5, fun j sv h => ?_, e1.len⟩
      obtain ⟨u, h1, h2⟩ := e3.slot j sv h
      refine ⟨u, h1, ?_⟩
      cases sv with
      | fz d => exact Rp.mono (s4.trans s5) h2
      | ow xs =>
        obtain ⟨b, us, rfl, z1, z2, z3⟩ := h2
        have ne : b ≠ D := fun z => nS j _ h rfl (by rw [← z]; exact h1)
        exact ⟨b, us, rfl, fr5 b _ (f4 b _ z1 fun r => r.elim z3 ne) z3 ne, z2.mono (s4.trans s5), z3⟩
      | od t kds =>
        obtain ⟨b, us, rfl, z1, z0, z2, z3⟩ := h2
        have ne : b ≠ D := fun z => nS j _ h rfl (by rw [← z]; exact h1)
        exact ⟨b, us, rfl, fr5 b _ (f4 b _ z1 fun r => r.elim z3 ne) z3 ne, z0, z2.mono (s4.trans s5), z3⟩
    cases b with
    | false =>
      rw [if_neg Bool.false_ne_true] at q4
      refine iteF ?_
      exact ⟨F4, acc, accd, s2.trans (s3.trans s4), e4.sub, hD4, rl.mono (s3.trans s4), nF4, back (Same.refl _) e4.sub (fun a r => e4.res a (.inl r)) e4.wd.1 (fun _ _ h _ _ => h), fr4, q4⟩
    | true =>
      rw [if_pos rfl] at q4
      refine iteT ?_
      refine ⟨G.more D (.lst acc), F4, ρ', _, e4, q4, fun v H5 F5 d5 s5 e5 f5 r5 ⟨hz, q5⟩ => ?_⟩
      have hD5 : H5 D = some (.lst acc) := e5.wd.2.1
      have nF5 : F5 D = none := e5.res D (.inr rfl)
      have sub5 : Same F5 (upd H5 D (.lst (acc ++ [v]))) := fun c o hc => by
        have ne : c ≠ D := by rintro rfl; rw [nF5] at hc; cases hc
        rw [upd_ne ne]; exact e5.sub _ _ hc
      have wd5 : G.Wd (upd H5 D (.lst (acc ++ [v]))) := G.st _ _ e5.wd.1 (fun a r => upd_ne (by rintro rfl; exact nR r)) (extK_at hD5 fun φ z => nomatch z)
      have fr5 : ∀ c o, H4 c = some o → ¬ G.R c → c ≠ D → upd H5 D (.lst (acc ++ [v])) c = some o := fun c o hc nr ne => by
        rw [upd_ne ne]
        exact f5 c o hc fun r => r.elim nr ne
      exact ⟨acc, hD5, by rw [rl.len]; exact hz, F5, acc ++ [v], accd ++ [d5], s2.trans (s3.trans (s4.trans s5)), sub5, upd_same, (rl.mono (s3.trans (s4.trans s5))).append (.cons r5 .nil), nF5, back s5 sub5 (fun a r => e5.res a (.inl r)) wd5 fr5, fun c o hc nr ne => fr5 c o (fr4 c o hc nr ne) nr ne, q5⟩
  · have ei : i = ds.length := by omega
    subst ei
    rw [List.drop_length] at hwl
    exact .inl ⟨it.stop H2 F2 s2 s2', hfin H2 F2 acc accd s2 e2 hDl rl nF fr hwl⟩
/-- the turns of two clauses -/
def wcL2 (wg : WG) (wt : WT) (wi1 : WA) (wg1 : WG) (wt1 : WT) (we : W) (vs vs1 : List Nat) (G : Gc) (ρ : En) : List D → List D → (List D → Prop) → Prop
  | [], acc, Q => Q acc
  | d :: r, acc, Q => ∀ G', GExt G G' → wg d (wipeD ρ vs) fun ρ2 => wt G' ρ2 fun b => if b = true then wi1 G' ρ2 fun es => wcL wg1 wt1 we vs1 G ρ2 es acc fun acc' => wcL2 wg wt wi1 wg1 wt1 we vs vs1 G ρ r acc' Q else wcL2 wg wt wi1 wg1 wt1 we vs vs1 G ρ r acc Q
def wComp2 (wi : WA) (wg : WG) (wt : WT) (wi1 : WA) (wg1 : WG) (wt1 : WT) (we : W) (vs vs1 : List Nat) : WO := fun G ρ Q => wi G ρ fun ds => wcL2 wg wt wi1 wg1 wt1 we vs vs1 G ρ ds [] fun acc => Q (.ow acc)
theorem lc2_imp {wi wi1 : WA} {g g1 : TG} {wg wg1 : WG} {wt wt1 : WT} {we : W} {vs vs1 is is1 : List Nat} (hg : GOk K is g wg) (hsub : ∀ i ∈ is, i ∈ vs) (hg1 : GOk K is1 g1 wg1) (hsub1 : ∀ i ∈ is1, i ∈ vs1) (σ : St) (H : Hp) (Q : VK) :
    tO K (wComp2 wi wg wt wi1 wg1 wt1 we vs vs1) σ H Q → tLc2 (tI K wi) g (tT K wt) (tI K wi1) g1 (tT K wt1) (tD K we) vs vs1 σ H Q := fun ⟨G, F, ρ, Qd, ev, hw, hq⟩ => by
  refine ⟨G, F, ρ, _, ev, hw, fun J H1 F1 ds s1 e1 f1 it q1 D hD => ?_⟩
  have nR : ¬ G.R D := e1.nr hD
  have nS : NoOwn σ ρ D := fun j sv h ho z => by
    obtain ⟨o, q, _, _⟩ := e1.ownAt h ho z
    rw [hD] at q; cases q
  let I : Nat → Hp → Prop := fun i H2 => ∃ F2 acc accd, Same F1 F2 ∧ H2 D = some (.lst acc) ∧ RpL K F2 acc accd ∧ F2 D = none ∧ EvR K G F2 H2 σ ρ ∧ FrD G D H1 H2 ∧ wcL2 wg wt wi1 wg1 wt1 we vs vs1 G ρ (ds.drop i) accd fun acc => Qd (.ow acc)
  refine ⟨fun i m H2 => m = ds.length - i ∧ i ≤ ds.length ∧ I i H2, ⟨ds.length, by omega, Nat.zero_le _, F1, [], [], Same.refl _, upd_same, .nil, e1.fnone hD, e1.liveO hD, fun c o h _ ne => by rw [upd_ne ne]; exact h, q1⟩, ?_⟩
  rintro i m H2 ⟨rfl, hi, F2, acc, accd, s2, hDl, rl, nF, e2, fr, hwl⟩
  by_cases hlt : i < ds.length
  · obtain ⟨hgo, hy⟩ := it.go i H2 F2 s2 e2.sub hlt
    refine .inr ⟨hgo, I (i + 1), fun H' h => ⟨ds.length - (i + 1), by omega, rfl, hlt, h⟩, fun x H3 y => ?_⟩
    obtain ⟨d, hd, hx⟩ := hy x H3 y
    rw [List.drop_eq_getElem_cons hlt] at hwl
    rw [List.getElem?_eq_getElem hlt] at hd
    cases hd
    obtain ⟨F3, s3, nF3, e3, fr3, hD3, rx⟩ : ∃ F3, Same F2 F3 ∧ F3 D = none ∧ EvR K G F3 H3 σ ρ ∧ (∀ c o, H2 c = some o → H3 c = some o) ∧ H3 D = some (.lst acc) ∧ Rp K F3 x ds[i] := by
      rcases hx with ⟨rfl, rx⟩ | ⟨T, o, nT, rfl, rx⟩
      · exact ⟨F2, Same.refl _, nF, e2, fun _ _ h => h, hDl, rx⟩
      · have ne : D ≠ T := ne_of_none hDl nT
        have e3 := e2.live (o := o) nT
        exact ⟨upd F2 T o, same_upd (none_sub e2.sub nT), by rw [upd_ne ne]; exact nF, e3, fun c u h => by rw [upd_ne (ne_of_none h nT)]; exact h, by rw [upd_ne ne]; exact hDl, rx⟩
    have e4 := evr_wipe (evr_more e3 hD3 rfl nF3 nS) vs
    have step := hwl (G.more D (.lst acc)) (G.more_ext D _ nR)
    refine hg (fun σ' ρ' => EvR K (G.more D (.lst acc)) F3 H3 σ' ρ' ∧ wipe σ' vs = wipe σ vs ∧ NoOwn σ' ρ' D) F3 H3 (wipe σ vs) (wipeD ρ vs) x ds[i] _ _ (fun j v d σ' ρ' hj ⟨p1, p2, p3⟩ hl r => ⟨evr_set p1 hl r, by rw [wipe_set (hsub j hj)]; exact p2, noOwn_set p3⟩) e3.sub ⟨e4, wipe_wipe σ vs, noOwn_wipe nS⟩ rx step fun σ' ρ' ⟨p1, p2, p3⟩ q => ?_
    refine ⟨p2, G.more D (.lst acc), F3, ρ', _, p1, q, fun b H4 F4 s4 e4 f4 q4 => ?_⟩
    have hD4 : H4 D = some (.lst acc) := e4.wd.2.1
    have nF4 : F4 D = none := e4.res D (.inr rfl)
    have fr4 : FrD G D H1 H4 := fun c o hc nr ne => f4 c o (fr3 c o (fr c o hc nr ne)) fun r => r.elim nr ne
    have back : ∀ {F5 H5 : Hp}, Same F4 F5 → Same F5 H5 → (∀ a, G.R a → F5 a = none) → G.Wd H5 → FrD G D H4 H5 → EvR K G F5 H5 σ ρ := fun s5 s5' r5 w5 fr5 => by
      refine ⟨s5', r5, w5, fun j sv h => ?_, e1.len⟩
      obtain ⟨u, h1, h2⟩ := e3.slot j sv h
      refine ⟨u, h1, ?_⟩
      cases sv with
      | fz d => exact Rp.mono (s4.trans s5) h2
      | ow xs =>
        obtain ⟨b, us, rfl, z1, z2, z3⟩ := h2
        have ne : b ≠ D := fun z => nS j _ h rfl (by rw [← z]; exact h1)
        exact ⟨b, us, rfl, fr5 b _ (f4 b _ z1 fun r => r.elim z3 ne) z3 ne, z2.mono (s4.trans s5), z3⟩
      | od t kds =>
        obtain ⟨b, us, rfl, z1, z0, z2, z3⟩ := h2
        have ne : b ≠ D := fun z => nS j _ h rfl (by rw [← z]; exact h1)
        exact ⟨b, us, rfl, fr5 b _ (f4 b _ z1 fun r => r.elim z3 ne) z3 ne, z0, z2.mono (s4.trans s5), z3⟩
    cases b with
    | false =>
      rw [if_neg Bool.false_ne_true] at q4
      refine iteF ?_
      exact ⟨F4, acc, accd, s2.trans (s3.trans s4), hD4, rl.mono (s3.trans s4), nF4, back (Same.refl _) e4.sub (fun a r => e4.res a (.inl r)) e4.wd.1 (fun _ _ h _ _ => h), fr4, q4⟩
    | true =>
      rw [if_pos rfl] at q4
      refine iteT ?_
      refine ⟨G.more D (.lst acc), F4, ρ', _, e4, q4, fun J1 H5 F5 es s5 e5 f5 it1 q5 => ?_⟩
      have hD5 : H5 D = some (.lst acc) := e5.wd.2.1
      have nF5 : F5 D = none := e5.res D (.inr rfl)
      have fr5 : FrD G D H4 H5 := fun c o hc nr ne => f5 c o hc fun r => r.elim nr ne
      refine lc_loop (I (i + 1)) hg1 hsub1 it1 (evr_less e5) nR nF5 p3 hD5 (rl.mono (s3.trans (s4.trans s5))) q5 fun H6 F6 acc6 accd6 s6 e6 hD6 rl6 nF6 fr6 q6 => ?_
      exact ⟨F6, acc6, accd6, s2.trans (s3.trans (s4.trans (s5.trans s6))), hD6, rl6, nF6, back (s5.trans s6) e6.sub e6.res e6.wd (fun c o hc nr ne => fr6 c o (fr5 c o hc nr ne) nr ne), fun c o hc nr ne => fr6 c o (fr5 c o (fr4 c o hc nr ne) nr ne) nr ne, q6⟩
  · have ei : i = ds.length := by omega
    subst ei
    rw [List.drop_length] at hwl
    exact .inl ⟨it.stop H2 F2 s2 e2.sub, hq _ H2 F2 (.ow accd) (s1.trans s2) e2 (fun c o hc nr => fr c o (f1 c o hc nr) nr (ne_of_none (f1 c o hc nr) hD)) ⟨D, acc, rfl, hDl, rl, nR, f1.free nR hD, nF⟩ hwl⟩
/-! ### {k: v for ..}, flat keys -/
def wdL (wg : WG) (wt : WT) (wk wv : W) (vs : List Nat) (G : Gc) (ρ : En) : List D → List (Key × D) → (List (Key × D) → Prop) → Prop
  | [], acc, Q => Q acc
  | d :: r, acc, Q => ∀ G', GExt G G' → wg d (wipeD ρ vs) fun ρ2 => wt G' ρ2 fun b => if b = true then wk G' ρ2 fun kd => wv G' ρ2 fun vd => ∃ k, kd = kD k ∧ acc.length < sizeLine ∧ wdL wg wt wk wv vs G ρ r (putD acc k vd) Q else wdL wg wt wk wv vs G ρ r acc Q
def wDComp (wi : WA) (wg : WG) (wt : WT) (wk wv : W) (vs : List Nat) : WO := fun G ρ Q => wi G ρ fun ds => wdL wg wt wk wv vs G ρ ds [] fun acc => Q (oK acc)
theorem sg_heads (l : List (Key × V)) : (sg l).map (fun kv => (kv.1.headD (.inl 0), kv.2)) = l := by unfold sg; rw [List.map_map]; exact List.map_id' _
theorem dc_imp {wi : WA} {g : TG} {wg : WG} {wt : WT} {wk wv : W} {vs is : List Nat} (hg : GOk K is g wg) (hsub : ∀ i ∈ is, i ∈ vs) (σ : St) (H : Hp) (Q : VK) :
    tO K (wDComp wi wg wt wk wv vs) σ H Q → tDc (tI K wi) g (tT K wt) (tD K wk) (tD K wv) vs σ H Q := fun ⟨G, F, ρ, Qd, ev, hw, hq⟩ => by
  refine ⟨G, F, ρ, _, ev, hw, fun J H1 F1 ds s1 e1 f1 it q1 D hD => ?_⟩
  have nR : ¬ G.R D := e1.nr hD
  have nS : NoOwn σ ρ D := fun j sv h ho z => by
    obtain ⟨o, q, _, _⟩ := e1.ownAt h ho z
    rw [hD] at q; cases q
  let I : Nat → Hp → Prop := fun i H2 => ∃ F2, ∃ acc : List (Key × V), ∃ accd : List (Key × DL.D), Same F1 F2 ∧ H2 D = some (.dK acc) ∧ acc.map (·.1) = accd.map (·.1) ∧ RpL K F2 (acc.map (·.2)) (accd.map (·.2)) ∧ F2 D = none ∧ EvR K G F2 H2 σ ρ ∧ FrD G D H1 H2 ∧ wdL wg wt wk wv vs G ρ (ds.drop i) accd fun acc => Qd (oK acc)
  refine ⟨fun i m H2 => m = ds.length - i ∧ i ≤ ds.length ∧ I i H2, ⟨ds.length, by omega, Nat.zero_le _, F1, [], [], Same.refl _, upd_same, rfl, .nil, e1.fnone hD, e1.liveO hD, fun c o h _ ne => by rw [upd_ne ne]; exact h, q1⟩, ?_⟩
  rintro i m H2 ⟨rfl, hi, F2, acc, accd, s2, hDl, hk, rl, nF, e2, fr, hwl⟩
  by_cases hlt : i < ds.length
  · obtain ⟨hgo, hy⟩ := it.go i H2 F2 s2 e2.sub hlt
    refine .inr ⟨hgo, I (i + 1), fun H' h => ⟨ds.length - (i + 1), by omega, rfl, hlt, h⟩, fun x H3 y => ?_⟩
    obtain ⟨d, hd, hx⟩ := hy x H3 y
    rw [List.drop_eq_getElem_cons hlt] at hwl
    rw [List.getElem?_eq_getElem hlt] at hd
    cases hd
    obtain ⟨F3, s3, nF3, e3, fr3, hD3, rx⟩ : ∃ F3, Same F2 F3 ∧ F3 D = none ∧ EvR K G F3 H3 σ ρ ∧ (∀ c o, H2 c = some o → H3 c = some o) ∧ H3 D = some (.dK acc) ∧ Rp K F3 x ds[i] := by
      rcases hx with ⟨rfl, rx⟩ | ⟨T, o, nT, rfl, rx⟩
      · exact ⟨F2, Same.refl _, nF, e2, fun _ _ h => h, hDl, rx⟩
      · have ne : D ≠ T := ne_of_none hDl nT
        have e3 := e2.live (o := o) nT
        exact ⟨upd F2 T o, same_upd (none_sub e2.sub nT), by rw [upd_ne ne]; exact nF, e3, fun c u h => by rw [upd_ne (ne_of_none h nT)]; exact h, by rw [upd_ne ne]; exact hDl, rx⟩
    have e4 := evr_wipe (evr_more e3 hD3 rfl nF3 nS) vs
    have step := hwl (G.more D (.dK acc)) (G.more_ext D _ nR)
    refine hg (fun σ' ρ' => EvR K (G.more D (.dK acc)) F3 H3 σ' ρ' ∧ wipe σ' vs = wipe σ vs) F3 H3 (wipe σ vs) (wipeD ρ vs) x ds[i] _ _ (fun j v d σ' ρ' hj ⟨p1, p2⟩ hl r => ⟨evr_set p1 hl r, by rw [wipe_set (hsub j hj)]; exact p2⟩) e3.sub ⟨e4, wipe_wipe σ vs⟩ rx step fun σ' ρ' ⟨p1, p2⟩ q => ?_
    refine ⟨p2, G.more D (.dK acc), F3, ρ', _, p1, q, fun b H4 F4 s4 e4 f4 q4 => ?_⟩
    have hD4 : H4 D = some (.dK acc) := e4.wd.2.1
    have nF4 : F4 D = none := e4.res D (.inr rfl)
    have fr4 : FrD G D H1 H4 := fun c o hc nr ne => f4 c o (fr3 c o (fr c o hc nr ne)) fun r => r.elim nr ne
    have back : ∀ {F5 H5 : Hp}, Same F4 F5 → Same F5 H5 → (∀ a, G.R a → F5 a = none) → G.Wd H5 → FrD G D H4 H5 → EvR K G F5 H5 σ ρ := fun s5 s5' r5 w5 fr5 => by
      refine ⟨s5', r5, w5, fun j sv h => ?_, e1.len⟩
      obtain ⟨u, h1, h2⟩ := e3.slot j sv h
      refine ⟨u, h1, ?_⟩
      cases sv with
      | fz d => exact Rp.mono (s4.trans s5) h2
      | ow xs =>
        obtain ⟨b, us, rfl, z1, z2, z3⟩ := h2
        have ne : b ≠ D := fun z => nS j _ h rfl (by rw [← z]; exact h1)
        exact ⟨b, us, rfl, fr5 b _ (f4 b _ z1 fun r => r.elim z3 ne) z3 ne, z2.mono (s4.trans s5), z3⟩
      | od t kds =>
        obtain ⟨b, us, rfl, z1, z0, z2, z3⟩ := h2
        have ne : b ≠ D := fun z => nS j _ h rfl (by rw [← z]; exact h1)
        exact ⟨b, us, rfl, fr5 b _ (f4 b _ z1 fun r => r.elim z3 ne) z3 ne, z0, z2.mono (s4.trans s5), z3⟩
    cases b with
    | false =>
      rw [if_neg Bool.false_ne_true] at q4
      refine iteF ?_
      exact ⟨F4, acc, accd, s2.trans (s3.trans s4), hD4, hk, rl.mono (s3.trans s4), nF4, back (Same.refl _) e4.sub (fun a r => e4.res a (.inl r)) e4.wd.1 (fun _ _ h _ _ => h), fr4, q4⟩
    | true =>
      rw [if_pos rfl] at q4
      refine iteT ?_
      refine ⟨G.more D (.dK acc), F4, ρ', _, e4, q4, fun v H5 F5 d5 s5 e5 f5 r5 q5 => ⟨G.more D (.dK acc), F5, ρ', _, e5, q5, fun u H6 F6 d6 s6 e6 f6 r6 ⟨k, ek, hz, q6⟩ => ?_⟩⟩
      subst ek
      have hD6 : H6 D = some (.dK acc) := e6.wd.2.1
      have nF6 : F6 D = none := e6.res D (.inr rfl)
      have sub6 : Same F6 (upd H6 D (.dK (putK acc k u))) := fun c o hc => by
        have ne : c ≠ D := by rintro rfl; rw [nF6] at hc; cases hc
        rw [upd_ne ne]; exact e6.sub _ _ hc
      have wd6 : G.Wd (upd H6 D (.dK (putK acc k u))) := G.st _ _ e6.wd.1 (fun a r => upd_ne (by rintro rfl; exact nR r)) (extK_at hD6 fun φ z => nomatch z)
      have fr6 : FrD G D H4 (upd H6 D (.dK (putK acc k u))) := fun c o hc nr ne => by
        rw [upd_ne ne]
        exact f6 c o (f5 c o hc fun r => r.elim nr ne) fun r => r.elim nr ne
      obtain ⟨p3, p4⟩ := putD_rp (k := k) r6 hk (rl.mono (s3.trans (s4.trans (s5.trans s6))))
      exact ⟨acc, k, kD_of r5, hD6, by rw [keys_len hk]; exact hz, F6, _, _, s2.trans (s3.trans (s4.trans (s5.trans s6))), upd_same, p3, p4, nF6, back (s5.trans s6) sub6 (fun a r => e6.res a (.inl r)) wd6 fr6, fun c o hc nr ne => fr6 c o (fr4 c o hc nr ne) nr ne, q6⟩
  · have ei : i = ds.length := by omega
    subst ei
    rw [List.drop_length] at hwl
    refine .inl ⟨it.stop H2 F2 s2 e2.sub, hq _ H2 F2 (oK accd) (s1.trans s2) e2 (fun c o hc nr => fr c o (f1 c o hc nr) nr (ne_of_none (f1 c o hc nr) hD)) ⟨D, sg acc, rfl, ?_, ?_, ?_, nR, f1.free nR hD, nF⟩ hwl⟩
    · rw [hDl]
      show some (HO.dK _) = some (HO.dK _)
      rw [sg_heads]
    · rw [sg_keys, sg_keys]
      have := congrArg (List.map fun (z : Key) => [z]) hk
      rw [List.map_map, List.map_map] at this
      exact this
    · rw [sg_vals, sg_vals]
      exact rl
end
section
variable {S : Sta} {elt kx vx tg iter tg1 iter1 : Expr} {ifs ifs1 : List Expr} {scope : Scope} {own : List (Str × Nat)} {pos : Pos} {wi wi1 : WA} {wg wg1 : WG} {wt wt1 : WT} {we wk wv : W} {is is1 vs1 : List Nat}
theorem do_lc2 (hi : DI S tg iter wi) (nd : S.N.Nodup) (hk : blkC S.N ⟨.function, S.names, false, false, []⟩ scope own = true) (hg : DG (S.blk scope) tg is wg) (hsub : ∀ i ∈ is, i ∈ own.map (·.2)) (ht : DTs (S.blk scope) ifs wt)
    (hi1 : DI (S.blk scope) tg1 iter1 wi1) (hg1 : DG (S.blk scope) tg1 is1 wg1) (hv : ∀ i ∈ vs1, i ∈ own.map (·.2)) (hsub1 : ∀ i ∈ is1, i ∈ vs1) (ht1 : DTs (S.blk scope) ifs1 wt1) (he : DE (S.blk scope) elt we)
    (hs : ∀ env x, foldedSetIterable iter env x = pure x := by intro _ _; rfl) (hs1 : ∀ env x, foldedSetIterable iter1 env x = pure x := by intro _ _; rfl) : DO S (.ListComp elt [⟨tg, iter, ifs, 0⟩, ⟨tg1, iter1, ifs1, 0⟩] scope pos) (wComp2 wi wg wt wi1 wg1 wt1 we (own.map (·.2)) vs1) := fun X f => by
  obtain ⟨g, pg, ok⟩ := hg
  obtain ⟨g1, pg1, ok1⟩ := hg1
  have bk := blkOf f hk
  exact (pe_lc2 f.calm (by rw [f.N]; exact nd) (hi X f) bk hv (fun s H C cl fp => pg _ (fam_blk f bk.kind s H C cl fp)) (fun s H C cl fp => ht _ (fam_blk f bk.kind s H C cl fp)) (fun s H C cl fp => hi1 _ (fam_blk f bk.kind s H C cl fp)) (fun s H C cl fp => pg1 _ (fam_blk f bk.kind s H C cl fp)) (fun s H C cl fp => ht1 _ (fam_blk f bk.kind s H C cl fp)) (fun s H C cl fp => he _ (fam_blk f bk.kind s H C cl fp)) (hs _) hs1).imp fun σ H Q h => lc2_imp ok hsub ok1 hsub1 σ H Q h
theorem do_dc (hi : DI S tg iter wi) (nd : S.N.Nodup) (hk : blkC S.N ⟨.function, S.names, false, false, []⟩ scope own = true) (hg : DG (S.blk scope) tg is wg) (hsub : ∀ i ∈ is, i ∈ own.map (·.2)) (ht : DTs (S.blk scope) ifs wt) (hke : DE (S.blk scope) kx wk) (he : DE (S.blk scope) vx wv)
    (hs : ∀ env x, foldedSetIterable iter env x = pure x := by intro _ _; rfl) : DO S (.DictComp kx vx [⟨tg, iter, ifs, 0⟩] scope pos) (wDComp wi wg wt wk wv (own.map (·.2))) := fun X f => by
  obtain ⟨g, pg, ok⟩ := hg
  have bk := blkOf f hk
  exact (pe_dc f.calm (by rw [f.N]; exact nd) (hi X f) bk (fun s H C cl fp => pg _ (fam_blk f bk.kind s H C cl fp)) (fun s H C cl fp => ht _ (fam_blk f bk.kind s H C cl fp)) (fun s H C cl fp => hke _ (fam_blk f bk.kind s H C cl fp)) (fun s H C cl fp => he _ (fam_blk f bk.kind s H C cl fp)) (hs _)).imp fun σ H Q h => dc_imp ok hsub σ H Q h
end
end DL
set_option maxHeartbeats 4000000
/-! list(zip(xs, ys)), xs and ys tuples -/
namespace DL
open PySem PySem.Spec PyProof.Rows L2

theorem zip_nolen : typeLookup (.type "zip") "__len__" = pure none := by rw [typeLookup_type, builtinLookup_eq_fast]; kernel_rfl
theorem zip_nohint : typeLookup (.type "zip") "__length_hint__" = pure none := by rw [typeLookup_type, builtinLookup_eq_fast]; kernel_rfl
section
variable {prog : Program} {w : World} {A : Around} {E : Value → Shared → Prop} {s : Shared} {z TI TO i1 i2 l1 l2 : Addr} {xs ys : Array Value} {h h' : Heap} {i : Nat}
/-- a zip of two tuples, i pairs drawn -/
structure ZipW (h : Heap) (z TI TO i1 i2 l1 l2 : Addr) (xs ys : Array Value) (i : Nat) : Prop where
  st : ZipSt h z TI TO
  pI : IsPair h TI (.ref i1) (.ref i2)
  pO : ∃ a b, IsPair h TO a b
  t1 : h.IsTupleIter i1 l1 i
  t2 : h.IsTupleIter i2 l2 i
  q1 : h.IsTuple l1 xs
  q2 : h.IsTuple l2 ys
abbrev zipFp (z TI TO i1 i2 l1 l2 : Addr) : List Addr := [z, TI, TO, i1, i2, l1, l2]
theorem ZipW.keep (W : ZipW h z TI TO i1 i2 l1 l2 xs ys i) (k : ∀ b ∈ zipFp z TI TO i1 i2 l1 l2, ∀ o, h.get? b = some o → h'.get? b = some o) : ZipW h' z TI TO i1 i2 l1 l2 xs ys i := by
  obtain ⟨⟨f0, f1, hz, hf⟩, pI, ⟨x, y, pO⟩, t1, t2, ⟨o1, e1, r1⟩, ⟨o2, e2, r2⟩⟩ := W
  exact ⟨⟨f0, f1, k z (by simp) _ hz, hf⟩, k TI (by simp) _ pI, ⟨x, y, k TO (by simp) _ pO⟩, t1.at fun o q => k i1 (by simp) o q, t2.at fun o q => k i2 (by simp) o q, ⟨o1, k l1 (by simp) _ e1, r1⟩, ⟨o2, k l2 (by simp) _ e2, r2⟩⟩
theorem ZipW.typ (W : ZipW s.heap z TI TO i1 i2 l1 l2 xs ys i) : s.TypeIs (.ref z) "zip" := by obtain ⟨f0, f1, hz, _⟩ := W.st; exact ⟨_, hz, rfl⟩
theorem zipW_some {x y : Value} {Q : Option Value → Shared → Prop} (D : ZipApart z TI TO i1 i2 l1 l2) (n1 : l1 ≠ TO) (n2 : l2 ≠ TO) (n3 : l1 ≠ i1) (n4 : l1 ≠ i2) (n5 : l2 ≠ i1) (n6 : l2 ≠ i2) (n7 : l2 ≠ z) (W : ZipW s.heap z TI TO i1 i2 l1 l2 xs ys i) (hx : xs[i]? = some x) (hy : ys[i]? = some y)
    (hQ : ∀ h', ZipW h' z TI TO i1 i2 l1 l2 xs ys (i + 1) → IsPair h' s.heap.objs.size x y → h'.objs.size = s.heap.objs.size + 1 → ZipKeep z TO i1 i2 s.heap h' → Q (some (.ref s.heap.objs.size)) { s with heap := h' }) : wpAny (model prog w) A (pyNext (.ref z)) Q E s := by
  have hT := W.typ
  obtain ⟨st, pI, pO, t1, t2, q1, q2⟩ := W
  unfold pyNext
  refine wpAny_bind (wpAny_attempt (wpAny_callSpecial?_slot (name := Str.ofString "__next__") hT PySem.F.slot_zip_next (wpAny_call_entry PySem.F.slot_zip_next hT PySem.F.entry_zip_next (zip_some D st pI pO t1 t2 q1 q2 hx hy fun h' z' pO' t1' t2' pT sz k => wpAny_pure ?_) (PySem.F.args_zip_next_1 _))))
  obtain ⟨o1, e1, r1⟩ := q1
  obtain ⟨o2, e2, r2⟩ := q2
  exact hQ h' ⟨z', k _ _ D.TIz D.TITO D.TIi1 D.TIi2 pI, pO', t1', t2', ⟨o1, k _ _ D.l1z n1 n3 n4 e1, r1⟩, ⟨o2, k _ _ n7 n2 n5 n6 e2, r2⟩⟩ pT sz k
theorem zipW_none {Q : Option Value → Shared → Prop} (hh : A.handled = none) (D : ZipApart z TI TO i1 i2 l1 l2) (W : ZipW s.heap z TI TO i1 i2 l1 l2 xs ys i) (he : xs[i]? = none ∨ ys[i]? = none)
    (hQ : ∀ h', ZipKeep z TO i1 i2 s.heap h' → Q none { s with heap := h' }) : wpAny (model prog w) A (pyNext (.ref z)) Q E s := by
  have hT := W.typ
  obtain ⟨st, pI, pO, t1, t2, q1, q2⟩ := W
  unfold pyNext
  refine wpAny_bind (wpAny_attempt (wpAny_callSpecial?_slot (name := Str.ofString "__next__") hT PySem.F.slot_zip_next (wpAny_call_entry PySem.F.slot_zip_next hT PySem.F.entry_zip_next (zip_none hh D st pI pO t1 t2 q1 q2 he fun h' e k ⟨o, ho, hcl⟩ => ?_) (PySem.F.args_zip_next_1 _))))
  exact wpAny_bind (wpAny_isInstance (T := "StopIteration") (b := true) ⟨o, ho, hcl⟩ isSubtype_stop (wpAny_pure (hQ h' k)))
/-- the pairs made so far, all from B on -/
def ZMade (B : Nat) (h : Heap) (xs ys : Array Value) (acc : Array Value) (i : Nat) : Prop := acc.size = i ∧ ∀ j, j < i → ∃ (T : Nat) (x y : Value), acc[j]? = some (.ref T) ∧ B ≤ T ∧ xs[j]? = some x ∧ ys[j]? = some y ∧ IsPair h T x y ∧ ∀ (k U : Nat), k < j → acc[k]? = some (.ref U) → U < T
theorem ZMade.keep {B : Nat} {acc : Array Value} (M : ZMade B h xs ys acc i) (k : ∀ b o, B ≤ b → h.get? b = some o → h'.get? b = some o) : ZMade B h' xs ys acc i := ⟨M.1, fun j hj => by
  obtain ⟨T, x, y, h1, h2, h3, h4, h5, h6⟩ := M.2 j hj
  exact ⟨T, x, y, h1, h2, h3, h4, k T _ h2 h5, h6⟩⟩
abbrev lstOb (acc : Array Value) (c : Nat) : Obj := { cls := .type "list", dict := none, data := .seq acc c, slots := #[] }
/-- what is kept: all that stood there besides the zip's own and the list -/
def ZKept (S z TI TO i1 i2 : Addr) (h h' : Heap) : Prop := ∀ b o, b ∉ [S, z, TI, TO, i1, i2] → h.get? b = some o → h'.get? b = some o
theorem ZKept.trans {S : Addr} {h1 h2 h3 : Heap} (a : ZKept S z TI TO i1 i2 h1 h2) (b : ZKept S z TI TO i1 i2 h2 h3) : ZKept S z TI TO i1 i2 h1 h3 := fun c o n q => b c o n (a c o n q)
structure ZSide (z TI TO i1 i2 l1 l2 S B : Nat) : Prop where
  D : ZipApart z TI TO i1 i2 l1 l2
  l1TO : l1 ≠ TO
  l2TO : l2 ≠ TO
  l1i1 : l1 ≠ i1
  l1i2 : l1 ≠ i2
  l2i1 : l2 ≠ i1
  l2i2 : l2 ≠ i2
  l2z : l2 ≠ z
  hS : S ∉ zipFp z TI TO i1 i2 l1 l2
  lt : ∀ b ∈ [S, z, TI, TO, i1, i2], b < B
theorem zip_loop {R : Result → Shared → Prop} {S B n : Nat} (sd : ZSide z TI TO i1 i2 l1 l2 S B) (hh : A.handled = none) (hn : n ≤ sizeLine) (h1 : n = min xs.size ys.size) (res : Value) :
    ∀ (k i : Nat) (s : Shared) (acc : Array Value) (c : Nat), n - i = k → i ≤ n → ZipW s.heap z TI TO i1 i2 l1 l2 xs ys i → s.heap.get? S = some (lstOb acc c) → ZMade B s.heap xs ys acc i → B ≤ s.heap.objs.size →
    (∀ h' acc' c', ZKept S z TI TO i1 i2 s.heap h' → h'.get? S = some (lstOb acc' c') → ZMade B h' xs ys acc' n → R (.ok (.ret res)) { s with heap := h' }) →
    codeAny (model prog w) A (.builtin "list.extend.loop" ⟨[.ref S, .ref z, res], []⟩) R s := by
  have nz : S ≠ z := fun e => sd.hS (by rw [e]; simp)
  have nTO : S ≠ TO := fun e => sd.hS (by rw [e]; simp)
  have ni1 : S ≠ i1 := fun e => sd.hS (by rw [e]; simp)
  have ni2 : S ≠ i2 := fun e => sd.hS (by rw [e]; simp)
  have toK : ∀ {a b : Heap}, ZipKeep z TO i1 i2 a b → ZKept S z TI TO i1 i2 a b := fun k b o nb q => k b o (fun e => nb (by simp [e])) (fun e => nb (by simp [e])) (fun e => nb (by simp [e])) (fun e => nb (by simp [e])) q
  have geB : ∀ {a b : Heap}, ZKept S z TI TO i1 i2 a b → ∀ c o, B ≤ c → a.get? c = some o → b.get? c = some o := fun k c o hc q => k c o (fun hm => absurd (sd.lt c hm) (Nat.not_lt.mpr hc)) q
  intro k
  induction k with
  | zero =>
    intro i s acc c hk hi W hS M hB hR
    obtain rfl : i = n := by omega
    refine codeAny_builtin PySem.F.entry_extend_loop ?_
    rw [Around.under_plainId PySem.F.plain_extend_loop _]
    show wpAny _ A.in1 (pyNext (.ref z) >>= _) _ _ s
    have he : xs[i]? = none ∨ ys[i]? = none := by
      rcases Nat.le_total xs.size ys.size with q | q
      · exact .inl (by simp; omega)
      · exact .inr (by simp; omega)
    refine wpAny_bind (zipW_none (A := A.in1) hh sd.D W he fun h' kp => ?_)
    exact wpAny_pure (hR h' acc c (toK kp) (kp _ _ nz nTO ni1 ni2 hS) (M.keep (geB (toK kp))))
  | succ k ih =>
    intro i s acc c hk hi W hS M hB hR
    have hlt : i < n := by omega
    refine codeAny_builtin PySem.F.entry_extend_loop ?_
    rw [Around.under_plainId PySem.F.plain_extend_loop _]
    show wpAny _ A.in1 (pyNext (.ref z) >>= _) _ _ s
    have hx : xs[i]? = some xs[i] := Array.getElem?_eq_getElem (by omega)
    have hy : ys[i]? = some ys[i] := Array.getElem?_eq_getElem (by omega)
    refine wpAny_bind (zipW_some (A := A.in1) sd.D sd.l1TO sd.l2TO sd.l1i1 sd.l1i2 sd.l2i1 sd.l2i2 sd.l2z W hx hy fun h' W' pT sz kp => ?_)
    have hS' := kp _ _ nz nTO ni1 ni2 hS
    show wpAny _ A.in1 (updateSeq S (·.push (.ref s.heap.objs.size)) >>= _) _ _ _
    refine wpAny_bind ?_
    have oth : ∀ b o, b ≠ S → h'.get? b = some o → (h'.update S (Obj.mapSeq (·.push (.ref s.heap.objs.size)))).get? b = some o := fun b o nb q => (Heap.get?_update_other _ _ (Ne.symm nb)).trans q
    have M' : ZMade B (h'.update S (Obj.mapSeq (·.push (.ref s.heap.objs.size)))) xs ys (acc.push (.ref s.heap.objs.size)) (i + 1) := by
      have SB : S < B := sd.lt S (by simp)
      refine ⟨by rw [Array.size_push, M.1], fun j hj => ?_⟩
      by_cases e : j = i
      · subst e
        refine ⟨s.heap.objs.size, _, _, by rw [← M.1]; exact Array.getElem?_push_size, hB, hx, hy, oth _ _ (fun z => by rw [z] at hB; exact absurd SB (Nat.not_lt.mpr hB)) pT, fun k U hk q => ?_⟩
        rw [Array.getElem?_push_lt (by rw [M.1]; omega), ← Array.getElem?_eq_getElem] at q
        obtain ⟨T, x, y, g1, g2, g3, g4, g5, g6⟩ := M.2 k hk
        rw [g1] at q
        cases q
        exact Heap.lt_size g5
      · obtain ⟨T, x, y, g1, g2, g3, g4, g5, g6⟩ := M.2 j (by omega)
        refine ⟨T, x, y, by rw [Array.getElem?_push_lt (by rw [M.1]; omega), ← Array.getElem?_eq_getElem]; exact g1, g2, g3, g4, oth _ _ (fun z => by rw [z] at g2; exact absurd SB (Nat.not_lt.mpr g2)) (geB (toK kp) T _ g2 g5), fun k U hk q => g6 k U hk ?_⟩
        rw [Array.getElem?_push_lt (by rw [M.1]; omega), ← Array.getElem?_eq_getElem] at q
        exact q
    refine wpAny_updateSeq hS' rfl (wpAny_pure ⟨plainId_quiet PySem.F.plain_extend_loop _, ih (i + 1) _ (acc.push (.ref s.heap.objs.size)) _ (by omega) hlt (W'.keep fun b hb o e => oth b o (fun z => sd.hS (by rw [← z]; exact hb)) e) (Heap.get?_update_self _ hS' rfl) M' ?_ fun h2 acc' c' k2 hS2 M2 => ?_⟩)
      (by rw [M.1]; omega) (by show (acc.push _).size ≤ sizeLine + 1; rw [Array.size_push, M.1]; omega)
    · show B ≤ (h'.update S _).objs.size
      rw [Heap.size_update, sz]; omega
    · refine hR h2 acc' c' (((toK kp).trans fun b o nb q => oth b o (fun z => nb (by simp [z])) q).trans k2) hS2 M2
theorem zip_extend {R : Result → Shared → Prop} {S B n c0 : Nat} (sd : ZSide z TI TO i1 i2 l1 l2 S B) (hh : A.handled = none) (hn : n ≤ sizeLine) (h1 : n = min xs.size ys.size) (res : Value) (W : ZipW s.heap z TI TO i1 i2 l1 l2 xs ys 0) (hS : s.heap.get? S = some (lstOb #[] c0)) (hB : B ≤ s.heap.objs.size)
    (hR : ∀ h' acc' c', ZKept S z TI TO i1 i2 s.heap h' → h'.get? S = some (lstOb acc' c') → ZMade B h' xs ys acc' n → R (.ok (.ret res)) { s with heap := h' }) :
    wpAny (model prog w) A.in1 (Builtin.List.listExtendWith (.ref S) (.ref z) res) (fun fin s' => match fin with | .done f => R (.ok f) s' | .again c' => c'.quiet = true ∧ codeAny (model prog w) A c' R s') (fun e s' => R (.error e) s') s := by
  have ne : S ≠ z := fun e => sd.hS (by rw [e]; simp)
  have w1 : Builtin.List.listSameRef (.ref S) (.ref z) = false := by simp [Builtin.List.listSameRef, ne]
  have w2 : (Value.type "zip" == Value.type "list") = false := by decide
  have w3 : (Value.type "zip" == Value.type "tuple") = false := by decide
  unfold Builtin.List.listExtendWith
  refine wpAny_bind (wpAny_typeOf W.typ ?_)
  simp only [w1, w2, w3, Bool.or_false, Bool.false_eq_true, if_false]
  obtain ⟨f0, f1, hz, _⟩ := id W.st
  have it : wpAny (model prog w) A.in1 (pyIter (.ref z)) (fun v s' => v = .ref z ∧ s' = s) (fun e s' => R (.error e) s') s := by
    refine wpAny_pyIter_slot W.typ PySem.F.slot_zip_iter (wpAny_call_entry PySem.F.slot_zip_iter W.typ PySem.F.entry_zip_iter ?_ (PySem.F.args_zip_iter_1 _))
    show wpAny _ _ (ret (.ref z)) _ _ s
    exact wpAny_pure ⟨_, rfl, "zip", _, W.typ, PySem.F.slot_zip_next.lookup, rfl, rfl⟩
  refine wpAny_bind (wpAny_mono it (fun v s' e => ?_) fun _ _ q => q)
  obtain ⟨rfl, rfl⟩ := e
  refine wpAny_bind (wpAny_holding ?_)
  unfold Builtin.List.listLengthHint
  refine wpAny_bind (wpAny_specialOf W.typ zip_nolen ?_)
  show wpAny _ A.in1 (specialOf (Value.ref z) (Str.ofString "__length_hint__") >>= _) _ _ _
  refine wpAny_bind (wpAny_specialOf W.typ zip_nohint (wpAny_pure ?_))
  show wpAny _ A.in1 (rule "list.extend.makes-room" >>= fun _ => Builtin.List.listTouch (.ref S) >>= fun _ => again (.builtin "list.extend.loop" ⟨[.ref S, .ref z, res], []⟩)) _ _ _
  refine wpAny_bind (wpAny_rule (wpAny_bind ?_))
  show wpAny _ A.in1 (updateSeq S (·.push .none) >>= fun _ => updateSeq S (·.pop)) _ _ _
  refine wpAny_bind (wpAny_updateSeq hS rfl ?_)
  have hS2 := Heap.get?_update_self (Obj.mapSeq (·.push Value.none)) hS rfl
  refine wpAny_updateSeq (hz := by seq_fits) hS2 rfl ?_
  have hS3 := Heap.get?_update_self (Obj.mapSeq (·.pop)) hS2 rfl
  have oth : ∀ b o, b ≠ S → s'.heap.get? b = some o → ((s'.heap.update S (Obj.mapSeq (·.push Value.none))).update S (Obj.mapSeq (·.pop))).get? b = some o := fun b o hb e => (Heap.get?_update_other _ _ (Ne.symm hb)).trans ((Heap.get?_update_other _ _ (Ne.symm hb)).trans e)
  refine wpAny_pure ⟨plainId_quiet PySem.F.plain_extend_loop _, zip_loop sd hh hn h1 res n 0 _ _ _ rfl (Nat.zero_le _) (W.keep fun b hb o e => oth b o (fun q => sd.hS (by rw [← q]; exact hb)) e) hS3 ⟨rfl, fun j hj => absurd hj (Nat.not_lt_zero _)⟩ ?_ fun h' acc' c' k hS' M => ?_⟩
  · show B ≤ ((s'.heap.update S _).update S _).objs.size
    rw [Heap.size_update, Heap.size_update]; exact hB
  · exact hR h' acc' c' (ZKept.trans (fun b o nb q => oth b o (fun e => nb (by simp [e])) q) k) hS' M
theorem zip_list {n : Nat} {Q : Value → Shared → Prop} (sd : ZSide z TI TO i1 i2 l1 l2 s.heap.objs.size (s.heap.objs.size + 1)) (hh : A.handled = none) (hn : n ≤ sizeLine) (h1 : n = min xs.size ys.size) (W : ZipW s.heap z TI TO i1 i2 l1 l2 xs ys 0)
    (hQ : ∀ h' acc' c', ZKept s.heap.objs.size z TI TO i1 i2 s.heap h' → h'.get? s.heap.objs.size = some (lstOb acc' c') → ZMade (s.heap.objs.size + 1) h' xs ys acc' n → Q (.ref s.heap.objs.size) { s with heap := h' }) :
    wpAny (model prog w) A (call (.type "list") [.ref z]) Q E s := by
  refine callType_codes (Q₁ := fun v t => v = .ref s.heap.objs.size ∧ t = { s with heap := s.heap.push { cls := .type "list", data := .seq #[] } }) PySem.F.called_list (PySem.F.typeCall_list_1 _) PySem.F.entry_list_init (code_list_new _ ⟨rfl, rfl⟩) fun v t e => ?_
  obtain ⟨rfl, rfl⟩ := e
  have hS : (s.heap.push { cls := .type "list", data := .seq #[] }).get? s.heap.objs.size = some (lstOb #[] 0) := Heap.get?_push_size _ rfl
  refine ⟨⟨_, hS, rfl⟩, PySem.F.args_list_init_2 _ _, ?_⟩
  show wpAny _ A.in1.in1 (do let old ← Builtin.List.listItems (.ref s.heap.objs.size); Builtin.List.listUpdate (.ref s.heap.objs.size) (fun _ => #[]); letGo old.toList.reverse; Builtin.List.listExtendWith (.ref s.heap.objs.size) (.ref z) .none) _ _ _
  apply wpAny_bind
  unfold Builtin.List.listItems
  refine wpAny_bind (wpAny_seqItems hS rfl (wpAny_pure ?_))
  show wpAny _ A.in1.in1 (updateSeq s.heap.objs.size (fun _ => #[]) >>= fun _ => letGo (#[] : Array Value).toList.reverse >>= fun _ => Builtin.List.listExtendWith (.ref s.heap.objs.size) (.ref z) .none) _ _ _
  refine wpAny_bind (wpAny_updateSeq hS rfl ?_)
  have hS2 := Heap.get?_update_self (Obj.mapSeq (fun _ => (#[] : Array Value))) hS rfl
  have oth : ∀ b o, s.heap.get? b = some o → ((s.heap.push { cls := .type "list", data := .seq #[] }).update s.heap.objs.size (Obj.mapSeq (fun _ => (#[] : Array Value)))).get? b = some o := fun b o e => (Heap.get?_update_other _ _ (Ne.symm (Nat.ne_of_lt (Heap.lt_size e)))).trans (Heap.get?_push_of_some _ e)
  refine wpAny_bind (wpAny_letGo ?_)
  refine zip_extend (A := A.in1) sd hh hn h1 .none (W.keep fun b _ o e => oth b o e) hS2 ?_ fun h' acc' c' k hS' M => ?_
  · show s.heap.objs.size + 1 ≤ ((s.heap.push _).update _ _).objs.size
    rw [Heap.size_update, Heap.size_push]; exact Nat.le_refl _
  · exact ⟨rfl, hQ h' acc' c' (ZKept.trans (fun b o _ q => oth b o q) k) hS' M⟩
end
end DL
set_option maxHeartbeats 4000000
namespace DL
open PySem PySem.Spec PyProof.Rows L2

/-! ### things that stand in the heap already, taken up -/
theorem hok_claim {P : Program} {w : World} {H : Hp} {h : Heap} {a : Addr} {o : HO} (x : HOk P w H h) (hn : H a = none) (new : ObjOk P w (upd H a o) h a o) : HOk P w (upd H a o) h := fun b u e => by
  by_cases hb : b = a
  · subst hb; rw [upd_same] at e; cases e; exact new
  · rw [upd_ne hb] at e
    exact (x b u e).stay (fun _ _ _ q => q) (fun c q => by rw [upd_ne (ne_of_none q hn)]; exact q) fun c xs q => by rw [upd_ne (ne_of_none q hn)]; exact q
theorem un_claim {fs ex : List Addr} {H H' : Hp} {h h' : Heap} {a : Addr} {o : HO} (u : Un fs ex H H' h h') (hp : h.objs.size ≤ a) (hn : H' a = none) : Un fs ex H (upd H' a o) h h' :=
  ⟨u.keep, u.slot, fun b ob q n nx => by rw [upd_ne (Nat.ne_of_lt (Nat.lt_of_lt_of_le (Heap.lt_size q) hp))]; exact u.free b ob q n nx, u.there,
    fun b xs q => by rw [upd_ne (ne_of_none (u.tups b xs q) hn)]; exact u.tups b xs q, fun b ob xs q => by rw [upd_ne (ne_of_none (u.frzs b ob xs q) hn)]; exact u.frzs b ob xs q, fun b ps q => by
    obtain ⟨more, e⟩ := u.tbls b ps q
    exact ⟨more, by rw [upd_ne (ne_of_none e hn)]; exact e⟩⟩
def zipK (xs ys : List D) : List D := List.zipWith (fun x y => D.tky [x, y]) xs ys
def woListZip (r : WA) : WO := fun G ρ Q => r G ρ fun ds => ∃ x y xs ys, ds = [x, y] ∧ tupsOf x = some xs ∧ tupsOf y = some ys ∧ Q (.ow (zipK xs ys))
theorem vals_getU : ∀ {xs : List V} {us : List Value} {i : Nat} {u : Value}, Vals xs us → us[i]? = some u → ∃ x, xs[i]? = some x ∧ RelV x u
  | _, _, _, _, .nil, e => by simp at e
  | _, _, 0, _, .cons r _, e => by simp at e; subst e; exact ⟨_, rfl, r⟩
  | _, _, i + 1, u, .cons _ t, e => by
    obtain ⟨x, h1, h2⟩ := vals_getU (i := i) t (by simpa using e)
    exact ⟨x, by simpa using h1, h2⟩
/-- the pairs are taken up one by one -/
theorem claim_pairs {P : Program} {w : World} {K : PySem.W.Frag} {G : Gc} {fs : List Addr} {F H : Hp} {h h' : Heap} {σ : St} {ρ : En} {xs ys acc : Array Value} {vs us : List V} {ds es : List D} {n B : Nat} (ev : EvR K G F H σ ρ) (u : Un fs [] H H h h') (ok : HOk P w H h') (hB : h.objs.size ≤ B)
    (fresh : ∀ b, h.objs.size ≤ b → H b = none) (M : ZMade B h' xs ys acc n) (rx : Vals vs xs.toList) (ry : Vals us ys.toList) (r1 : RpL K F vs ds) (r2 : RpL K F us es) : ∀ k, k ≤ n → ∃ (Hk Fk : Hp) (Ts : List V), Un fs [] H Hk h h' ∧ HOk P w Hk h' ∧ Same F Fk ∧ EvR K G Fk Hk σ ρ ∧ Fr G H Hk ∧
      Ts.length = k ∧ Vals Ts (acc.toList.take k) ∧ RpL K Fk Ts ((zipK ds es).take k) ∧ ∀ b, Hk b ≠ none → b < h.objs.size ∨ ∃ j, j < k ∧ acc[j]? = some (.ref b)
  | 0, _ => ⟨H, F, [], u, ok, Same.refl _, ev, Fr.refl, rfl, by simp; exact .nil, by simp; exact .nil, fun b hb => .inl (Nat.lt_of_not_le fun hc => hb (fresh b hc))⟩
  | k + 1, hk => by
    obtain ⟨Hk, Fk, Ts, u1, ok1, s1, e1, f1, hl, rv, rp, at1⟩ := claim_pairs ev u ok hB fresh M rx ry r1 r2 k (by omega)
    obtain ⟨T, x, y, g1, g2, g3, g4, g5, g6⟩ := M.2 k hk
    have hT : Hk T = none := by
      cases q : Hk T with
      | none => rfl
      | some o =>
        exfalso
        rcases at1 T (by rw [q]; exact fun z => nomatch z) with z | ⟨j, hj, z⟩
        · exact absurd (Nat.lt_of_lt_of_le z (Nat.le_trans hB g2)) (Nat.lt_irrefl _)
        · exact absurd (g6 j T hj z) (Nat.lt_irrefl _)
    obtain ⟨vx, hvx, rvx⟩ : ∃ v, vs[k]? = some v ∧ RelV v x := vals_getU rx (by simpa using g3)
    obtain ⟨vy, hvy, rvy⟩ : ∃ v, us[k]? = some v ∧ RelV v y := vals_getU ry (by simpa using g4)
    obtain ⟨dx, hdx, px⟩ := r1.getV hvx
    obtain ⟨dy, hdy, py⟩ := r2.getV hvy
    have nF : Fk T = none := e1.fnone hT
    have ek : (zipK ds es).take (k + 1) = (zipK ds es).take k ++ [.tky [dx, dy]] := by
      have q : (zipK ds es)[k]? = some (.tky [dx, dy]) := by unfold zipK; rw [List.getElem?_zipWith, hdx, hdy]
      rw [List.take_succ, q]; rfl
    have ea : acc.toList.take (k + 1) = acc.toList.take k ++ [.ref T] := by
      rw [List.take_succ, Array.getElem?_toList, g1]; rfl
    refine ⟨upd Hk T (.tup [vx, vy]), upd Fk T (.tup [vx, vy]), Ts ++ [.ref T], un_claim u1 (Nat.le_trans hB g2) hT, hok_claim ok1 hT ⟨by show 2 ≤ sizeLine; exact of_decide_eq_true rfl, [x, y], .cons rvx (.cons rvy .nil), ⟨_, g5, rfl, _, rfl⟩⟩, s1.trans (same_upd nF), e1.live hT, f1.trans (Fr.upd hT), by rw [List.length_append, hl]; rfl, ?_, ?_, fun b hb => ?_⟩
    · rw [ea]; exact rv.append (.cons rfl .nil)
    · rw [ek]
      exact (rp.mono (same_upd nF)).append (.cons (.tky upd_same (.cons (px.mono (s1.trans (same_upd nF))) (.cons (py.mono (s1.trans (same_upd nF))) .nil))) .nil)
    · by_cases hb2 : b = T
      · exact .inr ⟨k, Nat.lt_succ_self _, by rw [hb2]; exact g1⟩
      · rw [upd_ne hb2] at hb
        rcases at1 b hb with z | ⟨j, hj, z⟩
        · exact .inl z
        · exact .inr ⟨j, by omega, z⟩
theorem zside (I l1 l2 : Nat) (h1 : l1 < I) (h2 : l2 < I) : ZSide (I + 4) (I + 2) (I + 3) I (I + 1) l1 l2 (I + 5) (I + 6) where
  D := PySem.W.ktu_apart I l1 l2 h1 h2
  l1TO := by show (l1 : Nat) ≠ I + 3; omega
  l2TO := by show (l2 : Nat) ≠ I + 3; omega
  l1i1 := by show (l1 : Nat) ≠ I; omega
  l1i2 := by show (l1 : Nat) ≠ I + 1; omega
  l2i1 := by show (l2 : Nat) ≠ I; omega
  l2i2 := by show (l2 : Nat) ≠ I + 1; omega
  l2z := by show (l2 : Nat) ≠ I + 4; omega
  hS := by
    simp only [List.mem_cons, List.not_mem_nil, or_false, not_or]
    refine ⟨?_, ?_, ?_, ?_, ?_, ?_, ?_⟩ <;> (show ¬ ((I : Nat) + 5 = _); omega)
  lt := fun b hb => by
    simp only [List.mem_cons, List.not_mem_nil, or_false] at hb
    rcases hb with z | z | z | z | z | z <;> (rw [z]; show (_ : Nat) < I + 6; omega)
section
variable {S : Sta} {a b : Expr} {p p2 pos pos2 : Pos} {r : WA}
theorem do_listZip (hm : S.mg "list" = none) (hm2 : S.mg "zip" = none) (h : DA S [a, b] r) (hg : (S.names.lookup ("list" : Str) == some .globalImplicit) = true := by kernel_rfl) (hg2 : (S.names.lookup ("zip" : Str) == some .globalImplicit) = true := by kernel_rfl)
    (he : ∀ env, starEach [.Call (.Name "zip" p2) [a, b] [] pos2] env = (false, eval (.Call (.Name "zip" p2) [a, b] [] pos2) env) :: starEach [] env := by intro _; rfl)
    (hs : ∀ env, starEach [a, b] env = (false, eval a env) :: starEach [b] env := by intro _; rfl) (hpl : ∀ env, (backTo pos2 (starEach [b] env)).any (·.1) = false := by intro _; rfl) :
    DO S (.Call (.Name "list" p) [.Call (.Name "zip" p2) [a, b] [] pos2] [] pos) (woListZip r) := fun X f => ⟨fun pins s σ H Q I ⟨G, F, ρ, Qd, ev, hw, hq⟩ => by
  refine Call_ (ld_blt I (glOf f hg) (by rw [f.mg]; exact hm) PyProof.Rows.boot_list (PyProof.Rows.callWith_type1 (args_cons (Call_ (ld_blt I (glOf f hg2) (by rw [f.mg]; exact hm2) PyProof.Rows.boot_zip (PyProof.Rows.callWith_type1 (thn ((h X f).run pos2 pins s σ H (fun vs H1 => ∃ F1 ds, Same F F1 ∧ EvR S.K G F1 H1 σ ρ ∧ Fr G H H1 ∧ RpL S.K F1 vs ds ∧ ∃ x y xs ys, ds = [x, y] ∧ tupsOf x = some xs ∧ tupsOf y = some ys ∧ Qd (.ow (zipK xs ys))) I ⟨G, F, ρ, _, ev, hw, fun vs H1 F1 ds s1 e1 f1 r1 q1 => ⟨F1, ds, s1, e1, f1, r1, q1⟩⟩) fun us s1 ⟨vs, H1, I1, rv, F1, ds, sF, e1, f1, r1, x, y, xs, ys, ed, ex, ey, q⟩ => ?_) (hs _) (hpl _)))) (he _)) (he _)))
  subst ed
  obtain ⟨vx, vy, rfl, px, py⟩ := r1.two
  obtain ⟨u1, u2, rfl, ra, rb⟩ := vals2 rv
  obtain ⟨l1, ws, rfl, hl1, rr1⟩ := rp_tups px ex
  obtain ⟨l2, ws2, rfl, hl2, rr2⟩ := rp_tups py ey
  cases ra
  cases rb
  rw [← f.K] at hl1 hl2
  obtain ⟨us, rx, p1, z1⟩ := I1.tuple (Same.sqt e1.sub hl1)
  obtain ⟨us2, ry, p2', z2⟩ := I1.tuple (Same.sqt e1.sub hl2)
  obtain ⟨o1, ho1, _⟩ := id p1
  obtain ⟨o2, ho2, _⟩ := id p2'
  refine RZ.call_zipT (show s1.heap.IsTuple l1 us.toArray from p1) (show s1.heap.IsTuple l2 us2.toArray from p2') fun h' hz hTI hTO t1 t2 hsz hk => ?_
  refine args_nil ?_
  have sd := zside s1.heap.objs.size l1 l2 (Heap.lt_size ho1) (Heap.lt_size ho2)
  have len1 := rx.length
  have len2 := ry.length
  have W : ZipW h' (s1.heap.objs.size + 4) (s1.heap.objs.size + 2) (s1.heap.objs.size + 3) s1.heap.objs.size (s1.heap.objs.size + 1) l1 l2 us.toArray us2.toArray 0 :=
    ⟨⟨_, _, hz, .inl rfl, false, rfl⟩, hTI, ⟨_, _, hTO⟩, t1, t2, by obtain ⟨o, e, r⟩ := p1; exact ⟨o, hk _ _ e, r⟩, by obtain ⟨o, e, r⟩ := p2'; exact ⟨o, hk _ _ e, r⟩⟩
  have ez : h'.objs.size = s1.heap.objs.size + 5 := hsz
  have ez1 : h'.objs.size + 1 = s1.heap.objs.size + 6 := by rw [ez]
  have sd' : ZSide (s1.heap.objs.size + 4) (s1.heap.objs.size + 2) (s1.heap.objs.size + 3) s1.heap.objs.size (s1.heap.objs.size + 1) l1 l2 h'.objs.size (h'.objs.size + 1) := by rw [ez]; exact sd
  refine zip_list (s := { s1 with heap := h' }) (n := min us.toArray.size us2.toArray.size) sd' (I1.ok.hd f.calm) (by simp only [List.size_toArray]; omega) rfl W fun h2 acc c k hS M => ?_
  have old : ∀ b o, s1.heap.get? b = some o → h2.get? b = some o := fun b o q => by
    have lt := Heap.lt_size q
    refine k b o (fun hm => ?_) (hk b o q)
    simp only [List.mem_cons, List.not_mem_nil, or_false] at hm
    have ge : s1.heap.objs.size ≤ b := by
      rcases hm with z | z | z | z | z | z <;> rw [z]
      · show s1.heap.objs.size ≤ h'.objs.size; rw [ez]; exact Nat.le_add_right _ _
      · exact Nat.le_add_right _ _
      · exact Nat.le_add_right _ _
      · exact Nat.le_add_right _ _
      · exact Nat.le_refl _
      · exact Nat.le_add_right _ _
    exact absurd lt (Nat.not_lt.mpr ge)
  have hB : s1.heap.objs.size ≤ h'.objs.size + 1 := by rw [ez]; exact Nat.le_trans (Nat.le_add_right _ 5) (Nat.le_succ _)
  obtain ⟨Hk, Fk, Ts, hu, ok, sk, ek, fk, hl, rv2, rp2, at2⟩ := claim_pairs (fs := X.fs) e1 (Un.kept old) (I1.hok.kept old) hB (fun b hb => I1.hok.fresh hb) M rx ry rr1 rr2 _ (Nat.le_refl _)
  have acl : acc.toList.take (min us.toArray.size us2.toArray.size) = acc.toList := List.take_of_length_le (by rw [Array.length_toList, M.1]; exact Nat.le_refl _)
  rw [acl] at rv2
  have zl : (zipK xs ys).take (min us.toArray.size us2.toArray.size) = zipK xs ys := List.take_of_length_le (by
    unfold zipK
    rw [List.length_zipWith, ← rr1.len, ← rr2.len]
    simp only [List.size_toArray]
    omega)
  rw [zl] at rp2
  have hn : Hk h'.objs.size = none := by
    cases q : Hk h'.objs.size with
    | none => rfl
    | some o =>
      exfalso
      rcases at2 _ (by rw [q]; exact fun z => nomatch z) with z | ⟨j, hj, z⟩
      · exact absurd z (Nat.not_lt.mpr (by rw [ez]; exact Nat.le_add_right _ _))
      · obtain ⟨T, _, _, g1, g2, _⟩ := M.2 j hj
        rw [z] at g1
        cases g1
        exact absurd g2 (Nat.not_le.mpr (Nat.lt_succ_self _))
  have new : ObjOk X.prog X.w (upd Hk h'.objs.size (.lst Ts)) h2 h'.objs.size (.lst Ts) := ⟨by rw [hl]; simp only [List.size_toArray]; omega, acc.toList, c, rv2, by rw [Array.toArray_toList]; exact hS⟩
  have hge : s1.heap.objs.size ≤ h'.objs.size := by rw [ez]; exact Nat.le_add_right _ _
  have I2 : Inv X pins σ (upd Hk h'.objs.size (.lst Ts)) { s1 with heap := h2 } := I1.un (t' := s1.toks) (un_claim hu hge hn) (hok_claim ok hn new)
  refine ⟨.ref h'.objs.size, _, I2, rfl, ?_⟩
  exact ek.newL hn rp2 q fun v H' F' sv s2 e3 f2 r2 q2 => hq v H' F' sv (sF.trans (sk.trans s2)) e3 (f1.trans (fk.trans f2)) (r2.back (f1.trans fk)) q2⟩
end
end DL
set_option maxHeartbeats 4000000
namespace DL
open PySem PySem.Spec PyProof.Rows L2

/-! ### x = {k: v for ..}, x = [.. for .. for ..] -/
theorem swd_true {kx vx : Expr} {gs : List Comprehension} {scope : Scope} {pos py : Pos} {y : Str} {l : Nat} {env : Env} (hk : env.scope.kind = .function) (hy : env.scope.names.lookup y = some .local) (hl : (py.line == pos.line) = true)
    (ha : (scope.names.any fun (n, k) => n == y && (k == .local || k == .cell)) = false) : swapsWith (.DictComp kx vx gs scope pos) (some (.Name y py)) l env = pure true := by
  have k1 : env.kindOf y = some .local := hy
  have k2 : env.blockKind = .function := by unfold Env.blockKind; rw [hk]; rfl
  unfold swapsWith
  simp only [k2, k1, ha, Expr.pos, hl]
  rfl
/-- what a comprehension leaves is stored -/
theorem comp_store {X : Cx} {pins : List (Addr × Obj)} {σ : St} {H' : Hp} {s' : Shared} {C L : Addr} {m : Str → Option Value} {i : Nat} {y : Str} {py : Pos} {D : Ends} (hN : X.N.Nodup) (hy : X.N[i]? = some y) (hyl : X.env.scope.names.lookup y = some .local)
    (I' : Inv X pins σ H' s') (q : gName i (.ref L) σ H' D.nx) (hn : s'.heap.Ns C m) (f : FpOk X pins H' C) :
    compPost (model X.prog X.w) X.A X.xe (some (assign (.Name y py) X.env)) (fun _ s' => SP X pins D .next s') (.ref L) C (.ok .next) s' := by
  show wpAny _ _ (assign (.Name y py) X.env (.ref L)) _ _ _
  refine wpAny_assign_Name (store_ok2 (v := V.ref L) I' hN hy (.inl hyl) rfl (fun s2 I2 ⟨a, sb, ha⟩ => ?_) (.inr hyl))
  obtain ⟨f0, f1, f2, f3, f4, f5⟩ := f
  have ne : C ≠ a := by
    rcases ha with e | e
    · rw [e]; exact f1
    · exact fun z => f4 y a e z.symm
  exact ⟨m, hn.sameBut sb ne, fun h3 sb3 => ⟨_, H', I2.turned (t' := s2.toks) (fun b o hb e => (sb3.2 b hb).trans e) f0 f1 f3 f4 f5, q⟩⟩
theorem ps_setDc {X : Cx} {i : Nat} {y : Str} {py : Pos} {kx vx tg iter : Expr} {ifs : List Expr} {scope : Scope} {own : List (Str × Nat)} {pos spos : Pos} {wi : TI} {g : TG} {tt : TT} {tk tv : TE} (hc : X.calm = true) (hN : X.N.Nodup) (hy : X.N[i]? = some y) (hyl : X.env.scope.names.lookup y = some .local)
    (hsw : swapsWith (.DictComp kx vx [⟨tg, iter, ifs, 0⟩] scope pos) (some (.Name y py)) spos.line X.env = pure true) (hi : PI X tg iter wi) (ok : BlkOk X.N X.env.scope scope own)
    (hg : ∀ (s : Shared) (H : Hp) (C : Addr) (cl : List (Str × Addr)) (fp : List Addr), PG (X.blk s H scope (compEnvC scope cl C X.env) fp) tg g) (ht : ∀ (s : Shared) (H : Hp) (C : Addr) (cl : List (Str × Addr)) (fp : List Addr), PTs (X.blk s H scope (compEnvC scope cl C X.env) fp) ifs tt)
    (hk : ∀ (s : Shared) (H : Hp) (C : Addr) (cl : List (Str × Addr)) (fp : List Addr), PE (X.blk s H scope (compEnvC scope cl C X.env) fp) kx tk) (he : ∀ (s : Shared) (H : Hp) (C : Addr) (cl : List (Str × Addr)) (fp : List Addr), PE (X.blk s H scope (compEnvC scope cl C X.env) fp) vx tv) (hs : ∀ x, foldedSetIterable iter X.env x = pure x) :
    PS X (.Assign [.Name y py] (.DictComp kx vx [⟨tg, iter, ifs, 0⟩] scope pos) spos) (tAsg (tDc wi g tt tk tv (own.map (·.2))) (gName i)) := ⟨fun pins s σ H D I h => by
  rw [exec_Assign_Name_used _ _ _ _ hsw]
  refine wpAny_bind (wpAny_standAt (wpAny_bind ?_))
  show wpAny _ X.A (do let _ ← comprehension (.DictComp kx vx [⟨tg, iter, ifs, 0⟩] scope pos) scope X.env (firstIterPos [⟨tg, iter, ifs, 0⟩] pos) newDict false (eval iter X.env) (some (assign (.Name y py) X.env))) _ _ s
  have h : tDc wi g tt tk tv (own.map (·.2)) σ H (fun x H1 => gName i x σ H1 D.nx) := h
  exact wpAny_bind (thn (dc_core (Qf := fun _ s' => SP X pins D .next s') hc hN I hi ok hg ht hk he hs h fun L C s' m H' I' q hn f => comp_store hN hy hyl I' q hn f) fun _ s' hq => wpAny_pure (wpAny_pure hq))⟩
section
variable {S : Sta} {elt kx vx tg iter tg1 iter1 a b : Expr} {ifs ifs1 : List Expr} {scope : Scope} {own : List (Str × Nat)} {pos p : Pos} {wi wi1 : WA} {wg wg1 : WG} {wt wt1 : WT} {we wk wv wa wb : W} {is is1 vs1 : List Nat}
theorem ds_setDc {i : Nat} {y : Str} {py spos : Pos} (hi : DI S tg iter wi) (nd : S.N.Nodup) (hk : blkC S.N ⟨.function, S.names, false, false, []⟩ scope own = true) (hg : DG (S.blk scope) tg is wg) (hsub : ∀ i ∈ is, i ∈ own.map (·.2)) (ht : DTs (S.blk scope) ifs wt) (hke : DE (S.blk scope) kx wk) (he : DE (S.blk scope) vx wv)
    (hN : (S.N[i]? == some y) = true := by kernel_rfl) (hl : (S.names.lookup y == some .local) = true := by kernel_rfl) (hln : (py.line == pos.line) = true := by kernel_rfl) (ha : (scope.names.any fun (n, k) => n == y && (k == .local || k == .cell)) = false := by kernel_rfl)
    (hs : ∀ env x, foldedSetIterable iter env x = pure x := by intro _ _; rfl) : DS S (.Assign [.Name y py] (.DictComp kx vx [⟨tg, iter, ifs, 0⟩] scope pos) spos) (wSet i (wDComp wi wg wt wk wv (own.map (·.2)))) := fun X f => by
  obtain ⟨g, pg, ok⟩ := hg
  have bk := blkOf f hk
  have hy : X.env.scope.names.lookup y = some .local := by rw [f.look]; exact beq_iff_eq.mp hl
  refine (ps_setDc (i := i) f.calm (by rw [f.N]; exact nd) (by rw [f.N]; exact beq_iff_eq.mp hN) hy (swd_true f.kind hy hln ha) (hi X f) bk (fun s H C cl fp => pg _ (fam_blk f bk.kind s H C cl fp)) (fun s H C cl fp => ht _ (fam_blk f bk.kind s H C cl fp)) (fun s H C cl fp => hke _ (fam_blk f bk.kind s H C cl fp)) (fun s H C cl fp => he _ (fam_blk f bk.kind s H C cl fp)) (hs _)).imp fun D σ H ⟨G, H0, F0, F, ρ, E, ev, ⟨hi, hw⟩, gg⟩ => ?_
  refine dc_imp ok hsub σ H _ ⟨G, F, ρ, _, ev.r, hw, fun v H' F' sv s e' fr r q => ?_⟩
  obtain ⟨F2, ev2, s2⟩ := ev.put s e' fr hi r
  exact gg.nx _ H' F2 _ ev2 s2 q
theorem ds_setLc2 {i : Nat} {y : Str} {py spos : Pos} (hi : DI S tg iter wi) (nd : S.N.Nodup) (hk : blkC S.N ⟨.function, S.names, false, false, []⟩ scope own = true) (hg : DG (S.blk scope) tg is wg) (hsub : ∀ i ∈ is, i ∈ own.map (·.2)) (ht : DTs (S.blk scope) ifs wt)
    (hi1 : DI (S.blk scope) tg1 iter1 wi1) (hg1 : DG (S.blk scope) tg1 is1 wg1) (hv : ∀ i ∈ vs1, i ∈ own.map (·.2)) (hsub1 : ∀ i ∈ is1, i ∈ vs1) (ht1 : DTs (S.blk scope) ifs1 wt1) (he : DE (S.blk scope) elt we)
    (hN : (S.N[i]? == some y) = true := by kernel_rfl) (hl : (S.names.lookup y == some .local) = true := by kernel_rfl) (hln : (py.line == pos.line) = true := by kernel_rfl) (ha : (scope.names.any fun (n, k) => n == y && (k == .local || k == .cell)) = false := by kernel_rfl)
    (hs : ∀ env x, foldedSetIterable iter env x = pure x := by intro _ _; rfl) (hs1 : ∀ env x, foldedSetIterable iter1 env x = pure x := by intro _ _; rfl) :
    DS S (.Assign [.Name y py] (.ListComp elt [⟨tg, iter, ifs, 0⟩, ⟨tg1, iter1, ifs1, 0⟩] scope pos) spos) (wSet i (wComp2 wi wg wt wi1 wg1 wt1 we (own.map (·.2)) vs1)) := fun X f => by
  obtain ⟨g, pg, ok⟩ := hg
  obtain ⟨g1, pg1, ok1⟩ := hg1
  have bk := blkOf f hk
  have hy : X.env.scope.names.lookup y = some .local := by rw [f.look]; exact beq_iff_eq.mp hl
  refine (ps_setLc2 (i := i) f.calm (by rw [f.N]; exact nd) (by rw [f.N]; exact beq_iff_eq.mp hN) hy (sw_true f.kind hy hln ha) (hi X f) bk hv (fun s H C cl fp => pg _ (fam_blk f bk.kind s H C cl fp)) (fun s H C cl fp => ht _ (fam_blk f bk.kind s H C cl fp)) (fun s H C cl fp => hi1 _ (fam_blk f bk.kind s H C cl fp)) (fun s H C cl fp => pg1 _ (fam_blk f bk.kind s H C cl fp)) (fun s H C cl fp => ht1 _ (fam_blk f bk.kind s H C cl fp)) (fun s H C cl fp => he _ (fam_blk f bk.kind s H C cl fp)) (hs _) hs1).imp fun D σ H ⟨G, H0, F0, F, ρ, E, ev, ⟨hi, hw⟩, gg⟩ => ?_
  refine lc2_imp ok hsub ok1 hsub1 σ H _ ⟨G, F, ρ, _, ev.r, hw, fun v H' F' sv s e' fr r q => ?_⟩
  obtain ⟨F2, ev2, s2⟩ := ev.put s e' fr hi r
  exact gg.nx _ H' F2 _ ev2 s2 q
/-! ### tests -/
theorem dt_din (ha : DE S a wa) (hb : DE S b wb) (hm : behindInMarks .In b = false := by rfl) : DT S (.Compare a [.In] [b] pos) (wtV (wOp oDIn wa wb)) := fun X f =>
  (pt_cmp (pc_din (units1 f) (ha X f) (hb X f)) hm).imp fun σ H Q ⟨G, F, ρ, Qd, ev, hw, hq⟩ => ⟨G, F, ρ, _, ev, hw, fun v1 H1 F1 d1 s1 e1 f1 r1 q1 => ⟨G, F1, ρ, _, e1, q1, fun v2 H2 F2 d2 s2 e2 f2 r2 ⟨o, c, k, ek, q⟩ => by
    obtain ⟨a, ov, rfl, g, h⟩ := dget_of e2.sub (r1.mono s2) r2 c
    refine ⟨a, ov, rfl, g, ?_⟩
    have eo : ov.isSome = o.isSome := by
      rcases h with ⟨h1, h2⟩ | ⟨d, v, h1, h2, _⟩
      · rw [h1, h2]; rfl
      · rw [h1, h2]; rfl
    rw [eo]
    cases ek
    exact ⟨_, rfl, hq _ H2 F2 (s1.trans s2) e2 (f1.trans f2) q⟩⟩⟩
theorem dt_dnotin (ha : DE S a wa) (hb : DE S b wb) (hm : behindInMarks .NotIn b = false := by rfl) : DT S (.Compare a [.NotIn] [b] pos) (wtV (wOp oDNotIn wa wb)) := fun X f =>
  (pt_cmp (pc_dnotin (units1 f) (ha X f) (hb X f)) hm).imp fun σ H Q ⟨G, F, ρ, Qd, ev, hw, hq⟩ => ⟨G, F, ρ, _, ev, hw, fun v1 H1 F1 d1 s1 e1 f1 r1 q1 => ⟨G, F1, ρ, _, e1, q1, fun v2 H2 F2 d2 s2 e2 f2 r2 ⟨o, c, k, ek, q⟩ => by
    obtain ⟨a, ov, rfl, g, h⟩ := dget_of e2.sub (r1.mono s2) r2 c
    refine ⟨a, ov, rfl, g, ?_⟩
    have eo : ov.isSome = o.isSome := by
      rcases h with ⟨h1, h2⟩ | ⟨d, v, h1, h2, _⟩
      · rw [h1, h2]; rfl
      · rw [h1, h2]; rfl
    rw [eo]
    cases ek
    exact ⟨_, rfl, hq _ H2 F2 (s1.trans s2) e2 (f1.trans f2) q⟩⟩⟩
theorem dt_notInG {x : Str} {ds : List D} (h : GTup S.toBs x ds) (ha : DE S a wa) (hg : (S.names.lookup x == some .globalImplicit) = true := by kernel_rfl) (hd : (x == ("__debug__" : Str)) = false := by kernel_rfl) (hm : behindInMarks .NotIn (.Name x p) = false := by rfl) : DT S (.Compare a [.NotIn] [.Name x p] pos) (wtV (wNotInG ds wa)) := fun X f => by
  obtain ⟨c, vs, hmg, hs, hr⟩ := h
  have op : OpR X (compareOp .NotIn) (rNotInS S.K) := f.K ▸ op_notInS f.room.units65
  exact (pt_cmpR op (ha X f) (pe_glob (v := .ref c) (u := .ref c) (glOf f hg) (by rw [f.mg]; exact hmg) rfl hd) hm).imp fun σ H Q ⟨G, F, ρ, Qd, ev, hw, hq⟩ => ⟨G, F, ρ, _, ev, hw, fun v1 H1 F1 d1 s1 e1 f1 r1 ⟨ys, p, q, e0, e2, e3, sh1, sh2, k, ek, hQ⟩ => by
    cases e0
    cases ek
    exact ⟨p, q, r1.dp e1.sub e2, .inr (.tup (hs H1) (RpL.dp (fun _ _ z => by cases z) hr e3)), sh1, sh2, _, rfl, hq _ H1 F1 s1 e1 f1 hQ⟩⟩
theorem ds_setDcC {wo : WO} {i : Nat} {y : Str} {py spos : Pos} {gs : List Comprehension} (he : DO S (.DictComp kx vx gs scope pos) wo) (nd : S.N.Nodup)
    (hN : (S.N[i]? == some y) = true := by kernel_rfl) (hl : (S.names.lookup y == some .cell && S.fc y) = true := by kernel_rfl) : DS S (.Assign [.Name y py] (.DictComp kx vx gs scope pos) spos) (wSet i wo) := fun X f => by
  have hl' : (S.names.lookup y == some .local || (S.names.lookup y == some .cell && S.fc y)) = true := by rw [hl, Bool.or_true]
  obtain ⟨h1, h2⟩ := locOf f hl'
  have ky : X.env.kindOf y = some .cell := show X.env.scope.names.lookup y = some .cell by rw [f.look]; exact beq_iff_eq.mp (Bool.and_eq_true_iff.mp hl).1
  have hs : swapsWith (.DictComp kx vx gs scope pos) (some (.Name y py)) spos.line X.env = pure false := by
    unfold swapsWith
    simp [ky, show (NameKind.cell == NameKind.local) = false from rfl]
  refine (ps_set (i := i) (by rw [f.N]; exact nd) (by rw [f.N]; exact beq_iff_eq.mp hN) h1 (he X f) hs h2).imp fun D σ H ⟨G, H0, F0, F, ρ, E, ev, ⟨hi, hw⟩, g⟩ => ?_
  refine ⟨G, F, ρ, _, ev.r, hw, fun v H' F' sv s e' fr r q => ?_⟩
  obtain ⟨F2, ev2, s2⟩ := ev.put s e' fr hi r
  exact g.nx _ H' F2 _ ev2 s2 q
end
end DL
set_option maxHeartbeats 4000000
/-! enumerate of tuples -/
namespace DL
open PySem PySem.Spec PyProof.Rows L2
open AutoSeq1 (wpAny_loadPart')

theorem meets_enumT (l : Addr) (items : Array Value) (n : Nat) (dct : Option Addr) (sl : Array (Option Value)) :
    Meets (Builtin.«enumerate.__new__» ⟨[.type "enumerate", .ref l], []⟩) (fun _ R s => s.heap.get? l = some { cls := .type "tuple", dict := dct, data := .seq items n, slots := sl } ∧
      R (.ok (.ret (.ref (s.heap.push { cls := .type "tuple_iterator", data := .fields #[.ref l, .int 0 0] }).objs.size)))
        { s with heap := (s.heap.push { cls := .type "tuple_iterator", data := .fields #[.ref l, .int 0 0] }).push { cls := .type "enumerate", data := .fields #[.none, .bool false, .ref s.heap.objs.size, rawInt 0, .none, .none] } }) :=
  .of_wp fun prog w A R s h => by
    obtain ⟨hp, g, d, tk, os⟩ := s; obtain ⟨hl, h⟩ := h
    have hsub := sub_enumerate
    have hT : Heap.IsTuple (Shared.heap ⟨hp, g, d, tk, os⟩) l items := ⟨_, hl, rfl, n, rfl⟩
    wp_walk using wpAny_loadPart' hl
    refine wpAny_stack_any fun st => wpAny_pure ?_
    split
    · rename_i c _ _ _ _ _
      cases (c == Value.type "enumerate")
      · wp_walk using wpAny_loadPart' hl, wpAny_pyIter_tuple hT
        exact ⟨_, rfl, h⟩
      · wp_walk using wpAny_loadPart' hl, wpAny_pyIter_tuple hT
        exact ⟨_, rfl, h⟩
    · wp_walk using wpAny_loadPart' hl, wpAny_pyIter_tuple hT
      exact ⟨_, rfl, h⟩
section
variable {prog : Program} {w : World} {A : Around} {E : Value → Shared → Prop} {s : Shared}
theorem call_enumT {l : Addr} {items : Array Value} {Q : Value → Shared → Prop} (hT : s.heap.IsTuple l items)
    (h : ∀ h', IsEnum h' (s.heap.objs.size + 1) s.heap.objs.size 0 .none → h'.IsTupleIter s.heap.objs.size l 0 → h'.objs.size = s.heap.objs.size + 2 → (∀ b o, s.heap.get? b = some o → h'.get? b = some o) → Q (.ref (s.heap.objs.size + 1)) { s with heap := h' }) :
    wpAny (model prog w) A (call (.type "enumerate") [.ref l]) Q E s := by
  obtain ⟨⟨c, dct, dt, sl⟩, hl, hc, n, hd⟩ := hT
  obtain rfl : c = .type "tuple" := hc
  obtain rfl : dt = .seq items n := hd
  refine callType_new PySem.F.called_enumerate (by decide) (PySem.F.typeCall_enumerate_1 _) (PySem.F.newCall_enumerate_1 _) (fun obj => PySem.F.args_object_init_2 obj _) PySem.F.entry_enumerate_new (meets_enumT l items n dct sl) ⟨hl, ?_⟩
  have z1 : (s.heap.push { cls := .type "tuple_iterator", data := .fields #[.ref l, .int 0 0] }).objs.size = s.heap.objs.size + 1 := Heap.size_push ..
  have g2 := Heap.get?_push_size (s.heap.push { cls := .type "tuple_iterator", data := .fields #[.ref l, .int 0 0] }) (o := { cls := .type "enumerate", data := .fields #[.none, .bool false, .ref s.heap.objs.size, rawInt 0, .none, .none] }) rfl
  rw [z1] at g2
  show _ ∧ _
  rw [z1]
  exact ⟨⟨_, g2, rfl⟩, h _ g2 ⟨_, Heap.get?_push_of_some _ (Heap.get?_push_size _ rfl), rfl, rfl⟩ (by rw [Heap.size_push, z1]) fun b o e => Heap.get?_push_of_some _ (Heap.get?_push_of_some _ e)⟩
end
/-- the tuple at a as it stands at each turn, each item in a new pair -/
def IteT (K : PySem.W.Frag) (a : Addr) : It :=
  ⟨fun i H => ∃ (xs : List V) (x : V), SqT K H a xs ∧ xs[i]? = some x, fun i H v H' => ∃ T x, v = .ref T ∧ H T = none ∧ H' = upd H T (.tup [.int (i : Nat), x]) ∧ ∀ xs, SqT K H a xs → xs[i]? = some x, fun i H => ∃ xs : List V, SqT K H a xs ∧ xs.length ≤ i⟩
theorem turn_enumT {P : Program} {w : World} {K : PySem.W.Frag} {elts : List Expr} {kk : Nat} {tpos : Pos} (a e it : Addr) (items : Array Value) (hai : a ≠ it) (hae : a ≠ e) :
    Turn P w K (.Tuple elts kk tpos) (IteT K a) [e, it] e (fun i h => (∃ old, IsEnum h e it ((i : Nat) : Int) old) ∧ h.IsTupleIter it a i ∧ e ≠ it) where
  mem := List.mem_cons_self
  obj := fun i h ⟨⟨old, he⟩, ⟨o, ho, _, hd⟩, _⟩ b hb => by
    simp only [List.mem_cons, List.not_mem_nil, or_false] at hb
    rcases hb with rfl | rfl
    · exact ⟨_, he, fun v q => nomatch q⟩
    · exact ⟨o, ho, fun v q => by rw [hd] at q; cases q⟩
  keep := fun i h h' ⟨⟨old, he⟩, hi, hne⟩ k => ⟨⟨old, k e (by simp) _ he⟩, hi.at fun o q => k it (by simp) o q, hne⟩
  item := fun X hP hw hK hc i pins s σ H E I hf ⟨⟨old, he⟩, hit, hne⟩ ⟨xs, x, hq, hx⟩ => by
    subst hP hw hK
    obtain ⟨its, rv, p, hz⟩ := I.tuple hq
    obtain ⟨u, hu, ru⟩ := rv.get hx
    have hel : e < s.heap.objs.size := Heap.lt_size he
    have hil : it < s.heap.objs.size := by obtain ⟨_, q, _⟩ := hit; exact Heap.lt_size q
    have D := Draws.tuple (prog := X.prog) (w := X.w) (A := X.A.in1) (I.ok.hd hc) it a hai its.toArray
    have hlt : i < its.toArray.size := by
      have := (List.getElem?_eq_some_iff.mp hu).1
      simpa using this
    refine wpAny_pyNext_enum_itemD D he ⟨hit, show s.heap.IsTuple a its.toArray from p⟩ hlt hne (by simp only [List.mem_cons, List.not_mem_nil, or_false, not_or]; exact ⟨hne, fun z => hae z.symm⟩) fun v h' tk hv ho st' hT hsz hk => ?_
    have ev : v = u := by
      have e2 : its.toArray[i]? = some u := by simpa using hu
      rw [e2] at hv
      exact (Option.some.inj hv).symm
    subst ev
    refine ⟨_, rfl, wpAny_letOwnedTupleGo_enum (s := { s with heap := h', toks := tk + 1 }) ho fun h2 he2 sb => ?_⟩
    have hT2 : h2.get? s.heap.objs.size = some { cls := .type "tuple", data := .seq #[.int i tk, v] } := (sb.2 _ (Nat.ne_of_gt hel)).trans hT
    have new : ObjOk X.prog X.w (upd H s.heap.objs.size (.tup [.int (i : Nat), x])) h2 s.heap.objs.size (.tup [.int (i : Nat), x]) := ⟨by show 2 ≤ sizeLine; exact of_decide_eq_true rfl, [.int i tk, v], .cons ⟨_, rfl⟩ (.cons ru .nil), ⟨_, hT2, rfl, _, rfl⟩⟩
    have I1 : Inv X pins σ (upd H s.heap.objs.size (.tup [.int (i : Nat), x])) { s with heap := h2, toks := tk + 1 } :=
      I.turnedNew (ch := [e, it]) (fun b ob hb q => (sb.2 b (fun z => hb (by simp [z]))).trans (hk b ob (fun z => hb (by simp [z])) (fun z => hb (by simp [z])) q)) hf (Nat.le_refl _) new
    refine ⟨.ref s.heap.objs.size, _, I1, rfl, ⟨_, x, rfl, I.hok.fresh (Nat.le_refl _), rfl, fun ys hy => by rw [I.tuple_inj hy hq]; exact hx⟩, ⟨⟨v, ?_⟩, st'.1.at fun o q => (sb.2 it (Ne.symm hne)).trans q, hne⟩, fun b hb => ?_⟩
    · have e1 : ((i + 1 : Nat) : Int) = (i : Int) + 1 := by omega
      rw [e1]; exact he2
    · have lt : b < s.heap.objs.size := by
        simp only [List.mem_cons, List.not_mem_nil, or_false] at hb
        rcases hb with rfl | rfl <;> assumption
      rw [upd_ne (Nat.ne_of_lt lt)]
      exact (hf b hb).1
  done := fun X hP hw hK hc i pins s σ H E I hf ⟨⟨old, he⟩, hit, hne⟩ ⟨xs, hq, hx⟩ => by
    subst hP hw hK
    obtain ⟨its, rv, p, hz⟩ := I.tuple hq
    obtain ⟨f0, f1, f2, f3, f4, f5⟩ := hf it (by simp)
    have hl := rv.length
    have hT : s.TypeIs (.ref e) "enumerate" := ⟨_, he, rfl⟩
    unfold pyNext
    refine wpAny_bind (wpAny_attempt (wpAny_callSpecial?_slot (name := Str.ofString "__next__") hT PySem.F.slot_enumerate_next (wpAny_call_entry PySem.F.slot_enumerate_next hT PySem.F.entry_enumerate_next ?_ (PySem.F.args_enumerate_next_1 _))))
    show wpAny _ _ (field (.ref e) 2 >>= _) _ _ _
    refine wpAny_bind (wpAny_field he rfl (x := .ref it) rfl ?_)
    refine wpAny_bind (RZ.nextOf_tuple_end (I.ok.hd hc) hit (show s.heap.IsTuple a its.toArray from p) (by simp; omega) fun h' x he' hx' => ?_)
    obtain ⟨o, ho, hcl⟩ := hx'
    exact wpAny_bind (wpAny_isInstance (T := "StopIteration") (b := true) ⟨o, ho, hcl⟩ isSubtype_stop (wpAny_pure ⟨rfl, I.turned (t' := s.toks) (fun b o hb q => he' b o hb q) f0 f1 f3 f4 f5⟩))
  self := fun A i s Q E ⟨⟨_, he⟩, _⟩ h => wpAny_pyIter_enum he h
def iEnumA (K : PySem.W.Frag) (ta : TA) : TI := fun σ H R => ta σ H fun vs H1 => ∃ a xs, vs = [.ref a] ∧ ((SqL K H1 a xs ∧ R (Ite K a) H1) ∨ (SqT K H1 a xs ∧ R (IteT K a) H1))
theorem pi_enumA {X : Cx} {e : Expr} {ta : TA} {p pos tpos : Pos} {elts : List Expr} {kk : Nat} (hg : Gl X "enumerate") (hm : X.mg "enumerate" = none) (ha : PA X [e] ta) (hs : starEach [e] X.env = [(false, eval e X.env)]) :
    PI X (.Tuple elts kk tpos) (.Call (.Name "enumerate" p) [e] [] pos) (iEnumA X.K ta) := ⟨fun pins s σ H R I h => by
  refine Call_ (ld_blt I hg hm boot_enumerate (PyProof.Rows.callWith_type1 (thn (ha.run pos pins s σ H _ I h) fun us s1 ⟨vs, H1, I1, r1, a, xs, ex, q⟩ => ?_) hs rfl))
  subst ex
  obtain ⟨u, rfl, r⟩ := vals1 r1
  cases r
  have fresh : ∀ b ∈ [s1.heap.objs.size + 1, s1.heap.objs.size], FpOk X pins H1 b := fun b hb => by
    have le : s1.heap.objs.size ≤ b := by
      simp only [List.mem_cons, List.not_mem_nil, or_false] at hb
      rcases hb with z | z <;> rw [z]
      · exact Nat.le_add_right _ _
      · exact Nat.le_refl _
    exact I1.fpOk le (I1.hok.fresh le)
  rcases q with ⟨hq, q⟩ | ⟨hq, q⟩
  · obtain ⟨its, rv, p', hz⟩ := I1.list hq
    refine call_enumerate_list p'.isList fun h' he hit hsz hk => wpAny_pyIter_enum he ?_
    exact ⟨s1.heap.objs.size + 1, _, _, _, H1, rfl, I1.kept (t' := s1.toks) hk, turn_enum a (s1.heap.objs.size + 1) s1.heap.objs.size, ⟨⟨.none, he⟩, hit, Nat.succ_ne_self _⟩, fresh, q⟩
  · obtain ⟨its, rv, p', hz⟩ := I1.tuple hq
    obtain ⟨o1, ho1, _⟩ := id p'
    have lt := Heap.lt_size ho1
    refine call_enumT (show s1.heap.IsTuple a its.toArray from p') fun h' he hit hsz hk => wpAny_pyIter_enum he ?_
    exact ⟨s1.heap.objs.size + 1, _, _, _, H1, rfl, I1.kept (t' := s1.toks) hk, turn_enumT a (s1.heap.objs.size + 1) s1.heap.objs.size #[] (Nat.ne_of_lt lt) (Nat.ne_of_lt (Nat.lt_succ_of_lt lt)), ⟨⟨.none, he⟩, hit, Nat.succ_ne_self _⟩, fresh, q⟩⟩
theorem itok_enumT {K : PySem.W.Frag} {F : Hp} {a : Addr} {vs : List V} {ds : List D} (h : SqT K F a vs) (r : RpL K F vs ds) : ItOk K (IteT K a) F (enumD 0 ds) where
  go := fun i H F' s s' hi => by
    rw [enumD_len] at hi
    have hv : i < vs.length := by rw [r.len]; exact hi
    have hH : SqT K H a vs := Same.sqt (s.trans s') h
    refine ⟨⟨vs, vs[i], hH, List.getElem?_eq_getElem hv⟩, fun x H' ⟨T, v1, e1, nT, e2, y⟩ => ?_⟩
    obtain ⟨d, h1, h2⟩ := r.getV (y vs hH)
    subst e1
    have e := enumD_get (k := 0) h1
    rw [Nat.zero_add] at e
    exact ⟨_, e, .inr ⟨T, _, nT, e2, .pair (none_sub s' nT) (.int _) (h2.mono s)⟩⟩
  stop := fun H F' s s' => ⟨vs, Same.sqt (s.trans s') h, by rw [enumD_len, r.len]; exact Nat.le_refl _⟩
def wiEnumA (r : WA) : WA := fun G ρ Q => r G ρ fun ds => ∃ x xs, ds = [x] ∧ itemsOf x = some xs ∧ Q (enumD 0 xs)
def wjEnumA (w : WV) : WIS := fun G ρ Q => w G ρ fun d ρ' => ∃ xs, itemsOf d = some xs ∧ Q (enumD 0 xs) ρ'
section
variable {S : Sta} {e a : Expr} {es : List Expr} {p pos tpos : Pos} {w : WV} {r : WA} {kk : Nat}
theorem di_enumA (hm : S.mg "enumerate" = none) (h : DA S [a] r) (hg : (S.names.lookup ("enumerate" : Str) == some .globalImplicit) = true := by kernel_rfl) (hs : ∀ env, starEach [a] env = [(false, eval a env)] := by intro _; rfl) :
    DI S (.Tuple es kk tpos) (.Call (.Name "enumerate" p) [a] [] pos) (wiEnumA r) := fun X f =>
  (pi_enumA (glOf f hg) (by rw [f.mg]; exact hm) (h X f) (hs _)).imp fun σ H R ⟨G, F, ρ, Qd, ev, hw, hq⟩ =>
  ⟨G, F, ρ, _, ev, hw, fun vs H1 F1 ds s1 e1 f1 r1 ⟨x, xs, ed, ex, q1⟩ => by
    subst ed
    rw [f.K]
    obtain ⟨u, rfl, r2⟩ := r1.one
    obtain ⟨b, ws, rfl, hh, rr⟩ := rp_items r2 ex
    rcases hh with ⟨_, hh⟩ | ⟨_, hh⟩
    · exact ⟨b, ws, rfl, .inl ⟨SqL.of (e1.sub _ _ hh), hq _ H1 F1 _ s1 e1 f1 (itok_enum hh rr) q1⟩⟩
    · exact ⟨b, ws, rfl, .inr ⟨Same.sqt e1.sub hh, hq _ H1 F1 _ s1 e1 f1 (itok_enumT hh rr) q1⟩⟩⟩
theorem dj_enumA (hm : S.mg "enumerate" = none) (h : DV S a w) (hg : (S.names.lookup ("enumerate" : Str) == some .globalImplicit) = true := by kernel_rfl) (hs : ∀ env, starEach [a] env = [(false, eval a env)] := by intro _; rfl) (hs2 : ∀ env, starEach [a] env = (false, eval a env) :: starEach [] env := by intro _; rfl) :
    DJ S (.Tuple es kk tpos) (.Call (.Name "enumerate" p) [a] [] pos) (wjEnumA w) := fun X f =>
  (pi_enumA (glOf f hg) (by rw [f.mg]; exact hm) (pa_cons (h X f) pa_nil (hs2 _)) (hs _)).imp fun σ H R ⟨G, H0, F0, F, ρ, Qd, ev, hw, hq⟩ =>
  ⟨G, H0, F0, F, ρ, _, ev, hw, fun v H1 F1 d ρ1 ev1 s1 r1 ⟨xs, ed, q1⟩ => by
    rw [f.K]
    obtain ⟨b, ws, rfl, hh, rr⟩ := rp_items r1 ed
    rcases hh with ⟨_, hh⟩ | ⟨_, hh⟩
    · exact ⟨b, ws, rfl, .inl ⟨SqL.of (ev1.r.sub _ _ hh), hq _ H1 F1 _ ρ1 ev1 s1 (itok_enum hh rr) q1⟩⟩
    · exact ⟨b, ws, rfl, .inr ⟨Same.sqt ev1.r.sub hh, hq _ H1 F1 _ ρ1 ev1 s1 (itok_enumT hh rr) q1⟩⟩⟩
end
end DL
set_option maxHeartbeats 4000000
namespace DL
open PySem PySem.Spec PyProof.Rows L2

/-! ### a def's meaning and its promise -/
abbrev Keeps (P N : List Str) (s : FS) (w : WS) : Prop := ∀ (G : Gc) (ds : List D) (Qd : SV → Prop), s G ds Qd → ds.length = P.length ∧ w G { nx := fun _ => Qd (.fz .non), rt := Qd } (startD N ds)
theorem atI_nat {α : Type} {xs : List α} {i : Nat} {x : α} (h : xs[i]? = some x) : atI xs ((i : Nat) : Int) = some x := by
  have hi : i < xs.length := (List.getElem?_eq_some_iff.mp h).1
  unfold atI ixN
  rw [if_pos (by omega), if_pos (by omega)]
  simp only [Option.bind_some, Int.toNat_natCast]
  exact h
/-! #### continuations -/
def kAnd (d : D) (A : Prop) (Q : D → Prop) : Prop := ∃ k, d = .bl k ∧ if k = true then A else Q (.bl false)
def kOr (d : D) (A : Prop) (Q : D → Prop) : Prop := ∃ k, d = .bl k ∧ if k = true then Q (.bl true) else A
def kTv (d : D) (Q : Bool → Prop) : Prop := ∃ k, d = .bl k ∧ Q k
def kNeg (d : D) (Q : D → Prop) : Prop := ∃ i, d = .int i ∧ Q (.int (-i))
def kIsi (T : String) (d : D) (Q : D → Prop) : Prop := (∀ a, d ≠ .ob a) ∧ Q (.bl (isD T d))
def kFz (sv : SV) (Q : D → Prop) : Prop := match sv with | .fz d => Q d | .ow xs => Q (.lst xs) | .od t kds => Q (.dic t kds)
def kTab (kvs : List (Str × D)) (d : D) (Q : D → Prop) : Prop := ∃ k z, d = .str k ∧ kvs.lookup k = some z ∧ Q z
def kIt (d : D) (Q : List D → Prop) : Prop := ∃ ds, itemsOf d = some ds ∧ Q ds
def kR1 (ds : List D) (Q : List D → Prop) : Prop := ∃ j : Int, ds = [.int j] ∧ -(2 ^ 62) ≤ j ∧ j < 2 ^ 62 ∧ Q (rangeD 0 j.toNat)
def kR2 (ds : List D) (Q : List D → Prop) : Prop := ∃ i j : Int, ds = [.int i, .int j] ∧ (-(2 ^ 62) ≤ i ∧ i < 2 ^ 62 ∧ -(2 ^ 62) ≤ j ∧ j < 2 ^ 62) ∧ Q (rangeD i (j - i).toNat)
def kVo (sv : SV) (ρ : En) (Qv : D → En → Prop) : Prop := match sv with | .fz d => Qv d (if imm d = true then ρ else frzAll ρ) | .ow xs => Qv (.lst xs) (if immL xs = true then ρ else frzAll ρ) | .od t kds => Qv (.dic t kds) (if immL (kds.map (·.2)) = true then ρ else frzAll ρ)
def kPut (ρ : En) (i : Nat) (sv : SV) (K : En → Prop) : Prop := K (put ρ i sv)
def kS (ρ : En) (i : Nat) (sv : SV) (K : En → Prop) : Prop := K (ρ.set i (some sv))
def kP2 (ρ : En) (i : Nat) (sv : SV) (j : Nat) (sw : SV) (K : En → Prop) : Prop := K (put2 ρ i sv j sw)
def kP3 (ρ : En) (i : Nat) (sv : SV) (j : Nat) (sw : SV) (l : Nat) (sx : SV) (K : En → Prop) : Prop := K (put3 ρ i sv j sw l sx)
def kApp (ρ : En) (i : Nat) (d : D) (K : En → Prop) : Prop := ∃ xs, ρ[i]? = some (some (.ow xs)) ∧ xs.length < sizeLine ∧ K (ρ.set i (some (.ow (xs ++ [d]))))
def kOw (ρ : En) (i : Nat) : Prop := ∃ xs, ρ[i]? = some (some (.ow xs))
def kSto (ρ : En) (i : Nat) (kd d : D) (K : En → Prop) : Prop := ∃ k j xs, kd = .int k ∧ ρ[i]? = some (some (.ow xs)) ∧ ixN xs.length k = some j ∧ K (ρ.set i (some (.ow (xs.set j d))))
def kGt (d : D) (n : Nat) (K : List D → Prop) : Prop := ∃ ds, tupsOf d = some ds ∧ ds.length = n ∧ K ds
def kGc (ds : List D) (K : D → List D → Prop) : Prop := ∃ d r, ds = d :: r ∧ K d r
def kCh (d : D) (A : Prop) (Q : D → Prop) : Prop := ∃ k, d = .bl k ∧ if k = true then A else Q (.bl false)
def kAt (xs : List D) (i : Int) (Q : D → Prop) : Prop := ∃ d, atI xs i = some d ∧ Q d
def kGcd (x y : D) (Q : SV → Prop) : Prop := ∃ i j : Int, [x, y] = [.int i, .int j] ∧ Q (.fz (.int ((Nat.gcd i.natAbs j.natAbs : Nat) : Int)))
def kRv (sv : SV) (Q : SV → Prop) : Prop := Q sv
section
variable {G : Gc} {ρ : En} {E : EndsD} {Q : D → Prop} {Qo : SV → Prop} {Qt : Bool → Prop} {Qa : List D → Prop} {i j l : Nat} {d e : D} {sv sw sx : SV} {wa wb wc : W} {wo : WO} {t : WT} {r : WA} {sa sb : WS} {wv : WV} {A : Prop} {K : En → Prop} {b : Bool} {o : Option SV} {xs : List D}
@[simp ↓] theorem k_and : kAnd (.bl b) A Q ↔ if b = true then A else Q (.bl false) := ⟨fun ⟨_, e, h⟩ => by cases e; exact h, fun h => ⟨b, rfl, h⟩⟩
@[simp ↓] theorem k_ch : kCh (.bl b) A Q ↔ if b = true then A else Q (.bl false) := ⟨fun ⟨_, e, h⟩ => by cases e; exact h, fun h => ⟨b, rfl, h⟩⟩
@[simp ↓] theorem k_or : kOr (.bl b) A Q ↔ if b = true then Q (.bl true) else A := ⟨fun ⟨_, e, h⟩ => by cases e; exact h, fun h => ⟨b, rfl, h⟩⟩
@[simp ↓] theorem k_tv : kTv (.bl b) Qt ↔ Qt b := ⟨fun ⟨_, e, h⟩ => by cases e; exact h, fun h => ⟨b, rfl, h⟩⟩
@[simp ↓] theorem k_neg {i : Int} : kNeg (.int i) Q ↔ Q (.int (-i)) := ⟨fun ⟨_, e, h⟩ => by cases e; exact h, fun h => ⟨i, rfl, h⟩⟩
@[simp ↓] theorem k_fz : kFz (.fz d) Q ↔ Q d := Iff.rfl
@[simp ↓] theorem k_ow : kFz (.ow xs) Q ↔ Q (.lst xs) := Iff.rfl
@[simp ↓] theorem k_isi_non {T : String} : kIsi T .non Q ↔ Q (.bl (isD T .non)) := ⟨fun h => h.2, fun h => ⟨fun _ z => (by cases z), h⟩⟩
@[simp ↓] theorem k_isi_bl {T : String} : kIsi T (.bl b) Q ↔ Q (.bl (isD T (.bl b))) := ⟨fun h => h.2, fun h => ⟨fun _ z => (by cases z), h⟩⟩
@[simp ↓] theorem k_isi_int {T : String} {i : Int} : kIsi T (.int i) Q ↔ Q (.bl (isD T (.int i))) := ⟨fun h => h.2, fun h => ⟨fun _ z => (by cases z), h⟩⟩
@[simp ↓] theorem k_isi_str {T : String} {x : Str} : kIsi T (.str x) Q ↔ Q (.bl (isD T (.str x))) := ⟨fun h => h.2, fun h => ⟨fun _ z => (by cases z), h⟩⟩
@[simp ↓] theorem k_isi_tup {T : String} : kIsi T (.tup xs) Q ↔ Q (.bl (isD T (.tup xs))) := ⟨fun h => h.2, fun h => ⟨fun _ z => (by cases z), h⟩⟩
@[simp ↓] theorem k_isi_lst {T : String} : kIsi T (.lst xs) Q ↔ Q (.bl (isD T (.lst xs))) := ⟨fun h => h.2, fun h => ⟨fun _ z => (by cases z), h⟩⟩
@[simp] theorem isD_t (d : D) : isD "tuple" d = (match d with | .tup _ => true | .tix _ => true | .tky _ => true | _ => false) := by cases d <;> rfl
@[simp] theorem isD_i (d : D) : isD "int" d = (match d with | .int _ => true | .bl _ => true | _ => false) := by cases d <;> rfl
@[simp] theorem isD_b (d : D) : isD "bool" d = (match d with | .bl _ => true | _ => false) := by cases d <;> rfl
@[simp] theorem isD_s (d : D) : isD "str" d = (match d with | .str _ => true | _ => false) := by cases d <;> rfl
@[simp] theorem isD_l (d : D) : isD "list" d = (match d with | .lst _ => true | _ => false) := by cases d <;> rfl
@[simp ↓] theorem k_isi_tix {T : String} : kIsi T (.tix xs) Q ↔ Q (.bl (isD T (.tix xs))) := ⟨fun h => h.2, fun h => ⟨fun _ z => (by cases z), h⟩⟩
@[simp ↓] theorem k_isi_tky {T : String} : kIsi T (.tky xs) Q ↔ Q (.bl (isD T (.tky xs))) := ⟨fun h => h.2, fun h => ⟨fun _ z => (by cases z), h⟩⟩
@[simp ↓] theorem k_itX : kIt (.tix xs) Qa ↔ Qa xs := ⟨fun ⟨_, e, h⟩ => by cases e; exact h, fun h => ⟨xs, rfl, h⟩⟩
@[simp ↓] theorem k_itK : kIt (.tky xs) Qa ↔ Qa xs := ⟨fun ⟨_, e, h⟩ => by cases e; exact h, fun h => ⟨xs, rfl, h⟩⟩
@[simp ↓] theorem k_itT : kIt (.tup xs) Qa ↔ Qa xs := ⟨fun ⟨_, e, h⟩ => by cases e; exact h, fun h => ⟨xs, rfl, h⟩⟩
@[simp ↓] theorem k_itL : kIt (.lst xs) Qa ↔ Qa xs := ⟨fun ⟨_, e, h⟩ => by cases e; exact h, fun h => ⟨xs, rfl, h⟩⟩
@[simp ↓] theorem k_r1 {j : Int} : kR1 [.int j] Qa ↔ -(2 ^ 62) ≤ j ∧ j < 2 ^ 62 ∧ Qa (rangeD 0 j.toNat) := ⟨fun ⟨_, e, h⟩ => by cases e; exact h, fun h => ⟨j, rfl, h⟩⟩
@[simp ↓] theorem k_r2 {i j : Int} : kR2 [.int i, .int j] Qa ↔ (-(2 ^ 62) ≤ i ∧ i < 2 ^ 62 ∧ -(2 ^ 62) ≤ j ∧ j < 2 ^ 62) ∧ Qa (rangeD i (j - i).toNat) := ⟨fun ⟨_, _, e, h⟩ => by cases e; exact h, fun h => ⟨i, j, rfl, h⟩⟩
@[simp ↓] theorem k_vofz {Qv : D → En → Prop} (h : imm d = true) : kVo (.fz d) ρ Qv ↔ Qv d ρ := by unfold kVo; dsimp only; rw [if_pos h]
@[simp ↓] theorem k_voow {Qv : D → En → Prop} (h : immL xs = true) : kVo (.ow xs) ρ Qv ↔ Qv (.lst xs) ρ := by unfold kVo; dsimp only; rw [if_pos h]
@[simp ↓] theorem k_s0 : kS (o :: ρ) 0 sv K ↔ K (some sv :: ρ) := Iff.rfl
@[simp ↓] theorem k_s1 : kS (o :: ρ) (i + 1) sv K ↔ kS ρ i sv fun ρ' => K (o :: ρ') := Iff.rfl
theorem put_immE (h : immS sv = true) : put ρ i sv = ρ.set i (some sv) := by unfold put; rw [h]
@[simp ↓] theorem k_put (h : immS sv = true) : kPut ρ i sv K ↔ kS ρ i sv K := by unfold kPut kS; rw [put_immE h]
@[simp ↓] theorem k_p2 (h : immS sv = true) (h2 : immS sw = true) : kP2 ρ i sv j sw K ↔ kS ρ i sv fun ρ' => kS ρ' j sw K := by unfold kP2 kS put2; rw [h, h2]; exact Iff.rfl
@[simp ↓] theorem k_p3 (h : immS sv = true) (h2 : immS sw = true) (h3 : immS sx = true) : kP3 ρ i sv j sw l sx K ↔ kS ρ i sv fun ρ' => kS ρ' j sw fun ρ' => kS ρ' l sx K := by unfold kP3 kS put3; rw [h, h2, h3]; exact Iff.rfl
@[simp ↓] theorem k_app0 : kApp (some (.ow xs) :: ρ) 0 d K ↔ xs.length < sizeLine ∧ K (some (.ow (xs ++ [d])) :: ρ) := ⟨fun ⟨_, e, h⟩ => by cases e; exact h, fun h => ⟨xs, rfl, h⟩⟩
@[simp ↓] theorem k_app1 : kApp (o :: ρ) (i + 1) d K ↔ kApp ρ i d fun ρ' => K (o :: ρ') := Iff.rfl
@[simp ↓] theorem k_ow0 : kOw (some (.ow xs) :: ρ) 0 ↔ True := ⟨fun _ => True.intro, fun _ => ⟨xs, rfl⟩⟩
@[simp ↓] theorem k_ow1 : kOw (o :: ρ) (i + 1) ↔ kOw ρ i := Iff.rfl
@[simp ↓] theorem k_sto1 {kd : D} : kSto (o :: ρ) (i + 1) kd d K ↔ kSto ρ i kd d fun ρ' => K (o :: ρ') := Iff.rfl
@[simp ↓] theorem k_gt {n : Nat} {Ka : List D → Prop} : kGt (.tup xs) n Ka ↔ xs.length = n ∧ Ka xs := ⟨fun ⟨_, e, h⟩ => by cases e; exact h, fun h => ⟨xs, rfl, h⟩⟩
@[simp ↓] theorem k_gc {Kc : D → List D → Prop} : kGc (d :: xs) Kc ↔ Kc d xs := ⟨fun ⟨_, _, e, h⟩ => by cases e; exact h, fun h => ⟨d, xs, rfl, h⟩⟩
/-! #### expressions -/
@[simp ↓] theorem s_var0 : wVar 0 G (some (.fz d) :: ρ) Q ↔ Q d := ⟨fun ⟨_, e, h⟩ => by cases e; exact h, fun h => ⟨_, rfl, h⟩⟩
@[simp ↓] theorem s_var0o : wVar 0 G (some (.ow xs) :: ρ) Q ↔ Q (.lst xs) := ⟨fun ⟨_, e, h⟩ => by cases e; exact h, fun h => ⟨_, rfl, h⟩⟩
@[simp ↓] theorem s_var1 : wVar (i + 1) G (o :: ρ) Q ↔ wVar i G ρ Q := Iff.rfl
@[simp ↓] theorem s_c : wC d G ρ Q ↔ Q d := Iff.rfl
@[simp ↓] theorem s_fz : wFz wo G ρ Q ↔ wo G ρ fun sv => kFz sv Q := Iff.rfl
@[simp ↓] theorem s_ofz : woFz wa G ρ Qo ↔ wa G ρ fun d => Qo (.fz d) := Iff.rfl
@[simp ↓] theorem s_op {op : D → D → (D → Prop) → Prop} : wOp op wa wb G ρ Q ↔ wa G ρ fun x => wb G ρ fun y => op x y Q := Iff.rfl
@[simp ↓] theorem s_opO {op : D → D → (SV → Prop) → Prop} : wOpO op wa wb G ρ Qo ↔ wa G ρ fun x => wb G ρ fun y => op x y Qo := Iff.rfl
@[simp ↓] theorem s_and : wAnd wa wb G ρ Q ↔ wa G ρ fun d => kAnd d (wb G ρ Q) Q := Iff.rfl
@[simp ↓] theorem s_or : wOr wa wb G ρ Q ↔ wa G ρ fun d => kOr d (wb G ρ Q) Q := Iff.rfl
@[simp ↓] theorem s_not : wNot wa G ρ Q ↔ wa G ρ fun d => kTv d fun k => Q (.bl (!k)) := Iff.rfl
@[simp ↓] theorem s_if : wIf t wa wb G ρ Q ↔ t G ρ fun k => if k = true then wa G ρ Q else wb G ρ Q := Iff.rfl
@[simp ↓] theorem s_oif {wo2 : WO} : woIf t wo wo2 G ρ Qo ↔ t G ρ fun k => if k = true then wo G ρ Qo else wo2 G ρ Qo := Iff.rfl
@[simp ↓] theorem s_tv : wtV wa G ρ Qt ↔ wa G ρ fun d => kTv d Qt := Iff.rfl
@[simp ↓] theorem s_tnot : wtNot t G ρ Qt ↔ t G ρ fun k => Qt (!k) := Iff.rfl
@[simp ↓] theorem s_tand {t2 : WT} : wtAnd t t2 G ρ Qt ↔ t G ρ fun k => if k = true then t2 G ρ Qt else Qt false := Iff.rfl
@[simp ↓] theorem s_tor {t2 : WT} : wtOr t t2 G ρ Qt ↔ t G ρ fun k => if k = true then Qt true else t2 G ρ Qt := Iff.rfl
@[simp ↓] theorem s_ttrue : wtTrue G ρ Qt ↔ Qt true := Iff.rfl
@[simp ↓] theorem s_anil : waNil G ρ Qa ↔ Qa [] := Iff.rfl
@[simp ↓] theorem s_acons : waCons wa r G ρ Qa ↔ wa G ρ fun d => r G ρ fun ds => Qa (d :: ds) := Iff.rfl
theorem len_small {n : Nat} (h : n ≤ 1000000) : n ≤ sizeLine := by rw [sizeLine_eq]; omega
@[simp ↓] theorem s_tup : wTup r G ρ Q ↔ r G ρ fun ds => ds.length ≤ sizeLine ∧ Q (.tup ds) := Iff.rfl
@[simp ↓] theorem s_lst : woLst r G ρ Qo ↔ r G ρ fun ds => ds.length ≤ sizeLine ∧ Qo (.ow ds) := Iff.rfl
@[simp ↓] theorem s_neg : wNeg wa G ρ Q ↔ wa G ρ fun d => kNeg d Q := Iff.rfl
@[simp ↓] theorem s_isi {T : String} : wIsi T wa G ρ Q ↔ wa G ρ fun d => kIsi T d Q := Iff.rfl
@[simp ↓] theorem s_cb {o : List D → (SV → Prop) → Prop} : woCB o r G ρ Qo ↔ r G ρ fun ds => o ds Qo := Iff.rfl
@[simp ↓] theorem s_call {sp : FS} : woCall sp r G ρ Qo ↔ r G ρ fun ds => sp G ds Qo := Iff.rfl
@[simp ↓] theorem s_callK2 {sp : FS} {i j : Nat} {wa wb : W} : woCallK 2 [i, j] sp (waCons wa (waCons wb waNil)) G ρ Qo ↔ wa G ρ fun x => wb G ρ fun y => sp G (permL [i, j] [x, y]) Qo := by
  constructor <;> intro h <;> simpa [woCallK, waCons, waNil] using h
@[simp ↓] theorem s_callK3 {sp : FS} {i j k : Nat} {wa wb wc : W} : woCallK 3 [i, j, k] sp (waCons wa (waCons wb (waCons wc waNil))) G ρ Qo ↔ wa G ρ fun x => wb G ρ fun y => wc G ρ fun z => sp G (permL [i, j, k] [x, y, z]) Qo := by
  constructor <;> intro h <;> simpa [woCallK, waCons, waNil] using h
@[simp ↓] theorem s_callK4 {sp : FS} {i j k l : Nat} {wa wb wc wd : W} : woCallK 4 [i, j, k, l] sp (waCons wa (waCons wb (waCons wc (waCons wd waNil)))) G ρ Qo ↔ wa G ρ fun x => wb G ρ fun y => wc G ρ fun z => wd G ρ fun u => sp G (permL [i, j, k, l] [x, y, z, u]) Qo := by
  constructor <;> intro h <;> simpa [woCallK, waCons, waNil] using h
@[simp ↓] theorem s_chain {o o' : D → D → (D → Prop) → Prop} : wChain o o' wa wb wc G ρ Q ↔ wa G ρ fun x => wb G ρ fun y => o x y fun z => kCh z (wc G ρ fun u => o' y u Q) Q := Iff.rfl
@[simp ↓] theorem s_I0 {i j : Int} {g : Int → Int → Int} : oI0 g (.int i) (.int j) Q ↔ Q (.int (g i j)) := ⟨fun ⟨_, _, e1, e2, h⟩ => by cases e1; cases e2; exact h, fun h => ⟨_, _, rfl, rfl, h⟩⟩
@[simp ↓] theorem s_I {i j : Int} {C : Int → Int → Prop} {g : Int → Int → Int} : oI C g (.int i) (.int j) Q ↔ C i j ∧ Q (.int (g i j)) := ⟨fun ⟨_, _, e1, e2, h⟩ => by cases e1; cases e2; exact h, fun h => ⟨_, _, rfl, rfl, h⟩⟩
@[simp ↓] theorem s_B0 {i j : Int} {g : Int → Int → Bool} : oB0 g (.int i) (.int j) Q ↔ Q (.bl (g i j)) := ⟨fun ⟨_, _, e1, e2, h⟩ => by cases e1; cases e2; exact h, fun h => ⟨_, _, rfl, rfl, h⟩⟩
@[simp ↓] theorem s_add {i j : Int} : oAdd (.int i) (.int j) Qo ↔ Qo (.fz (.int (i + j))) := by simp [oAdd, tupsOf]
@[simp ↓] theorem s_addT {xs ys : List D} : oAdd (.tup xs) (.tup ys) Qo ↔ xs.length + ys.length ≤ sizeLine ∧ Qo (.fz (.tup (xs ++ ys))) := by simp [oAdd, tupsOf]
@[simp ↓] theorem s_addL {xs ys : List D} : oAdd (.lst xs) (.lst ys) Qo ↔ xs.length + ys.length ≤ sizeLine ∧ Qo (.ow (xs ++ ys)) := by simp [oAdd, tupsOf]
@[simp ↓] theorem s_mul {i j : Int} : oMul (.int i) (.int j) Qo ↔ CMul i j ∧ Qo (.fz (.int (i * j))) := by simp [oMul, tupsOf]
@[simp ↓] theorem s_mulL {xs : List D} {j : Int} : oMul (.lst xs) (.int j) Qo ↔ (-(2 ^ 63) ≤ j ∧ j < 2 ^ 63 ∧ xs.length * j.toNat ≤ sizeLine ∧ Qo (.ow (List.replicate j.toNat xs).flatten)) := by simp [oMul, tupsOf, and_assoc]
@[simp ↓] theorem s_max {i j : Int} : oMax [.int i, .int j] Qo ↔ Qo (.fz (.int (max i j))) := by
  have e : (if j > i then j else i) = max i j := by split <;> omega
  exact ⟨fun ⟨i', j', z, q⟩ => by cases z; rw [← e]; exact q, fun q => ⟨i, j, rfl, by rw [e]; exact q⟩⟩
@[simp ↓] theorem s_min {i j : Int} : oMin [.int i, .int j] Qo ↔ Qo (.fz (.int (min i j))) := by
  have e : (if j < i then j else i) = min i j := by split <;> omega
  exact ⟨fun ⟨i', j', z, q⟩ => by cases z; rw [← e]; exact q, fun q => ⟨i, j, rfl, by rw [e]; exact q⟩⟩
@[simp ↓] theorem s_lenT : oLen [.tup xs] Qo ↔ Qo (.fz (.int xs.length)) := by simp [oLen, itemsOf]
@[simp ↓] theorem s_lenL : oLen [.lst xs] Qo ↔ Qo (.fz (.int xs.length)) := by simp [oLen, itemsOf]
@[simp ↓] theorem s_intI {i : Int} : oInt [.int i] Qo ↔ Qo (.fz (.int i)) := by simp [oInt]
@[simp ↓] theorem s_tupL : oTuple [.lst xs] Qo ↔ Qo (.fz (.tup xs)) := by simp [oTuple, itemsOf]
@[simp ↓] theorem s_tupT : oTuple [.tup xs] Qo ↔ Qo (.fz (.tup xs)) := by simp [oTuple, itemsOf]
@[simp ↓] theorem s_listL : oList [.lst xs] Qo ↔ Qo (.ow xs) := by simp [oList, itemsOf]
@[simp ↓] theorem s_listT : oList [.tup xs] Qo ↔ Qo (.ow xs) := by simp [oList, itemsOf]
theorem bl_inj : ∀ {a b : List Bool}, a.map D.bl = b.map D.bl → a = b
  | [], [], _ => rfl
  | [], _ :: _, h => by cases h
  | _ :: _, [], h => by cases h
  | x :: a, y :: b, h => by
    rw [List.map_cons, List.map_cons] at h
    injection h with h1 h2
    injection h1 with h1
    rw [h1, bl_inj h2]
@[simp ↓] theorem s_allB {bs : List Bool} : oAll [.lst (bs.map .bl)] Qo ↔ Qo (.fz (.bl (bs.all id))) := ⟨fun ⟨cs, e, h⟩ => by
  have e2 : bs.map D.bl = cs.map D.bl := by injection e with e _; injection e
  rw [bl_inj e2]; exact h, fun h => ⟨bs, rfl, h⟩⟩
@[simp ↓] theorem s_anyB {bs : List Bool} : oAny [.lst (bs.map .bl)] Qo ↔ Qo (.fz (.bl (bs.any id))) := ⟨fun ⟨cs, e, h⟩ => by
  have e2 : bs.map D.bl = cs.map D.bl := by injection e with e _; injection e
  rw [bl_inj e2]; exact h, fun h => ⟨bs, rfl, h⟩⟩
@[simp ↓] theorem s_eqS {x y : Str} : oEqS (.str x) (.str y) Q ↔ Q (.bl (decide (x = y))) := by simp [oEqS]
@[simp ↓] theorem s_neS {x y : Str} : oNeS (.str x) (.str y) Q ↔ Q (.bl (!decide (x = y))) := by simp [oNeS]
@[simp ↓] theorem s_eq0 : oEq0 (.tup xs) (.tup []) Q ↔ Q (.bl xs.isEmpty) := by simp [oEq0, tupsOf]
@[simp ↓] theorem s_isN : oIsNon d .non Q ↔ Q (.bl (match d with | .non => true | _ => false)) := ⟨fun h => h.2, fun h => ⟨rfl, h⟩⟩
@[simp ↓] theorem s_notN : oNotNon d .non Q ↔ Q (.bl (!match d with | .non => true | _ => false)) := ⟨fun h => h.2, fun h => ⟨rfl, h⟩⟩
@[simp ↓] theorem s_isB {a b : Bool} : oIsBl (.bl a) (.bl b) Q ↔ Q (.bl (decide (a = b))) := ⟨fun ⟨_, _, e1, e2, h⟩ => by cases e1; cases e2; exact h, fun h => ⟨_, _, rfl, rfl, h⟩⟩
@[simp ↓] theorem s_notB {a b : Bool} : oNotBl (.bl a) (.bl b) Q ↔ Q (.bl (!decide (a = b))) := ⟨fun ⟨_, _, e1, e2, h⟩ => by cases e1; cases e2; exact h, fun h => ⟨_, _, rfl, rfl, h⟩⟩
@[simp ↓] theorem s_ixT {i : Int} : oIx (.tup xs) (.int i) Q ↔ kAt xs i Q := by
  constructor
  · rintro ⟨_, e1, h⟩
    cases e1
    rcases h with ⟨ys, d, e2, e3, h⟩ | ⟨_, _, e2, _⟩
    · cases e2; exact ⟨d, e3, h⟩
    · cases e2
  · rintro ⟨d, e, h⟩
    exact ⟨i, rfl, .inl ⟨xs, d, rfl, e, h⟩⟩
@[simp ↓] theorem s_ixL {i : Int} : oIx (.lst xs) (.int i) Q ↔ kAt xs i Q := by
  constructor
  · rintro ⟨_, e1, h⟩
    cases e1
    rcases h with ⟨ys, d, e2, e3, h⟩ | ⟨_, _, e2, _⟩
    · cases e2; exact ⟨d, e3, h⟩
    · cases e2
  · rintro ⟨d, e, h⟩
    exact ⟨i, rfl, .inl ⟨xs, d, rfl, e, h⟩⟩
theorem k_at {i : Int} (h : atI xs i = some d) : kAt xs i Q ↔ Q d := ⟨fun ⟨e, z, q⟩ => by rw [h] at z; cases z; exact q, fun q => ⟨d, h, q⟩⟩
@[simp ↓] theorem k_at0 {d0 : D} : kAt (d0 :: xs) 0 Q ↔ Q d0 := k_at (atI_nat (i := 0) rfl)
@[simp ↓] theorem k_at1 {d0 d1 : D} : kAt (d0 :: d1 :: xs) 1 Q ↔ Q d1 := k_at (atI_nat (i := 1) rfl)
@[simp ↓] theorem k_at2 {d0 d1 d2 : D} : kAt (d0 :: d1 :: d2 :: xs) 2 Q ↔ Q d2 := k_at (atI_nat (i := 2) rfl)
@[simp ↓] theorem k_at3 {d0 d1 d2 d3 : D} : kAt (d0 :: d1 :: d2 :: d3 :: xs) 3 Q ↔ Q d3 := k_at (atI_nat (i := 3) rfl)
@[simp ↓] theorem k_at4 {d0 d1 d2 d3 d4 : D} : kAt (d0 :: d1 :: d2 :: d3 :: d4 :: xs) 4 Q ↔ Q d4 := k_at (atI_nat (i := 4) rfl)
theorem k_tabs {kvs : List (Str × D)} {x : Str} (h : kvs.lookup x = some d) : kTab kvs (.str x) Q ↔ Q d := ⟨fun ⟨_, z, e, h1, q⟩ => by cases e; rw [h] at h1; cases h1; exact q, fun q => ⟨_, d, rfl, h, q⟩⟩
theorem k_sto {k : Int} (h : ixN xs.length k = some j) : kSto (some (.ow xs) :: ρ) 0 (.int k) d K ↔ K (some (.ow (xs.set j d)) :: ρ) := ⟨fun ⟨_, j', _, e, e2, e3, q⟩ => by cases e; cases e2; rw [h] at e3; cases e3; exact q, fun q => ⟨k, j, xs, rfl, rfl, h, q⟩⟩
@[simp ↓] theorem s_tab {kvs : List (Str × D)} : wTab kvs wa G ρ Q ↔ wa G ρ fun d => kTab kvs d Q := Iff.rfl
@[simp ↓] theorem k_gcd {i j : Int} : kGcd (.int i) (.int j) Qo ↔ Qo (.fz (.int ((Nat.gcd i.natAbs j.natAbs : Nat) : Int))) := ⟨fun ⟨_, _, e, h⟩ => by cases e; exact h, fun h => ⟨i, j, rfl, h⟩⟩
@[simp ↓] theorem s_gcd {wa wb : W} : woGcd (waCons wa (waCons wb waNil)) G ρ Qo ↔ wa G ρ fun x => wb G ρ fun y => kGcd x y Qo := Iff.rfl
@[simp ↓] theorem s_no : wNo G ρ Q ↔ False := Iff.rfl
@[simp ↓] theorem s_ono : woNo G ρ Qo ↔ False := Iff.rfl
/-! #### statements -/
@[simp ↓] theorem s_seq : wSeq sa sb G E ρ ↔ sa G { nx := fun ρ' => sb G E ρ', rt := E.rt, bk := E.bk, ct := E.ct } ρ := Iff.rfl
@[simp ↓] theorem s_next : wNext G E ρ ↔ E.nx ρ := Iff.rfl
@[simp ↓] theorem s_never : wNever G E ρ ↔ False := Iff.rfl
@[simp ↓] theorem s_ret : wRet wo G E ρ ↔ wo G ρ E.rt := Iff.rfl
@[simp ↓] theorem s_retN : wRetN G E ρ ↔ E.rt (.fz .non) := Iff.rfl
@[simp ↓] theorem s_retV0 : wRetV 0 G E (some sv :: ρ) ↔ E.rt sv := ⟨fun ⟨_, e, h⟩ => by cases e; exact h, fun h => ⟨_, rfl, h⟩⟩
@[simp ↓] theorem s_retV1 : wRetV (i + 1) G E (o :: ρ) ↔ wRetV i G E ρ := Iff.rfl
@[simp ↓] theorem s_ifS : wIfS t sa sb G E ρ ↔ t G ρ fun k => if k = true then sa G E ρ else sb G E ρ := Iff.rfl
@[simp ↓] theorem s_set : wSet i wo G E ρ ↔ i < ρ.length ∧ wo G ρ fun sv => kPut ρ i sv E.nx := Iff.rfl
@[simp ↓] theorem s_setG : wSetG i wv G E ρ ↔ wv G ρ fun d ρ' => i < ρ'.length ∧ kS ρ' i (.fz d) E.nx := Iff.rfl
@[simp ↓] theorem s_break : wBreak G E ρ ↔ E.bk ρ := Iff.rfl
@[simp ↓] theorem s_cont : wCont G E ρ ↔ E.ct ρ := Iff.rfl
@[simp ↓] theorem s_expr : wExpr wa G E ρ ↔ wa G ρ fun _ => E.nx ρ := Iff.rfl
@[simp ↓] theorem s_par2 {wo2 : WO} : wPar2 i j wo wo2 G E ρ ↔ i < ρ.length ∧ j < ρ.length ∧ wo G ρ fun sv => ∀ G', GExt G G' → wo2 G' ρ fun sw => kP2 ρ i sv j sw E.nx := Iff.rfl
@[simp ↓] theorem s_par3 {wo2 wo3 : WO} : wPar3 i j l wo wo2 wo3 G E ρ ↔ i < ρ.length ∧ j < ρ.length ∧ l < ρ.length ∧ wo G ρ fun sv => ∀ G', GExt G G' → wo2 G' ρ fun sw => ∀ G2, GExt G' G2 → wo3 G2 ρ fun sx => kP3 ρ i sv j sw l sx E.nx := Iff.rfl
@[simp ↓] theorem s_app : wApp i wv G E ρ ↔ kOw ρ i ∧ wv G ρ fun d ρ' => kApp ρ' i d E.nx := Iff.rfl
@[simp ↓] theorem s_store {wk : W} : wStoreIx i wk wv G E ρ ↔ wv G ρ fun d ρ' => kOw ρ' i ∧ wk G ρ' fun kd => kSto ρ' i kd d E.nx := Iff.rfl
@[simp ↓] theorem s_for {wi : WIS} {wg : WG} {wb : WS} : wFor wi wg wb G E ρ ↔ wi G ρ fun ds ρ' => wForL wg wb G E ds ρ' := Iff.rfl
@[simp ↓] theorem s_for0 {wg : WG} {wb : WS} : wForL wg wb G E [] ρ ↔ E.nx ρ := Iff.rfl
theorem s_for1 {wg : WG} {wb : WS} {l : List D} : wForL wg wb G E (d :: l) ρ ↔ wg d ρ fun ρ2 => wb G { nx := wForL wg wb G E l, rt := E.rt, bk := E.nx, ct := wForL wg wb G E l } ρ2 := Iff.rfl
@[simp ↓] theorem s_gname {Qe : En → Prop} : wgName i d ρ Qe ↔ i < ρ.length ∧ kS ρ i (.fz d) Qe := Iff.rfl
@[simp ↓] theorem s_gtup {n : Nat} {gs : WGs} {Qe : En → Prop} : wgTup n gs d ρ Qe ↔ kGt d n fun ds => gs ds ρ Qe := Iff.rfl
@[simp ↓] theorem s_gnil {Qe : En → Prop} : wgNil [] ρ Qe ↔ Qe ρ := ⟨fun h => h.2, fun h => ⟨rfl, h⟩⟩
@[simp ↓] theorem s_gcons {ds : List D} {g : WG} {gs : WGs} {Qe : En → Prop} : wgCons g gs ds ρ Qe ↔ kGc ds fun d r => g d ρ fun ρ' => gs r ρ' Qe := Iff.rfl
/-! #### what is walked -/
@[simp ↓] theorem s_vo {Qv : D → En → Prop} : wvO wo G ρ Qv ↔ wo G ρ fun sv => kVo sv ρ Qv := Iff.rfl
@[simp ↓] theorem s_vv0 {Qv : D → En → Prop} : wvVar 0 G (some (.fz d) :: ρ) Qv ↔ Qv d (some (.fz d) :: ρ) := ⟨fun ⟨_, e, h⟩ => by cases e; exact h, fun h => ⟨_, rfl, h⟩⟩
@[simp ↓] theorem s_vv1 {Qv : D → En → Prop} : wvVar (i + 1) G (some (.fz e) :: ρ) Qv ↔ wvVar i G ρ fun d ρ' => Qv d (some (.fz e) :: ρ') := ⟨fun ⟨sv, z, h⟩ => ⟨sv, z, by cases sv <;> exact h⟩, fun ⟨sv, z, h⟩ => ⟨sv, z, by cases sv <;> exact h⟩⟩
@[simp ↓] theorem s_vv2 {Qv : D → En → Prop} : wvVar (i + 1) G (none :: ρ) Qv ↔ wvVar i G ρ fun d ρ' => Qv d (none :: ρ') := ⟨fun ⟨sv, z, h⟩ => ⟨sv, z, by cases sv <;> exact h⟩, fun ⟨sv, z, h⟩ => ⟨sv, z, by cases sv <;> exact h⟩⟩
@[simp ↓] theorem s_jseq {Qj : List D → En → Prop} : wjSeq wv G ρ Qj ↔ wv G ρ fun d ρ' => kIt d fun ds => Qj ds ρ' := Iff.rfl
@[simp ↓] theorem s_jr1 {Qj : List D → En → Prop} : wjRange1 r G ρ Qj ↔ r G ρ fun ds => kR1 ds fun l => Qj l ρ := Iff.rfl
@[simp ↓] theorem s_jr2 {Qj : List D → En → Prop} : wjRange2 r G ρ Qj ↔ r G ρ fun ds => kR2 ds fun l => Qj l ρ := Iff.rfl
@[simp ↓] theorem s_iseq : wiSeq wa G ρ Qa ↔ wa G ρ fun d => kIt d Qa := Iff.rfl
@[simp ↓] theorem s_ir1 : wiRange1 r G ρ Qa ↔ r G ρ fun ds => kR1 ds Qa := Iff.rfl
@[simp ↓] theorem s_ir2 : wiRange2 r G ρ Qa ↔ r G ρ fun ds => kR2 ds Qa := Iff.rfl
@[simp ↓] theorem s_comp {wi : WA} {wg : WG} {we : W} {vs : List Nat} : wComp wi wg t we vs G ρ Qo ↔ wi G ρ fun ds => wcL wg t we vs G ρ ds [] fun acc => Qo (.ow acc) := Iff.rfl
end
/-! ### slots -/
@[simp] theorem imm_non : imm .non = true := of_eq_true (eq_true rfl)
@[simp] theorem imm_bl {b : Bool} : imm (.bl b) = true := of_eq_true (eq_true rfl)
@[simp] theorem imm_int {i : Int} : imm (.int i) = true := of_eq_true (eq_true rfl)
@[simp] theorem imm_str {x : Str} : imm (.str x) = true := of_eq_true (eq_true rfl)
@[simp] theorem imm_ob {a : Addr} : imm (.ob a) = true := of_eq_true (eq_true rfl)
@[simp] theorem imm_tup {xs : List D} : imm (.tup xs) = immL xs := by unfold imm; rfl
@[simp] theorem imm_lst {xs : List D} : imm (.lst xs) = false := by unfold imm; rfl
@[simp] theorem immL_nil : immL [] = true := of_eq_true (eq_true rfl)
@[simp] theorem immL_cons {x : D} {xs : List D} : immL (x :: xs) = (imm x && immL xs) := by conv => lhs; unfold immL
@[simp] theorem immS_fz {d : D} : immS (.fz d) = imm d := of_eq_true (eq_true rfl)
@[simp] theorem immS_ow {xs : List D} : immS (.ow xs) = immL xs := of_eq_true (eq_true rfl)
theorem immL_all : ∀ {xs : List D}, (∀ x ∈ xs, imm x = true) → immL xs = true
  | [], _ => rfl
  | x :: xs, h => by rw [immL_cons, h x List.mem_cons_self, immL_all fun y hy => h y (List.mem_cons_of_mem _ hy)]; rfl
theorem immL_app : ∀ {xs ys : List D}, immL (xs ++ ys) = (immL xs && immL ys)
  | [], ys => by simp
  | x :: xs, ys => by rw [List.cons_append, immL_cons, immL_cons, immL_app, Bool.and_assoc]
theorem le_small {n : Nat} (h : n ≤ 1000000) : n ≤ sizeLine := by rw [sizeLine_eq]; omega
theorem lt_small {n : Nat} (h : n ≤ 1000000) : n < sizeLine := by rw [sizeLine_eq]; omega
@[simp] theorem atI_0 {α : Type} {x : α} {xs : List α} : atI (x :: xs) 0 = some x := atI_nat (i := 0) rfl
@[simp] theorem atI_1 {α : Type} {x y : α} {xs : List α} : atI (x :: y :: xs) 1 = some y := atI_nat (i := 1) rfl
@[simp] theorem atI_2 {α : Type} {x y z : α} {xs : List α} : atI (x :: y :: z :: xs) 2 = some z := atI_nat (i := 2) rfl
theorem atI_ok {α : Type} {xs : List α} {i : Int} (h0 : 0 ≤ i) (h1 : i < xs.length) : ∃ x, atI xs i = some x ∧ xs[i.toNat]? = some x := by
  have hk : i.toNat < xs.length := by omega
  have e := atI_nat (List.getElem?_eq_getElem hk)
  rw [Int.toNat_of_nonneg h0] at e
  exact ⟨_, e, List.getElem?_eq_getElem hk⟩
/-! ### equality of data -/
@[simp ↓] theorem s_eqI {i j : Int} {Q : D → Prop} : oEq (.int i) (.int j) Q ↔ Q (.bl (decide (i = j))) := by
  constructor
  · rintro ⟨p, q, e1, e2, _, _, z⟩
    cases e1; cases e2
    rw [eqv_int] at z
    exact z
  · exact oEq_int
@[simp ↓] theorem s_neI {i j : Int} {Q : D → Prop} : oNe (.int i) (.int j) Q ↔ Q (.bl (!decide (i = j))) := by
  constructor
  · rintro ⟨p, q, e1, e2, _, _, z⟩
    cases e1; cases e2
    rw [eqv_int] at z
    exact z
  · exact oNe_int
/-! ### loops -/
/-- a comprehension, turn by turn -/
theorem wcL_fm {wg : WG} {wt : WT} {we : W} {vs : List Nat} {G : Gc} {ρ : En} (p : D → Bool) (f : D → D) : ∀ (ds acc : List D) (Q : List D → Prop),
    (∀ d ∈ ds, ∀ G', GExt G G' → ∀ (Qy : D → Prop) (Qn : Prop), (p d = true → Qy (f d)) → (p d = false → Qn) → wg d (wipeD ρ vs) fun ρ2 => wt G' ρ2 fun b => if b = true then we G' ρ2 Qy else Qn) →
    acc.length + ds.length ≤ sizeLine → Q (acc ++ (ds.filter p).map f) → wcL wg wt we vs G ρ ds acc Q
  | [], acc, Q, _, _, q => by
    rw [List.filter_nil, List.map_nil, List.append_nil] at q
    exact q
  | d :: ds, acc, Q, h, hl, q => fun G' hG => by
    have hl' : acc.length + ds.length < sizeLine := by rw [List.length_cons] at hl; omega
    refine h d List.mem_cons_self G' hG _ _ (fun hp => ⟨by omega, ?_⟩) (fun hp => ?_)
    · refine wcL_fm p f ds (acc ++ [f d]) Q (fun e he => h e (List.mem_cons_of_mem _ he)) (by rw [List.length_append, List.length_singleton]; omega) ?_
      rw [List.filter_cons, if_pos hp, List.map_cons] at q
      rw [List.append_assoc]
      exact q
    · refine wcL_fm p f ds acc Q (fun e he => h e (List.mem_cons_of_mem _ he)) (by omega) ?_
      rw [List.filter_cons, if_neg (by rw [hp]; exact Bool.false_ne_true)] at q
      exact q
/-- without a test -/
theorem wcL_map {wg : WG} {we : W} {vs : List Nat} {G : Gc} {ρ : En} (f : D → D) (ds : List D) (Q : List D → Prop)
    (h : ∀ d ∈ ds, ∀ G', GExt G G' → ∀ Qy : D → Prop, Qy (f d) → wg d (wipeD ρ vs) fun ρ2 => we G' ρ2 Qy) (hl : ds.length ≤ sizeLine) (q : Q (ds.map f)) : wcL wg wtTrue we vs G ρ ds [] Q :=
  wcL_fm (fun _ => true) f ds [] Q (fun d hd G' hG Qy Qn hy _ => by
    simp only [s_ttrue, if_true]
    exact h d hd G' hG Qy (hy rfl)) (by simpa using hl) (by
    rw [List.filter_eq_self.mpr fun _ _ => rfl]; exact q)
/-- what each turn draws is not known: only that it is good -/
theorem wcL_any {wg : WG} {we : W} {vs : List Nat} {G : Gc} {ρ : En} (J : D → Prop) : ∀ (ds acc : List D) (Q : List D → Prop),
    (∀ d ∈ ds, ∀ G', GExt G G' → ∀ Qy : D → Prop, (∀ y, J y → Qy y) → wg d (wipeD ρ vs) fun ρ2 => we G' ρ2 Qy) → acc.length + ds.length ≤ sizeLine → (∀ ys : List D, ys.length = ds.length → (∀ y ∈ ys, J y) → Q (acc ++ ys)) → wcL wg wtTrue we vs G ρ ds acc Q
  | [], acc, Q, _, _, q => by
    have := q [] rfl (by simp)
    rw [List.append_nil] at this
    exact this
  | d :: ds, acc, Q, h, hl, q => fun G' hG => by
    simp only [s_ttrue, if_true]
    rw [List.length_cons] at hl
    refine h d List.mem_cons_self G' hG _ fun y hy => ⟨by omega, ?_⟩
    refine wcL_any J ds (acc ++ [y]) Q (fun e he => h e (List.mem_cons_of_mem _ he)) (by rw [List.length_append, List.length_singleton]; omega) fun ys hl2 hj => ?_
    rw [List.append_assoc]
    exact q (y :: ys) (by rw [List.length_cons, hl2, List.length_cons]) fun z hz => by
      rcases List.mem_cons.mp hz with rfl | hz
      · exact hy
      · exact hj z hz
/-- a for by an invariant -/
theorem wFor_inv {wg : WG} {wb : WS} {G : Gc} {E : EndsD} (I : Nat → En → Prop) : ∀ (l : List D) (k : Nat) (ρ : En), I k ρ →
    (∀ (i : Nat) (d : D) (ρ : En) (N : En → Prop), l[i]? = some d → I (k + i) ρ → (∀ ρ', I (k + i + 1) ρ' → N ρ') → wg d ρ fun ρ2 => wb G { nx := N, rt := E.rt, bk := E.nx, ct := N } ρ2) → (∀ ρ, I (k + l.length) ρ → E.nx ρ) → wForL wg wb G E l ρ
  | [], k, ρ, h, _, q => q ρ h
  | d :: l, k, ρ, h, hs, q => by
    refine hs 0 d ρ _ rfl h fun ρ' h' => ?_
    refine wFor_inv I l (k + 1) ρ' h' (fun i d ρ N e hi hN => ?_) (fun ρ hρ => q ρ ?_)
    · have e1 : k + 1 + i = k + (i + 1) := by omega
      rw [e1] at hi hN
      exact hs (i + 1) d ρ N (by simpa using e) hi hN
    · have e1 : k + 1 + l.length = k + (d :: l).length := by rw [List.length_cons]; omega
      rw [e1] at hρ
      exact hρ
/-! ### small sizes -/
@[simp] theorem sz_0 : 0 ≤ sizeLine := len_small (by decide)
@[simp] theorem sz_1 : 1 ≤ sizeLine := len_small (by decide)
@[simp] theorem sz_2 : 2 ≤ sizeLine := len_small (by decide)
@[simp] theorem sz_3 : 3 ≤ sizeLine := len_small (by decide)
@[simp] theorem sz_4 : 4 ≤ sizeLine := len_small (by decide)
@[simp] theorem sz_5 : 5 ≤ sizeLine := len_small (by decide)
@[simp] theorem sz_6 : 6 ≤ sizeLine := len_small (by decide)
@[simp] theorem sz_7 : 7 ≤ sizeLine := len_small (by decide)
@[simp] theorem sz_8 : 8 ≤ sizeLine := len_small (by decide)
@[simp] theorem sz_9 : 9 ≤ sizeLine := len_small (by decide)
@[simp] theorem sz_10 : 10 ≤ sizeLine := len_small (by decide)
@[simp] theorem sz_11 : 11 ≤ sizeLine := len_small (by decide)
@[simp] theorem sz_12 : 12 ≤ sizeLine := len_small (by decide)
@[simp] theorem sz_13 : 13 ≤ sizeLine := len_small (by decide)
@[simp] theorem sz_14 : 14 ≤ sizeLine := len_small (by decide)
@[simp] theorem sz_15 : 15 ≤ sizeLine := len_small (by decide)
@[simp] theorem sz_16 : 16 ≤ sizeLine := len_small (by decide)
@[simp] theorem sz_17 : 17 ≤ sizeLine := len_small (by decide)
@[simp] theorem sz_18 : 18 ≤ sizeLine := len_small (by decide)
@[simp] theorem sz_19 : 19 ≤ sizeLine := len_small (by decide)
@[simp] theorem sz_20 : 20 ≤ sizeLine := len_small (by decide)
@[simp] theorem sz_21 : 21 ≤ sizeLine := len_small (by decide)
@[simp] theorem sz_22 : 22 ≤ sizeLine := len_small (by decide)
@[simp] theorem sz_23 : 23 ≤ sizeLine := len_small (by decide)
@[simp] theorem sz_24 : 24 ≤ sizeLine := len_small (by decide)
@[simp] theorem sz_25 : 25 ≤ sizeLine := len_small (by decide)
@[simp] theorem sz_26 : 26 ≤ sizeLine := len_small (by decide)
@[simp] theorem sz_27 : 27 ≤ sizeLine := len_small (by decide)
@[simp] theorem sz_28 : 28 ≤ sizeLine := len_small (by decide)
@[simp] theorem sz_29 : 29 ≤ sizeLine := len_small (by decide)
@[simp] theorem sz_30 : 30 ≤ sizeLine := len_small (by decide)
theorem eqv_bl (a b : Bool) : PyData.eqv (.bool a) (.bool b) = decide (a = b) := by cases a <;> cases b <;> rfl
@[simp ↓] theorem k_neB {a b : Bool} {Q : D → Prop} : oNe (.bl a) (.bl b) Q ↔ Q (.bl (!decide (a = b))) := by
  constructor
  · rintro ⟨p, q, e1, e2, _, _, z⟩
    cases e1; cases e2
    rw [eqv_bl] at z; exact z
  · intro z
    exact ⟨_, _, rfl, rfl, rfl, rfl, by rw [eqv_bl]; exact z⟩
@[simp ↓] theorem k_eqB {a b : Bool} {Q : D → Prop} : oEq (.bl a) (.bl b) Q ↔ Q (.bl (decide (a = b))) := by
  constructor
  · rintro ⟨p, q, e1, e2, _, _, z⟩
    cases e1; cases e2
    rw [eqv_bl] at z; exact z
  · intro z
    exact ⟨_, _, rfl, rfl, rfl, rfl, by rw [eqv_bl]; exact z⟩
@[simp ↓] theorem k_neBB {a b c d : Bool} {Q : D → Prop} : oNe (.lst [.bl a, .bl b]) (.lst [.bl c, .bl d]) Q ↔ Q (.bl (!(decide (a = c) && decide (b = d)))) := by
  have e : PyData.eqv (.list [.bool a, .bool b]) (.list [.bool c, .bool d]) = (decide (a = c) && decide (b = d)) := by cases a <;> cases b <;> cases c <;> cases d <;> rfl
  constructor
  · rintro ⟨p, q, e1, e2, _, _, z⟩
    cases e1; cases e2
    rw [e] at z; exact z
  · intro z
    exact ⟨_, _, rfl, rfl, rfl, rfl, by rw [e]; exact z⟩
/-! ### a law's draws -/
@[simp ↓] theorem c_draw {G : Gc} {da : Addr} {n : Int} {Q : SV → Prop} : s_draw G [.ob da, .int n] Q ↔ IsDeck G da ∧ 0 < n ∧ n < 1073741824 ∧ ∀ k : Int, 0 ≤ k → k < n → Q (.fz (.int k)) := ⟨fun ⟨_, _, e, h⟩ => by cases e; exact h, fun h => ⟨_, _, rfl, h⟩⟩
def kAll (xs : List D) (P : D → Prop) : Prop := ∀ x ∈ xs, P x
/-- one of some values, drawn -/
def s_pick : FS := fun G ds Q => ∃ (da : Addr) (xs : List D), ds = [.ob da, .lst xs] ∧ IsDeck G da ∧ 0 < xs.length ∧ xs.length < 1073741824 ∧ kAll xs fun x => Q (.fz x)
@[simp ↓] theorem c_pick {G : Gc} {da : Addr} {xs : List D} {Q : SV → Prop} : s_pick G [.ob da, .lst xs] Q ↔ IsDeck G da ∧ 0 < xs.length ∧ xs.length < 1073741824 ∧ kAll xs fun x => Q (.fz x) := ⟨fun ⟨_, _, e, h⟩ => by cases e; exact h, fun h => ⟨_, _, rfl, h⟩⟩
end DL
set_option maxHeartbeats 4000000
namespace DL
open PySem PySem.Spec PyProof.Rows L2

/-! ### dicts, tuples of the two other kinds, comprehensions of two clauses: unfolded outside-in -/
def kOd (ρ : En) (i : Nat) : Prop := ∃ t kds, ρ[i]? = some (some (.od t kds))
def kPd (ρ : En) (i : Nat) (kd d : D) (K : En → Prop) : Prop := ∃ sv sw, ρ[i]? = some (some sv) ∧ Ptd kd d sv sw ∧ K (ρ.set i (some sw))
def kSS (d : D) (Q : SV → Prop) : Prop := ∃ ns : List Int, itemsOf d = some (ns.map .int) ∧ Few ns ∧ ∀ ms : List Int, ms.Pairwise (· < ·) → (∀ k, k ∈ ms ↔ k ∈ ns) → Q (.ow (ms.map .int))
def kIxT (x : D) (A : (D → Prop) → Prop) (Q : D → Prop) : Prop := ∃ ys : List Int, x = .tix (ys.map .int) ∧ A fun y => ∃ (k : Int) (j : Nat), y = .int k ∧ ys[j]? = some k ∧ (∀ m, m < j → ys[m]? ≠ some k) ∧ Q (.int j)
def kLz (ds : List D) (Q : SV → Prop) : Prop := ∃ x y xs ys, ds = [x, y] ∧ tupsOf x = some xs ∧ tupsOf y = some ys ∧ Q (.ow (zipK xs ys))
def kPs (d : D) (Q : Option Int → Prop) : Prop := ∃ i, d = .int i ∧ Q (some i)
def kTx (m : List D → D) (ds : List D) (Q : SV → Prop) : Prop := ∃ xs, ds = [.lst xs] ∧ Q (.fz (m xs))
def kIt1 (ds : List D) (Q : List D → Prop) : Prop := ∃ x xs, ds = [x] ∧ itemsOf x = some xs ∧ Q xs
def kZp (ds : List D) (Q : List D → Prop) : Prop := ∃ x y xs ys, ds = [x, y] ∧ ((tupsOf x = some xs ∧ tupsOf y = some ys) ∨ (x = .lst xs ∧ y = .lst ys)) ∧ Q (zipD xs ys)
section
variable {G : Gc} {ρ : En} {E : EndsD} {Q : D → Prop} {Qo : SV → Prop} {Qt : Bool → Prop} {Qa : List D → Prop} {i j l : Nat} {d e : D} {sv sw sx : SV} {wa wb wc wk : W} {wo : WO} {t : WT} {r : WA} {sa sb : WS} {wv : WV} {A : Prop} {K : En → Prop} {b : Bool} {o : Option SV} {xs ys : List D} {kds : List (List Key × D)} {kvs : List (Key × D)}
@[simp ↓] theorem k_fzd {tt : Bool} : kFz (.od tt kds) Q ↔ Q (.dic tt kds) := Iff.rfl
@[simp ↓] theorem k_vood {tt : Bool} {Qv : D → En → Prop} (h : immL (kds.map (·.2)) = true) : kVo (.od tt kds) ρ Qv ↔ Qv (.dic tt kds) ρ := by unfold kVo; dsimp only; rw [if_pos h]
@[simp ↓] theorem s_var0d {tt : Bool} : wVar 0 G (some (.od tt kds) :: ρ) Q ↔ Q (.dic tt kds) := ⟨fun ⟨_, e, h⟩ => by cases e; exact h, fun h => ⟨_, rfl, h⟩⟩
@[simp ↓] theorem k_gtX {n : Nat} {Ka : List D → Prop} : kGt (.tix xs) n Ka ↔ xs.length = n ∧ Ka xs := ⟨fun ⟨_, e, h⟩ => by cases e; exact h, fun h => ⟨xs, rfl, h⟩⟩
@[simp ↓] theorem k_gtK {n : Nat} {Ka : List D → Prop} : kGt (.tky xs) n Ka ↔ xs.length = n ∧ Ka xs := ⟨fun ⟨_, e, h⟩ => by cases e; exact h, fun h => ⟨xs, rfl, h⟩⟩
@[simp] theorem imm_tix : imm (.tix xs) = immL xs := by unfold imm; rfl
@[simp] theorem imm_tky : imm (.tky xs) = immL xs := by unfold imm; rfl
@[simp] theorem immS_od {tt : Bool} : immS (.od tt kds) = immL (kds.map (·.2)) := of_eq_true (eq_true rfl)
@[simp ↓] theorem s_lenD {x : D} {n : Nat} : oLenD [.tup xs] Qo ↔ Qo (.fz (.int xs.length)) := by simp [oLenD, oLen, itemsOf]
@[simp ↓] theorem s_lenD2 : oLenD [.lst xs] Qo ↔ Qo (.fz (.int xs.length)) := by simp [oLenD, oLen, itemsOf]
@[simp ↓] theorem s_lenD3 : oLenD [.tix xs] Qo ↔ Qo (.fz (.int xs.length)) := by simp [oLenD, oLen, itemsOf]
@[simp ↓] theorem s_lenD4 : oLenD [.tky xs] Qo ↔ Qo (.fz (.int xs.length)) := by simp [oLenD, oLen, itemsOf]
@[simp ↓] theorem s_lenD5 {tt : Bool} : oLenD [.dic tt kds] Qo ↔ Qo (.fz (.int kds.length)) := by cases tt <;> simp [oLenD, oLen, itemsOf]
@[simp ↓] theorem s_lenD6 : oLenD [.tup xs] Qo ↔ Qo (.fz (.int xs.length)) := by simp [oLenD, oLen, itemsOf]
@[simp ↓] theorem s_lenD7 {z : Str} : oLenD [.str z] Qo ↔ z.length ≤ sizeLine ∧ Qo (.fz (.int z.length)) := by simp [oLenD, oLen, itemsOf]
@[simp ↓] theorem s_tupX : oTuple [.tix xs] Qo ↔ Qo (.fz (.tup xs)) := by simp [oTuple, itemsOf]
@[simp ↓] theorem s_tupK : oTuple [.tky xs] Qo ↔ Qo (.fz (.tup xs)) := by simp [oTuple, itemsOf]
@[simp ↓] theorem s_listX : oList [.tix xs] Qo ↔ Qo (.ow xs) := by simp [oList, itemsOf]
@[simp ↓] theorem s_listK : oList [.tky xs] Qo ↔ Qo (.ow xs) := by simp [oList, itemsOf]
@[simp ↓] theorem s_oTupX {m : List D → D} : oTupX m [.lst xs] Qo ↔ Qo (.fz (m xs)) := ⟨fun ⟨_, e, h⟩ => by cases e; exact h, fun h => ⟨xs, rfl, h⟩⟩
@[simp ↓] theorem s_tupKd : wTupK r G ρ Q ↔ r G ρ fun ds => ds.length ≤ sizeLine ∧ Q (.tky ds) := Iff.rfl
@[simp ↓] theorem s_dnewA : woDnewA G ρ Qo ↔ Qo (oK []) ∨ Qo (.od true []) := Iff.rfl
@[simp ↓] theorem s_ss : woSortSetA wa G ρ Qo ↔ wa G ρ fun d => kSS d Qo := Iff.rfl
@[simp ↓] theorem s_ixTm : wIxT wa wb G ρ Q ↔ wa G ρ fun x => kIxT x (fun P => wb G ρ P) Q := Iff.rfl
@[simp ↓] theorem s_lz : woListZip r G ρ Qo ↔ r G ρ fun ds => kLz ds Qo := Iff.rfl
@[simp ↓] theorem k_lz {x y : D} : kLz [x, y] Qo ↔ ∃ xs ys, tupsOf x = some xs ∧ tupsOf y = some ys ∧ Qo (.ow (zipK xs ys)) := ⟨fun ⟨_, _, xs, ys, e, h⟩ => by cases e; exact ⟨xs, ys, h⟩, fun ⟨xs, ys, h⟩ => ⟨x, y, xs, ys, rfl, h⟩⟩
@[simp ↓] theorem s_sl {l h : WP} : woSl wa l h G ρ Qo ↔ wa G ρ fun d => l G ρ fun lo => h G ρ fun hi => oSl d lo hi Qo := Iff.rfl
@[simp ↓] theorem s_pn {Qp : Option Int → Prop} : wpNone G ρ Qp ↔ Qp none := Iff.rfl
@[simp ↓] theorem s_psm {Qp : Option Int → Prop} : wpSome wa G ρ Qp ↔ wa G ρ fun d => kPs d Qp := Iff.rfl
@[simp ↓] theorem k_ps {i : Int} {Qp : Option Int → Prop} : kPs (.int i) Qp ↔ Qp (some i) := ⟨fun ⟨_, e, h⟩ => by cases e; exact h, fun h => ⟨i, rfl, h⟩⟩
@[simp ↓] theorem s_slT {lo hi : Option Int} : oSl (.tup xs) lo hi Qo ↔ Qo (.fz (.tup (cutD xs lo hi))) := by simp [oSl, tupsOf]
@[simp ↓] theorem s_slX {lo hi : Option Int} : oSl (.tix xs) lo hi Qo ↔ Qo (.fz (.tup (cutD xs lo hi))) := by simp [oSl, tupsOf]
@[simp ↓] theorem s_slK {lo hi : Option Int} : oSl (.tky xs) lo hi Qo ↔ Qo (.fz (.tup (cutD xs lo hi))) := by simp [oSl, tupsOf]
@[simp ↓] theorem s_slL {lo hi : Option Int} : oSl (.lst xs) lo hi Qo ↔ Qo (.ow (cutD xs lo hi)) := by simp [oSl, tupsOf]
@[simp ↓] theorem s_addX : oAdd (.tix xs) (.tup ys) Qo ↔ xs.length + ys.length ≤ sizeLine ∧ Qo (.fz (.tup (xs ++ ys))) := by simp [oAdd, tupsOf]
@[simp ↓] theorem s_addX2 : oAdd (.tup xs) (.tix ys) Qo ↔ xs.length + ys.length ≤ sizeLine ∧ Qo (.fz (.tup (xs ++ ys))) := by simp [oAdd, tupsOf]
theorem ix_of {x : D} {i : Int} (h : itemsOf x = some xs) (hs : ∀ z, x ≠ .str z) : oIx x (.int i) Q ↔ kAt xs i Q := by
  constructor
  · rintro ⟨_, e1, h1⟩
    cases e1
    rcases h1 with ⟨ys, d, e2, e3, h1⟩ | ⟨z, _, e2, _⟩
    · rw [h] at e2; cases e2; exact ⟨d, e3, h1⟩
    · exact absurd e2 (hs z)
  · rintro ⟨d, e, q⟩
    exact ⟨i, rfl, .inl ⟨xs, d, h, e, q⟩⟩
@[simp ↓] theorem s_ixX {i : Int} : oIx (.tix xs) (.int i) Q ↔ kAt xs i Q := ix_of rfl fun _ e => nomatch e
@[simp ↓] theorem s_ixK {i : Int} : oIx (.tky xs) (.int i) Q ↔ kAt xs i Q := ix_of rfl fun _ e => nomatch e
/-! #### dicts by value -/
theorem sg_inj {a b : List (Key × D)} (h : sg a = sg b) : a = b := by
  induction a generalizing b with
  | nil => cases b with
    | nil => rfl
    | cons y b => cases h
  | cons x a ih => cases b with
    | nil => cases h
    | cons y b =>
      obtain ⟨k, v⟩ := x
      obtain ⟨k2, v2⟩ := y
      have h2 : ([k], v) :: sg a = ([k2], v2) :: sg b := h
      injection h2 with h3 h4
      injection h3 with h5 h6
      injection h5 with h7 _
      rw [h7, h6, ih h4]
theorem kD_inj {a b : Key} (h : kD a = kD b) : a = b := by
  cases a with
  | inl i => cases b with
    | inl j => cases h; rfl
    | inr y => cases h
  | inr x => cases b with
    | inl j => cases h
    | inr y => cases h; rfl
theorem kDs_inj : ∀ {a b : List Key}, a.map kD = b.map kD → a = b
  | [], [], _ => rfl
  | [], _ :: _, h => by cases h
  | _ :: _, [], h => by cases h
  | x :: a, y :: b, h => by
    rw [List.map_cons, List.map_cons] at h
    injection h with h1 h2
    rw [kD_inj h1, kDs_inj h2]
theorem fnd_inv {x y : D} {o : Option D} (h : Fnd x y o) : (∃ k kvs, x = kD k ∧ y = dK kvs ∧ o = lookD kvs k) ∨ ∃ ks kds, x = .tky (ks.map kD) ∧ y = .dic true kds ∧ o = lookD kds ks := by
  cases h with
  | flat k kvs => exact .inl ⟨k, kvs, rfl, rfl, rfl⟩
  | tup ks kds => exact .inr ⟨ks, kds, rfl, rfl, rfl⟩
theorem fnd_K {x : D} {k : Key} {o : Option D} (ek : x = kD k) : Fnd x (dK kvs) o ↔ o = lookD kvs k := by
  subst ek
  constructor
  · intro h
    rcases fnd_inv h with ⟨k2, kvs2, e1, e2, e3⟩ | ⟨ks, kds, e1, e2, e3⟩
    · injection e2 with _ e2
      rw [e3, kD_inj e1, sg_inj e2]
    · cases e2
  · rintro rfl
    exact .flat k kvs
theorem fnd_T {x : D} {ks : List Key} {o : Option D} (ek : x = .tky (ks.map kD)) : Fnd x (.dic true kds) o ↔ o = lookD kds ks := by
  subst ek
  constructor
  · intro h
    rcases fnd_inv h with ⟨k2, kvs2, e1, e2, e3⟩ | ⟨ks2, kds2, e1, e2, e3⟩
    · injection e2 with e2; cases e2
    · injection e2 with _ e2
      injection e1 with e1
      rw [e3, kDs_inj e1, e2]
  · rintro rfl
    exact .tup ks kds
@[simp ↓] theorem s_din {i : Int} : oDIn (.int i) (.dic false (sg kvs)) Q ↔ Q (.bl (lookD kvs (.inl i)).isSome) := ⟨fun ⟨o, c, q⟩ => by have c := (fnd_K (x := .int i) (k := .inl i) rfl).mp c; rw [← c]; exact q, fun q => ⟨_, .flat (.inl i) kvs, q⟩⟩
@[simp ↓] theorem s_dnotin {i : Int} : oDNotIn (.int i) (.dic false (sg kvs)) Q ↔ Q (.bl (!(lookD kvs (.inl i)).isSome)) := ⟨fun ⟨o, c, q⟩ => by have c := (fnd_K (x := .int i) (k := .inl i) rfl).mp c; rw [← c]; exact q, fun q => ⟨_, .flat (.inl i) kvs, q⟩⟩
@[simp ↓] theorem s_din2 {a b : Int} : oDIn (.tky [.int a, .int b]) (.dic true kds) Q ↔ Q (.bl (lookD kds [.inl a, .inl b]).isSome) := ⟨fun ⟨o, c, q⟩ => by have c := (fnd_T (x := .tky [.int a, .int b]) (ks := [.inl a, .inl b]) rfl).mp c; rw [← c]; exact q, fun q => ⟨_, .tup [.inl a, .inl b] kds, q⟩⟩
@[simp ↓] theorem s_dnotin2 {a b : Int} : oDNotIn (.tky [.int a, .int b]) (.dic true kds) Q ↔ Q (.bl (!(lookD kds [.inl a, .inl b]).isSome)) := ⟨fun ⟨o, c, q⟩ => by have c := (fnd_T (x := .tky [.int a, .int b]) (ks := [.inl a, .inl b]) rfl).mp c; rw [← c]; exact q, fun q => ⟨_, .tup [.inl a, .inl b] kds, q⟩⟩
def kGet {κ : Type} [DecidableEq κ] (kds : List (κ × D)) (k : κ) (Q : D → Prop) : Prop := ∃ d, lookD kds k = some d ∧ Q d
@[simp ↓] theorem s_dget {i : Int} : oDGet (.dic false (sg kvs)) (.int i) Q ↔ kGet kvs (.inl i) Q := ⟨fun ⟨d, c, q⟩ => ⟨d, ((fnd_K (x := .int i) (k := .inl i) rfl).mp c).symm, q⟩, fun ⟨d, e, q⟩ => ⟨d, e ▸ Fnd.flat (.inl i) kvs, q⟩⟩
@[simp ↓] theorem s_dget2 {a b : Int} : oDGet (.dic true kds) (.tky [.int a, .int b]) Q ↔ kGet kds [.inl a, .inl b] Q := ⟨fun ⟨d, c, q⟩ => ⟨d, ((fnd_T (x := .tky [.int a, .int b]) (ks := [.inl a, .inl b]) rfl).mp c).symm, q⟩, fun ⟨d, e, q⟩ => ⟨d, e ▸ Fnd.tup [.inl a, .inl b] kds, q⟩⟩
theorem k_get {κ : Type} [DecidableEq κ] {kds : List (κ × D)} {k : κ} {d : D} (h : lookD kds k = some d) : kGet kds k Q ↔ Q d := ⟨fun ⟨e, z, q⟩ => by rw [h] at z; cases z; exact q, fun q => ⟨d, h, q⟩⟩
@[simp ↓] theorem s_storeD : wStoreD i wk wv G E ρ ↔ wv G ρ fun d ρ' => kOd ρ' i ∧ wk G ρ' fun kd => kPd ρ' i kd d E.nx := Iff.rfl
@[simp ↓] theorem k_od0 {tt : Bool} : kOd (some (.od tt kds) :: ρ) 0 ↔ True := ⟨fun _ => True.intro, fun _ => ⟨tt, kds, rfl⟩⟩
@[simp ↓] theorem k_od1 : kOd (o :: ρ) (i + 1) ↔ kOd ρ i := Iff.rfl
@[simp ↓] theorem k_pd1 {kd : D} : kPd (o :: ρ) (i + 1) kd d K ↔ kPd ρ i kd d fun ρ' => K (o :: ρ') := Iff.rfl
theorem ptd_inv {kd d : D} {sv sw : SV} (h : Ptd kd d sv sw) : (∃ k kvs, kvs.length < sizeLine ∧ kd = kD k ∧ sv = oK kvs ∧ sw = oK (putD kvs k d)) ∨ ∃ ks kds, kds.length < sizeLine ∧ kd = .tky (ks.map kD) ∧ sv = .od true kds ∧ sw = .od true (putD kds ks d) := by
  cases h with
  | flat k kvs _ hz => exact .inl ⟨k, kvs, hz, rfl, rfl, rfl⟩
  | tup ks kds _ hz => exact .inr ⟨ks, kds, hz, rfl, rfl, rfl⟩
@[simp ↓] theorem k_pd0 {i : Int} : kPd (some (.od false (sg kvs)) :: ρ) 0 (.int i) d K ↔ kvs.length < sizeLine ∧ K (some (.od false (sg (putD kvs (.inl i) d))) :: ρ) := by
  constructor
  · rintro ⟨sv, sw, e, h, q⟩
    cases e
    rcases ptd_inv h with ⟨k2, kvs2, hz, e1, e2, e3⟩ | ⟨ks2, kds2, hz, e1, e2, e3⟩
    · injection e2 with _ e2
      have e2 := sg_inj e2
      subst e2 e3
      have e1 : Sum.inl i = k2 := kD_inj (a := .inl i) e1
      subst e1
      exact ⟨hz, q⟩
    · cases e2
  · rintro ⟨hz, q⟩
    exact ⟨_, _, rfl, .flat (.inl i) kvs d hz, q⟩
@[simp ↓] theorem k_pd02 {a b : Int} : kPd (some (.od true kds) :: ρ) 0 (.tky [.int a, .int b]) d K ↔ kds.length < sizeLine ∧ K (some (.od true (putD kds [.inl a, .inl b] d)) :: ρ) := by
  constructor
  · rintro ⟨sv, sw, e, h, q⟩
    cases e
    rcases ptd_inv h with ⟨k2, kvs2, hz, e1, e2, e3⟩ | ⟨ks2, kds2, hz, e1, e2, e3⟩
    · injection e2 with e2; cases e2
    · injection e2 with _ e2
      subst e2 e3
      injection e1 with e1
      have e1 : [.inl a, .inl b] = ks2 := kDs_inj (a := [.inl a, .inl b]) e1
      subst e1
      exact ⟨hz, q⟩
  · rintro ⟨hz, q⟩
    exact ⟨_, _, rfl, .tup [.inl a, .inl b] kds d hz, q⟩
@[simp ↓] theorem s_vvd {tt : Bool} {Qv : D → En → Prop} : wvVar 0 G (some (.od tt kds) :: ρ) Qv ↔ Qv (.dic tt kds) (some (.fz (.dic tt kds)) :: ρ) := ⟨fun ⟨_, e, h⟩ => by cases e; exact h, fun h => ⟨_, rfl, h⟩⟩
@[simp ↓] theorem s_vvo {Qv : D → En → Prop} : wvVar 0 G (some (.ow xs) :: ρ) Qv ↔ Qv (.lst xs) (some (.fz (.lst xs)) :: ρ) := ⟨fun ⟨_, e, h⟩ => by cases e; exact h, fun h => ⟨_, rfl, h⟩⟩
theorem s_vvs {sv : SV} {Qv : D → En → Prop} : wvVar (i + 1) G (some sv :: ρ) Qv ↔ wvVar i G ρ fun d ρ' => Qv d (some sv :: ρ') := ⟨fun ⟨sv, z, h⟩ => ⟨sv, z, by cases sv <;> exact h⟩, fun ⟨sv, z, h⟩ => ⟨sv, z, by cases sv <;> exact h⟩⟩
@[simp ↓] theorem s_vv3 {tt : Bool} {Qv : D → En → Prop} : wvVar (i + 1) G (some (.od tt kds) :: ρ) Qv ↔ wvVar i G ρ fun d ρ' => Qv d (some (.od tt kds) :: ρ') := s_vvs
@[simp ↓] theorem s_vv4 {Qv : D → En → Prop} : wvVar (i + 1) G (some (.ow xs) :: ρ) Qv ↔ wvVar i G ρ fun d ρ' => Qv d (some (.ow xs) :: ρ') := s_vvs
@[simp ↓] theorem s_retVd {tt : Bool} : wRetV 0 G E (some (.od tt kds) :: ρ) ↔ E.rt (.od tt kds) := ⟨fun ⟨_, e, h⟩ => by cases e; exact h, fun h => ⟨_, rfl, h⟩⟩
@[simp ↓] theorem s_jenum {Qj : List D → En → Prop} : wjEnumA wv G ρ Qj ↔ wv G ρ fun d ρ' => kIt d fun xs => Qj (enumD 0 xs) ρ' := Iff.rfl
@[simp ↓] theorem s_ienum : wiEnumA r G ρ Qa ↔ r G ρ fun ds => kIt1 ds fun xs => Qa (enumD 0 xs) := Iff.rfl
@[simp ↓] theorem k_it1 {x : D} : kIt1 [x] Qa ↔ kIt x Qa := ⟨fun ⟨_, xs, e, h⟩ => by cases e; exact ⟨xs, h⟩, fun ⟨xs, h⟩ => ⟨x, xs, rfl, h⟩⟩
@[simp ↓] theorem s_izip : wiZip r G ρ Qa ↔ r G ρ fun ds => kZp ds Qa := Iff.rfl
theorem k_zp {x y : D} {xs ys : List D} (h1 : tupsOf x = some xs) (h2 : tupsOf y = some ys) : kZp [x, y] Qa ↔ Qa (zipD xs ys) := by
  constructor
  · rintro ⟨_, _, xs', ys', e, z, q⟩
    cases e
    rcases z with ⟨z1, z2⟩ | ⟨rfl, rfl⟩
    · rw [h1] at z1; rw [h2] at z2; cases z1; cases z2; exact q
    · cases h1
  · exact fun q => ⟨x, y, xs, ys, rfl, .inl ⟨h1, h2⟩, q⟩
@[simp ↓] theorem s_jzip {w1 w2 : WV} {Qj : List D → En → Prop} : wjZip w1 w2 G ρ Qj ↔ w1 G ρ fun x ρ1 => w2 G ρ1 fun y ρ2 => ∃ xs ys, ((tupsOf x = some xs ∧ tupsOf y = some ys) ∨ (x = .lst xs ∧ y = .lst ys)) ∧ Qj (zipD xs ys) ρ2 := Iff.rfl
/-! #### comprehensions -/
@[simp ↓] theorem s_comp2 {wi wi1 : WA} {wg wg1 : WG} {wt wt1 : WT} {we : W} {vs vs1 : List Nat} : wComp2 wi wg wt wi1 wg1 wt1 we vs vs1 G ρ Qo ↔ wi G ρ fun ds => wcL2 wg wt wi1 wg1 wt1 we vs vs1 G ρ ds [] fun acc => Qo (.ow acc) := Iff.rfl
@[simp ↓] theorem s_dcomp {wi : WA} {wg : WG} {wt : WT} {wk wv : W} {vs : List Nat} : wDComp wi wg wt wk wv vs G ρ Qo ↔ wi G ρ fun ds => wdL wg wt wk wv vs G ρ ds [] fun acc => Qo (oK acc) := Iff.rfl
theorem wcL_mapA {wg : WG} {we : W} {vs : List Nat} (f : D → D) (ds acc : List D) (Qa : List D → Prop) (h : ∀ d ∈ ds, ∀ G', GExt G G' → ∀ Qy : D → Prop, Qy (f d) → wg d (wipeD ρ vs) fun ρ2 => we G' ρ2 Qy) (hl : acc.length + ds.length ≤ sizeLine) (q : Qa (acc ++ ds.map f)) : wcL wg wtTrue we vs G ρ ds acc Qa :=
  wcL_fm (fun _ => true) f ds acc Qa (fun d hd G' hG Qy Qn hy _ => by
    simp only [s_ttrue, if_true]
    exact h d hd G' hG Qy (hy rfl)) hl (by rw [List.filter_eq_self.mpr fun _ _ => rfl]; exact q)
/-- two clauses, the second one over the same items at each turn -/
theorem wcL2_map {wg : WG} {wi1 : WA} {wg1 : WG} {we : W} {vs vs1 : List Nat} (F : D → List D) : ∀ (ds acc : List D) (Qa : List D → Prop),
    (∀ d ∈ ds, ∀ G', GExt G G' → ∀ (acc' : List D) (Q' : List D → Prop), acc'.length + (F d).length ≤ sizeLine → Q' (acc' ++ F d) → wg d (wipeD ρ vs) fun ρ2 => wi1 G' ρ2 fun es => wcL wg1 wtTrue we vs1 G ρ2 es acc' Q') →
    acc.length + (ds.flatMap F).length ≤ sizeLine → Qa (acc ++ ds.flatMap F) → wcL2 wg wtTrue wi1 wg1 wtTrue we vs vs1 G ρ ds acc Qa
  | [], acc, Qa, _, _, q => by
    rw [List.flatMap_nil, List.append_nil] at q
    exact q
  | d :: ds, acc, Qa, h, hl, q => fun G' hG => by
    simp only [s_ttrue, if_true]
    rw [List.flatMap_cons, List.length_append] at hl
    refine h d List.mem_cons_self G' hG acc _ (by omega) ?_
    refine wcL2_map F ds _ Qa (fun e he => h e (List.mem_cons_of_mem _ he)) (by rw [List.length_append]; omega) ?_
    rw [List.append_assoc, ← List.flatMap_cons]
    exact q
theorem putD_len {κ : Type} [DecidableEq κ] (kds : List (κ × D)) (k : κ) (d : D) : (putD kds k d).length ≤ kds.length + 1 := by
  unfold putD
  split
  · rw [List.length_map]; omega
  · rw [List.length_append]; exact Nat.le_refl _
theorem wdL_map {wg : WG} {wk wv : W} {vs : List Nat} (f : D → Key × D) : ∀ (ds : List D) (acc : List (Key × D)) (Qa : List (Key × D) → Prop),
    (∀ d ∈ ds, ∀ G', GExt G G' → ∀ Qy : Key → D → Prop, Qy (f d).1 (f d).2 → wg d (wipeD ρ vs) fun ρ2 => wk G' ρ2 fun kd => wv G' ρ2 fun vd => ∃ k, kd = kD k ∧ Qy k vd) →
    acc.length + ds.length ≤ sizeLine → Qa (ds.foldl (fun a d => putD a (f d).1 (f d).2) acc) → wdL wg wtTrue wk wv vs G ρ ds acc Qa
  | [], acc, Qa, _, _, q => q
  | d :: ds, acc, Qa, h, hl, q => fun G' hG => by
    simp only [s_ttrue, if_true]
    rw [List.length_cons] at hl
    have hp := h d List.mem_cons_self G' hG (fun k vd => acc.length < sizeLine ∧ wdL wg wtTrue wk wv vs G ρ ds (putD acc k vd) Qa) ⟨by omega, wdL_map f ds _ Qa (fun e he => h e (List.mem_cons_of_mem _ he)) (by
      have := putD_len acc (f d).1 (f d).2
      omega) q⟩
    exact hp
end
end DL
set_option maxHeartbeats 4000000
/-! Errors of the program: classes below Exception whose __init__ keeps its one argument as .thing. -/
namespace DLX
open PySem PySem.W PySem.Calls PyProof.Rows
open Builtin.ObjectAttr
abbrev exT : List Value := [.type "Exception", .type "BaseException", .type "object"]
def iA (p1 p2 : Pos) : Arguments := { posonlyargs := [], args := [{ arg := "self", annotation := none, pos := p1 }, { arg := "thing", annotation := none, pos := p2 }], vararg := none, kwonlyargs := [], kw_defaults := [], kwarg := none, defaults := [] }
def iB (q1 q2 q3 q4 : Pos) : List Stmt := [.Assign [.Attribute (.Name "self" q1) "thing" q2] (.Name "thing" q3) q4]
def iS : Scope := { kind := .function, names := [(PySem.Str.ofString "self", .local), (PySem.Str.ofString "thing", .local)], isGenerator := false, isCoroutine := false, more := [] }
/-- the class of the name n, at C, its __init__ at fI -/
structure ErrTxt (K : Frag) (mg : Str → Option Value) (n qi : Str) (C fI : Addr) : Prop where
  gC : mg n = some (.ref C)
  ini : excInitIn K C exT "Exception.__new__" = true
  over : excOver K C exT = true
  sa : findIn K (.ref C) "__setattr__" = some (some (.builtin "object.__setattr__"))
  ga : findIn K (.ref C) "__getattribute__" = some (some (.builtin "BaseException.__getattribute__"))
  gg : findIn K (.ref C) "__getattr__" = some none
  noN : findIn K (.ref C) "thing" = some none
  iC : findIn K (.ref C) "__init__" = some (some (.ref fI))
  tC : typeIn K (.ref fI) = some (.type "function")
  kC : keepIn K (.ref C) = true
  exC : subIn K (.ref C) (.type "BaseException") = some true
  tyC : typeIn K (.ref C) = some (.type "type")
  hdC : hasDictIn K C = true
  fn : ∃ (oc : Value) (od : Option Addr) (kV doc pm : Value) (an : Option Addr) (cdv ct : Value) (osl : Array (Option Value)) (p1 p2 q1 q2 q3 q4 : Pos),
    K.lookup fI = some ⟨oc, od, .func (fnOf "__init__" qi (iA p1 p2) (iB q1 q2 q3 q4) iS .none kV doc pm an cdv ct), osl⟩ ∧ codeIn K cdv qi = true
theorem ErrTxt.xf {K : Frag} {mg : Str → Option Value} {n qi : Str} {C fI : Addr} (T : ErrTxt K mg n qi C fI) : L2.XfC K C := ⟨T.ga, T.gg, T.exC, T.hdC⟩
/-- what __init__ leaves of a new error at x -/
structure Kept (h h' : Heap) (x C dx t : Addr) (v : Value) : Prop where
  keep : ∀ b o, b ≠ x → h.get? b = some o → h'.get? b = some o
  obj : h'.get? x = some { cls := .ref C, dict := some dx, data := .fields #[.ref t, .none, .none, .none, .bool false, .none] }
  big : h.objs.size ≤ dx
  ne : dx ≠ x
  ns : h'.Ns1 dx (fun y => if y = "thing" then some v else none)
/-- an error that was made -/
structure MadeE (h h' : Heap) (e C d : Addr) (v : Value) : Prop where
  keep : ∀ b o, h.get? b = some o → h'.get? b = some o
  new : h.objs.size ≤ e
  obj : ∃ oe vs, h'.get? e = some oe ∧ oe.cls = .ref C ∧ oe.dict = some d ∧ oe.data = .fields vs ∧ vs[1]? = some .none
  big : h.objs.size ≤ d
  ne : d ≠ e
  ns : h'.Ns1 d (fun y => if y = "thing" then some v else none)
section
variable {prog : Program} {w : World} {A : Around} {E : Value → Shared → Prop} {R : Result → Shared → Prop} {s : Shared} {K : Frag} {mg : Str → Option Value} {n qi : Str} {C fI : Addr}
theorem put_new {hp : Heap} {g : Array GenState} {dr : Drawn} {t : Nat} {os : OsState} {name : Str} {tk : Tok} {v : Value} {x : Addr} {fv : Array Value} (X : K.In hp) (hx : hp.get? x = some { cls := .ref C, data := .fields fv }) (hp1 : excOver K C exT = true) (hd : hasDictIn K C = true) (ha : findIn K (.ref C) name = some none)
    (hq : ∀ h' tk' dx, (∀ b o, b ≠ x → hp.get? b = some o → h'.get? b = some o) → hp.objs.size ≤ dx → dx ≠ x → h'.get? x = some { cls := .ref C, dict := some dx, data := .fields fv } →
      h'.Ns1 dx (fun y => if y = name then some v else none) → R (.ok (.ret .none)) ⟨h', g, dr, tk', os⟩) :
    codeAny (model prog w) A (.call (.builtin "object.__setattr__") ⟨[.ref x, .str name tk, v], []⟩) R ⟨hp, g, dr, t, os⟩ := by
  have I : InstAt hp x { cls := .ref C, data := .fields fv } C none := ⟨hx, rfl, rfl, trivial⟩
  have hxs : x ≠ hp.objs.size := Nat.ne_of_lt (Heap.lt_size hx)
  refine osa_openX F.store_Exception X I hp1 (r := none) (by unfold takerIn; rw [ha]; rfl) fun b => ?_
  obtain ⟨cd, hc, hh⟩ := any_some hd
  have L : Looks (model prog w) hp (classData C) cd := looks_clsIn X hc
  obtain ⟨nm, bs, mro, ns, qn, hd, sn, sb, ab, col, del⟩ := cd
  dsimp only at hh
  subst hh
  unfold storeInOwnDict ownDictForStores
  repeat (first | with_reducible refine HandSPX.store_in_new ?_ ?_ | with_reducible refine wpAny_loadPart_at hx ?_ | with_reducible refine L.at ?_ | wp_step)
  · exact ⟨_, #[], _, (Heap.get?_update_ne _ _ _ _ hxs.symm).trans (Heap.get?_push_at rfl rfl), rfl, fun e he => absurd he (by simp), fun _ => rfl⟩
  · intro h' tk' hn' hs
    have z : (hp.push { cls := .type "dict", data := .dict #[] }).get? x = some { cls := .ref C, data := .fields fv } := Heap.get?_push_of_some _ hx
    exact hq h' tk' hp.objs.size (fun b o hb ho => (hs.2 b (Nat.ne_of_lt (Heap.lt_size ho))).trans ((Heap.get?_update_ne _ _ _ _ hb).trans (Heap.get?_push_of_some _ ho))) (Nat.le_refl _) hxs.symm ((hs.2 x hxs).trans (Heap.get?_update_self _ z rfl)) hn'
theorem ldP {M : Model} {name : Str} {scope : Scope} {L a : Addr} {cd : Value} {m : Str → Option Value} {x : Str} {pos : Pos} {v : Value} {Q : Value → Shared → Prop} (hn : s.heap.Ns L m) (hv : m x = some v) (h : Q v s)
    (hk : scope.kind = .function := by rfl) (hl : (envOfC name scope L a cd).kindOf x = some .local := by rfl) (hd : (x == ("__debug__" : Str)) = false := by decide) : wpAny M A (eval (.Name x pos) (envOfC name scope L a cd)) Q E s :=
  wpAny_Name (wpAny_loadName_local hk hl hn hv h) hd
/-- __init__ runs -/
theorem err_init (T : ErrTxt K mg n qi C fI) {x t0 : Addr} {v : Value} (X : K.In s.heap) (hlim : s.heap.NoLimit) (hx : s.heap.get? x = some (HandSPX.excO C t0)) (hroom : A.depth < recursionLimit)
    (hq : ∀ h' tk dx, Kept s.heap h' x C dx t0 v → R (.ok (.ret .none)) { s with heap := h', toks := tk }) : codeAny (model prog w) A (.call (.ref fI) ⟨[.ref x, v], []⟩) R s := by
  obtain ⟨oc, od, kV, doc, pm, an, cdv, ct, osl, p1, p2, q1, q2, q3, q4, ho, hcd⟩ := T.fn
  refine Att.call_fn (binds := [("self", .ref x), ("thing", v)]) X hlim ho hcd hroom (BindsTo.of_eq (by first | rfl | with_unfolding_all rfl)) (by first | rfl | decide | with_unfolding_all rfl) (fun s₁ IC => ?_) rfl rfl rfl
  obtain ⟨h₁, tk₁, rfl⟩ := IC.toInCall.same
  have k : ∀ b o, s.heap.get? b = some o → h₁.get? b = some o := IC.toInCall.keep
  have hn := IC.toInCall.ns
  have X₁ : K.In h₁ := X.keeps k
  have hx₁ := k _ _ hx
  have z : s.heap.objs.size < h₁.objs.size := hn.lt
  show wpAny _ _ (execs _ _) _ _ _
  refine wpAny_execs_cons (plainObj_wpAny_Assign_Attribute ?_)
  refine ldP (v := v) hn (by first | rfl | with_unfolding_all rfl | kernel_rfl) (ldP (v := .ref x) hn (by first | rfl | with_unfolding_all rfl | kernel_rfl) ?_)
  refine set_plain X₁ (ox := HandSPX.excO C t0) (od := none) ⟨hx₁, rfl, rfl, trivial⟩ T.sa ?_
  refine put_new X₁ hx₁ T.over T.hdC T.noN fun h₃ tk₃ dx k₃ dn dne hx₃ hn₃ => ?_
  show wpAny _ _ (execs _ _) _ _ _
  exact wpAny_execs_nil (hq h₃ tk₃ dx ⟨fun b o hb e => k₃ b o hb (k b o e), hx₃, Nat.le_of_lt (Nat.lt_of_lt_of_le z dn), dne, hn₃⟩)
theorem err_made (T : ErrTxt K mg n qi C fI) {v : Value} (X : K.In s.heap) (hlim : s.heap.NoLimit) (hroom : A.depth + 1 < recursionLimit) (hq : ∀ h' tk e d, MadeE s.heap h' e C d v → R (.ok (.ret (.ref e))) { s with heap := h', toks := tk }) :
    codeAny (model prog w) A (.call (.ref C) ⟨[v], []⟩) R s := by
  obtain ⟨nm, N', qn, bs, bm, hdct, sn, sub, ab, col, dd, k0, k1, k2, k3, k5, hC, hT⟩ := excInit_of X T.ini
  obtain ⟨hp, g, dr, tk, os⟩ := s
  have k : ∀ b o, hp.get? b = some o → ((hp.push (kdv_tup [v])).push (HandSPX.excO C hp.objs.size)).get? b = some o := fun b o e => Heap.get?_push_of_some _ (Heap.get?_push_of_some _ e)
  have hget : ((hp.push (kdv_tup [v])).push (HandSPX.excO C hp.objs.size)).get? (hp.objs.size + 1) = some (HandSPX.excO C hp.objs.size) := by heap_get
  have one : [v].length ≤ sizeLine := by rw [sizeLine_eq]; exact (by decide : 1 ≤ 16777216)
  refine HandSPX.call_own F.excBase_Exception hT hC (looks_findIn X T.iC) (fun self => bind_fn X self T.tC) one ?_
  refine err_init (s := ⟨(hp.push (kdv_tup [v])).push (HandSPX.excO C hp.objs.size), g, dr, tk, os⟩) T (X.keeps k) (hlim.keeps k) hget (show A.depth + 1 < recursionLimit from hroom) fun h' tk' dx ⟨k', hx, dn, dne, hns⟩ => ?_
  have old : ∀ b o, hp.get? b = some o → h'.get? b = some o := fun b o e => k' b o (Nat.ne_of_lt (Nat.lt_succ_of_lt (Heap.lt_size e))) (k b o e)
  have z : hp.objs.size + 1 + 1 ≤ dx := by
    first
      | (simpa only [Heap.size_push] using dn)
      | exact dn
      | (have q := dn; rw [Heap.size_push, Heap.size_push] at q; exact q)
  exact ⟨rfl, hq h' tk' (hp.objs.size + 1) dx ⟨old, Nat.le_succ _, ⟨_, _, hx, rfl, rfl, rfl, rfl⟩, Nat.le_trans (Nat.le_trans (Nat.le_succ _) (Nat.le_succ _)) z, dne, hns⟩⟩
end
end DLX
namespace DLX
open PySem PySem.Spec PyProof.Rows L2
/-- an error's own dict -/
abbrev thingD (v : V) : HO := .xd [(("thing" : Str), v)]
theorem relO_thing {v : V} {u : Value} (r : RelV v u) (f : Str) : RelO (List.lookup f [(("thing" : Str), v)]) (if f = "thing" then some u else none) := by
  rw [lookup_put]
  by_cases h : f = "thing"
  · rw [if_pos h, if_pos h]
    exact r
  · rw [if_neg h, if_neg h]
    trivial
section
variable {X : Cx} {n qi : Str} {C fI : Addr}
/-- n(e) -/
def tMkE (C : Addr) (te : TE) : L2.St → Hp → XK → Prop := fun σ H Q => te σ H fun v H1 => ∃ u, [v] = [u] ∧ ∀ d, H1 d = none → Q (.ref C) (some d) (upd H1 d (thingD u))
theorem pmk_err {a : Expr} {te : TE} {p pos : Pos} {k : Nat} (T : ErrTxt X.K X.mg n qi C fI) (hr : Room (k + 1) X.A) (ha : PE X a te) (hg : Gl X n) (hdb : (n == ("__debug__" : Str)) = false := by decide)
    (he : starEach (a :: []) X.env = (false, eval a X.env) :: starEach [] X.env := by rfl) (hpl : (backTo pos (starEach [] X.env)).any (·.1) = false := by rfl) :
    PMk X (.Call (.Name n p) [a] [] pos) (tMkE C te) := by
  intro pins s σ H Q I h
  refine wpAny_Call_Name_kw (ld_glob I hg T.gC ?_ hdb)
  have hA : PA X [a] (tCons te tNil) := pa_cons ha pa_nil he
  refine PySem.W.callWith_K (h₀ := X.base) I.ok.mod.kin T.kC (thn (hA.run pos pins s σ H (fun vs H1 => ∃ v, vs = [v] ∧ ∀ d, H1 d = none → Q (.ref C) (some d) (upd H1 d (thingD v))) I ?_) fun us s1 hh => ?_) he hpl
  · exact h
  obtain ⟨vs, H1, I1, r1, v, ev, q1⟩ := hh
  subst ev
  refine ⟨I1.kIn, ?_⟩
  cases r1 with
  | cons rv rn =>
    rename_i v' us'
    cases rn
    show wpAny _ _ (call (.ref C) [v']) _ _ _
    have hlim := I1.nolimit
    obtain ⟨hp, g, dr, tk, os⟩ := s1
    refine wpAny_call (err_made T I1.kIn hlim (by have := hr.dp; omega) fun h' tk' e d M => ?_)
    show MkP X pins σ Q (.ref e) ⟨h', g, dr, tk', os⟩
    obtain ⟨oe, fv, hoe, hc, hd, hdat, h1⟩ := M.obj
    have hns := M.ns
    obtain ⟨G', g1, g2⟩ := restrict h' fun b => decide (b ≠ e)
    have gk : ∀ b, b ≠ e → G'.get? b = h'.get? b := fun b hb => g1 b (decide_eq_true hb)
    have ge : G'.get? e = none := g2 e (by simp)
    have old : ∀ b o, hp.get? b = some o → G'.get? b = some o := fun b o q => (gk b (Nat.ne_of_lt (Nat.lt_of_lt_of_le (Heap.lt_size q) M.new))).trans (M.keep b o q)
    have ob : ObjOk X.prog X.w (upd H1 d (thingD v)) G' d (thingD v) := ⟨_, hns.at (fun o q => (gk d M.ne).trans q), fun f => relO_thing rv f⟩
    have J : Inv X pins σ (upd H1 d (thingD v)) ⟨G', g, dr, tk', os⟩ := I1.laid (t' := tk') old M.big ob
    refine ⟨e, oe, fv, ⟨G', g, dr, tk', os⟩, _, .ref C, some d, rfl, J, fun b o q => ?_, ge, hoe, ⟨hc, hd⟩, hdat, h1, ?_, rfl, I1.bare, raises_own T.exC T.tyC, q1 d (I1.hok.fresh M.big)⟩
    · by_cases hb : b = e
      · have q' : G'.get? b = some o := q
        rw [hb, ge] at q'; cases q'
      · exact (gk b hb).symm.trans q
    · rw [upd_ne (Ne.symm M.ne)]
      exact I1.hok.fresh M.new
end
end DLX
set_option maxHeartbeats 4000000
/-! What a def that may raise promises, in plain data; statements that raise. -/
namespace DL
open PySem PySem.Spec PyProof.Rows L2
/-- an error in plain data: its class's name, its thing -/
abbrev XD := Str → D → Prop
abbrev FSX := Gc → List D → (SV → Prop) → XD → Prop
/-- what is asked of an error that leaves: H the heap ahead -/
def XGo (K : PySem.W.Frag) (mg : Str → Option Value) (G : Gc) (F H : Hp) (Ed : XD) (E : XK) : Prop :=
  ∀ n C d v x H' F', Same F F' → Same F' H' → (∀ a, G.R a → F' a = none) → Fr G H H' → G.Wd H' → mg n = some (.ref C) → H' d = some (DLX.thingD v) → Rp K F' v x → Ed n x → E (.ref C) (some d) H'
theorem XGo.go {K : PySem.W.Frag} {mg : Str → Option Value} {G : Gc} {F F1 H H1 : Hp} {Ed : XD} {E : XK} (h : XGo K mg G F H Ed E) (s : Same F F1) (f : Fr G H H1) : XGo K mg G F1 H1 Ed E :=
  fun n C d v x H' F' a b c e => h n C d v x H' F' (s.trans a) b c (f.trans e)
def spVX (K : PySem.W.Frag) (mg : Str → Option Value) (sp : FSX) : Sp := fun vs H Q E => ∃ G F ds Qd Ed, Same F H ∧ (∀ a, G.R a → F a = none) ∧ G.Wd H ∧ RpL K F vs ds ∧ sp G ds Qd Ed ∧
  (∀ v H' F' sv, Same F F' → Same F' H' → (∀ a, G.R a → F' a = none) → Fr G H H' → G.Wd H' → RpO K G F' H H' v sv → Qd sv → Q v H') ∧ XGo K mg G F H Ed E
structure KnX (B : Bs) (k : Nat) (x : Str) (st : Stmt) (ps : List Str) (sp : FSX) : Prop where
  ex : ∃ f fd, FnG B.P B.w B.K B.mg B.base (L2.CX B.P B.w) k f fd ps (spVX B.K B.mg sp) ∧ B.mg x = some (.ref f) ∧ FunD B.K x x (defArgs st) (defBody st) (defScope st) [] [] f fd ∧ Binds B.K fd ps []
theorem KnX.mono {B : Bs} {j k : Nat} {x : Str} {st : Stmt} {ps : List Str} {sp : FSX} (h : KnX B j x st ps sp) (hk : j ≤ k) : KnX B k x st ps sp := by
  obtain ⟨f, fd, F, hm, D, hb⟩ := h.ex
  exact ⟨f, fd, F.up hk, hm, D, hb⟩
/-- where it raises nothing -/
theorem KnX.kn {B : Bs} {k : Nat} {x : Str} {st : Stmt} {ps : List Str} {sp : FSX} (h : KnX B k x st ps sp) : Kn B k x st ps (fun G ds Qd => sp G ds Qd fun _ _ => False) := by
  obtain ⟨f, fd, F, hm, D, hb⟩ := h.ex
  have up : ∀ {vs : List V} {H : Hp} {Q : VK} {E : XK}, spV B.K (fun G ds Qd => sp G ds Qd fun _ _ => False) vs H Q E → spVX B.K B.mg sp vs H Q (fun _ _ _ => False) := fun ⟨G, F, ds, Qd, s1, s2, s3, r, q, g⟩ =>
    ⟨G, F, ds, Qd, _, s1, s2, s3, r, q, g, fun _ _ _ _ _ _ _ _ _ _ _ _ _ _ _ z => z.elim⟩
  refine ⟨f, fd, ⟨fun q => F.many (up q), fun hr hn e b r q => ?_⟩, hm, D, hb⟩
  refine codeAny_mono (F.goes hr hn e b r (up q)) fun r s' z => ?_
  cases r with
  | ok fl => cases fl <;> exact z
  | error u =>
    obtain ⟨_, _, _, _, _, _, _, _, _, _, _, _, z⟩ := z
    exact z.elim
/-! ### expressions and statements that may raise -/
abbrev WOX := Gc → En → (SV → Prop) → XD → Prop
def tOX (K : PySem.W.Frag) (mg : Str → Option Value) (E : XK) (w : WOX) : TE := fun σ H Q => ∃ G F ρ Qd Ed, EvR K G F H σ ρ ∧ w G ρ Qd Ed ∧ (∀ v H' F' sv, Same F F' → EvR K G F' H' σ ρ → Fr G H H' → RpO K G F' H H' v sv → Qd sv → Q v H') ∧ XGo K mg G F H Ed E
abbrev WSX := Gc → EndsD → XD → En → Prop
def tSX (K : PySem.W.Frag) (mg : Str → Option Value) (E : XK) (w : WSX) : TS := fun D σ H => ∃ G H0 F0 F ρ T Ed, Ev K G H0 F0 F H σ ρ ∧ w G T Ed ρ ∧ Goes K G H0 F0 F T D ∧ XGo K mg G F0 H0 Ed E
def DOX (S : Sta) (e : Expr) (w : WOX) : Prop := ∀ X E, Fam S X → Takes X (fun c d _ H => E c d H) → PE X e (tOX S.K S.mg E w)
def DSX (S : Sta) (st : Stmt) (w : WSX) : Prop := ∀ X E, Fam S X → Takes X (fun c d _ H => E c d H) → PS X st (tSX S.K S.mg E w)
def DSXs (S : Sta) (st : List Stmt) (w : WSX) : Prop := ∀ X E, Fam S X → Takes X (fun c d _ H => E c d H) → PSs X st (tSX S.K S.mg E w)
def wUp (w : WS) : WSX := fun G T _ ρ => w G T ρ
def wUpO (w : WO) : WOX := fun G ρ Q _ => w G ρ Q
def wSeqX (a b : WSX) : WSX := fun G T Ed ρ => a G { T with nx := fun ρ' => b G T Ed ρ' } Ed ρ
def wIfX (t : WT) (a b : WSX) : WSX := fun G T Ed ρ => t G ρ fun k => if k = true then a G T Ed ρ else b G T Ed ρ
def wRaise (n : Str) (w : W) : WSX := fun G _ Ed ρ => w G ρ fun x => Ed n x
def wRetX (w : WOX) : WSX := fun G T Ed ρ => w G ρ T.rt Ed
def wExprX (w : WOX) : WSX := fun G T Ed ρ => w G ρ (fun _ => T.nx ρ) Ed
def wSetX (i : Nat) (w : WOX) : WSX := fun G T Ed ρ => i < ρ.length ∧ w G ρ (fun sv => T.nx (put ρ i sv)) Ed
def woCallX (sp : FSX) (r : WA) : WOX := fun G ρ Q Ed => r G ρ fun ds => sp G ds Q Ed
def woCallXK (n : Nat) (is : List Nat) (sp : FSX) (r : WA) : WOX := fun G ρ Q Ed => r G ρ fun ds => ds.length = n ∧ sp G (permL is ds) Q Ed
def woIfX (t : WT) (a b : WOX) : WOX := fun G ρ Q Ed => t G ρ fun k => if k = true then a G ρ Q Ed else b G ρ Q Ed
section
variable {S : Sta} {st : Stmt} {rest : List Stmt} {a b : WSX} {e c : Expr} {es : List Expr} {pos p pos2 : Pos} {w : W} {wo : WOX} {wp : WO} {ws : WS} {t : WT} {r : WA}
theorem dsx_up (h : DS S st ws) : DSX S st (wUp ws) := fun X E f _ => (h X f).imp fun D σ H ⟨G, H0, F0, F, ρ, T, Ed, ev, hw, g, _⟩ => ⟨G, H0, F0, F, ρ, T, ev, hw, g⟩
theorem dssx_up (h : DSs S rest ws) : DSXs S rest (wUp ws) := fun X E f _ => (h X f).imp fun D σ H ⟨G, H0, F0, F, ρ, T, Ed, ev, hw, g, _⟩ => ⟨G, H0, F0, F, ρ, T, ev, hw, g⟩
theorem dox_up (h : DO S e wp) : DOX S e (wUpO wp) := fun X E f _ => (h X f).imp fun σ H Q ⟨G, F, ρ, Qd, Ed, ev, hw, g, _⟩ => ⟨G, F, ρ, Qd, ev, hw, g⟩
theorem dssx_one (h : DSX S st a) : DSXs S [st] a := fun X E f tk => pss_one (h X E f tk)
theorem dssx_cons (h1 : DSX S st a) (h2 : DSXs S rest b) : DSXs S (st :: rest) (wSeqX a b) := fun X E f tk => (pss_cons (h1 X E f tk) (h2 X E f tk)).imp fun D σ H ⟨G, H0, F0, F, ρ, T, Ed, ev, hw, g, x⟩ =>
  ⟨G, H0, F0, F, ρ, _, Ed, ev, hw, ⟨fun σ' H' F' ρ' e' s q => ⟨G, H0, F0, F', ρ', T, Ed, e', q, g.mono s, x⟩, g.bk, g.ct, g.rt⟩, x⟩
theorem dsx_if {q q2 : List Stmt} (hc : DT S c t) (ha : DSXs S q a) (hb : DSXs S q2 b) : DSX S (.If c q q2 pos) (wIfX t a b) := fun X E f tk => (ps_if (hc X f) (ha X E f tk) (hb X E f tk)).imp fun D σ H ⟨G, H0, F0, F, ρ, T, Ed, ev, hw, g, x⟩ =>
  ⟨G, F, ρ, _, ev.r, hw, fun k H' F' s e' fr z => by
    cases k with
    | true => exact iteT ⟨G, H0, F0, F, ρ, T, Ed, ev.go s e' fr, (by rw [if_pos rfl] at z; exact z), g, x⟩
    | false => exact iteF ⟨G, H0, F0, F, ρ, T, Ed, ev.go s e' fr, (by rw [if_neg Bool.false_ne_true] at z; exact z), g, x⟩⟩
/-- raise n(e) -/
theorem dsx_raise {n qi : Str} {C fI : Addr} {k : Nat} (T : DLX.ErrTxt S.K S.mg n qi C fI) (hk : k + 1 ≤ S.k) (he : DE S e w) (hg : (S.names.lookup n == some .globalImplicit) = true := by kernel_rfl) (hdb : (n == ("__debug__" : Str)) = false := by kernel_rfl)
    (hs : ∀ env, starEach (e :: []) env = (false, eval e env) :: starEach [] env := by intro _; rfl) (hpl : ∀ env, (backTo pos (starEach [] env)).any (·.1) = false := by intro _; rfl) :
    DSX S (.Raise (some (.Call (.Name n p) [e] [] pos)) none pos2) (wRaise n w) := fun X E f tk => by
  have T' : DLX.ErrTxt X.K X.mg n qi C fI := by rw [f.K, f.mg]; exact T
  refine (ps_raise f.calm tk (DLX.pmk_err (k := k) T' (f.room.mono hk) (he X f) (by unfold Gl Env.kindOf; rw [f.look]; exact beq_iff_eq.mp hg) hdb (hs _) (hpl _))).imp fun D σ H ⟨G, H0, F0, F, ρ, T2, Ed, ev, hw, g, x⟩ => ?_
  refine ⟨G, F, ρ, _, ev.r, hw, fun v H' F' d s e' fr rv q => ⟨v, rfl, fun dd hd => ?_⟩⟩
  have nR : ¬ G.R dd := e'.nr hd
  have sm : Same H' (upd H' dd (DLX.thingD v)) := same_upd hd
  exact x n C dd v d _ F' (ev.f0.trans s) (e'.sub.trans sm) e'.res ((ev.fr.trans fr).trans (Fr.upd hd)) (G.st _ _ e'.wd (fun b hb => upd_ne fun z => nR (z ▸ hb)) (extK_new hd)) T.gC upd_same rv q
theorem dsx_ret (h : DOX S e wo) : DSX S (.Return (some e) pos) (wRetX wo) := fun X E f tk => (ps_ret (h X E f tk)).imp fun D σ H ⟨G, H0, F0, F, ρ, T, Ed, ev, hw, g, x⟩ =>
  ⟨G, F, ρ, _, Ed, ev.r, hw, fun v H' F' sv s e' fr r q => g.rt v H' F' sv (ev.f0.trans s) e'.sub e'.res (ev.fr.trans fr) e'.wd (r.back ev.fr) q, x.go ev.f0 ev.fr⟩
theorem dsx_expr (h : DOX S e wo) (hs : ∀ env, swapsWith e none pos.line env = pure false := by intro _; rfl) : DSX S (.Expr e pos) (wExprX wo) := fun X E f tk => (ps_expr (h X E f tk) (hs _)).imp fun D σ H ⟨G, H0, F0, F, ρ, T, Ed, ev, hw, g, x⟩ =>
  ⟨G, F, ρ, _, Ed, ev.r, hw, fun v H' F' sv s e' fr r q => g.nx σ H' F ρ (ev.go s e' fr) (Same.refl _) q, x.go ev.f0 ev.fr⟩
theorem dsx_set {i : Nat} {x : Str} (he : DOX S e wo) (nd : S.N.Nodup) (hN : (S.N[i]? == some x) = true := by kernel_rfl) (hl : (S.names.lookup x == some .local || (S.names.lookup x == some .cell && S.fc x)) = true := by kernel_rfl)
    (hs : ∀ env, swapsWith e (some (.Name x p)) pos.line env = pure false := by intro _; rfl) : DSX S (.Assign [.Name x p] e pos) (wSetX i wo) := fun X E f tk => by
  obtain ⟨h1, h2⟩ := locOf f hl
  refine (ps_set (i := i) (by rw [f.N]; exact nd) (by rw [f.N]; exact beq_iff_eq.mp hN) h1 (he X E f tk) (hs _) h2).imp fun D σ H ⟨G, H0, F0, F, ρ, T, Ed, ev, ⟨hi, hw⟩, g, z⟩ => ?_
  refine ⟨G, F, ρ, _, Ed, ev.r, hw, fun v H' F' sv s e' fr r q => ?_, z.go ev.f0 ev.fr⟩
  obtain ⟨F2, ev2, s2⟩ := ev.put s e' fr hi r
  exact g.nx _ H' F2 _ ev2 s2 q
theorem dox_if {oa ob : WOX} {x y : Expr} (hc : DT S c t) (ha : DOX S x oa) (hb : DOX S y ob) : DOX S (.IfExp c x y pos) (woIfX t oa ob) := fun X E f tk => (pe_ifExp (hc X f) (ha X E f tk) (hb X E f tk)).imp fun σ H Q ⟨G, F, ρ, Qd, Ed, ev, hw, hq, z⟩ =>
  ⟨G, F, ρ, _, ev, hw, fun k H1 F1 s1 e1 f1 q1 => by
    cases k with
    | true => exact iteT ⟨G, F1, ρ, _, Ed, e1, (by rw [if_pos rfl] at q1; exact q1), fun v H2 F2 d s2 e2 f2 r2 q2 => hq v H2 F2 d (s1.trans s2) e2 (f1.trans f2) (r2.back f1) q2, z.go s1 f1⟩
    | false => exact iteF ⟨G, F1, ρ, _, Ed, e1, (by rw [if_neg Bool.false_ne_true] at q1; exact q1), fun v H2 F2 d s2 e2 f2 r2 q2 => hq v H2 F2 d (s1.trans s2) e2 (f1.trans f2) (r2.back f1) q2, z.go s1 f1⟩⟩
theorem dox_call {j : Nat} {x : Str} {sp : FSX} {ps : List Str} (h : KnX S.toBs j x st ps sp) (hj : j ≤ S.k) (hr : DA S (e :: es) r) (hg : (S.names.lookup x == some .globalImplicit) = true := by kernel_rfl)
    (hdb : (x == ("__debug__" : Str)) = false := by kernel_rfl) (he : ∀ env, starEach (e :: es) env = (false, eval e env) :: starEach es env := by intro _; rfl) (hpl : ∀ env, (backTo pos (starEach es env)).any (·.1) = false := by intro _; rfl) :
    DOX S (.Call (.Name x p) (e :: es) [] pos) (woCallX sp r) := fun X E f tk => by
  obtain ⟨fa, fd, F, hm, FD, hb⟩ := h.ex
  have hkp := FD.kp
  rw [← f.P, ← f.w, ← f.K, ← f.mg, ← f.base] at F
  refine (pe_callG F (f.room.mono hj) f.ns (by unfold Gl Env.kindOf; rw [f.look]; exact beq_iff_eq.mp hg) (by rw [f.mg]; exact hm) (by rw [f.K]; exact hkp) (by rw [f.K]; exact hb) (E := E) (passes_call tk fun _ _ _ _ z => z) (hr X f) hdb (he _) (hpl _)).imp fun σ H Q ⟨G, F, ρ, Qd, Ed, ev, hw, hq, z⟩ =>
    ⟨G, F, ρ, _, ev, hw, fun vs H1 F1 ds s1 e1 f1 r1 q1 => ⟨G, F1, ds, Qd, Ed, e1.sub, e1.res, e1.wd, by rw [f.K]; exact r1, q1, fun v H' F' sv s2 s3 s4 f2 w2 r2 q2 =>
      hq v H' F' sv (s1.trans s2) (e1.go s2 s3 f2 s4 w2) (f1.trans f2) (by rw [f.K] at r2; exact r2.back f1) q2, by rw [f.K, f.mg]; exact z.go s1 f1⟩⟩
theorem dox_callK {j : Nat} {x : Str} {st : Stmt} {ps ks : List Str} {sp : FSX} {is : List Nat} {kws : List Keyword} (h : KnX S.toBs j x st ps sp) (hj : j ≤ S.k) (hr : DK S kws r) (hp : ps ≠ [])
    (hb : ∀ (kV doc pm : Value) (an : Option Addr) (cdv ct : Value) (ws : List Value), ws.length = ks.length → bindArgs (PySem.W.fnOf x x (defArgs st) (defBody st) (defScope st) .none kV doc pm an cdv ct) ⟨[], ks.zip ws⟩ = pure (ps.zip (permL is ws)))
    (hall : ∀ env, (backToKw pos (keywordEach kws env)).all (·.1.isSome) = true := by intro _; rfl) (hks : ∀ env, (backToKw pos (keywordEach kws env)).filterMap (·.1) = ks := by intro _; rfl)
    (hpl : ∀ env, ((backTo pos (starEach [] env)).any (·.1) || (backToKw pos (keywordEach kws env)).any (·.1.isNone)) = false := by intro _; rfl)
    (hg : (S.names.lookup x == some .globalImplicit) = true := by kernel_rfl) (hdb : (x == ("__debug__" : Str)) = false := by kernel_rfl) :
    DOX S (.Call (.Name x p) [] kws pos) (woCallXK ks.length is sp r) := fun X E f tk => by
  obtain ⟨fa, fd, F, hm, FD, _⟩ := h.ex
  have hkp := FD.kp
  have kb : KBinds S.K fd ps ks (kwG ks.length is) (kwG ks.length is) := by
    obtain ⟨oc, od, dV, kV, doc, pm, an, cdv, ct, osl, rfl, lk, hcd, hD, hK⟩ := FD.ex
    rcases hD with ⟨_, rfl⟩ | ⟨e, _⟩
    · refine ⟨fun s us ws X hl => ?_, fun {vs us zs ws} r1 r2 => ?_⟩
      · cases us with
        | cons u us => cases ps with
          | nil => exact absurd rfl hp
          | cons _ _ => simp [kwG] at hl
        | nil =>
          by_cases hw : ws.length = ks.length
          · rw [kwG_nil hw]; exact .of_eq (hb kV doc pm an cdv ct ws hw)
          · cases ps with
            | nil => exact absurd rfl hp
            | cons _ _ => simp [kwG, hw] at hl
      · cases r1 with
        | cons _ _ => exact .nil
        | nil =>
          unfold kwG
          rw [r2.length]
          by_cases hw : ws.length = ks.length
          · rw [if_pos hw, if_pos hw]; exact permL_vals r2 is
          · rw [if_neg hw, if_neg hw]; exact .nil
    · exact absurd rfl e
  rw [← f.P, ← f.w, ← f.K, ← f.mg, ← f.base] at F
  refine (pe_callGK F (f.room.mono hj) f.ns (glOf f hg) (by rw [f.mg]; exact hm) (by rw [f.K]; exact hkp) (by rw [f.K]; exact kb) (E := E) (passes_call tk fun _ _ _ _ z => z) (hr X f) (hall _) (hks _) hdb (hpl _)).imp fun σ H Q ⟨G, F, ρ, Qd, Ed, ev, hw, hq, z⟩ =>
    ⟨G, F, ρ, _, ev, hw, fun vs H1 F1 ds s1 e1 f1 r1 ⟨hl, q1⟩ => ⟨G, F1, permL is ds, Qd, Ed, e1.sub, e1.res, e1.wd, by rw [kwG_nil (by rw [r1.len]; exact hl), f.K]; exact permL_rpl r1 is, q1, fun v H' F' sv s2 s3 s4 f2 w2 r2 q2 =>
      hq v H' F' sv (s1.trans s2) (e1.go s2 s3 f2 s4 w2) (f1.trans f2) (by rw [f.K] at r2; exact r2.back f1) q2, by rw [f.K, f.mg]; exact z.go s1 f1⟩⟩
end
/-! ### a def keeps its promise -/
theorem knx_of {B : Bs} {x : Str} {st : Stmt} {ps N : List Str} {sp : FSX} {k : Nat} {f : Addr} {fd : FuncData} {ws : WSX} (F : FunD B.K x x (defArgs st) (defBody st) (defScope st) [] [] f fd) (sc : FnScope N ps (defScope st)) (hm : B.mg x = some (.ref f)) (hb : Binds B.K fd ps [])
    (hB : DSXs { B with N := N, names := (defScope st).names, k := k, fc := fun _ => true } (defBody st) ws)
    (law : ∀ G ds Qd Ed, sp G ds Qd Ed → ds.length = ps.length ∧ ws G { nx := fun _ => Qd (.fz .non), rt := Qd } Ed (startD N ds)) : KnX B (k + 1) x st ps sp := by
  refine ⟨f, fd, F.okG sc (fun vs H Q E h => ?_) (fun cdv A outer s H vs Q E hr hn h => ?_), hm, F, hb⟩
  · obtain ⟨G, F, ds, Qd, Ed, s1, s2, s3, r, h, _⟩ := h
    rw [r.len]
    exact (law G ds Qd Ed h).1
  · obtain ⟨G, F0, ds, Qd, Ed, s1, s2, s3, r, h, g, x⟩ := h
    obtain ⟨hl, hw⟩ := law G ds Qd Ed h
    refine ⟨tSX B.K B.mg E ws, hB _ E ⟨rfl, rfl, rfl, rfl, rfl, rfl, rfl, rfl, hr, passes_of rfl, fun _ _ => rfl, sc.kind, hn, fun _ _ z => nomatch z⟩ (takes_of rfl rfl rfl rfl), G, H, F0, F0, startD N ds, _, Ed, ⟨⟨s1, s2, s3, fun i sv q => ?_, ?_⟩, Same.refl _, Fr.refl, fun i sv a q ho _ => ?_, fun i j sv sw a _ q ho _ _ _ _ => ?_⟩, hw, ⟨fun σ' H' F' ρ' e s' q => ?_, fun _ _ _ _ _ _ q => q.elim, fun _ _ _ _ _ _ q => q.elim, fun v H' F' sv q1 q2 q3 q4 q5 q6 q7 => g v H' F' sv q1 q2 q3 q4 q5 q6 q7⟩, x⟩
    · obtain ⟨d, rfl, z⟩ := startD_get q
      obtain ⟨v, h1, h2⟩ := r.get z
      exact ⟨v, start_get h1, h2⟩
    · have := r.len
      unfold L2.start startD
      rw [List.length_append, List.length_append, List.length_map, List.length_map, List.length_replicate, List.length_replicate, this]
    · obtain ⟨d, rfl, _⟩ := startD_get q
      cases ho
    · obtain ⟨d, rfl, _⟩ := startD_get q
      cases ho
    · exact g .non H' F' (.fz .non) (e.f0) e.r.sub e.r.res e.fr e.r.wd Rp.non q
end DL
set_option maxHeartbeats 4000000
/-! Tables of code objects that the caller keeps; a lambda is made. -/
namespace DL
open PySem PySem.Spec PyProof.Rows L2 LamX
structure TabIn (G : Gc) (T : List (Addr × Str)) : Prop where
  R : ∀ p ∈ T, G.R p.1
  tabs : ∀ H, G.Wd H → Tabs T H
  st : ∀ H H', G.Wd H → Tabs T H' → (∀ a, G.R a → (∀ p ∈ T, a ≠ p.1) → H' a = H a) → ExtK H H' → G.Wd H'
theorem TabIn.ext {G G' : Gc} {T : List (Addr × Str)} (h : TabIn G T) (e : GExt G G') : TabIn G' T :=
  ⟨fun p hp => e.R _ (h.R p hp), fun H w => h.tabs H (e.wd H w), fun H H' w t k x => e.st H H' w (h.st H H' (e.wd H w) t (fun a r n => k a (e.R a r) n) x) fun a r n => k a r fun p hp z => n (z ▸ h.R p hp)⟩
theorem tabs_kept {T : List (Addr × Str)} {H H' : Hp} (t : Tabs T H) (k : ∀ p ∈ T, H' p.1 = H p.1) (x : ExtK H H') : Tabs T H' := fun p hp => by
  obtain ⟨ps, h1, h2, h3⟩ := t p hp
  refine ⟨ps, (k p hp).trans h1, h2, fun pos cv hc => ?_⟩
  obtain ⟨c, e1, e2⟩ := h3 pos cv hc
  exact ⟨c, e1, x _ _ e2⟩
/-- a caller who keeps the tables, besides what another keeps -/
def tabGc (G : Gc) (T : List (Addr × Str)) : Gc where
  R := fun b => G.R b ∨ ∃ p ∈ T, p.1 = b
  Wd := fun H => G.Wd H ∧ Tabs T H
  live := fun H b ⟨w, t⟩ r => by
    rcases r with r | ⟨p, hp, e⟩
    · exact G.live H b w r
    · obtain ⟨ps, h, _⟩ := t p hp
      rw [← e, h]; exact fun z => nomatch z
  nt := fun H b xs ⟨w, t⟩ r => by
    rcases r with r | ⟨p, hp, e⟩
    · exact G.nt H b xs w r
    · obtain ⟨ps, h, _⟩ := t p hp
      rw [← e, h]; intro z; cases z
  st := fun H H' ⟨w, t⟩ k x => ⟨G.st H H' w (fun a r => k a (.inl r)) x, tabs_kept t (fun p hp => k p.1 (.inr ⟨p, hp, rfl⟩)) x⟩
theorem tabGc_in {G : Gc} {T : List (Addr × Str)} (n : ∀ p ∈ T, ¬ G.R p.1) : TabIn (tabGc G T) T := ⟨fun p hp => .inr ⟨p, hp, rfl⟩, fun _ w => w.2, fun H H' w t k x => ⟨G.st H H' w.1 (fun a r => k a (.inl r) fun p hp z => n p hp (z ▸ r)) x, t⟩⟩
/-- what a lambda's making leaves: only the table at P is another one -/
def OnlyAt (P : Addr) (H H' : Hp) : Prop := ∀ b o, H b = some o → b ≠ P → H' b = some o
section
variable {X : Cx} {pins : List (Addr × Obj)} {σ : L2.St} {H : Hp} {s : Shared}
theorem lam_only {T : List (Addr × Str)} {c P : Addr} {params : Arguments} {body : Expr} {scope : Scope} {pos : Pos} {E : Value → Shared → Prop} {Q : Value → Shared → Prop} (I : Inv X pins σ H s) (TB : TabB X.base X.mg c P) (hcode : X.env.code = .ref c)
    (hm : (P, X.env.qual ++ "<lambda>") ∈ T) (hu : ∀ p ∈ T, p.1 = P → p.2 = X.env.qual ++ "<lambda>") (hT : Tabs T H) (hdef : defaultsOf params X.env = ([], [])) (hfree : ∀ y ∈ scope.names, y.2 = .free → ∃ c, X.env.cells.lookup y.1 = some c)
    (h : ∀ (f c' : Addr) (pm ctv : Value) (H1 : Hp) (s' : Shared), Inv X pins σ H1 s' → OnlyAt P H H1 → Tabs T H1 →
      s'.heap.get? f = some (PySem.W.kla_obj "<lambda>" (X.env.qual ++ "<lambda>") params body scope (cloFrom X.env.cells scope.names []) pm c' ctv) → H1 f = none → f ∉ frs X.stack → H1 c' = some (CodeO c' (X.env.qual ++ "<lambda>")) → Q (.ref f) s') :
    wpAny (model X.prog X.w) X.A (eval (.Lambda params body scope pos) X.env) Q E s := by
  obtain ⟨ps, hP, ht, ha⟩ := hT _ hm
  have bP : s.heap.BuiltinsAt X.mg P := TB.bm.keeps I.bk
  have hP' : s.heap.get? P = some { cls := .none, data := .fields ps } := I.hok P _ hP
  have nofr : ∀ f, s.heap.objs.size ≤ f → f ∉ frs X.stack := fun f hf z => (List.mem_cons.mp (I.stkSub _ z)).elim (fun e => absurd (Nat.lt_of_lt_of_le (e ▸ I.lt) hf) (Nat.lt_irrefl _)) fun e => I.nofs hf e
  refine PySem.W.kla_eval hdef ?_
  cases hc : codeAmong pos ps.toList with
  | some cv =>
    obtain ⟨c', e, hco⟩ := ha pos cv hc
    subst e
    refine PySem.W.kla_makeFunctionHit (mg := X.mg) (c := c) (P := P) (ps := ps) (closure_ok hfree) I.ok.glob (I.mod.glob.keeps I.bk) hcode (TB.code.keeps I.bk) hP' ht hc bP fun ctv h' tk hx hsz => ?_
    exact h h'.objs.size c' ((X.mg "__name__").getD .none) ctv H _ (I.kept (t' := tk) fun b o e => Heap.get?_push_of_some _ (hx b o e)) (fun b o e _ => e) hT (Heap.get?_push_size _ rfl) (I.hok.fresh hsz) (nofr _ hsz) hco
  | none =>
    refine PySem.W.kla_makeFunction (mg := X.mg) (c := c) (P := P) (ps := ps) (closure_ok hfree) I.ok.glob (I.mod.glob.keeps I.bk) hcode (TB.code.keeps I.bk) hP' ht hc TB.gP bP fun c' ctv h' tk hx hge hlt hrec htb => ?_
    obtain ⟨c2, oc, vs, t, e2, hoc, hd, hv⟩ := hrec
    cases e2
    have hsz : s.heap.objs.size ≤ h'.objs.size := Nat.le_trans hge (Nat.le_of_lt hlt)
    have nC : H c' = none := I.hok.fresh hge
    have I1 := inv_table (t' := tk) (q := X.env.qual ++ "<lambda>") (more := #[rawInt pos.line, rawInt pos.col, .ref c']) (h' := h'.push (PySem.W.kla_obj "<lambda>" (X.env.qual ++ "<lambda>") params body scope (cloFrom X.env.cells scope.names []) ((X.mg "__name__").getD .none) c' ctv)) I hP
      (fun b o hb e => Heap.get?_push_of_some _ (hx b o hb e)) (Heap.get?_push_of_some _ htb) hge ⟨oc, vs, t, Heap.get?_push_of_some _ hoc, hd, hv⟩
    have only : OnlyAt P H (upd (upd H P (.tbl (ps ++ #[rawInt pos.line, rawInt pos.col, .ref c']))) c' (CodeO c' (X.env.qual ++ "<lambda>"))) := fun b o e n => by
      rw [upd_ne (ne_of_none e nC), upd_ne n]
      exact e
    have code : ∀ {c0 : Addr} {q : Str}, H c0 = some (CodeO c0 q) → c0 ≠ P := fun e z => codeO_ne ps (Option.some.inj (e.symm.trans (by rw [z]; exact hP)))
    refine h h'.objs.size c' ((X.mg "__name__").getD .none) ctv _ _ I1 only (fun p hp => ?_) (Heap.get?_push_size _ rfl) ?_ (nofr _ hsz) upd_same
    · by_cases hb : p.1 = P
      · rw [hu p hp hb, hb]
        refine ⟨_, by rw [upd_ne (ne_of_none hP nC), upd_same], by rw [Array.toList_append]; exact PySem.TriplesOk_snoc _ _ _ _ ht, fun p' cv hcv => ?_⟩
        rw [Array.toList_append] at hcv
        rcases among_app _ ht hcv with z | z
        · obtain ⟨c0, e1, e2⟩ := ha p' cv z
          exact ⟨c0, e1, only _ _ e2 (code e2)⟩
        · exact ⟨c', z, upd_same⟩
      · obtain ⟨qs, a1, a2, a3⟩ := hT p hp
        refine ⟨qs, only _ _ a1 hb, a2, fun p' cv hcv => ?_⟩
        obtain ⟨c0, e1, e2⟩ := a3 p' cv hcv
        exact ⟨c0, e1, only _ _ e2 (code e2)⟩
    · rw [upd_ne (Nat.ne_of_gt hlt), upd_ne (Nat.ne_of_gt (Nat.lt_of_lt_of_le (Heap.lt_size hP') hsz))]
      exact I.hok.fresh hsz
end
end DL
set_option maxHeartbeats 4000000
/-! A lambda without parameters that a def gets and calls, in plain data. -/
namespace DL
open PySem PySem.Spec PyProof.Rows L2 LamX

/-- the names of a lambda's body -/
def Sta.lam (S : Sta) (scope : Scope) (k : Nat) : Sta := { S with names := scope.names, k := k, fc := fun _ => false, cd := none }
theorem fam_lam {S : Sta} {X : Cx} (f : Fam S X) {A : Around} {outer : List Env} {s : Shared} {H : Hp} {E : XK} {scope : Scope} {a c : Addr} {k : Nat} (hk : scope.kind = .function) (hr : Room k (A.deeper (lamEnv X scope s.heap.objs.size a c))) (hn : NoShow A) :
    Fam (S.lam scope k) (lamCx X A outer s H E scope a c) where
  P := f.P
  w := f.w
  K := f.K
  mg := f.mg
  base := f.base
  N := f.N
  look := rfl
  calm := rfl
  room := hr
  po := passes_of rfl
  fn := fun _ z => Bool.noConfusion z
  kind := hk
  ns := hn
  cd := fun _ _ z => nomatch z

/-- a lambda, made in X at s -/
structure LamAt (X : Cx) (pins : List (Addr × Obj)) (σ : L2.St) (H : Hp) (s : Shared) (scope : Scope) (params : Arguments) (body : Expr) (l c : Addr) : Prop where
  inv : Inv X pins σ H s
  nam : LamS X.env.scope scope
  obj : ∃ pm ctv, s.heap.get? l = some (PySem.W.kla_obj "<lambda>" (X.env.qual ++ "<lambda>") params body scope (cloFrom X.env.cells scope.names []) pm c ctv)
  new : H l = none
  out : l ∉ frs X.stack
abbrev NoPar (params : Arguments) (body : Expr) (scope : Scope) : Prop := ∀ (q : Str) (cl : List (Str × Addr)) (pm cv ctv : Value), bindArgs (PySem.W.kla_fn "<lambda>" q params body scope cl pm cv ctv) ⟨[], []⟩ = pure []
section
variable {X : Cx} {pins : List (Addr × Obj)} {σ : L2.St} {H HZ : Hp} {s s1 : Shared} {scope : Scope} {params : Arguments} {body : Expr} {l c : Addr}
/-- the lambda's code runs: from a frame A above outer -/
theorem lam_runs (M : LamAt X pins σ H s scope params body l c) (np : NoPar params body scope) {A : Around} {outer : List Env} {k : Nat} {tb : TE} {Q : VK} {E : XK} (hr : Room (k + 1) A) (hn : NoShow A) (e0 : Env0 X.prog X.w X.K X.mg X.base A outer s1 HZ)
    (un : Un (frs X.stack) [] H HZ s.heap s1.heap) (lim : s1.heap.NoLimit) (hc : HZ c = some (CodeO c (X.env.qual ++ "<lambda>"))) (hok : HOk X.prog X.w HZ s1.heap)
    (hb : Room k (A.deeper (lamEnv X scope s1.heap.objs.size l c)) → PE (lamCx X A outer s1 HZ E scope l c) body tb) (h : tb σ HZ Q) :
    codeAny (model X.prog X.w) A (.call (.ref l) ⟨[], []⟩) (CR (L2.CX X.prog X.w) outer X.prog X.w HZ s1 Q E) s1 := by
  obtain ⟨pm, ctv, hl⟩ := M.obj
  have here := un.keep l _ hl M.new M.out (fun z => nomatch (show l ∈ ([] : List Addr) from z))
  obtain ⟨⟨oc, vs, t, hoc, hdc, hvc⟩, _, _⟩ := hok c _ hc
  refine PySem.W.kla_callFunE hr.depth here rfl M.nam.co M.nam.gen rfl ⟨c, oc, vs, t, rfl, hoc, hdc, hvc⟩ ?_
  rw [np]
  refine wpAny_pure (wpAny_newFunctionEnv (fun y hy => (M.nam.own y hy).2) (fun y hy => nomatch hy) (fun g ns sb => ⟨lim.fresh _ sb, ?_⟩) M.nam.kind)
  have kp : ∀ b o, s1.heap.get? b = some o → g.get? b = some o := fun b o e => sb.extBut b o (Nat.ne_of_lt (Heap.lt_size e)) (Heap.get?_push_of_some _ e)
  have J : Inv (lamCx X A outer s1 HZ E scope l c) [] σ HZ { s1 with heap := g, toks := s1.toks + ([] : List (Str × Value)).length } := lam_start2 M.inv M.nam e0 hr.hd un ns kp
  refine PySem.W.kla_codeExpr (wpAny_mono ((hb (hr.deeper _)).run [] _ _ HZ Q J h) (fun v s' z => ?_) fun _ _ z => z)
  obtain ⟨w', H', J', rv, q⟩ := z
  exact ⟨w', H', J'.os, J'.bare, J'.base, J'.hok, rv, q⟩
/-- x(), in the def g that got the lambda as x -/
theorem pe_act2 {CXg : CXT} {Eg : XK} {Ng : List Str} {qg : Str} {sg : Scope} {g : Addr} {cdg : Value} {k i : Nat} {a : Str} {pn : List (Addr × Obj)} {xe : Value → Shared → Prop} {W : WX} {E : XK} {tb : TE} {p1 p2 : Pos}
    (M : LamAt X pins σ H s scope params body l c) (np : NoPar params body scope) (tk : Takes ((cxOf CXg X.prog X.w X.K X.mg X.base Ng qg sg g cdg X.A X.stack s H Eg).tr pn xe) W) (hW : ∀ cls d σ' H', E cls d H' → W cls d σ' H')
    (hr : Room (k + 1) (X.A.deeper (envOfC qg sg s.heap.objs.size g cdg))) (hn : NoShow X.A)
    (hb : ∀ (A : Around) (outer : List Env) (s : Shared) (H : Hp), Room k (A.deeper (lamEnv X scope s.heap.objs.size l c)) → NoShow A → PE (lamCx X A outer s H E scope l c) body tb)
    (hN : Ng[i]? = some a) (hv : Vis sg a) (hd : (a == ("__debug__" : Str)) = false) (hcd : (a == ("__classdict__" : Str)) = false) :
    PE ((cxOf CXg X.prog X.w X.K X.mg X.base Ng qg sg g cdg X.A X.stack s H Eg).tr pn xe) (.Call (.Name a p1) [] [] p2) (fun σZ HZ Q => σZ[i]? = some (some (.ref l)) ∧ HZ c = some (CodeO c (X.env.qual ++ "<lambda>")) ∧ tb σ HZ Q) := by
  refine ⟨fun pinsZ sZ σZ HZ Q IZ h => ?_⟩
  obtain ⟨hs, hc, ht⟩ := h
  refine wpAny_Call_Name_kw (thn ((pe_var (pos := p1) (i := i) hN hv hd hcd).run pinsZ sZ σZ HZ (fun v H1 => v = .ref l ∧ H1 = HZ) IZ ⟨.ref l, hs, rfl, rfl⟩) fun u s1 ⟨v, H1, I1, rv, ev, eH⟩ => ?_)
  subst ev eH
  obtain rfl : u = Value.ref l := rv
  obtain ⟨pm, ctv, hl⟩ := M.obj
  refine PySem.W.callWith_F0 ⟨_, _, _, _, I1.base.keep l _ hl M.new M.out (fun z => nomatch (show l ∈ ([] : List Addr) from z))⟩ ?_
  have px : Passes (L2.CX X.prog X.w) ((cxOf CXg X.prog X.w X.K X.mg X.base Ng qg sg g cdg X.A X.stack s H Eg).tr pn xe) E := passes_call tk hW
  refine wpAny_call (codeAny_mono (lam_runs (E := E) (Q := Q) M np hr hn I1.env0 I1.base I1.nolimit hc I1.hok (fun r => hb _ _ _ _ r hn) ht) fun r s' hq => ?_)
  cases r with
  | error e => exact px pinsZ σZ H1 s1 e s' I1 hq
  | ok fl => cases fl <;> first | exact I1.after hq | exact hq.elim
end
section
variable {X : Cx} {T : List (Addr × Str)} {TT : (XK → Hp → VK → Prop) → Hp → VK → Prop} {x a : Str} {g c P : Addr} {k : Nat} {pg : Arguments} {bg : List Stmt} {sg : Scope} {dV kV doc pm cdv ct oc : Value} {an od : Option Addr} {osl : Array (Option Value)} {Ng : List Str}
    {params : Arguments} {body : Expr} {scope : Scope} {t : XK → TE} {p lpos pos : Pos}
/-- x(lambda: body): the table at P alone is another one, then x makes of the lambda what TT tells -/
theorem pe_lam (hg : Gl X x) (hm : X.mg x = some (.ref g)) (hk : PySem.W.keepIn X.K (.ref g) = true) (lk : X.K.lookup g = some ⟨oc, od, .func (PySem.W.fnOf x x pg bg sg dV kV doc pm an cdv ct), osl⟩) (hcg : PySem.W.codeIn X.K cdv x = true)
    (hb : L2.Binds X.K (PySem.W.fnOf x x pg bg sg dV kV doc pm an cdv ct) [a] []) (Sg : FnScope Ng [a] sg) (hNg : Ng[0]? = some a) (hva : Vis sg a) (hG : GivesTo X Ng x sg g cdv bg a (X.env.qual ++ "<lambda>") TT)
    (TB : TabB X.base X.mg c P) (hcode : X.env.code = .ref c) (hmT : (P, X.env.qual ++ "<lambda>") ∈ T) (hu : ∀ p ∈ T, p.1 = P → p.2 = X.env.qual ++ "<lambda>") (hr : Room (k + 2) X.A) (hn : NoShow X.A) (L : LamS X.env.scope scope) (hdef : defaultsOf params X.env = ([], [])) (np : NoPar params body scope)
    (hbody : ∀ (A : Around) (outer : List Env) (s : Shared) (H : Hp) (E : XK) (l c : Addr), Room k (A.deeper (lamEnv X scope s.heap.objs.size l c)) → NoShow A → PE (lamCx X A outer s H E scope l c) body (t E))
    (hdb : (x == ("__debug__" : Str)) = false) (hd : (a == ("__debug__" : Str)) = false) (hcd : (a == ("__classdict__" : Str)) = false) :
    PE X (.Call (.Name x p) [.Lambda params body scope lpos] [] pos) (fun σ H Q => Tabs T H ∧ ∀ H1, OnlyAt P H H1 → Tabs T H1 → TT (fun E H' Q' => t E σ H' Q') H1 Q) := by
  refine ⟨fun pins s σ H Q I ⟨hT, h⟩ => wpAny_Call_Name_kw (ld_glob I hg hm ?_ hdb)⟩
  refine PySem.W.callWith_K (h₀ := X.base) I.ok.mod.kin hk ?_ (by rfl) (by rfl)
  show wpAny _ _ (spliced ((false, eval (.Lambda params body scope lpos) X.env) :: backTo pos (starEach [] X.env))) _ _ s
  refine Calls.spliced_cons (lam_only I TB hcode hmT hu hT hdef (L.has I.ok) fun l c' pm' ctv H1 s' I1 only T1 hl hln hlr hco => ?_)
  refine Calls.spliced_nil ⟨I1.kIn, wpAny_call (codeAny_mono (run_ofS (CX := C8.CX0) (E := C8.E0) (Q := Q) (N := Ng) (ps := [a]) (us := [.ref l]) (vs := [.ref l]) lk hcg Sg hr I1.env0 (hb s' [.ref l] I1.kIn rfl) (.cons rfl .nil) rfl fun hr' => ?_) fun r s2 hq => ?_)⟩
  · obtain ⟨t', ht', hq'⟩ := hG l c' s' H1 Q (fun E H' Q' => t E σ H' Q') (fun W pn xe E p1 p2 tk hW => pe_act2 (i := 0) ⟨I1, L, ⟨_, _, hl⟩, hln, hlr⟩ np tk hW hr' hn (fun A outer s H hr2 hn2 => hbody A outer s H E l c' hr2 hn2) hNg hva hd hcd) hco (h H1 only T1)
    exact ⟨t', ht'.nox, hq'⟩
  · cases r with
    | error e => exact (show False from hq).elim
    | ok fl => cases fl <;> first | exact I1.after hq | exact False.elim hq
end

/-! ### the lambda in plain data -/
/-- what a def makes of a lambda that it calls: nothing for a run through, the thing of an error that Kc lets -/
def TTc (mg : Str → Option Value) (Kc : Str → Prop) : (XK → Hp → VK → Prop) → Hp → VK → Prop := fun tl H Q =>
  tl (fun cls d H' => ∃ n C dd v, mg n = some (.ref C) ∧ cls = .ref C ∧ d = some dd ∧ H' dd = some (DLX.thingD v) ∧ Kc n ∧ Q v H') H fun _ H' => Q .non H'
/-- x catches what a lambda raises -/
structure Catch (B : Bs) (x : Str) (Kc : Str → Prop) : Prop where
  ex : ∃ (g : Addr) (Ng : List Str) (a : Str) (pg : Arguments) (bg : List Stmt) (sg : Scope) (dV kV doc pm cdv ct oc : Value) (an od : Option Addr) (osl : Array (Option Value)), B.mg x = some (.ref g) ∧ PySem.W.keepIn B.K (.ref g) = true ∧
    B.K.lookup g = some ⟨oc, od, .func (PySem.W.fnOf x x pg bg sg dV kV doc pm an cdv ct), osl⟩ ∧ PySem.W.codeIn B.K cdv x = true ∧ L2.Binds B.K (PySem.W.fnOf x x pg bg sg dV kV doc pm an cdv ct) [a] [] ∧ FnScope Ng [a] sg ∧ Ng[0]? = some a ∧ Vis sg a ∧
    (a == ("__debug__" : Str)) = false ∧ (a == ("__classdict__" : Str)) = false ∧ ∀ (X : Cx) (q : Str), X.K = B.K → X.mg = B.mg → GivesTo X Ng x sg g cdv bg a q (TTc B.mg Kc)
abbrev IsTab (G : Gc) (P : Addr) (q : Str) : Prop := TabIn G [(P, q)]
def woCatch (P : Addr) (q : Str) (Kc : Str → Prop) (w : WOX) : WO := fun G ρ Q => IsTab G P q ∧ w G ρ (fun _ => Q (.fz .non)) fun n x => Kc n ∧ Q (.fz x)
section
variable {K : PySem.W.Frag} {G : Gc} {F H H1 : Hp} {σ : L2.St} {ρ : En} {P : Addr} {q : Str}
theorem EvR.tab (e : EvR K G F H σ ρ) (h : IsTab G P q) (o : OnlyAt P H H1) (t : Tabs [(P, q)] H1) : EvR K G F H1 σ ρ ∧ Fr G H H1 := by
  have rP : G.R P := h.R (P, q) List.mem_cons_self
  have fr : Fr G H H1 := fun b u hb nb => o b u hb fun z => nb (z ▸ rP)
  obtain ⟨ps, tP, _⟩ := h.tabs H e.wd (P, q) List.mem_cons_self
  refine ⟨e.go (Same.refl _) (fun b u hb => o b u (e.sub b u hb) fun z => ?_) fr e.res (h.st H H1 e.wd t (fun b rb nb => ?_) fun b φ hb => o b _ hb fun z => ?_), fr⟩
  · rw [z, e.res P rP] at hb; cases hb
  · cases hh : H b with
    | none => exact absurd hh (G.live H b e.wd rb)
    | some u => exact o b u hh (nb (P, q) List.mem_cons_self)
  · rw [z, tP] at hb; cases hb
end
theorem do_catch {S : Sta} {P c : Addr} {q x : Str} {Kc : Str → Prop} {k : Nat} {params : Arguments} {body : Expr} {scope : Scope} {p lpos pos : Pos} {w : WOX} (R : Catch S.toBs x Kc) (hb : DOX (S.lam scope k) body w) (TB : TabB S.base S.mg c P) (hcd : S.cd = some (c, q)) (hk : k + 2 ≤ S.k)
    (hL : lamSB ⟨.function, S.names, false, false, []⟩ scope = true := by kernel_rfl) (hg : (S.names.lookup x == some .globalImplicit) = true := by kernel_rfl) (hdb : (x == ("__debug__" : Str)) = false := by kernel_rfl)
    (hdef : ∀ env, defaultsOf params env = ([], []) := by intro _; rfl) (np : NoPar params body scope := by intro _ _ _ _ _; rfl) :
    DO S (.Call (.Name x p) [.Lambda params body scope lpos] [] pos) (woCatch P (q ++ "<lambda>") Kc w) := fun X f => by
  obtain ⟨g, Ng, a, pg, bg, sg, dV, kV, doc, pm, cdv, ct, oc, an, od, osl, hm, hkp, lk, hcg, hbi, Sg, hNg, hva, hd, hc2, hG⟩ := R.ex
  obtain ⟨e1, e2⟩ := f.cd c q hcd
  have hS : LamS X.env.scope scope := lamS_by (by
    unfold lamSB at hL ⊢
    rw [f.look]
    exact hL)
  refine (pe_lam (T := [(P, q ++ "<lambda>")]) (k := k) (t := fun E => tOX S.K S.mg E w) (glOf f hg) (by rw [f.mg]; exact hm) (by rw [f.K]; exact hkp) (by rw [f.K]; exact lk) (by rw [f.K]; exact hcg) (by rw [f.K]; exact hbi) Sg hNg hva (hG X _ f.K f.mg) (by rw [f.base, f.mg]; exact TB) e1
    (by rw [e2]; exact List.mem_cons_self) (fun p hp _ => by rw [e2]; cases hp with | head => rfl | tail _ h => cases h) (f.room.mono hk) f.ns hS (hdef _) np (fun A outer s H E l c hr hn => hb _ E (fam_lam f hS.kind hr hn) (takes_of rfl rfl rfl rfl)) hdb hd hc2).imp fun σ H Q ⟨G, F, ρ, Qd, ev, ⟨hT, hw⟩, hq⟩ => ?_
  refine ⟨hT.tabs H ev.wd, fun H1 only T1 => ?_⟩
  obtain ⟨ev1, fr1⟩ := ev.tab hT only T1
  refine ⟨G, F, ρ, _, _, ev1, hw, fun v H' F' sv s e' fr rv z => hq .non H' F' (.fz .non) s e' (fr1.trans fr) .non z, fun n C d v y H' F' s s' res fr wd hmn hdd rp z => ?_⟩
  exact ⟨n, C, d, v, hmn, rfl, rfl, hdd, z.1, hq v H' F' (.fz y) s (ev1.go s s' fr res wd) (fr1.trans fr) rp z.2⟩
end DL
set_option maxHeartbeats 4000000
/-! Defs with default values; defs that make lambdas; errors asked for their class. -/
namespace DL
open PySem PySem.Spec PyProof.Rows L2 LamX

/-! ### a last parameter that has an int as its default -/
structure KnD (B : Bs) (k : Nat) (x : Str) (st : Stmt) (ps : List Str) (dv : List Int) (sp : FS) : Prop where
  ex : ∃ f fd dus, FnG B.P B.w B.K B.mg B.base CX0 k f fd ps (spV B.K sp) ∧ B.mg x = some (.ref f) ∧ PySem.W.keepIn B.K (.ref f) = true ∧ Vals (dv.map V.int) dus ∧ Binds B.K fd ps dus
theorem KnD.mono {B : Bs} {j k : Nat} {x : Str} {st : Stmt} {ps : List Str} {dv : List Int} {sp : FS} (h : KnD B j x st ps dv sp) (hk : j ≤ k) : KnD B k x st ps dv sp := by
  obtain ⟨f, fd, dus, F, r⟩ := h.ex
  exact ⟨f, fd, dus, F.up hk, r⟩
section
variable {X : Cx} {CX : CXT} {k : Nat} {f : Addr} {fd : FuncData} {ps : List Str} {sp : Sp} {E : XK} {x : Str} {p pos : Pos} {e : Expr} {es : List Expr} {t : TA} {dvs : List V} {dus : List Value}
theorem pe_callGD (F : FnG X.prog X.w X.K X.mg X.base CX k f fd ps sp) (hr : Room k X.A) (hn : NoShow X.A) (hg : Gl X x) (hm : X.mg x = some (.ref f)) (hk : PySem.W.keepIn X.K (.ref f) = true) (hd : Vals dvs dus) (hb : Binds X.K fd ps dus) (hx : Passes CX X E)
    (ha : PA X (e :: es) t) (hdb : (x == ("__debug__" : Str)) = false) (he : starEach (e :: es) X.env = (false, eval e X.env) :: starEach es X.env) (hpl : (backTo pos (starEach es X.env)).any (·.1) = false) :
    PE X (.Call (.Name x p) (e :: es) [] pos) (fun σ H Q => t σ H fun vs H1 => sp (vs ++ dvs) H1 Q E) := by
  refine ⟨fun pins s σ H Q I h => wpAny_Call_Name_kw (ld_glob I hg hm ?_ hdb)⟩
  refine PySem.W.callWith_K (h₀ := X.base) I.ok.mod.kin hk (thn (ha.run pos pins s σ H _ I h) fun us s1 ⟨vs, H1, I1, r, q⟩ => ⟨I1.kIn, ?_⟩) he hpl
  have rr := r.append hd
  have hl : (us ++ dus).length = ps.length := by rw [← rr.length]; exact F.many q
  refine wpAny_call (codeAny_mono (callee F hr hn (hb s1 us I1.kIn hl) hx I1 rr q) fun r s' z => ?_)
  cases r with
  | error e => exact z
  | ok fl => cases fl <;> first | exact z | exact z.elim
end
def woCallD (dv : List Int) (sp : FS) (r : WA) : WO := fun G ρ Q => r G ρ fun ds => sp G (ds ++ dv.map D.int) Q
theorem do_callD {S : Sta} {j : Nat} {x : Str} {st : Stmt} {ps : List Str} {dv : List Int} {sp : FS} {e : Expr} {es : List Expr} {p pos : Pos} {r : WA} (h : KnD S.toBs j x st ps dv sp) (hj : j ≤ S.k) (hr : DA S (e :: es) r) (hg : (S.names.lookup x == some .globalImplicit) = true := by kernel_rfl)
    (hdb : (x == ("__debug__" : Str)) = false := by kernel_rfl) (he : ∀ env, starEach (e :: es) env = (false, eval e env) :: starEach es env := by intro _; rfl) (hpl : ∀ env, (backTo pos (starEach es env)).any (·.1) = false := by intro _; rfl) :
    DO S (.Call (.Name x p) (e :: es) [] pos) (woCallD dv sp r) := fun X f => by
  obtain ⟨fa, fd, dus, F, hm, hkp, hd, hb⟩ := h.ex
  rw [← f.P, ← f.w, ← f.K, ← f.mg, ← f.base] at F
  refine (pe_callGD F (f.room.mono hj) f.ns (glOf f hg) (by rw [f.mg]; exact hm) (by rw [f.K]; exact hkp) hd (by rw [f.K]; exact hb) pass0 (hr X f) hdb (he _) (hpl _)).imp fun σ H Q ⟨G, F, ρ, Qd, ev, hw, hq⟩ =>
    ⟨G, F, ρ, _, ev, hw, fun vs H1 F1 ds s1 e1 f1 r1 q1 => ⟨G, F1, ds ++ dv.map D.int, Qd, e1.sub, e1.res, e1.wd, (by rw [f.K]; exact r1.append RpL.of_ints), q1, fun v H' F' sv s2 s3 s4 f2 w2 r2 q2 =>
      hq v H' F' sv (s1.trans s2) (e1.go s2 s3 f2 s4 w2) (f1.trans f2) (by rw [f.K] at r2; exact r2.back f1) q2⟩⟩
theorem startD_ev {K : PySem.W.Frag} {G : Gc} {F H : Hp} {vs : List V} {ds : List D} {N : List Str} (s1 : Same F H) (s2 : ∀ a, G.R a → F a = none) (s3 : G.Wd H) (r : RpL K F vs ds) : Ev K G H F F H (L2.start N vs) (startD N ds) := by
  refine ⟨⟨s1, s2, s3, fun i sv q => ?_, ?_⟩, Same.refl _, Fr.refl, fun i sv a q ho _ => ?_, fun i j sv sw a _ q ho _ _ _ _ => ?_⟩
  · obtain ⟨d, rfl, z⟩ := startD_get q
    obtain ⟨v, h1, h2⟩ := r.get z
    exact ⟨v, start_get h1, h2⟩
  · unfold L2.start startD
    simp only [List.length_append, List.length_map, List.length_replicate, r.len]
  · obtain ⟨d, rfl, _⟩ := startD_get q
    cases ho
  · obtain ⟨d, rfl, _⟩ := startD_get q
    cases ho
/-- by its body -/
theorem knd_of {B : Bs} {x : Str} {st : Stmt} {ps N : List Str} {dv : List Int} {sp : FS} {k : Nat} {f : Addr} {fd : FuncData} {ws : WS} {dus : List Value} (F : FunD B.K x x (defArgs st) (defBody st) (defScope st) (dv.map V.int) [] f fd) (sc : FnScope N ps (defScope st)) (hm : B.mg x = some (.ref f)) (hd : Vals (dv.map V.int) dus) (hb : Binds B.K fd ps dus)
    (hB : DSs { B with N := N, names := (defScope st).names, k := k, fc := fun _ => true } (defBody st) ws)
    (law : ∀ G ds Qd, sp G ds Qd → ds.length = ps.length ∧ ws G { nx := fun _ => Qd (.fz .non), rt := Qd } (startD N ds)) : KnD B (k + 1) x st ps dv sp := by
  refine ⟨f, fd, dus, F.okG sc (fun vs H Q E h => ?_) (fun cdv A outer s H vs Q E hr hn h => ?_), hm, F.kp, hd, hb⟩
  · obtain ⟨G, F, ds, Qd, s1, s2, s3, r, h, _⟩ := h
    rw [r.len]
    exact (law G ds Qd h).1
  · obtain ⟨G, F0, ds, Qd, s1, s2, s3, r, h, g⟩ := h
    obtain ⟨hl, hw⟩ := law G ds Qd h
    refine ⟨tS B.K ws, PSs.nox (hB _ ⟨rfl, rfl, rfl, rfl, rfl, rfl, rfl, rfl, hr, PassesOwn.never, fun _ _ => rfl, sc.kind, hn, fun _ _ z => nomatch z⟩), G, H, F0, F0, startD N ds, _, startD_ev s1 s2 s3 r, hw, ⟨fun σ' H' F' ρ' e s' q => ?_, fun _ _ _ _ _ _ q => q.elim, fun _ _ _ _ _ _ q => q.elim, fun v H' F' sv q1 q2 q3 q4 q5 q6 q7 => g v H' F' sv q1 q2 q3 q4 q5 q6 q7⟩⟩
    exact g .non H' F' (.fz .non) (e.f0) e.r.sub e.r.res e.fr e.r.wd Rp.non q
/-! ### a def whose code object is known -/
theorem kn_ofC {B : Bs} {x : Str} {st : Stmt} {ps N : List Str} {sp : FS} {k : Nat} {f c : Addr} {fd : FuncData} {ws : WS} (F : FunD B.K x x (defArgs st) (defBody st) (defScope st) [] [] f fd) (sc : FnScope N ps (defScope st)) (hm : B.mg x = some (.ref f)) (hb : Binds B.K fd ps []) (hc : fd.code = .ref c)
    (hB : DSs { B with N := N, names := (defScope st).names, k := k, fc := fun _ => true, cd := some (c, x ++ ".<locals>.") } (defBody st) ws)
    (law : ∀ G ds Qd, sp G ds Qd → ds.length = ps.length ∧ ws G { nx := fun _ => Qd (.fz .non), rt := Qd } (startD N ds)) : Kn B (k + 1) x st ps sp := by
  refine ⟨f, fd, F.okGC sc (fun vs H Q E h => ?_) (fun A outer s H vs Q E hr hn h => ?_), hm, F, hb⟩
  · obtain ⟨G, F, ds, Qd, s1, s2, s3, r, h, _⟩ := h
    rw [r.len]
    exact (law G ds Qd h).1
  · obtain ⟨G, F0, ds, Qd, s1, s2, s3, r, h, g⟩ := h
    obtain ⟨hl, hw⟩ := law G ds Qd h
    refine ⟨tS B.K ws, PSs.nox (hB _ ⟨rfl, rfl, rfl, rfl, rfl, rfl, rfl, rfl, hr, PassesOwn.never, fun _ _ => rfl, sc.kind, hn, fun c' q' z => ?_⟩), G, H, F0, F0, startD N ds, _, startD_ev s1 s2 s3 r, hw, ⟨fun σ' H' F' ρ' e s' q => ?_, fun _ _ _ _ _ _ q => q.elim, fun _ _ _ _ _ _ q => q.elim, fun v H' F' sv q1 q2 q3 q4 q5 q6 q7 => g v H' F' sv q1 q2 q3 q4 q5 q6 q7⟩⟩
    · cases z
      exact ⟨hc, rfl⟩
    · exact g .non H' F' (.fz .non) (e.f0) e.r.sub e.r.res e.fr e.r.wd Rp.non q
/-! ### an error that a suite holds -/
/-- what its class says -/
structure ErrIs (K : PySem.W.Frag) (C : Addr) : Prop where
  hcl : (PySem.W.clsIn K C).isSome = true
  hga : PySem.W.findIn K (.ref C) "__getattribute__" = some (some (.builtin "BaseException.__getattribute__"))
  hgt : PySem.W.findIn K (.ref C) "__getattr__" = some none
  hsub : PySem.W.subIn K (.ref C) (.type "BaseException") = some true
  hdc : PySem.W.hasDictIn K C = true
  ha : PySem.W.findIn K (.ref C) "__class__" = some (some (.builtin "object.__class__"))
  hn : PySem.W.specialIn K (.builtin "object.__class__") "__get__" = some (some (.builtin "getset_descriptor.__get__"))
  htk : PySem.W.takesIn K (.builtin "object.__class__") = some true
  hm : PySem.W.mroIn K C (.type "object") = some true
  noT : PySem.W.findIn K (.ref C) "thing" = some none
def errIsB (K : PySem.W.Frag) (C : Addr) : Bool := (PySem.W.clsIn K C).isSome && (decide (PySem.W.findIn K (.ref C) "__getattribute__" = some (some (.builtin "BaseException.__getattribute__"))) && (decide (PySem.W.findIn K (.ref C) "__getattr__" = some none) && (decide (PySem.W.subIn K (.ref C) (.type "BaseException") = some true) &&
  (PySem.W.hasDictIn K C && (decide (PySem.W.findIn K (.ref C) "__class__" = some (some (.builtin "object.__class__"))) && (decide (PySem.W.specialIn K (.builtin "object.__class__") "__get__" = some (some (.builtin "getset_descriptor.__get__"))) &&
  (decide (PySem.W.takesIn K (.builtin "object.__class__") = some true) && (decide (PySem.W.mroIn K C (.type "object") = some true) && decide (PySem.W.findIn K (.ref C) "thing" = some none)))))))))
theorem errIsB_ok {K : PySem.W.Frag} {C : Addr} (h : errIsB K C = true) : ErrIs K C := by
  unfold errIsB at h
  simp only [Bool.and_eq_true, decide_eq_true_eq] at h
  obtain ⟨h1, h2, h3, h4, h5, h6, h7, h8, h9, h10⟩ := h
  exact ⟨h1, h2, h3, h4, h5, h6, h7, h8, h9, h10⟩
theorem ErrIs.xf {K : PySem.W.Frag} {C : Addr} (h : ErrIs K C) : XfC K C := ⟨h.hga, h.hgt, h.hsub, h.hdc⟩
section
variable {X : Cx} {a : Addr} {oe : Obj} {cls : Value} {d : Option Addr} {pn : List (Addr × Obj)}
/-- isinstance(e, c), e held by the suite, with a dict of its own -/
def rIsD (K : PySem.W.Frag) (cls : Value) (d : Option Addr) (a : Addr) : List V → Hp → VK → Prop := fun xs H Q => ∃ (C D : Addr) (b : Bool) (dd : Addr) (fs : List (Str × V)), cls = .ref C ∧ ErrIs K C ∧ d = some dd ∧ H dd = some (.xd fs) ∧ xs = [.ref a, .ref D] ∧ PySem.W.kitOne K (.ref C) (.ref D) = some b ∧ Q (.bl b) H
theorem call_isD (hz : Zc cls d oe) (hf : ∃ vs, oe.data = .fields vs) : CallR (X.suite a ((a, oe) :: pn)) (.builtin "isinstance") (rIsD X.K cls d a) := by
  intro pins s σ H xs us Q I r ⟨C, D, b, dd, fs, ec, T, ed, hd, ex, hk, q⟩
  subst ec ed ex
  cases r with
  | cons r1 r =>
    cases r with
    | cons r2 r =>
      cases r
      cases r1
      cases r2
      have ho : ObjOk X.prog X.w H s.heap dd (.xd fs) := I.hok dd _ hd
      obtain ⟨mA, ns, _⟩ := ho
      obtain ⟨od, ho, _⟩ := lookIn_ns ns
      obtain ⟨hg, _⟩ := I.pin (a, oe) (List.mem_append.mpr (.inl List.mem_cons_self))
      obtain ⟨vs, hv⟩ := hf
      have J : PySem.W.InstAt s.heap a oe C (some od) := ⟨hg, hz.1, by unfold PySem.W.notCls; rw [hv] <;> rfl, by rw [hz.2]; exact ho⟩
      exact PySem.W.kia_one (PySem.W.kitx_exc T.hcl T.hga T.hgt T.hsub T.ha T.hn T.htk T.hm) I.kIn J hk (fun z => nomatch z) fun tk => ⟨.bl b, H, I.kept (t' := tk) fun _ _ z => z, rfl, q⟩
/-- e.thing, e in slot i -/
theorem pe_thing {i : Nat} {n : Str} {np pos : Pos} (hz : Zc cls d oe) (hf : ∃ vs, oe.data = .fields vs) (hN : X.N[i]? = some n) (hv : Vis X.env.scope n) (hd : (n == ("__debug__" : Str)) = false) (hcd : (n == ("__classdict__" : Str)) = false) (hb : attributeBase (.Name n np) "thing" X.env (eval (.Name n np) X.env) = eval (.Name n np) X.env := by rfl) :
    PE (X.suite a ((a, oe) :: pn)) (.Attribute (.Name n np) "thing" pos) (fun σ H Q => σ[i]? = some (some (.ref a)) ∧ ∃ (C dd : Addr) (v : V), cls = .ref C ∧ ErrIs X.K C ∧ d = some dd ∧ H dd = some (DLX.thingD v) ∧ Q v H) :=
  ⟨fun pins s σ H Q I ⟨hs, C, dd, v, ec, T, ed, hdd, q⟩ => (pe_xf (C := C) (te := fun σ H Q => ∃ v, σ[i]? = some (some v) ∧ Q v H) T.xf T.noT hz hf (pe_var (X := X.suite a ((a, oe) :: pn)) (i := i) hN hv hd hcd) hb).run pins s σ H Q I ⟨_, hs, rfl, ec, dd, _, v, ed, hdd, (by rw [List.lookup_cons, beq_self_eq_true]), q⟩⟩
end
end DL
set_option maxHeartbeats 4000000
/-! x.bit_length(), ~x, two places of an own list stored at once. -/
namespace DL
open PySem PySem.Spec PyProof.Rows L2
def wBits (w : W) : W := fun G ρ Q => w G ρ fun d => ∃ i, d = .int i ∧ Q (.int (Builtin.Int.intBits i : Nat))
def wInv (w : W) : W := fun G ρ Q => w G ρ fun d => ∃ i, d = .int i ∧ Q (.int (Builtin.bitNot i))
section
variable {S : Sta} {a e : Expr} {pos apos : Pos} {w : W}
theorem de_bits (ha : DE S a w) (hb : ∀ env, attributeBase a "bit_length" env (eval a env) = eval a env := by intro _; rfl) (hl : (apos.endLine == pos.line) = true := by rfl) : DE S (.Call (.Attribute a "bit_length" apos) [] [] pos) (wBits w) := fun X f =>
  (pe_bits (ha X f) (hb _) hl).imp fun σ H Q ⟨G, F, ρ, Qd, ev, hw, hq⟩ => ⟨G, F, ρ, _, ev, hw, fun v H1 F1 d s1 e1 f1 r1 ⟨i, ei, q1⟩ => by
    subst ei
    cases r1
    exact ⟨i, rfl, hq _ H1 F1 _ s1 e1 f1 (.int _) q1⟩⟩
theorem de_inv (ha : DE S a w) : DE S (.UnaryOp .Invert a pos) (wInv w) := fun X f => (pe_un un_inv (ha X f)).imp fun σ H Q ⟨G, F, ρ, Qd, ev, hw, hq⟩ =>
  ⟨G, F, ρ, _, ev, hw, fun v H1 F1 d s1 e1 f1 r1 ⟨i, ei, q1⟩ => by
    subst ei
    cases r1
    exact ⟨i, rfl, hq _ H1 F1 _ s1 e1 f1 (.int _) q1⟩⟩
end
/-- int(a bool) -/
def oIntB : List D → (SV → Prop) → Prop := fun ds Q => ∃ b : Bool, ds = [.bl b] ∧ Q (.fz (.int (if b = true then 1 else 0)))
theorem cd_intB {S : Sta} : CD S (.type "int") oIntB := fun X f => call_int1.imp fun vs H Q ⟨G, F, σ, ρ, ds, Qd, ev, rl, ⟨b, e, q⟩, hq⟩ => by
  subst e
  obtain ⟨u, rfl, r⟩ := rl.one
  cases r
  exact .inr ⟨b, rfl, ev.giv (.int _) q hq⟩
/-- a[i], a[j] = x, y of a tuple -/
def wSto2 (i : Nat) (w1 w2 : W) (wv : WV) : WS := fun G E ρ => wv G ρ fun d ρ' => ∃ x y, tupsOf d = some [x, y] ∧
  wStoreIx i w1 (fun _ ρ Q => Q x ρ) G { E with nx := fun ρ2 => wStoreIx i w2 (fun _ ρ Q => Q y ρ) G E ρ2 } ρ'
section
variable {S : Sta} {e k1 k2 : Expr} {pos p p2 tp1 tp2 tp : Pos} {ck : Nat} {wk w1 w2 : W} {wv : WV} {i : Nat} {x : Str}
theorem swap_subs {e1 e2 k1 k2 a b : Expr} {p1 p2 p3 tp : Pos} {ck c2 : Nat} (env : Env) : swappedStores [.Tuple [.Subscript e1 k1 p1, .Subscript e2 k2 p2] ck tp] (.Tuple [a, b] c2 p3) env = pure none := by
  unfold swappedStores
  dsimp only
  split
  · rfl
  · split
    · rfl
    · rfl
theorem sto_one {G : Gc} {H0 F0 F1 H1 : Hp} {σ : St} {ρ1 : En} {E : EndsD} {v : V} {d : D} (ev1 : Ev S.K G H0 F0 F1 H1 σ ρ1) (rx : Rp S.K F1 v d) (hw : wStoreIx i wk (fun _ ρ Q => Q d ρ) G E ρ1) {Q : St → Hp → Prop} (hq : ∀ H3 ρ3, Ev S.K G H0 F0 F1 H3 σ ρ3 → E.nx ρ3 → Q σ H3) :
    gSub (fun σ H Q => ∃ v, σ[i]? = some (some v) ∧ Q v H) (tD S.K wk) L2.rSetL v σ H1 Q := by
  obtain ⟨⟨xs0, q0⟩, hw2⟩ := hw
  obtain ⟨a, vs0, hu, h2, _, _⟩ := ownList ev1 q0
  refine ⟨.ref a, hu, G, F1, ρ1, _, ev1.r, hw2, fun kv H2 F2 kd s2 e2 fr2 rk ⟨kk, j, xs, ek, q, hj, z⟩ => ?_⟩
  have ev2 := ev1.go s2 e2 fr2
  obtain ⟨a', vs, h1', h3, h4, h5⟩ := ownList ev2 q
  rw [hu] at h1'
  cases h1'
  subst ek
  cases rk
  exact ⟨a, vs, kk, j, rfl, rfl, h3, by rw [h4.len]; exact hj, hq _ _ (ev2.chg q hu (h4.set rx j) h5) z⟩
theorem ds_sto2 (hv : DV S e wv) (hk1 : DE S k1 w1) (hk2 : DE S k2 w2) (hN : (S.N[i]? == some x) = true := by kernel_rfl) (hx : (S.names.lookup x == some .local || S.names.lookup x == some .cell || S.names.lookup x == some .free) = true := by kernel_rfl) (hd : (x == ("__debug__" : Str)) = false := by kernel_rfl) (hcd : (x == ("__classdict__" : Str)) = false := by kernel_rfl)
    (ha1 : ∀ env v, assign (.Subscript (.Name x p) k1 tp1) env v = (do
      let ov ← holding [v] (eval (.Name x p) env)
      let iv ← holding [v, ov] (eval k1 env)
      standAt tp1
      holding [v, ov, iv] (setItem ov iv v)
      release [v, ov, iv] []) := by intro _ _; rfl)
    (ha2 : ∀ env v, assign (.Subscript (.Name x p2) k2 tp2) env v = (do
      let ov ← holding [v] (eval (.Name x p2) env)
      let iv ← holding [v, ov] (eval k2 env)
      standAt tp2
      holding [v, ov, iv] (setItem ov iv v)
      release [v, ov, iv] []) := by intro _ _; rfl)
    (hs : ∀ env, swapsWithSole [.Tuple [.Subscript (.Name x p) k1 tp1, .Subscript (.Name x p2) k2 tp2] ck tp] e pos.line env = pure false := by intro _; rfl) (hw : ∀ env, swappedStores [.Tuple [.Subscript (.Name x p) k1 tp1, .Subscript (.Name x p2) k2 tp2] ck tp] e env = pure none := by first | (intro _; rfl) | exact fun _ => swap_subs _)
    (h1 : ∀ env, (assignEach [.Tuple [.Subscript (.Name x p) k1 tp1, .Subscript (.Name x p2) k2 tp2] ck tp] env).map (·.2) = [assign (.Tuple [.Subscript (.Name x p) k1 tp1, .Subscript (.Name x p2) k2 tp2] ck tp) env] := by intro _; rfl)
    (h2 : ∀ env, (assignEach [.Subscript (.Name x p) k1 tp1, .Subscript (.Name x p2) k2 tp2] env).map (·.2) = assign (.Subscript (.Name x p) k1 tp1) env :: (assignEach [.Subscript (.Name x p2) k2 tp2] env).map (·.2) := by intro _; rfl)
    (h3 : ∀ env, (assignEach [.Subscript (.Name x p2) k2 tp2] env).map (·.2) = assign (.Subscript (.Name x p2) k2 tp2) env :: (assignEach [] env).map (·.2) := by intro _; rfl)
    (h4 : ∀ env, (assignEach [.Subscript (.Name x p) k1 tp1, .Subscript (.Name x p2) k2 tp2] env).length = 2 := by intro _; rfl) (h5 : ∀ env, (assignEach [.Subscript (.Name x p) k1 tp1, .Subscript (.Name x p2) k2 tp2] env).findIdx? (·.1) = none := by intro _; rfl) :
    DS S (.Assign [.Tuple [.Subscript (.Name x p) k1 tp1, .Subscript (.Name x p2) k2 tp2] ck tp] e pos) (wSto2 i w1 w2 wv) := fun X f => by
  refine (ps_asg (hv X f) (pg_tup f.calm (pgs_cons (pg_sub (pvN f hN hx hd hcd) (hk1 X f) set_list (ha1 _)) (pgs_cons (pg_sub (pvN f hN hx hd hcd) (hk2 X f) set_list (ha2 _)) pgs_nil (h3 _)) (h2 _)) (h4 _) (h5 _)) (hs _) (hw _) (h1 _)).imp fun D σ H ⟨G, H0, F0, F, ρ, E, ev, hw, g⟩ => ?_
  refine ⟨G, H0, F0, F, ρ, _, ev, hw, fun v H1 F1 d ρ1 ev1 s1 r1 ⟨dx, dy, ed, hw2⟩ => ?_⟩
  obtain ⟨a, vs, rfl, hsq, rr⟩ := rp_tups r1 ed
  cases rr with
  | cons rx rr =>
    cases rr with
    | cons ry rr =>
      cases rr
      refine ⟨a, _, rfl, by rw [f.K]; exact Same.sqt ev1.r.sub hsq, rfl, _, _, rfl, sto_one ev1 rx hw2 fun H3 ρ3 ev3 z => ?_⟩
      exact ⟨_, _, rfl, sto_one ev3 ry z fun H4 ρ4 ev4 z4 => ⟨rfl, g.nx _ _ F1 _ ev4 s1 z4⟩⟩
end
/-! #### continuations -/
section
variable {G : Gc} {ρ : En} {E : EndsD} {Q : D → Prop} {wa wb : W} {wv : WV} {i : Nat}
def kBits (d : D) (Q : D → Prop) : Prop := ∃ i, d = .int i ∧ Q (.int (Builtin.Int.intBits i : Nat))
def kInv (d : D) (Q : D → Prop) : Prop := ∃ i, d = .int i ∧ Q (.int (Builtin.bitNot i))
@[simp ↓] theorem s_callD {dv : List Int} {sp : FS} {r : WA} {Qo : SV → Prop} : woCallD dv sp r G ρ Qo ↔ r G ρ fun ds => sp G (ds ++ dv.map D.int) Qo := Iff.rfl
@[simp ↓] theorem s_setT {wg : WG} : wSetT wg wv G E ρ ↔ wv G ρ fun d ρ' => wg d ρ' E.nx := Iff.rfl
@[simp ↓] theorem s_bits : wBits wa G ρ Q ↔ wa G ρ fun d => kBits d Q := Iff.rfl
@[simp ↓] theorem s_inv : wInv wa G ρ Q ↔ wa G ρ fun d => kInv d Q := Iff.rfl
@[simp ↓] theorem k_bits {i : Int} : kBits (.int i) Q ↔ Q (.int (Builtin.Int.intBits i : Nat)) := ⟨fun ⟨_, e, h⟩ => by cases e; exact h, fun h => ⟨i, rfl, h⟩⟩
@[simp ↓] theorem k_inv {i : Int} : kInv (.int i) Q ↔ Q (.int (Builtin.bitNot i)) := ⟨fun ⟨_, e, h⟩ => by cases e; exact h, fun h => ⟨i, rfl, h⟩⟩
def kTwo (d : D) (K : D → D → Prop) : Prop := ∃ x y, tupsOf d = some [x, y] ∧ K x y
@[simp ↓] theorem s_sto2 : wSto2 i wa wb wv G E ρ ↔ wv G ρ fun d ρ' => kTwo d fun x y => kOw ρ' i ∧ wa G ρ' fun kd => kSto ρ' i kd x fun ρ2 => kOw ρ2 i ∧ wb G ρ2 fun kd2 => kSto ρ2 i kd2 y E.nx := Iff.rfl
@[simp ↓] theorem k_two {x y : D} {K : D → D → Prop} : kTwo (.tup [x, y]) K ↔ K x y := ⟨fun ⟨_, _, e, h⟩ => by cases e; exact h, fun h => ⟨x, y, rfl, h⟩⟩
end
/-! #### statements that may raise -/
abbrev KeepsX (P N : List Str) (s : FSX) (w : WSX) : Prop := ∀ (G : Gc) (ds : List D) (Qd : SV → Prop) (Ed : XD), s G ds Qd Ed → ds.length = P.length ∧ w G { nx := fun _ => Qd (.fz .non), rt := Qd } Ed (startD N ds)
section
variable {G : Gc} {ρ : En} {E : EndsD} {Ed : XD} {a b : WSX} {ws : WS} {wa : W} {t : WT} {wo : WOX} {wp : WO} {n : Str} {Q : SV → Prop} {sp : FSX} {r : WA} {i : Nat}
@[simp ↓] theorem s_seqX : wSeqX a b G E Ed ρ ↔ a G { nx := fun ρ' => b G E Ed ρ', rt := E.rt, bk := E.bk, ct := E.ct } Ed ρ := Iff.rfl
@[simp ↓] theorem s_up : wUp ws G E Ed ρ ↔ ws G E ρ := Iff.rfl
@[simp ↓] theorem s_upO : wUpO wp G ρ Q Ed ↔ wp G ρ Q := Iff.rfl
@[simp ↓] theorem s_ifX : wIfX t a b G E Ed ρ ↔ t G ρ fun k => if k = true then a G E Ed ρ else b G E Ed ρ := Iff.rfl
@[simp ↓] theorem s_raise : wRaise n wa G E Ed ρ ↔ wa G ρ fun x => Ed n x := Iff.rfl
@[simp ↓] theorem s_retX : wRetX wo G E Ed ρ ↔ wo G ρ E.rt Ed := Iff.rfl
@[simp ↓] theorem s_exprX : wExprX wo G E Ed ρ ↔ wo G ρ (fun _ => E.nx ρ) Ed := Iff.rfl
@[simp ↓] theorem s_setX : wSetX i wo G E Ed ρ ↔ i < ρ.length ∧ wo G ρ (fun sv => kPut ρ i sv E.nx) Ed := Iff.rfl
@[simp ↓] theorem s_callX : woCallX sp r G ρ Q Ed ↔ r G ρ fun ds => sp G ds Q Ed := Iff.rfl
end
end DL
set_option maxHeartbeats 4000000
/-! The end of a law that makes lambdas; classes of errors by facts of the head. -/
namespace DL
open PySem PySem.Spec PyProof.Rows L2 LamX
/-- a module's empty table of code objects -/
abbrev tabO : Obj := { cls := .none, data := .fields #[] }
section
variable {P : Program} {w : World} {K : PySem.W.Frag} {mg mb : Str → Option Value} {CX : CXT} {k : Nat} {fa a : Addr} {cs : List (Addr × Addr)} {fd : FuncData} {x : Str} {sp : Sp} {s : Shared} {vs : List Value} {ns : List Int}
/-- what is tracked at the start: the script at a, the empty tables of cs -/
structure Begin (K : PySem.W.Frag) (cs : List (Addr × Addr)) (a : Addr) (H : Hp) : Prop where
  tab : ∀ p ∈ cs, H p.2 = some (.tbl #[])
  kind : ∀ b, H b = none ∨ b ∈ cs.map (·.2) ∨ ∃ o xs, H b = some (.frz o (.lst xs))
  only : ∀ b, H b ≠ none → b = a ∨ b ∈ cs.map (·.2)
  apart : H a ≠ none → K.lookup a = none
theorem law_runsT (kin : K.In s.heap) (hns : s.heap.Ns mainGlobals mg) (hb : s.heap.Ns builtinsNs mb) (hbb : ∀ y : Str, y ≠ "__name__" → mb y = bootBuiltins y) (lim : s.heap.NoLimit) (hg : s.gens = #[])
    (hT : ∀ p ∈ cs, s.heap.get? p.2 = some tabO) (nT : ∀ p ∈ cs, K.lookup p.2 = none) (C : ∀ p ∈ cs, PySem.W.CodeHd s.heap p.1 p.2)
    (hbm : ∃ (bm : Addr) (ob : Obj), mg "__builtins__" = some (.ref bm) ∧ bm ≠ builtinsNs ∧ s.heap.get? bm = some ob ∧ ob.cls = .type "module" ∧ ob.dict = some builtinsNs ∧ ob.data = .plain)
    (ha : s.heap.get? a = some { cls := .type "list", data := .seq vs.toArray }) (hr : Room k callerA) (F : ∀ base : Heap, K.In base → base.Ns mainGlobals mg → (∀ p ∈ cs, TabB base mg p.1 p.2) → FnG P w K mg base CX k fa fd [x] sp)
    (bind : ∀ (s : Shared) (u : Value), BindsTo s fd ⟨[u], []⟩ [(x, u)]) {H : Hp} (B : Begin K cs a H) (q : sp [.ref a] H (fun v _ => v = .bl true) fun _ _ _ => False) (hok : HOk P w H s.heap)
    (hCX : ∀ H e s', CX [] H s (fun _ _ _ => False) e s' → False) : codeAny (model P w) callerA (.call (.ref fa) ⟨[.ref a], []⟩) (Fine s) s := by
  have tabAt : ∀ {b : Addr}, b ∈ cs.map (·.2) → s.heap.get? b = some tabO := fun {b} hb => by
    obtain ⟨p, hp, e⟩ := List.mem_map.mp hb
    rw [← e]; exact hT p hp
  -- an object of another kind is not tracked
  have off : ∀ {b : Addr} {o : Obj}, s.heap.get? b = some o → (∀ us n, o.data ≠ .seq us n) → o.data ≠ .fields #[] → H b = none := fun {b o} e n1 n2 => by
    by_cases z : H b = none
    · exact z
    · rcases B.only b z with r | r
      · rw [r, ha] at e; cases e; exact (n1 _ _ rfl).elim
      · rw [tabAt r] at e; cases e; exact (n2 rfl).elim
  have nodict : ∀ {b : Addr} {o : Obj} {es : Array DictEntry} {ep : Nat}, s.heap.get? b = some o → o.data = .dict es ep → H b = none := fun {b o es ep} e d => off e (fun us n z => by rw [d] at z; cases z) fun z => by rw [d] at z; cases z
  have ns' : ∀ {b : Addr} {m : Str → Option Value}, s.heap.Ns b m → (hidT s.heap H).Ns b m := fun ⟨o, es, ep, e, d, r⟩ => ⟨o, es, ep, hidT_get e (nodict e d), d, r⟩
  have kin' : K.In (hidT s.heap H) := fun b o e => hidT_get (kin b o e) (by
    by_cases z : H b = none
    · exact z
    · rcases B.only b z with r | r
      · rw [r] at e z
        rw [B.apart z] at e
        cases e
      · obtain ⟨p, hp, ep⟩ := List.mem_map.mp r
        rw [← ep, nT p hp] at e
        cases e)
  obtain ⟨mc, c1, c2⟩ := lim
  have tabs : ∀ p ∈ cs, TabB (hidT s.heap H) mg p.1 p.2 := fun p hp => by
    refine ⟨?_, ?_, fun z => ?_⟩
    · obtain ⟨o, us, file, tf, flags, tg, inF, text, tt, e1, r1, r2, r3, rest⟩ := C p hp
      exact ⟨o, us, file, tf, flags, tg, inF, text, tt, hidT_get e1 (off e1 (fun us n z => by rw [r2] at z; cases z) fun z => by rw [r2] at z; cases z; simp at r3), r1, r2, r3, rest⟩
    · obtain ⟨bm, ob, b1, b2, b3, b4, b5, b6⟩ := hbm
      refine ⟨bm, ob, b1, b2, fun z => ?_, fun z => ?_, hidT_get b3 (off b3 (fun us n z => by rw [b6] at z; cases z) fun z => by rw [b6] at z; cases z), b4, b5, b6⟩
      · obtain ⟨o, es, ep, e, hd, _⟩ := hns
        rw [z, e] at b3; cases b3
        rw [hd] at b6; cases b6
      · rw [z, hT p hp] at b3; cases b3; cases b6
    · obtain ⟨o, es, ep, e, hd, _⟩ := hns
      rw [z, hT p hp] at e; cases e; cases hd
  have e0 : Env0 P w K mg (hidT s.heap H) callerA [] s H := ⟨rfl, ⟨kin', ns' hns, ⟨mb, ns' hb, hbb⟩, ⟨mc, ns' c1, c2⟩⟩, fun b o e => of_hidT e, Nat.le_of_eq (hidT_size _ _), trivial, fun b z => absurd z List.not_mem_nil, hok, .of_eq hg⟩
  refine codeAny_mono ((F _ kin' (ns' hns) tabs).goes (us := [.ref a]) (vs := [.ref a]) hr rfl e0 (bind s (.ref a)) (.cons rfl .nil) q) fun r s' z => ?_
  match r, z with
  | .error e, z => exact (hCX H e s' z).elim
  | .ok .next, z => exact False.elim z
  | .ok .brk, z => exact False.elim z
  | .ok .cont, z => exact False.elim z
  | .ok (.ret u), ⟨v, H', os, bare, un, hok', rv, (ev : v = .bl true)⟩ =>
    rw [ev] at rv
    have eu : u = Value.bool true := rv
    rw [eu]
    have stays : ∀ b o, b ∉ cs.map (·.2) → s.heap.get? b = some o → s'.heap.get? b = some o := fun b o nb e => by
      rcases B.kind b with z | z | ⟨ob, xs, z⟩
      · exact un.keep b o e z (fun i => absurd (show b ∈ ([] : List Addr) from i) List.not_mem_nil) List.not_mem_nil
      · exact absurd z nb
      · have e1 := (hok b _ z).1
        have e2 := (hok' b _ (un.frzs b ob _ z)).1
        rw [e1] at e
        rw [e2, e]
    have grown : ∀ p ∈ cs, ∃ more : Array Value, s'.heap.get? p.2 = some { cls := .none, data := .fields more } := fun p hp => by
      obtain ⟨more, z⟩ := un.tbls p.2 #[] (B.tab p hp)
      exact ⟨_, hok' p.2 _ z⟩
    refine ⟨rfl, ⟨fun b o e => ?_, fun b o e => ?_⟩, os, bare⟩
    · by_cases hb : b ∈ cs.map (·.2)
      · obtain ⟨p, hp, ep⟩ := List.mem_map.mp hb
        obtain ⟨more, hm⟩ := grown p hp
        subst ep
        rw [hT p hp] at e
        cases e
        exact .inr (.inl ⟨((C p hp).tab (hT p hp)).isCodeTable, rfl, #[], more, rfl, by rw [Array.empty_append]; exact hm⟩)
      · exact .inl (stays b o hb e)
    · by_cases hb : b ∈ cs.map (·.2)
      · obtain ⟨p, hp, ep⟩ := List.mem_map.mp hb
        obtain ⟨more, hm⟩ := grown p hp
        subst ep
        exact ⟨_, hm⟩
      · exact ⟨o, stays b o hb e⟩
theorem law_callTG (kin : K.In s.heap) (hns : s.heap.Ns mainGlobals mg) (hb : s.heap.Ns builtinsNs mb) (hbb : ∀ y : Str, y ≠ "__name__" → mb y = bootBuiltins y) (lim : s.heap.NoLimit) (hg : s.gens = #[])
    (hT : ∀ p ∈ cs, s.heap.get? p.2 = some tabO) (nT : ∀ p ∈ cs, K.lookup p.2 = none) (C : ∀ p ∈ cs, PySem.W.CodeHd s.heap p.1 p.2)
    (hbm : ∃ (bm : Addr) (ob : Obj), mg "__builtins__" = some (.ref bm) ∧ bm ≠ builtinsNs ∧ s.heap.get? bm = some ob ∧ ob.cls = .type "module" ∧ ob.dict = some builtinsNs ∧ ob.data = .plain)
    (ha : s.heap.get? a = some { cls := .type "list", data := .seq vs.toArray }) (hi : IntsAre vs ns) (hl : ns.length ≤ sizeLine) (hr : Room k callerA) (F : ∀ base : Heap, K.In base → base.Ns mainGlobals mg → (∀ p ∈ cs, TabB base mg p.1 p.2) → FnG P w K mg base CX k fa fd [x] sp)
    (bind : ∀ (s : Shared) (u : Value), BindsTo s fd ⟨[u], []⟩ [(x, u)]) (hsp : ∀ H : Hp, (∀ p ∈ cs, H p.2 = some (.tbl #[])) → (a ∉ cs.map (·.2)) → SqL K H a (ns.map V.int) → sp [.ref a] H (fun v _ => v = .bl true) fun _ _ _ => False)
    (hCX : ∀ H e s', CX [] H s (fun _ _ _ => False) e s' → False) : codeAny (model P w) callerA (.call (.ref fa) ⟨[.ref a], []⟩) (Fine s) s := by
  have rv := vals_ints hi
  have tabAt : ∀ {b : Addr}, b ∈ cs.map (·.2) → s.heap.get? b = some tabO := fun {b} hb => by
    obtain ⟨p, hp, e⟩ := List.mem_map.mp hb
    rw [← e]; exact hT p hp
  have aT : a ∉ cs.map (·.2) := fun z => by
    have e := tabAt z
    rw [ha] at e
    exact nomatch (show Data.seq vs.toArray _ = Data.fields #[] from congrArg Obj.data (Option.some.inj e))
  have mem : ∀ p ∈ cs, p.2 ∈ cs.map (·.2) := fun p hp => List.mem_map.mpr ⟨p, hp, rfl⟩
  let T : Hp := fun b => if b ∈ cs.map (·.2) then some (.tbl #[]) else none
  have tIn : ∀ {b}, b ∈ cs.map (·.2) → T b = some (.tbl #[]) := fun h => if_pos h
  have tOut : ∀ {b}, b ∉ cs.map (·.2) → T b = none := fun h => if_neg h
  cases hk : K.lookup a with
  | some o =>
    have e := kin a o hk
    rw [ha] at e
    cases e
    refine law_runsT kin hns hb hbb lim hg hT nT C hbm ha hr F bind (H := T) ⟨fun p hp => tIn (mem p hp), fun b => ?_, fun b z => ?_, fun z => absurd (tOut aT) z⟩ (hsp _ (fun p hp => tIn (mem p hp)) aT (Or.inr ⟨_, vs.toArray, _, hk, rfl, rfl, rfl, by rw [List.size_toArray, hi.length]; exact hl, by simpa using rv⟩)) (fun b u z => ?_) hCX
    · by_cases h : b ∈ cs.map (·.2)
      · exact .inr (.inl h)
      · exact .inl (tOut h)
    · by_cases h : b ∈ cs.map (·.2)
      · exact .inr h
      · exact absurd (tOut h) z
    · by_cases h : b ∈ cs.map (·.2)
      · rw [tIn h] at z; cases z; exact tabAt h
      · rw [tOut h] at z; cases z
  | none =>
    let H : Hp := fun b => if b = a then some (.frz { cls := .type "list", data := .seq vs.toArray } (.lst (ns.map V.int))) else T b
    have at_a : H a = some (.frz { cls := .type "list", data := .seq vs.toArray } (.lst (ns.map V.int))) := if_pos rfl
    have off : ∀ {b}, b ≠ a → H b = T b := fun n => if_neg n
    have tH : ∀ p ∈ cs, H p.2 = some (.tbl #[]) := fun p hp => by rw [off fun z => aT (z ▸ mem p hp)]; exact tIn (mem p hp)
    refine law_runsT kin hns hb hbb lim hg hT nT C hbm ha hr F bind (H := H) ⟨tH, fun b => ?_, fun b z => ?_, fun _ => hk⟩ (hsp _ tH aT (Or.inl (Or.inr ⟨_, at_a⟩))) (fun b u z => ?_) hCX
    · by_cases n : b = a
      · rw [n]; exact .inr (.inr ⟨_, _, at_a⟩)
      · rw [off n]
        by_cases h : b ∈ cs.map (·.2)
        · exact .inr (.inl h)
        · exact .inl (tOut h)
    · by_cases n : b = a
      · exact .inl n
      · rw [off n] at z
        by_cases h : b ∈ cs.map (·.2)
        · exact .inr h
        · exact absurd (tOut h) z
    · by_cases n : b = a
      · rw [n, at_a] at z
        cases z
        rw [n]
        exact ⟨ha, by rw [List.length_map]; exact hl, vs, _, rv, ha⟩
      · rw [off n] at z
        by_cases h : b ∈ cs.map (·.2)
        · rw [tIn h] at z; cases z; exact tabAt h
        · rw [tOut h] at z; cases z
end
theorem walk_ofTG {l : PySem.W.OpenLaw} {n k : Nat} {q : Program} {loose : List Str} {XP : (Str → Option Value) → Heap → Prop} {YP : World → Heap → Prop} {d : DefRec} {CX : CXT} {x : Str} (hn : l.most = some n) (hn2 : n ≤ sizeLine) (hdf : d.params.defaults = []) (hr : Room k callerA)
    (F : ∀ (w : World) (mg : Str → Option Value) (fa : Addr) (h : Heap), YP w h → h.Ns mainGlobals mg → mg d.name = some (.ref fa) → ∃ (K : PySem.W.Frag) (fd : FuncData) (cs : List (Addr × Addr)) (sp : Sp), K.In h ∧ (∀ p ∈ cs, h.get? p.2 = some tabO) ∧ (∀ p ∈ cs, K.lookup p.2 = none) ∧ (∀ p ∈ cs, PySem.W.CodeHd h p.1 p.2) ∧ (∀ (s : Shared) (u : Value), BindsTo s fd ⟨[u], []⟩ [(x, u)]) ∧
      (∀ (H : Hp) (a : Addr) (ns : List Int), ns.length ≤ n → (∀ p ∈ cs, H p.2 = some (.tbl #[])) → a ∉ cs.map (·.2) → SqL K H a (ns.map V.int) → sp [.ref a] H (fun v _ => v = .bl true) fun _ _ _ => False) ∧ ∀ base : Heap, K.In base → base.Ns mainGlobals mg → (∀ p ∈ cs, TabB base mg p.1 p.2) → FnG l.prog w K mg base CX k fa fd [x] sp)
    (hCX : ∀ (H : Hp) (s : Shared) (e : Value) (s' : Shared), CX [] H s (fun _ _ _ => False) e s' → False) : PySem.W.WalkO q loose XP YP l.row.toRowW d [] (fun f vs => PySem.call f vs) := by
  refine Att.attach_callB hn hdf fun w s₀ s₁ mg mb fa o pm cd doc a vs ns G Y ho hd hcd hmg hobj hints hlen hbits hg => ?_
  obtain ⟨K, fd, cs, sp, kin, hT, nT, C, hb, hsp, hF⟩ := F w mg fa _ Y G.T.g hmg
  exact law_callTG kin G.T.g G.T.b G.T.builtins G.T.nolimit hg hT nT C G.T.bmain hobj hints (Nat.le_trans hlen hn2) hr hF hb (fun H hO hA hS => hsp H a ns hlen hO hA hS) fun H e s' => hCX H s₁ e s'
/-! ### a class of errors by the head's facts -/
/-- the class's own __init__ -/
def initOf (st : Stmt) : Stmt := match st with
  | .ClassDef _ _ _ b _ _ _ _ _ _ _ => (b.filter fun s => match s with | .FunctionDef .. => true | _ => false).headD (.Pass ⟨0, 0, 0, 0⟩)
  | _ => .Pass ⟨0, 0, 0, 0⟩
def errB (K : PySem.W.Frag) (C fI : Addr) : Bool := PySem.W.excInitIn K C DLX.exT "Exception.__new__" && (PySem.W.excOver K C DLX.exT && (decide (PySem.W.findIn K (.ref C) "__setattr__" = some (some (.builtin "object.__setattr__"))) && (decide (PySem.W.findIn K (.ref C) "__init__" = some (some (.ref fI))) &&
  (decide (PySem.W.typeIn K (.ref fI) = some (.type "function")) && (PySem.W.keepIn K (.ref C) && (decide (PySem.W.typeIn K (.ref C) = some (.type "type")) && errIsB K C))))))
theorem errTxt_of {K : PySem.W.Frag} {mg : Str → Option Value} {n qi : Str} {C fI : Addr} {fd : FuncData} {p1 p2 q1 q2 q3 q4 : Pos} {st : Stmt} (gC : mg n = some (.ref C)) (h : errB K C fI = true) (F : FunD K "__init__" qi (defArgs (initOf st)) (defBody (initOf st)) (defScope (initOf st)) [] [] fI fd)
    (e1 : defArgs (initOf st) = DLX.iA p1 p2) (e2 : defBody (initOf st) = DLX.iB q1 q2 q3 q4) (e3 : defScope (initOf st) = DLX.iS) : DLX.ErrTxt K mg n qi C fI := by
  unfold errB at h
  simp only [Bool.and_eq_true, decide_eq_true_eq] at h
  obtain ⟨h1, h2, h3, h4, h5, h6, h7, h8⟩ := h
  have T := errIsB_ok h8
  obtain ⟨oc, od, dV, kV, doc, pm, an, cdv, ct, osl, rfl, lk, hcd, hD, hK⟩ := F.ex
  rw [e1, e2, e3] at lk
  have eD : dV = .none := by
    rcases hD with ⟨_, e⟩ | ⟨e, _⟩
    · exact e
    · exact absurd rfl e
  subst eD
  exact ⟨gC, h1, h2, h3, T.hga, T.hgt, T.noT, h4, h5, h6, T.hsub, h7, T.hdc, oc, od, kV, doc, pm, an, cdv, ct, osl, p1, p2, q1, q2, q3, q4, lk, hcd⟩
end DL
set_option maxHeartbeats 4000000
/-! t * 1: the tuple itself. -/
namespace L2
open PySem PySem.Spec PyProof.Rows
theorem tuple_mul1 (l : Addr) (items : Array Value) (n : Nat) (dd : Option Addr) (sl : Array (Option Value)) (u : Tok) :
    Meets (Builtin.«tuple.__mul__» ⟨[.ref l, .int 1 u], []⟩) (fun _ R s => s.heap.get? l = some { cls := .type "tuple", dict := dd, data := .seq items n, slots := sl } ∧ R (.ok (.ret (Value.ref l))) s) :=
  .of_wp fun prog w A R s h => by
    obtain ⟨hp, g, d, tk, os⟩ := s
    obtain ⟨hl, h⟩ := h
    have f1 := AutoSeq1.idx_int
    have hty : Shared.TypeIs (⟨hp, g, d, tk, os⟩ : Shared) (.ref l) "tuple" := ⟨_, hl, rfl⟩
    wp_walk using wpAny_loadPart' hl
    repeat (first
      | (refine wpAny_ite_false (by decide) ?_; wp_walk using wpAny_loadPart' hl)
      | (refine wpAny_ite_true (by simp) ?_; wp_walk using wpAny_loadPart' hl)
      | (unfold Builtin.Tuple.tupleIsExact; refine wpAny_bind (wpAny_bind (wpAny_typeOf hty (wpAny_pure ?_)))))
    exact ⟨_, rfl, h⟩
def rRep1 (K : PySem.W.Frag) : R2 := fun x y H Q => ∃ l xs, x = .ref l ∧ y = .int 1 ∧ SqT K H l xs ∧ Q (.ref l) H
section
variable {X : Cx}
theorem op_rep1 : OpR X (binaryOp .Mult) (rRep1 X.K) := by
  intro pins s σ H x y v u Q I rx ry h
  obtain ⟨l, xs, rfl, rfl, hT, q⟩ := h
  cases rx
  obtain ⟨t, rfl⟩ := ry
  obtain ⟨its, r, ⟨⟨cls, dd, data, sl⟩, ho, hc, n, hd⟩, hs⟩ := I.tuple hT
  simp only at hc hd
  subst hc hd
  exact wpAny_binaryOp_repeat_ref (T := "tuple") (U := "int") (by decide) ⟨_, ho, rfl⟩ (fun s' => typeIs_int s' 1 t) noFill_tuple_mul F.fills_int_mul F.slot_int_rmul repeat_tuple F.slot_int_index.lookup
    (call_meets F.slot_int_rmul (typeIs_int s 1 t) F.entry_int_rmul (F.args_int_rmul_2 _ _) (int_rmul_tuple 1 t l its.toArray n dd sl)
      ⟨ho, rfl, ⟨_, ho, rfl⟩, call_meets F.slot_tuple_mul ⟨_, ho, rfl⟩ F.entry_tuple_mul (F.args_tuple_mul_2 _ _) (tuple_mul1 l its.toArray n dd sl t) ⟨ho, .ref l, H, I, rfl, q⟩⟩)
end
end L2
namespace DL
open PySem PySem.Spec PyProof.Rows L2
def oMulA : D → D → (SV → Prop) → Prop := fun x y Q => oMul x y Q ∨ (∃ a, tupsOf x = some a ∧ y = .int 1 ∧ Q (.fz (.tup a)))
theorem od_mulA {S : Sta} : OD S (binaryOp .Mult) oMulA := fun X f => ((od_mul X f).or op_rep1).imp fun x y H Q ⟨G, F, σ, ρ, d, e, Qd, ev, r1, r2, h, hq⟩ => by
  rcases h with h | ⟨a, g1, rfl, q⟩
  · exact .inl ⟨G, F, σ, ρ, d, e, Qd, ev, r1, r2, h, hq⟩
  · obtain ⟨l, vs, rfl, h1, l1, r3⟩ := rp_tupsH ev.sub r1 g1
    have e2 := f.K
    rw [r2.intI]
    refine .inr ⟨l, vs, rfl, rfl, by rw [f.K]; exact h1, ev.giv r3 q hq⟩
end DL
namespace DL
open PySem PySem.Spec PyProof.Rows L2 LamX
/-! ### the start of a law that makes lambdas -/
theorem script_gc2 {K : PySem.W.Frag} {H : Hp} {a : Addr} {vs : List V} (h : SqL K H a vs) : ∃ G : Gc, G.Wd H ∧ (∀ b, G.R b → b = a) ∧ ∀ H', G.Wd H' → SqL K H' a vs := by
  have one : ∀ u : HO, (∀ xs, u ≠ .tup xs) → H a = some u → ∃ G : Gc, G.Wd H ∧ (∀ b, G.R b → b = a) ∧ ∀ H', G.Wd H' → H' a = some u := fun u hu h =>
    ⟨{ R := fun b => b = a, Wd := fun H' => H' a = some u, live := fun H' b w (r : b = a) => (by rw [r, w]; exact fun z => nomatch z), nt := fun H' b xs w (r : b = a) => (by rw [r, w]; exact fun z => hu xs (Option.some.inj z)), st := fun H' H2 w k _ => (by rw [k a rfl]; exact w) }, h, fun b r => r, fun H' w => w⟩
  rcases h with (h | ⟨o, h⟩) | h
  · obtain ⟨G, h1, h2, h3⟩ := one _ (fun xs z => by cases z) h
    exact ⟨G, h1, h2, fun H' w => .inl (.inl (h3 H' w))⟩
  · obtain ⟨G, h1, h2, h3⟩ := one _ (fun xs z => by cases z) h
    exact ⟨G, h1, h2, fun H' w => .inl (.inr ⟨o, h3 H' w⟩)⟩
  · exact ⟨{ R := fun _ => False, Wd := fun _ => True, live := fun _ _ _ r => r.elim, nt := fun _ _ _ _ r => r.elim, st := fun _ _ _ _ _ => True.intro }, True.intro, fun _ r => r.elim, fun H' _ => .inr h⟩
/-- what the law's def gets at the start -/
theorem start_tab {K : PySem.W.Frag} {H : Hp} {a P : Addr} {q : Str} {ns : List Int} {m : Nat} {sp : FS} (hl : ns.length ≤ m) (hP : H P = some (.tbl #[])) (na : a ≠ P) (hS : SqL K H a (ns.map V.int))
    (h : ∀ G : Gc, (∀ H, G.Wd H → SqL K H a (ns.map V.int)) → IsTab G P q → sp G [.ob a] fun sv => sv = .fz (.bl true)) : spV K sp [.ref a] H (fun v _ => v = .bl true) fun _ _ _ => False := by
  obtain ⟨G0, gw, gR, gs⟩ := script_gc2 hS
  refine ⟨tabGc G0 [(P, q)], noHp, [.ob a], fun sv => sv = .fz (.bl true), noHp_same, fun _ _ => rfl, ⟨gw, fun p hp => ?_⟩, .cons (.ob a) .nil, h _ (fun H' w => gs H' w.1) (tabGc_in fun p hp r => ?_), fun v H' F' sv _ _ _ _ _ r e => by subst e; cases r; rfl⟩
  · rw [List.mem_singleton.mp hp]
    exact TabS.nil hP
  · rw [List.mem_singleton.mp hp] at r
    exact na (gR _ r).symm
/-- a def's code object, by the head -/
theorem code_at {K : PySem.W.Frag} {x : Str} {a : Arguments} {b : List Stmt} {s : Scope} {fd : FuncData} (F : FunD K x x a b s [] [] (He.fAd K (x, none)) fd) : fd.code = .ref (He.cT K (x, none)).1 := by
  obtain ⟨oc, od, dV, kV, doc, pm, an, cdv, ct, osl, rfl, lk, hcd, _, _⟩ := F.ex
  obtain ⟨c, rfl⟩ := He.codeIn_ref hcd
  show Value.ref c = .ref (He.codeOf K (x, none))
  rw [He.codeOf_eq lk rfl]
theorem errB_is {K : PySem.W.Frag} {C fI : Addr} (h : errB K C fI = true) : ErrIs K C := by
  unfold errB at h
  simp only [Bool.and_eq_true, decide_eq_true_eq] at h
  exact errIsB_ok h.2.2.2.2.2.2.2
end DL
set_option maxHeartbeats 4000000
/-! Houses in plain Lean: orders in which any two lots have both and all. -/
namespace Hou
@[ext] structure Ho where
  n : Nat
  r : Nat → Nat → Bool
  out : ∀ x y, r x y = true → x < n ∧ y < n
/-- what is told of lots below n -/
def nrm (n : Nat) (r : Nat → Nat → Bool) : Ho := ⟨n, fun x y => decide (x < n) && (decide (y < n) && r x y), fun x y h => by
  obtain ⟨h1, h⟩ := Bool.and_eq_true_iff.mp h
  obtain ⟨h2, _⟩ := Bool.and_eq_true_iff.mp h
  exact ⟨of_decide_eq_true h1, of_decide_eq_true h2⟩⟩
theorem nrm_r {n : Nat} {r : Nat → Nat → Bool} {x y : Nat} (hx : x < n) (hy : y < n) : (nrm n r).r x y = r x y := by
  show (decide (x < n) && (decide (y < n) && r x y)) = r x y
  rw [decide_eq_true hx, decide_eq_true hy]; rfl
theorem Ho.same {h o : Ho} (e : h.n = o.n) (q : ∀ x y, x < h.n → y < h.n → h.r x y = o.r x y) : h = o := by
  refine Ho.ext e (funext fun x => funext fun y => ?_)
  rw [Bool.eq_iff_iff]
  constructor
  · intro z
    obtain ⟨hx, hy⟩ := h.out x y z
    rw [← q x y hx hy]; exact z
  · intro z
    obtain ⟨hx, hy⟩ := o.out x y z
    rw [← e] at hx hy
    rw [q x y hx hy]; exact z
structure IsB (h : Ho) (x y z : Nat) : Prop where
  lt : z < h.n
  l : h.r z x = true
  r : h.r z y = true
  gr : ∀ w, w < h.n → h.r w x = true → h.r w y = true → h.r w z = true
structure IsA (h : Ho) (x y z : Nat) : Prop where
  lt : z < h.n
  l : h.r x z = true
  r : h.r y z = true
  ls : ∀ w, w < h.n → h.r x w = true → h.r y w = true → h.r z w = true
structure Lat (h : Ho) : Prop where
  pos : 0 < h.n
  le : h.n ≤ 24
  refl : ∀ x, x < h.n → h.r x x = true
  asym : ∀ x y, x < h.n → y < h.n → h.r x y = true → h.r y x = true → x = y
  trans : ∀ x y z, x < h.n → y < h.n → z < h.n → h.r x y = true → h.r y z = true → h.r x z = true
  glb : ∀ x y, x < h.n → y < h.n → ∃ z, IsB h x y z
  lub : ∀ x y, x < h.n → y < h.n → ∃ z, IsA h x y z
/-- the same, of what is told below n -/
structure Lat0 (n : Nat) (r : Nat → Nat → Bool) : Prop where
  pos : 0 < n
  le : n ≤ 24
  refl : ∀ x, x < n → r x x = true
  asym : ∀ x y, x < n → y < n → r x y = true → r y x = true → x = y
  trans : ∀ x y z, x < n → y < n → z < n → r x y = true → r y z = true → r x z = true
  glb : ∀ x y, x < n → y < n → ∃ z, z < n ∧ r z x = true ∧ r z y = true ∧ ∀ w, w < n → r w x = true → r w y = true → r w z = true
  lub : ∀ x y, x < n → y < n → ∃ z, z < n ∧ r x z = true ∧ r y z = true ∧ ∀ w, w < n → r x w = true → r y w = true → r z w = true
theorem Lat0.lat {n : Nat} {r : Nat → Nat → Bool} (L : Lat0 n r) : Lat (nrm n r) where
  pos := L.pos
  le := L.le
  refl := fun x (hx : x < n) => by rw [nrm_r hx hx]; exact L.refl x hx
  asym := fun x y (hx : x < n) (hy : y < n) a b => L.asym x y hx hy (by rw [nrm_r hx hy] at a; exact a) (by rw [nrm_r hy hx] at b; exact b)
  trans := fun x y z (hx : x < n) (hy : y < n) (hz : z < n) a b => by
    rw [nrm_r hx hy] at a
    rw [nrm_r hy hz] at b
    rw [nrm_r hx hz]
    exact L.trans x y z hx hy hz a b
  glb := fun x y (hx : x < n) (hy : y < n) => by
    obtain ⟨z, hz, a, b, c⟩ := L.glb x y hx hy
    exact ⟨z, hz, by rw [nrm_r hz hx]; exact a, by rw [nrm_r hz hy]; exact b, fun w (hw : w < n) p q => by
      rw [nrm_r hw hx] at p
      rw [nrm_r hw hy] at q
      rw [nrm_r hw hz]
      exact c w hw p q⟩
  lub := fun x y (hx : x < n) (hy : y < n) => by
    obtain ⟨z, hz, a, b, c⟩ := L.lub x y hx hy
    exact ⟨z, hz, by rw [nrm_r hx hz]; exact a, by rw [nrm_r hy hz]; exact b, fun w (hw : w < n) p q => by
      rw [nrm_r hx hw] at p
      rw [nrm_r hy hw] at q
      rw [nrm_r hz hw]
      exact c w hw p q⟩
open Classical in
/-- both (false) and all (true) of two lots -/
noncomputable def op (h : Ho) (b : Bool) (x y : Nat) : Nat := match b with
  | false => if q : ∃ z, IsB h x y z then Classical.choose q else 0
  | true => if q : ∃ z, IsA h x y z then Classical.choose q else 0
section
variable {h o : Ho}
theorem op_B (L : Lat h) {x y : Nat} (hx : x < h.n) (hy : y < h.n) : IsB h x y (op h false x y) := by
  have q := L.glb x y hx hy
  unfold op
  dsimp only
  rw [dif_pos q]
  exact Classical.choose_spec q
theorem op_A (L : Lat h) {x y : Nat} (hx : x < h.n) (hy : y < h.n) : IsA h x y (op h true x y) := by
  have q := L.lub x y hx hy
  unfold op
  dsimp only
  rw [dif_pos q]
  exact Classical.choose_spec q
theorem B_one (L : Lat h) {x y z w : Nat} (a : IsB h x y z) (b : IsB h x y w) : z = w := L.asym _ _ a.lt b.lt (b.gr _ a.lt a.l a.r) (a.gr _ b.lt b.l b.r)
theorem A_one (L : Lat h) {x y z w : Nat} (a : IsA h x y z) (b : IsA h x y w) : z = w := L.asym _ _ a.lt b.lt (a.ls _ b.lt b.l b.r) (b.ls _ a.lt a.l a.r)
theorem B_eq (L : Lat h) {x y z : Nat} (hx : x < h.n) (hy : y < h.n) (a : IsB h x y z) : op h false x y = z := B_one L (op_B L hx hy) a
theorem A_eq (L : Lat h) {x y z : Nat} (hx : x < h.n) (hy : y < h.n) (a : IsA h x y z) : op h true x y = z := A_one L (op_A L hx hy) a
theorem op_lt (L : Lat h) (b : Bool) {x y : Nat} (hx : x < h.n) (hy : y < h.n) : op h b x y < h.n := by
  cases b
  · exact (op_B L hx hy).lt
  · exact (op_A L hx hy).lt
theorem op_comm (L : Lat h) (b : Bool) {x y : Nat} (hx : x < h.n) (hy : y < h.n) : op h b x y = op h b y x := by
  cases b
  · have := op_B L hy hx
    exact B_eq L hx hy ⟨this.lt, this.r, this.l, fun w hw a b => this.gr w hw b a⟩
  · have := op_A L hy hx
    exact A_eq L hx hy ⟨this.lt, this.r, this.l, fun w hw a b => this.ls w hw b a⟩
theorem op_self (L : Lat h) (b : Bool) {x : Nat} (hx : x < h.n) : op h b x x = x := by
  cases b
  · exact B_eq L hx hx ⟨hx, L.refl x hx, L.refl x hx, fun w _ a _ => a⟩
  · exact A_eq L hx hx ⟨hx, L.refl x hx, L.refl x hx, fun w _ a _ => a⟩
/-! ### maps -/
def IsMap (h o : Ho) (f : List Nat) : Prop := f.length = h.n ∧ ∀ x ∈ f, x < o.n
def at_ (f : List Nat) (x : Nat) : Nat := f.getD x 0
theorem at_lt {f : List Nat} (M : IsMap h o f) {x : Nat} (hx : x < h.n) : at_ f x < o.n := by
  have : x < f.length := by rw [M.1]; exact hx
  unfold at_
  rw [List.getD_eq_getElem?_getD, List.getElem?_eq_getElem this]
  exact M.2 _ (List.getElem_mem this)
/-- the map is not good at x, y -/
def Flt (h o : Ho) (f : List Nat) (b : Bool) (x y : Nat) : Prop := at_ f (op h b x y) ≠ op o b (at_ f x) (at_ f y)
def Good (h o : Ho) (f : List Nat) : Prop := ∀ b x y, x < h.n → y < h.n → ¬ Flt h o f b x y
theorem flt_comm (L : Lat h) (L' : Lat o) {f : List Nat} (M : IsMap h o f) {b : Bool} {x y : Nat} (hx : x < h.n) (hy : y < h.n) : Flt h o f b x y ↔ Flt h o f b y x := by
  unfold Flt
  rw [op_comm L b hx hy, op_comm L' b (at_lt M hx) (at_lt M hy)]
theorem flt_self (L : Lat h) (L' : Lat o) {f : List Nat} (M : IsMap h o f) {b : Bool} {x : Nat} (hx : x < h.n) : ¬ Flt h o f b x x := by
  unfold Flt
  rw [op_self L b hx, op_self L' b (at_lt M hx)]
  exact fun z => z rfl
theorem flt_mm (L : Lat h) (L' : Lat o) {f : List Nat} (M : IsMap h o f) {b : Bool} {x y : Nat} (hx : x < h.n) (hy : y < h.n) : Flt h o f b x y ↔ (min x y < max x y ∧ Flt h o f b (min x y) (max x y)) := by
  rcases Nat.lt_trichotomy x y with z | z | z
  · rw [Nat.min_eq_left (Nat.le_of_lt z), Nat.max_eq_right (Nat.le_of_lt z)]
    exact ⟨fun q => ⟨z, q⟩, fun q => q.2⟩
  · subst z
    exact ⟨fun q => absurd q (flt_self L L' M hx), fun q => absurd q.1 (by rw [Nat.min_self, Nat.max_self]; exact Nat.lt_irrefl _)⟩
  · rw [Nat.min_eq_right (Nat.le_of_lt z), Nat.max_eq_left (Nat.le_of_lt z), flt_comm L L' M hx hy]
    exact ⟨fun q => ⟨z, q⟩, fun q => q.2⟩
theorem good_iff (L : Lat h) (L' : Lat o) {f : List Nat} (M : IsMap h o f) : Good h o f ↔ ∀ b x y, x < y → y < h.n → ¬ Flt h o f b x y := by
  constructor
  · exact fun g b x y hxy hy => g b x y (Nat.lt_trans hxy hy) hy
  · intro g b x y hx hy q
    obtain ⟨a, c⟩ := (flt_mm L L' M hx hy).mp q
    exact g b _ _ a (Nat.max_lt.mpr ⟨hx, hy⟩) c
/-- one good map behind another one -/
theorem good_comp {p : Ho} {f g : List Nat} (L : Lat h) (L' : Lat o) (M : IsMap h o f) (M' : IsMap o p g) (a : Good h o f) (c : Good o p g) : Good h p (f.map (at_ g)) := by
  have e : ∀ x, x < h.n → at_ (f.map (at_ g)) x = at_ g (at_ f x) := fun x hx => by
    have hl : x < f.length := by rw [M.1]; exact hx
    unfold at_
    rw [List.getD_eq_getElem?_getD, List.getElem?_map, List.getElem?_eq_getElem hl]
    rw [List.getD_eq_getElem?_getD (l := f), List.getElem?_eq_getElem hl]
    rfl
  intro b x y hx hy q
  have h1 := a b x y hx hy
  have h2 := c b _ _ (at_lt M hx) (at_lt M hy)
  unfold Flt at h1 h2 q
  rw [e _ (op_lt L b hx hy), e x hx, e y hy] at q
  exact q (by rw [Classical.not_not.mp h1, Classical.not_not.mp h2])
theorem map_comp {p : Ho} {f g : List Nat} (M : IsMap h o f) (M' : IsMap o p g) : IsMap h p (f.map (at_ g)) := ⟨by rw [List.length_map]; exact M.1, fun x hx => by
  obtain ⟨y, hy, rfl⟩ := List.mem_map.mp hx
  exact at_lt M' (M.2 y hy)⟩
end
/-! ### houses of masks -/
abbrev sb (a b : Nat) : Prop := a &&& b = a
theorem sb_tr {a b c : Nat} (h : sb a b) (k : sb b c) : sb a c := by
  show a &&& c = a
  rw [← h, Nat.and_assoc, k]
theorem sb_and {a b c : Nat} : sb c (a &&& b) ↔ sb c a ∧ sb c b := by
  constructor
  · intro h
    have h1 : sb (a &&& b) a := by show a &&& b &&& a = a &&& b; rw [Nat.and_comm a b, Nat.and_assoc, Nat.and_self]
    have h2 : sb (a &&& b) b := by show a &&& b &&& b = a &&& b; rw [Nat.and_assoc, Nat.and_self]
    exact ⟨sb_tr h h1, sb_tr h h2⟩
  · rintro ⟨h, k⟩
    show c &&& (a &&& b) = c
    rw [← Nat.and_assoc, h, k]
structure Fam (ms : List Nat) : Prop where
  nd : ms.Nodup
  cl : ∀ x ∈ ms, ∀ y ∈ ms, x &&& y ∈ ms
  top : ∃ t ∈ ms, ∀ x ∈ ms, sb x t
theorem Fam.perm {ms ns : List Nat} (F : Fam ms) (p : ms.Perm ns) : Fam ns := ⟨p.nodup_iff.mp F.nd, fun x hx y hy => p.mem_iff.mp (F.cl x (p.mem_iff.mpr hx) y (p.mem_iff.mpr hy)), by
  obtain ⟨t, h1, h2⟩ := F.top
  exact ⟨t, p.mem_iff.mp h1, fun x hx => h2 x (p.mem_iff.mpr hx)⟩⟩
theorem Fam.meet {ms : List Nat} (F : Fam ms) : ∀ us : List Nat, (∀ u ∈ us, u ∈ ms) → ∃ c ∈ ms, (∀ u ∈ us, sb c u) ∧ ∀ w ∈ ms, (∀ u ∈ us, sb w u) → sb w c
  | [], _ => by
    obtain ⟨t, h1, h2⟩ := F.top
    exact ⟨t, h1, fun u hu => absurd hu List.not_mem_nil, fun w hw _ => h2 w hw⟩
  | u :: us, hu => by
    obtain ⟨c, h1, h2, h3⟩ := F.meet us fun v hv => hu v (List.mem_cons_of_mem _ hv)
    have hc := sb_and.mp (show sb (u &&& c) (u &&& c) from Nat.and_self _)
    refine ⟨u &&& c, F.cl u (hu u List.mem_cons_self) c h1, fun v hv => ?_, fun w hw q => sb_and.mpr ⟨q u List.mem_cons_self, h3 w hw fun v hv => q v (List.mem_cons_of_mem _ hv)⟩⟩
    rcases List.mem_cons.mp hv with e | e
    · rw [e]; exact hc.1
    · exact sb_tr hc.2 (h2 v e)
/-- the house of masks, in their order -/
def famR (ms : List Nat) (x y : Nat) : Bool := decide (ms.getD x 0 &&& ms.getD y 0 = ms.getD x 0)
def famH (ms : List Nat) : Ho := nrm ms.length (famR ms)
theorem getD_mem {ms : List Nat} {x : Nat} (hx : x < ms.length) : ms.getD x 0 ∈ ms := by
  rw [List.getD_eq_getElem?_getD, List.getElem?_eq_getElem hx]
  exact List.getElem_mem hx
theorem getD_of_mem {ms : List Nat} {a : Nat} (h : a ∈ ms) : ∃ x, x < ms.length ∧ ms.getD x 0 = a := by
  obtain ⟨i, hi, e⟩ := List.mem_iff_getElem.mp h
  exact ⟨i, hi, by rw [List.getD_eq_getElem?_getD, List.getElem?_eq_getElem hi]; exact e⟩
theorem getD_inj {ms : List Nat} (nd : ms.Nodup) {x y : Nat} (hx : x < ms.length) (hy : y < ms.length) (e : ms.getD x 0 = ms.getD y 0) : x = y := by
  rw [List.getD_eq_getElem?_getD, List.getD_eq_getElem?_getD, List.getElem?_eq_getElem hx, List.getElem?_eq_getElem hy] at e
  exact (List.getElem_inj nd).mp e
theorem fam_lat {ms : List Nat} (F : Fam ms) (h0 : 0 < ms.length) (h1 : ms.length ≤ 24) : Lat0 ms.length (famR ms) where
  pos := h0
  le := h1
  refl := fun x _ => decide_eq_true (Nat.and_self _)
  asym := fun x y hx hy a b => by
    have a := of_decide_eq_true a
    have b := of_decide_eq_true b
    exact getD_inj F.nd hx hy (by rw [← a, Nat.and_comm, b])
  trans := fun x y z _ _ _ a b => decide_eq_true (sb_tr (of_decide_eq_true a) (of_decide_eq_true b))
  glb := fun x y hx hy => by
    obtain ⟨z, hz, e⟩ := getD_of_mem (F.cl _ (getD_mem hx) _ (getD_mem hy))
    have q := sb_and.mp (show sb (ms.getD z 0) (ms.getD x 0 &&& ms.getD y 0) by rw [e]; exact Nat.and_self _)
    exact ⟨z, hz, decide_eq_true q.1, decide_eq_true q.2, fun w _ a b => decide_eq_true (show sb _ (ms.getD z 0) by rw [e]; exact sb_and.mpr ⟨of_decide_eq_true a, of_decide_eq_true b⟩)⟩
  lub := fun x y hx hy => by
    obtain ⟨c, h1, h2, h3⟩ := F.meet (ms.filter fun u => decide (sb (ms.getD x 0) u) && decide (sb (ms.getD y 0) u)) fun u hu => (List.mem_filter.mp hu).1
    obtain ⟨z, hz, e⟩ := getD_of_mem h1
    have up : ∀ u ∈ ms.filter (fun u => decide (sb (ms.getD x 0) u) && decide (sb (ms.getD y 0) u)), sb (ms.getD x 0) u ∧ sb (ms.getD y 0) u := fun u hu => by
      have q := (List.mem_filter.mp hu).2
      simpa using q
    refine ⟨z, hz, decide_eq_true ?_, decide_eq_true ?_, fun w hw a b => decide_eq_true ?_⟩
    · rw [e]; exact h3 _ (getD_mem hx) fun u hu => (up u hu).1
    · rw [e]; exact h3 _ (getD_mem hy) fun u hu => (up u hu).2
    · rw [e]; exact h2 _ (List.mem_filter.mpr ⟨getD_mem hw, by simpa using ⟨of_decide_eq_true a, of_decide_eq_true b⟩⟩)
/-! ### renamed houses, houses beside one another -/
theorem pull_lat {h : Ho} (L : Lat h) {f : Nat → Nat} (lt : ∀ x, x < h.n → f x < h.n) (inj : ∀ x y, x < h.n → y < h.n → f x = f y → x = y) (sur : ∀ y, y < h.n → ∃ x, x < h.n ∧ f x = y) : Lat0 h.n (fun x y => h.r (f x) (f y)) where
  pos := L.pos
  le := L.le
  refl := fun x hx => L.refl _ (lt x hx)
  asym := fun x y hx hy a b => inj x y hx hy (L.asym _ _ (lt x hx) (lt y hy) a b)
  trans := fun x y z hx hy hz a b => L.trans _ _ _ (lt x hx) (lt y hy) (lt z hz) a b
  glb := fun x y hx hy => by
    obtain ⟨z, q⟩ := L.glb _ _ (lt x hx) (lt y hy)
    obtain ⟨u, hu, e⟩ := sur z q.lt
    subst e
    exact ⟨u, hu, q.l, q.r, fun w hw a b => q.gr _ (lt w hw) a b⟩
  lub := fun x y hx hy => by
    obtain ⟨z, q⟩ := L.lub _ _ (lt x hx) (lt y hy)
    obtain ⟨u, hu, e⟩ := sur z q.lt
    subst e
    exact ⟨u, hu, q.l, q.r, fun w hw a b => q.ls _ (lt w hw) a b⟩
def prodR (h o : Ho) (x y : Nat) : Bool := h.r (x / o.n) (y / o.n) && o.r (x % o.n) (y % o.n)
theorem prod_lat {h o : Ho} (L : Lat h) (L' : Lat o) (hs : h.n * o.n ≤ 24) : Lat0 (h.n * o.n) (prodR h o) := by
  have p := L'.pos
  have d : ∀ {x}, x < h.n * o.n → x / o.n < h.n := fun {x} hx => Nat.div_lt_of_lt_mul (by rw [Nat.mul_comm]; exact hx)
  have m : ∀ {x}, x % o.n < o.n := fun {x} => Nat.mod_lt _ p
  have mk : ∀ {a b}, a < h.n → b < o.n → a * o.n + b < h.n * o.n ∧ (a * o.n + b) / o.n = a ∧ (a * o.n + b) % o.n = b := fun {a b} ha hb => by
    refine ⟨?_, ?_, ?_⟩
    · calc a * o.n + b < a * o.n + o.n := by omega
        _ = (a + 1) * o.n := by rw [Nat.add_mul, Nat.one_mul]
        _ ≤ h.n * o.n := Nat.mul_le_mul_right _ ha
    · rw [Nat.mul_comm, Nat.mul_add_div p, Nat.div_eq_of_lt hb, Nat.add_zero]
    · rw [Nat.mul_comm, Nat.mul_add_mod, Nat.mod_eq_of_lt hb]
  refine ⟨Nat.mul_pos L.pos p, hs, fun x hx => ?_, fun x y hx hy a b => ?_, fun x y z hx hy hz a b => ?_, fun x y hx hy => ?_, fun x y hx hy => ?_⟩
  · show (h.r _ _ && o.r _ _) = true
    rw [L.refl _ (d hx), L'.refl _ m]; rfl
  · obtain ⟨a1, a2⟩ := Bool.and_eq_true_iff.mp a
    obtain ⟨b1, b2⟩ := Bool.and_eq_true_iff.mp b
    have e1 := L.asym _ _ (d hx) (d hy) a1 b1
    have e2 := L'.asym _ _ m m a2 b2
    rw [← Nat.div_add_mod x o.n, ← Nat.div_add_mod y o.n, e1, e2]
  · obtain ⟨a1, a2⟩ := Bool.and_eq_true_iff.mp a
    obtain ⟨b1, b2⟩ := Bool.and_eq_true_iff.mp b
    exact Bool.and_eq_true_iff.mpr ⟨L.trans _ _ _ (d hx) (d hy) (d hz) a1 b1, L'.trans _ _ _ m m m a2 b2⟩
  · obtain ⟨z, q⟩ := L.glb _ _ (d hx) (d hy)
    obtain ⟨w, q'⟩ := L'.glb (x % o.n) (y % o.n) m m
    obtain ⟨e1, e2, e3⟩ := mk q.lt q'.lt
    refine ⟨_, e1, ?_, ?_, fun u hu a b => ?_⟩
    · show (h.r _ _ && o.r _ _) = true
      rw [e2, e3, q.l, q'.l]; rfl
    · show (h.r _ _ && o.r _ _) = true
      rw [e2, e3, q.r, q'.r]; rfl
    · obtain ⟨a1, a2⟩ := Bool.and_eq_true_iff.mp a
      obtain ⟨b1, b2⟩ := Bool.and_eq_true_iff.mp b
      show (h.r _ _ && o.r _ _) = true
      rw [e2, e3, q.gr _ (d hu) a1 b1, q'.gr _ m a2 b2]; rfl
  · obtain ⟨z, q⟩ := L.lub _ _ (d hx) (d hy)
    obtain ⟨w, q'⟩ := L'.lub (x % o.n) (y % o.n) m m
    obtain ⟨e1, e2, e3⟩ := mk q.lt q'.lt
    refine ⟨_, e1, ?_, ?_, fun u hu a b => ?_⟩
    · show (h.r _ _ && o.r _ _) = true
      rw [e2, e3, q.l, q'.l]; rfl
    · show (h.r _ _ && o.r _ _) = true
      rw [e2, e3, q.r, q'.r]; rfl
    · obtain ⟨a1, a2⟩ := Bool.and_eq_true_iff.mp a
      obtain ⟨b1, b2⟩ := Bool.and_eq_true_iff.mp b
      show (h.r _ _ && o.r _ _) = true
      rw [e2, e3, q.ls _ (d hu) a1 b1, q'.ls _ m a2 b2]; rfl
end Hou
set_option maxHeartbeats 4000000
/-! Houses, masks, maps as data. -/
namespace DL
open PySem PySem.Spec PyProof.Rows L2 Hou
abbrev eI (n : Nat) : D := .int (n : Int)
def bI (b : Bool) : Int := if b = true then 1 else 0
@[simp] theorem bI_t : bI true = 1 := rfl
@[simp] theorem bI_f : bI false = 0 := rfl
theorem bI_1 {b : Bool} : bI b = 1 ↔ b = true := by cases b <;> simp
theorem bI_0 {b : Bool} : bI b = 0 ↔ b = false := by cases b <;> simp
theorem bI_mul {a b : Bool} : bI a * bI b = bI (a && b) := by cases a <;> cases b <;> rfl
/-- a list told by places -/
abbrev tab (n : Nat) (f : Nat → D) : List D := (List.range n).map f
def hRow (h : Ho) (x : Nat) : D := .tup (tab h.n fun y => .int (bI (h.r x y)))
def hD (h : Ho) : D := .tup (tab h.n (hRow h))
abbrev tL (l : List Nat) : D := .tup (l.map eI)
/-- both, or all, of any two lots, as the program's tables -/
noncomputable def bRow (h : Ho) (b : Bool) (x : Nat) : D := .lst (tab h.n fun y => eI (op h b x y))
noncomputable def bRows (h : Ho) (b : Bool) : List D := tab h.n (bRow h b)
noncomputable def bD (h : Ho) (b : Bool) : D := .lst (bRows h b)
@[simp] theorem lst_bRows {h : Ho} {b : Bool} : D.lst (bRows h b) = bD h b := rfl
section
variable {Q : D → Prop} {Qo : SV → Prop} {ρ : En} {i j : Nat} {sv sw : SV} {K : En → Prop}
theorem k_tab {n x : Nat} {f : Nat → D} (h : x < n) : kAt (tab n f) (x : Int) Q ↔ Q (f x) := k_at (atI_nat (by rw [List.getElem?_map, List.getElem?_range h]; rfl))
theorem k_eI {l : List Nat} {x : Nat} (h : x < l.length) : kAt (l.map eI) (x : Int) Q ↔ Q (eI (at_ l x)) := k_at (atI_nat (by unfold at_; rw [List.getElem?_map, List.getElem?_eq_getElem h, List.getD_eq_getElem?_getD, List.getElem?_eq_getElem h]; rfl))
theorem k_neg1 {xs : List D} {d : D} : kAt (xs ++ [d]) (-1) Q ↔ Q d := by
  refine k_at ?_
  unfold atI ixN
  rw [if_neg (by omega), if_pos (by simp; omega)]
  simp only [Option.bind_some]
  rw [show (-1 + ((xs ++ [d]).length : Int)).toNat = xs.length by rw [List.length_append, List.length_singleton]; omega]
  simp
theorem k_putN (h : immS sv = false) : kPut ρ i sv K ↔ kS (frzAll ρ) i sv K := by unfold kPut kS put; rw [h]
theorem k_p2N (h : (immS sv && immS sw) = false) : kP2 ρ i sv j sw K ↔ kS (frzAll ρ) i sv fun ρ' => kS ρ' j sw K := by unfold kP2 kS put2; rw [h]
@[simp] theorem frz_nil : frzAll [] = [] := rfl
@[simp] theorem frz_none {ρ : En} : frzAll (none :: ρ) = none :: frzAll ρ := rfl
@[simp] theorem frz_fz {d : D} {ρ : En} : frzAll (some (.fz d) :: ρ) = some (.fz d) :: frzAll ρ := rfl
theorem tab_len {n : Nat} {f : Nat → D} : (tab n f).length = n := by simp
theorem imm_tab {n : Nat} {f : Nat → D} (h : ∀ x, x < n → imm (f x) = true) : immL (tab n f) = true := immL_all fun d hd => by
  obtain ⟨x, hx, rfl⟩ := List.mem_map.mp hd
  exact h x (List.mem_range.mp hx)
@[simp] theorem imm_hRow (h : Ho) (x : Nat) : imm (hRow h x) = true := by unfold hRow; rw [imm_tup]; exact imm_tab fun _ _ => imm_int
@[simp] theorem imm_hD (h : Ho) : imm (hD h) = true := by unfold hD; rw [imm_tup]; exact imm_tab fun x _ => imm_hRow h x
@[simp] theorem imm_bD (h : Ho) (b : Bool) : imm (bD h b) = false := by unfold bD; rfl
@[simp] theorem imm_bRow (h : Ho) (b : Bool) (x : Nat) : imm (bRow h b x) = false := by unfold bRow; rfl
theorem imm_eIs (l : List Nat) : immL (l.map eI) = true := immL_all fun d hd => by
  obtain ⟨x, _, rfl⟩ := List.mem_map.mp hd
  rfl
theorem eIs (l : List Nat) : l.map eI = (l.map fun n : Nat => (n : Int)).map D.int := by rw [List.map_map]; rfl
theorem eIs_inj : ∀ {l m : List Nat}, l.map eI = m.map eI → l = m
  | [], [], _ => rfl
  | [], _ :: _, h => by cases h
  | _ :: _, [], h => by cases h
  | x :: l, y :: m, h => by
    rw [List.map_cons, List.map_cons] at h
    injection h with h1 h2
    injection h1 with h1
    rw [eIs_inj h2, show x = y by omega]
theorem tab_tup {n m : Nat} {f g : Nat → D} (e : tab n f = tab m g) : n = m ∧ ∀ x, x < n → f x = g x := by
  have hl : n = m := by have := congrArg List.length e; simpa using this
  subst hl
  refine ⟨rfl, fun x hx => ?_⟩
  have := congrArg (fun l => l[x]?) e
  simpa [hx] using this
/-- a house is known by its data, below its size -/
theorem hD_inj {h o : Ho} (e : hD h = hD o) : h = o := by
  unfold hD at e
  injection e with e
  obtain ⟨e1, e2⟩ := tab_tup e
  refine Ho.same e1 fun x y hx hy => ?_
  have := e2 x hx
  unfold hRow at this
  injection this with this
  obtain ⟨_, e3⟩ := tab_tup this
  have := e3 y hy
  injection this with this
  cases q : h.r x y <;> cases q' : o.r x y <;> rw [q, q'] at this <;> first | rfl | (exact absurd this (by decide))
end
section
variable {Q : D → Prop} {Qo : SV → Prop} {Qa : List D → Prop} {h : Ho} {x y : Nat} {b : Bool}
theorem ix_h (hx : x < h.n) : oIx (hD h) (eI x) Q ↔ Q (hRow h x) := by unfold hD; rw [s_ixT, k_tab hx]
theorem ix_r (hy : y < h.n) : oIx (hRow h x) (eI y) Q ↔ Q (.int (bI (h.r x y))) := by unfold hRow; rw [s_ixT, k_tab hy]
theorem ix_b (hx : x < h.n) : oIx (bD h b) (eI x) Q ↔ Q (bRow h b x) := by unfold bD bRows; rw [s_ixL, k_tab hx]
theorem ix_br (hy : y < h.n) : oIx (bRow h b x) (eI y) Q ↔ Q (eI (op h b x y)) := by unfold bRow; rw [s_ixL, k_tab hy]
theorem ix_t {l : List Nat} (hx : x < l.length) : oIx (tL l) (eI x) Q ↔ Q (eI (at_ l x)) := by rw [s_ixT, k_eI hx]
@[simp ↓] theorem len_h : oLenD [hD h] Qo ↔ Qo (.fz (eI h.n)) := by unfold hD; rw [s_lenD6, tab_len]
@[simp ↓] theorem len_r : oLenD [hRow h x] Qo ↔ Qo (.fz (eI h.n)) := by unfold hRow; rw [s_lenD6, tab_len]
@[simp ↓] theorem it_h : kIt (hD h) Qa ↔ Qa (tab h.n (hRow h)) := by unfold hD; rw [k_itT]
@[simp ↓] theorem it_r : kIt (hRow h x) Qa ↔ Qa (tab h.n fun y => .int (bI (h.r x y))) := by unfold hRow; rw [k_itT]
end
/-! ### loops that keep a shape -/
theorem wFor_J {wg : WG} {wb : WS} {G : Gc} {E : EndsD} (J : En → Prop) {l : List D} {ρ : En} (h : J ρ) (hs : ∀ d ∈ l, ∀ ρ, J ρ → ∀ N : En → Prop, (∀ ρ', J ρ' → N ρ') → wg d ρ fun ρ2 => wb G { nx := N, rt := E.rt, bk := E.nx, ct := N } ρ2) (q : ∀ ρ, J ρ → E.nx ρ) : wForL wg wb G E l ρ :=
  wFor_inv (fun _ ρ => J ρ) l 0 ρ h (fun i d ρ N e hJ hN => hs d (List.mem_of_getElem? e) ρ hJ N hN) q
/-- over places -/
theorem wFor_tab {wg : WG} {wb : WS} {G : Gc} {E : EndsD} {n : Nat} {f : Nat → D} (J : Nat → En → Prop) {ρ : En} (h : J 0 ρ) (hs : ∀ x, x < n → ∀ ρ, J x ρ → ∀ N : En → Prop, (∀ ρ', J (x + 1) ρ' → N ρ') → wg (f x) ρ fun ρ2 => wb G { nx := N, rt := E.rt, bk := E.nx, ct := N } ρ2) (q : ∀ ρ, J n ρ → E.nx ρ) : wForL wg wb G E (tab n f) ρ := by
  refine wFor_inv J (tab n f) 0 ρ h (fun i d ρ N e hJ hN => ?_) (fun ρ hρ => q ρ (by simpa using hρ))
  have hi : i < n := by have := (List.getElem?_eq_some_iff.mp e).1; simpa using this
  have ed : f i = d := by simpa [hi] using e
  subst ed
  rw [Nat.zero_add] at hJ
  exact hs i hi ρ hJ N fun ρ' h' => hN ρ' (by rw [Nat.zero_add]; exact h')
theorem range_tab (n : Nat) : rangeD 0 n = tab n eI := by unfold rangeD; simp
theorem range_tab2 (a n : Nat) : rangeD (a : Int) n = tab n fun i => eI (a + i) := by unfold rangeD; simp
/-! ### comprehensions over any items -/
section
variable {α : Type} {wg : WG} {wt : WT} {we : W} {vs : List Nat} {G : Gc} {ρ : En} {g : α → D}
theorem wcL_on (p : α → Bool) (f : α → D) : ∀ (xs : List α) (acc : List D) (Q : List D → Prop),
    (∀ x ∈ xs, ∀ G', GExt G G' → ∀ (Qy : D → Prop) (Qn : Prop), (p x = true → Qy (f x)) → (p x = false → Qn) → wg (g x) (wipeD ρ vs) fun ρ2 => wt G' ρ2 fun b => if b = true then we G' ρ2 Qy else Qn) →
    acc.length + xs.length ≤ sizeLine → Q (acc ++ (xs.filter p).map f) → wcL wg wt we vs G ρ (xs.map g) acc Q
  | [], acc, Q, _, _, q => by
    rw [List.filter_nil, List.map_nil, List.append_nil] at q
    exact q
  | x :: xs, acc, Q, h, hl, q => fun G' hG => by
    have hl' : acc.length + xs.length < sizeLine := by rw [List.length_cons] at hl; omega
    refine h x List.mem_cons_self G' hG _ _ (fun hp => ⟨by omega, ?_⟩) (fun hp => ?_)
    · refine wcL_on p f xs (acc ++ [f x]) Q (fun e he => h e (List.mem_cons_of_mem _ he)) (by rw [List.length_append, List.length_singleton]; omega) ?_
      rw [List.filter_cons, if_pos hp, List.map_cons] at q
      rw [List.append_assoc]
      exact q
    · refine wcL_on p f xs acc Q (fun e he => h e (List.mem_cons_of_mem _ he)) (by omega) ?_
      rw [List.filter_cons, if_neg (by rw [hp]; exact Bool.false_ne_true)] at q
      exact q
theorem wcL_onM (f : α → D) (xs : List α) (Q : List D → Prop) (h : ∀ x ∈ xs, ∀ G', GExt G G' → ∀ Qy : D → Prop, Qy (f x) → wg (g x) (wipeD ρ vs) fun ρ2 => we G' ρ2 Qy) (hl : xs.length ≤ sizeLine) (q : Q (xs.map f)) : wcL wg wtTrue we vs G ρ (xs.map g) [] Q :=
  wcL_on (fun _ => true) f xs [] Q (fun d hd G' hG Qy Qn hy _ => by
    simp only [s_ttrue, if_true]
    exact h d hd G' hG Qy (hy rfl)) (by simpa using hl) (by
    rw [List.filter_eq_self.mpr fun _ _ => rfl]; exact q)
/-- what each turn draws is not known: only that it is good -/
theorem wcL_onA {β : Type} (e : β → D) (J : β → Prop) : ∀ (xs : List α) (acc : List β) (Q : List D → Prop),
    (∀ x ∈ xs, ∀ G', GExt G G' → ∀ Qy : D → Prop, (∀ y, J y → Qy (e y)) → wg (g x) (wipeD ρ vs) fun ρ2 => we G' ρ2 Qy) → acc.length + xs.length ≤ sizeLine → (∀ ys : List β, ys.length = xs.length → (∀ y ∈ ys, J y) → Q ((acc ++ ys).map e)) → wcL wg wtTrue we vs G ρ (xs.map g) (acc.map e) Q
  | [], acc, Q, _, _, q => by
    have := q [] rfl (by simp)
    rw [List.append_nil] at this
    exact this
  | x :: xs, acc, Q, h, hl, q => fun G' hG => by
    simp only [s_ttrue, if_true]
    rw [List.length_cons] at hl
    refine h x List.mem_cons_self G' hG _ fun y hy => ⟨by rw [List.length_map]; omega, ?_⟩
    rw [show acc.map e ++ [e y] = (acc ++ [y]).map e by rw [List.map_append]; rfl]
    refine wcL_onA e J xs (acc ++ [y]) Q (fun e he => h e (List.mem_cons_of_mem _ he)) (by rw [List.length_append, List.length_singleton]; omega) fun ys hl2 hj => ?_
    rw [List.append_assoc]
    exact q (y :: ys) (by rw [List.length_cons, hl2, List.length_cons]) fun z hz => by
      rcases List.mem_cons.mp hz with rfl | hz
      · exact hy
      · exact hj z hz
theorem wdL_on {wk wv : W} (k : α → Key) (v : α → D) : ∀ (xs : List α) (acc : List (Key × D)) (Qa : List (Key × D) → Prop),
    (∀ x ∈ xs, ∀ G', GExt G G' → ∀ Qy : Key → D → Prop, Qy (k x) (v x) → wg (g x) (wipeD ρ vs) fun ρ2 => wk G' ρ2 fun kd => wv G' ρ2 fun vd => ∃ k, kd = kD k ∧ Qy k vd) →
    acc.length + xs.length ≤ sizeLine → Qa (xs.foldl (fun a x => putD a (k x) (v x)) acc) → wdL wg wtTrue wk wv vs G ρ (xs.map g) acc Qa
  | [], acc, Qa, _, _, q => q
  | x :: xs, acc, Qa, h, hl, q => fun G' hG => by
    simp only [s_ttrue, if_true]
    rw [List.length_cons] at hl
    exact h x List.mem_cons_self G' hG (fun k vd => acc.length < sizeLine ∧ wdL wg wtTrue wk wv vs G ρ (xs.map g) (putD acc k vd) Qa) ⟨by omega, wdL_on k v xs _ Qa (fun e he => h e (List.mem_cons_of_mem _ he)) (by
      have := putD_len acc (k x) (v x)
      omega) q⟩
end
theorem enum_on {α : Type} (g : α → D) : ∀ (xs : List α) (k : Nat), enumD k (xs.map g) = (xs.zipIdx k).map fun p => .tup [eI p.2, g p.1]
  | [], _ => rfl
  | x :: xs, k => by
    rw [List.map_cons, List.zipIdx_cons, List.map_cons]
    unfold enumD
    rw [enum_on g xs (k + 1)]
theorem enum_tab (n : Nat) (g : Nat → D) : enumD 0 (tab n g) = tab n fun i => .tup [eI i, g i] := by
  rw [enum_on, List.zipIdx_eq_zip_range']
  refine List.ext_getElem? fun i => ?_
  by_cases h : i < n
  · simp [h]
  · simp [h]
/-! ### masks -/
/-- the mask of the places below n with p -/
def pm (p : Nat → Bool) : Nat → Nat
  | 0 => 0
  | n + 1 => pm p n + if p n = true then 2 ^ n else 0
theorem pm_lt (p : Nat → Bool) : ∀ n, pm p n < 2 ^ n
  | 0 => by simp [pm]
  | n + 1 => by
    have := pm_lt p n
    unfold pm
    rw [Nat.pow_succ]
    split <;> omega
theorem pm_bit (p : Nat → Bool) : ∀ n x, (pm p n).testBit x = (decide (x < n) && p x)
  | 0, x => by simp [pm]
  | n + 1, x => by
    have lt := pm_lt p n
    have ih := pm_bit p n x
    unfold pm
    by_cases hp : p n = true
    · rw [if_pos hp, Nat.add_comm]
      rcases Nat.lt_trichotomy x n with z | z | z
      · rw [Nat.testBit_two_pow_add_gt z, ih]
        simp [z, Nat.lt_succ_of_lt z]
      · subst z
        rw [Nat.testBit_two_pow_add_eq, ih]
        simp [hp]
      · have h2 : 2 ^ n + pm p n < 2 ^ x := by
          have : 2 ^ (n + 1) ≤ 2 ^ x := Nat.pow_le_pow_right (by decide) z
          rw [Nat.pow_succ] at this
          omega
        rw [Nat.testBit_lt_two_pow h2]
        simp [show ¬ x < n + 1 by omega]
    · rw [if_neg hp, Nat.add_zero, ih]
      by_cases z : x = n
      · subst z
        simp [Bool.eq_false_iff.mpr hp]
      · by_cases y : x < n
        · simp [y, Nat.lt_succ_of_lt y]
        · simp [y, show ¬ x < n + 1 by omega]
theorem pm_and (p q : Nat → Bool) (n : Nat) : pm p n &&& pm q n = pm (fun x => p x && q x) n := by
  refine Nat.eq_of_testBit_eq fun x => ?_
  rw [Nat.testBit_and, pm_bit, pm_bit, pm_bit]
  cases decide (x < n) <;> simp
theorem pm_congr {p q : Nat → Bool} : ∀ {n}, (∀ x, x < n → p x = q x) → pm p n = pm q n
  | 0, _ => rfl
  | n + 1, h => by unfold pm; rw [pm_congr fun x hx => h x (Nat.lt_succ_of_lt hx), h n (Nat.lt_succ_self n)]
theorem pm_inj {p q : Nat → Bool} {n : Nat} (e : pm p n = pm q n) : ∀ x, x < n → p x = q x := fun x hx => by
  have := congrArg (fun m => m.testBit x) e
  simpa [pm_bit, hx] using this
theorem pm_sum (p : Nat → Bool) : ∀ n, (((List.range n).filter p).map fun x : Nat => ((2 : Int) ^ x)).sum = ((pm p n : Nat) : Int)
  | 0 => rfl
  | n + 1 => by
    rw [List.range_succ, List.filter_append, List.map_append, List.sum_append, pm_sum p n, show pm p (n + 1) = pm p n + if p n = true then 2 ^ n else 0 from rfl]
    by_cases h : p n = true
    · rw [List.filter_cons, if_pos h, if_pos h]; simp
    · rw [List.filter_cons, if_neg h, if_neg h]; simp
theorem and_nat (a b : Nat) : Builtin.bitAnd (a : Int) (b : Int) = ((a &&& b : Nat) : Int) := by
  unfold Builtin.bitAnd
  simp
theorem and_not (a b : Nat) : Builtin.bitAnd (a : Int) (Builtin.bitNot (b : Int)) = (a : Int) - ((a &&& b : Nat) : Int) := by
  unfold Builtin.bitAnd
  have h1 : (0 ≤ (a : Int)) := Int.natCast_nonneg _
  have h2 : ¬ (0 ≤ Builtin.bitNot (b : Int)) := by unfold Builtin.bitNot; omega
  have h3 : (Builtin.bitNot (Builtin.bitNot (b : Int))) = b := by unfold Builtin.bitNot; omega
  simp [h1, h2, h3]
def upM (h : Ho) (x : Nat) : Nat := pm (fun y => h.r x y) h.n
def dnM (h : Ho) (y : Nat) : Nat := pm (fun x => h.r x y) h.n
section
variable {h : Ho}
theorem dn_and (L : Lat h) {x y : Nat} (hx : x < h.n) (hy : y < h.n) : dnM h x &&& dnM h y = dnM h (op h false x y) := by
  unfold dnM
  rw [pm_and]
  have q := op_B L hx hy
  refine pm_congr fun z hz => ?_
  rw [Bool.eq_iff_iff, Bool.and_eq_true]
  exact ⟨fun ⟨a, b⟩ => q.gr z hz a b, fun a => ⟨L.trans _ _ _ hz q.lt hx a q.l, L.trans _ _ _ hz q.lt hy a q.r⟩⟩
theorem up_and (L : Lat h) {x y : Nat} (hx : x < h.n) (hy : y < h.n) : upM h x &&& upM h y = upM h (op h true x y) := by
  unfold upM
  rw [pm_and]
  have q := op_A L hx hy
  refine pm_congr fun z hz => ?_
  rw [Bool.eq_iff_iff, Bool.and_eq_true]
  exact ⟨fun ⟨a, b⟩ => q.ls z hz a b, fun a => ⟨L.trans _ _ _ hx q.lt hz q.l a, L.trans _ _ _ hy q.lt hz q.r a⟩⟩
theorem dn_inj (L : Lat h) {x y : Nat} (hx : x < h.n) (hy : y < h.n) (e : dnM h x = dnM h y) : x = y := by
  have q := pm_inj e
  exact L.asym x y hx hy (by rw [← q x hx]; exact L.refl x hx) (by rw [q y hy]; exact L.refl y hy)
theorem up_inj (L : Lat h) {x y : Nat} (hx : x < h.n) (hy : y < h.n) (e : upM h x = upM h y) : x = y := by
  have q := pm_inj e
  exact L.asym x y hx hy (by rw [q y hy]; exact L.refl y hy) (by rw [← q x hx]; exact L.refl x hx)
theorem up_sub (L : Lat h) {x y : Nat} (hx : x < h.n) (hy : y < h.n) (r : h.r x y = true) : upM h y &&& upM h x = upM h y := by
  unfold upM
  rw [pm_and]
  refine pm_congr fun z hz => ?_
  rw [Bool.eq_iff_iff, Bool.and_eq_true]
  exact ⟨fun a => a.1, fun a => ⟨a, L.trans _ _ _ hx hy hz r a⟩⟩
end
/-! ### a table of masks: which lot has a mask -/
def mtab (f : Nat → Nat) (n : Nat) (v : Nat → D) : List (Key × D) := (List.range n).foldl (fun a x => putD a (.inl (f x : Int)) (v x)) []
theorem look_put {κ : Type} [DecidableEq κ] (kds : List (κ × D)) (k k2 : κ) (d : D) : lookD (putD kds k d) k2 = if k = k2 then some d else lookD kds k2 := by
  unfold putD lookD
  by_cases any : (kds.any fun kv => decide (kv.1 = k)) = true
  · rw [if_pos any]
    by_cases e : k = k2
    · subst e
      rw [if_pos rfl]
      obtain ⟨kv, hm, hk⟩ := List.any_eq_true.mp any
      induction kds with
      | nil => cases hm
      | cons y ys ih =>
        rw [List.map_cons, List.find?_cons]
        by_cases hy : y.1 = k
        · simp [hy]
        · have : kv ∈ ys := by
            rcases List.mem_cons.mp hm with z | z
            · subst z; exact absurd (of_decide_eq_true hk) hy
            · exact z
          simp only [hy, if_false, decide_false]
          exact ih (by rw [List.any_eq_true]; exact ⟨kv, this, hk⟩) this
    · rw [if_neg e]
      clear any
      induction kds with
      | nil => rfl
      | cons y ys ih =>
        rw [List.map_cons, List.find?_cons, List.find?_cons]
        by_cases hy : y.1 = k
        · have : ¬ y.1 = k2 := fun z => e (hy ▸ z)
          simp [hy, e, this]
          simpa using ih
        · rw [if_neg hy]
          cases q : decide (y.1 = k2) with
          | true => rfl
          | false => exact ih
  · rw [if_neg any, List.find?_append]
    have none_k : ∀ kv ∈ kds, ¬ kv.1 = k := fun kv hm hk => any (List.any_eq_true.mpr ⟨kv, hm, decide_eq_true hk⟩)
    by_cases e : k = k2
    · subst e
      rw [if_pos rfl, List.find?_eq_none.mpr fun kv hm => by simpa using none_k kv hm]
      simp
    · rw [if_neg e]
      simp [e]
theorem mtab_len (f : Nat → Nat) (v : Nat → D) : ∀ n, (mtab f n v).length ≤ n
  | 0 => Nat.le_refl _
  | n + 1 => by
    have := mtab_len f v n
    unfold mtab at this ⊢
    rw [List.range_succ, List.foldl_append]
    rw [List.foldl_cons, List.foldl_nil]
    exact Nat.le_trans (putD_len _ _ _) (Nat.succ_le_succ this)
theorem mtab_look {f : Nat → Nat} {v : Nat → D} : ∀ {n : Nat}, (∀ x y, x < n → y < n → f x = f y → x = y) → ∀ x, x < n → lookD (mtab f n v) (.inl (f x : Int)) = some (v x)
  | 0, _, x, hx => absurd hx (Nat.not_lt_zero _)
  | n + 1, inj, x, hx => by
    unfold mtab
    rw [List.range_succ, List.foldl_append, List.foldl_cons, List.foldl_nil, look_put]
    by_cases e : x = n
    · subst e; rw [if_pos rfl]
    · rw [if_neg fun z => e (inj x n hx (Nat.lt_succ_self n) (by injection z with z; omega))]
      exact mtab_look (fun a b ha hb => inj a b (Nat.lt_succ_of_lt ha) (Nat.lt_succ_of_lt hb)) x (by omega)
theorem vals_put {κ : Type} [DecidableEq κ] {kds : List (κ × D)} {k : κ} {d : D} (h : ∀ kv ∈ kds, imm kv.2 = true) (hd : imm d = true) : ∀ kv ∈ putD kds k d, imm kv.2 = true := fun kv hm => by
  unfold putD at hm
  split at hm
  · obtain ⟨kv', h1, rfl⟩ := List.mem_map.mp hm
    split
    · exact hd
    · exact h _ h1
  · rcases List.mem_append.mp hm with z | z
    · exact h _ z
    · rw [List.mem_singleton.mp z]; exact hd
theorem vals_mtab {f : Nat → Nat} {v : Nat → D} (hv : ∀ x, imm (v x) = true) : ∀ n, ∀ kv ∈ mtab f n v, imm kv.2 = true
  | 0, kv, h => by cases h
  | n + 1, kv, h => by
    unfold mtab at h
    rw [List.range_succ, List.foldl_append, List.foldl_cons, List.foldl_nil] at h
    exact vals_put (vals_mtab hv n) (hv n) kv h
theorem imm_mtab {f : Nat → Nat} {v : Nat → D} (hv : ∀ x, imm (v x) = true) (n : Nat) : immL ((sg (mtab f n v)).map (·.2)) = true := by
  rw [sg_vals]
  exact immL_all fun d hd => by
    obtain ⟨kv, h1, rfl⟩ := List.mem_map.mp hd
    exact vals_mtab hv n kv h1
end DL
set_option maxHeartbeats 4000000
/-! Values compared by what they are; certificates of maps; rows and plans. -/
namespace Hou
abbrev Rw := List Nat
def RowOk (h : Ho) (row : Rw) : Prop := ∀ x ∈ row, x < h.n
/-- the row behind a meeting -/
noncomputable def metR (h : Ho) (row : Rw) (p : Nat × Nat) : Rw := (row.set p.1 (op h false (at_ row p.1) (at_ row p.2))).set p.2 (op h true (at_ row p.1) (at_ row p.2))
noncomputable def behR (h : Ho) (row : Rw) (ps : List (Nat × Nat)) : Rw := ps.foldl (metR h) row
def PlanOk (m : Nat) (ps : List (Nat × Nat)) : Prop := ∀ p ∈ ps, p.1 < m ∧ p.2 < m ∧ p.1 ≠ p.2
section
variable {h o : Ho} {row : Rw} {p : Nat × Nat}
theorem at_mem {l : List Nat} {x : Nat} (hx : x < l.length) : at_ l x ∈ l := getD_mem hx
theorem at_row (R : RowOk h row) {i : Nat} (hi : i < row.length) : at_ row i < h.n := R _ (at_mem hi)
theorem metR_len : (metR h row p).length = row.length := by unfold metR; rw [List.length_set, List.length_set]
theorem metR_ok (L : Lat h) (R : RowOk h row) (h1 : p.1 < row.length) (h2 : p.2 < row.length) : RowOk h (metR h row p) := fun x hx => by
  unfold metR at hx
  rcases List.mem_or_eq_of_mem_set hx with z | z
  · rcases List.mem_or_eq_of_mem_set z with y | y
    · exact R x y
    · rw [y]; exact op_lt L false (at_row R h1) (at_row R h2)
  · rw [z]; exact op_lt L true (at_row R h1) (at_row R h2)
theorem at_map {l : List Nat} {g : Nat → Nat} {i : Nat} (hi : i < l.length) : at_ (l.map g) i = g (at_ l i) := by
  unfold at_
  rw [List.getD_eq_getElem?_getD, List.getElem?_map, List.getElem?_eq_getElem hi, List.getD_eq_getElem?_getD, List.getElem?_eq_getElem hi]
  rfl
theorem metR_led {f : List Nat} (g : Good h o f) (R : RowOk h row) (h1 : p.1 < row.length) (h2 : p.2 < row.length) : (metR h row p).map (at_ f) = metR o (row.map (at_ f)) p := by
  have e := fun b => Classical.not_not.mp (g b _ _ (at_row R h1) (at_row R h2))
  unfold metR
  rw [List.map_set, List.map_set, e false, e true, at_map h1, at_map h2]
theorem behR_ok (L : Lat h) : ∀ {ps : List (Nat × Nat)} {row : Rw}, RowOk h row → PlanOk row.length ps → RowOk h (behR h row ps) ∧ (behR h row ps).length = row.length
  | [], row, R, _ => ⟨R, rfl⟩
  | p :: ps, row, R, P => by
    obtain ⟨h1, h2, _⟩ := P p List.mem_cons_self
    have := behR_ok L (ps := ps) (metR_ok L R h1 h2) (by rw [metR_len]; exact fun q hq => P q (List.mem_cons_of_mem _ hq))
    rw [metR_len] at this
    exact this
theorem behR_led (L : Lat h) {f : List Nat} (g : Good h o f) : ∀ {ps : List (Nat × Nat)} {row : Rw}, RowOk h row → PlanOk row.length ps → (behR h row ps).map (at_ f) = behR o (row.map (at_ f)) ps
  | [], row, R, _ => rfl
  | p :: ps, row, R, P => by
    obtain ⟨h1, h2, _⟩ := P p List.mem_cons_self
    show (behR h (metR h row p) ps).map _ = behR o (metR o (row.map (at_ f)) p) ps
    rw [← metR_led g R h1 h2]
    exact behR_led L g (metR_ok L R h1 h2) (by rw [metR_len]; exact fun q hq => P q (List.mem_cons_of_mem _ hq))
end
/-- the rows along a plan, without the last one -/
noncomputable def along (h : Ho) : Rw → List (Nat × Nat) → List Rw
  | _, [] => []
  | row, p :: ps => row :: along h (metR h row p) ps
inductive Ct where
  | good
  | flt (b : Bool) (x y : Nat)
  deriving DecidableEq
end Hou
namespace DL
open PySem PySem.Spec PyProof.Rows L2 Hou
/-! ### values that are compared by what they are -/
structure Enc {β : Type} [DecidableEq β] (e : β → D) (p : β → PyData) : Prop where
  py : ∀ b, toPy (e b) = some (p b)
  eqv : ∀ a b, PyData.eqv (p a) (p b) = decide (a = b)
  lay : ∀ b, (p b).canLay0 = true
  dep : ∀ b, (p b).depth ≤ 20
section
variable {β : Type} [DecidableEq β] {e : β → D} {p : β → PyData} {Q : D → Prop}
theorem Enc.sh (E : Enc e p) (b : β) : SeqAt.shaped (p b) = true := by
  unfold SeqAt.shaped
  rw [E.lay b, Bool.true_and]
  exact decide_eq_true (Nat.le_trans (E.dep b) (by decide))
theorem Enc.pyL (E : Enc e p) : ∀ bs : List β, toPyL (bs.map e) = some (bs.map p)
  | [] => rfl
  | b :: bs => by
    show (match toPy (e b) with | some q => (toPyL (bs.map e)).map (q :: ·) | none => none) = _
    rw [E.py b, E.pyL bs]
    rfl
theorem Enc.layL (E : Enc e p) : ∀ bs : List β, PyData.canLayAll0 (bs.map p) = true
  | [] => by simp [PyData.canLayAll0]
  | b :: bs => by rw [List.map_cons, PyData.canLayAll0, E.lay b, E.layL bs]; rfl
theorem Enc.depL (E : Enc e p) : ∀ bs : List β, PyData.depthAll (bs.map p) ≤ 20
  | [] => by simp [PyData.depthAll]
  | b :: bs => by
    have := E.depL bs
    have := E.dep b
    rw [List.map_cons, PyData.depthAll]
    omega
theorem Enc.shT (E : Enc e p) (bs : List β) : SeqAt.shaped (.tuple (bs.map p)) = true := by
  have := E.depL bs
  unfold SeqAt.shaped
  rw [PyData.canLay0, E.layL bs, PyData.depth, Bool.true_and]
  exact decide_eq_true (by omega)
theorem Enc.shL (E : Enc e p) (bs : List β) : SeqAt.shaped (.list (bs.map p)) = true := by
  have := E.depL bs
  unfold SeqAt.shaped
  rw [PyData.canLay0, E.layL bs, PyData.depth, Bool.true_and]
  exact decide_eq_true (by omega)
theorem Enc.any (E : Enc e p) (a : β) : ∀ bs : List β, ((bs.map p).any fun z => PyData.eqv z (p a)) = decide (a ∈ bs)
  | [] => by simp
  | b :: bs => by
    rw [List.map_cons, List.any_cons, E.any a bs, E.eqv]
    by_cases h : b = a
    · simp [h]
    · have h' : ¬ a = b := fun z => h z.symm
      simp [h, h']
theorem Enc.eq (E : Enc e p) {a b : β} : oEq (e a) (e b) Q ↔ Q (.bl (decide (a = b))) := by
  constructor
  · rintro ⟨x, y, e1, e2, _, _, z⟩
    rw [E.py] at e1 e2
    cases e1; cases e2
    rw [E.eqv] at z; exact z
  · exact fun z => ⟨_, _, E.py a, E.py b, E.sh a, E.sh b, by rw [E.eqv]; exact z⟩
theorem Enc.ne (E : Enc e p) {a b : β} : oNe (e a) (e b) Q ↔ Q (.bl (!decide (a = b))) := by
  constructor
  · rintro ⟨x, y, e1, e2, _, _, z⟩
    rw [E.py] at e1 e2
    cases e1; cases e2
    rw [E.eqv] at z; exact z
  · exact fun z => ⟨_, _, E.py a, E.py b, E.sh a, E.sh b, by rw [E.eqv]; exact z⟩
theorem Enc.isIn (E : Enc e p) {a : β} {bs : List β} : oIn (e a) (.lst (bs.map e)) Q ↔ Q (.bl (decide (a ∈ bs))) := by
  constructor
  · rintro ⟨ys, x, y, e0, e1, e2, _, _, z⟩
    cases e0
    rw [E.py] at e1
    rw [E.pyL] at e2
    cases e1; cases e2
    rw [E.any] at z; exact z
  · exact fun z => ⟨_, _, _, rfl, E.py a, E.pyL bs, E.sh a, E.shT bs, by rw [E.any]; exact z⟩
theorem Enc.notIn (E : Enc e p) {a : β} {bs : List β} : oNotIn (e a) (.lst (bs.map e)) Q ↔ Q (.bl (!decide (a ∈ bs))) := by
  constructor
  · rintro ⟨ys, x, y, e0, e1, e2, _, _, z⟩
    cases e0
    rw [E.py] at e1
    rw [E.pyL] at e2
    cases e1; cases e2
    rw [E.any] at z; exact z
  · exact fun z => ⟨_, _, _, rfl, E.py a, E.pyL bs, E.sh a, E.shT bs, by rw [E.any]; exact z⟩
theorem Enc.nilv (E : Enc e p) (bs : List β) : PyData.eqv (.list (bs.map p)) (.list []) = decide (bs = []) := by
  rw [PyData.eqv]
  cases bs with
  | nil => simp [PyData.eqvAll]
  | cons b bs => simp [PyData.eqvAll]
theorem Enc.eqNil (E : Enc e p) {bs : List β} : oEq (.lst (bs.map e)) (.lst []) Q ↔ Q (.bl (decide (bs = []))) := by
  have t : toPy (.lst (bs.map e)) = some (.list (bs.map p)) := by unfold toPy; rw [E.pyL]; rfl
  constructor
  · rintro ⟨x, y, e1, e2, _, _, z⟩
    rw [t] at e1
    cases e1; cases e2
    rw [E.nilv] at z; exact z
  · exact fun z => ⟨_, .list [], t, rfl, E.shL bs, E.shL [], by rw [E.nilv]; exact z⟩
theorem Enc.neNil (E : Enc e p) {bs : List β} : oNe (.lst (bs.map e)) (.lst []) Q ↔ Q (.bl (!decide (bs = []))) := by
  have t : toPy (.lst (bs.map e)) = some (.list (bs.map p)) := by unfold toPy; rw [E.pyL]; rfl
  constructor
  · rintro ⟨x, y, e1, e2, _, _, z⟩
    rw [t] at e1
    cases e1; cases e2
    rw [E.nilv] at z; exact z
  · exact fun z => ⟨_, .list [], t, rfl, E.shL bs, E.shL [], by rw [E.nilv]; exact z⟩
end
/-! ### certificates of maps -/
def wd : Bool → Str
  | false => "both"
  | true => "all"
def ctD : Ct → D
  | .good => .tup [.str "good"]
  | .flt b x y => .tup [.str (wd b), eI x, eI y]
def ctP : Ct → PyData
  | .good => .tuple [.str "good"]
  | .flt b x y => .tuple [.str (wd b), .int x, .int y]
theorem wd_lay (b : Bool) : PyData.canLay0 (.str (wd b)) = true := by cases b <;> decide +kernel
theorem wd_eq (b c : Bool) : (wd b == wd c) = decide (b = c) := by cases b <;> cases c <;> decide +kernel
theorem enc_ct : Enc ctD ctP where
  py := fun b => by cases b <;> rfl
  eqv := fun a b => by
    cases a with
    | good => cases b with
      | good => decide +kernel
      | flt b x y => simp [ctP, PyData.eqv, PyData.eqvAll]
    | flt a x y => cases b with
      | good => simp [ctP, PyData.eqv, PyData.eqvAll]
      | flt b u v =>
        simp only [ctP, PyData.eqv, PyData.eqvAll, wd_eq, Bool.and_true]
        have k1 : ((x : Int) = (u : Int)) ↔ x = u := by omega
        have k2 : ((y : Int) = (v : Int)) ↔ y = v := by omega
        by_cases h1 : a = b <;> by_cases h2 : x = u <;> by_cases h3 : y = v <;> simp [h1, h2, h3, k1, k2]
  lay := fun b => by
    cases b with
    | good => decide +kernel
    | flt b x y => simp [ctP, PyData.canLay0, PyData.canLayAll0, wd_lay]; exact wd_lay b
  dep := fun b => by cases b <;> simp [ctP, PyData.depth, PyData.depthAll]
section
variable {Q : D → Prop} {c d : Ct} {cs : List Ct} {b b' : Bool} {x y : Nat}
@[simp ↓] theorem ct_eqg : oEq (ctD c) (.tup [.str "good"]) Q ↔ Q (.bl (decide (c = .good))) := enc_ct.eq (b := .good)
@[simp ↓] theorem ct_neg : oNe (ctD c) (.tup [.str "good"]) Q ↔ Q (.bl (!decide (c = .good))) := enc_ct.ne (b := .good)
@[simp ↓] theorem ct_nil : oEq (.lst (cs.map ctD)) (.lst []) Q ↔ Q (.bl (decide (cs = []))) := enc_ct.eqNil
@[simp ↓] theorem ct_nnil : oNe (.lst (cs.map ctD)) (.lst []) Q ↔ Q (.bl (!decide (cs = []))) := enc_ct.neNil
theorem ct_in : oIn (.tup [.str (wd b), eI x, eI y]) (.lst (cs.map ctD)) Q ↔ Q (.bl (decide (Ct.flt b x y ∈ cs))) := enc_ct.isIn (a := .flt b x y)
theorem ct_nin : oNotIn (.tup [.str (wd b), eI x, eI y]) (.lst (cs.map ctD)) Q ↔ Q (.bl (!decide (Ct.flt b x y ∈ cs))) := enc_ct.notIn (a := .flt b x y)
theorem imm_ct (c : Ct) : imm (ctD c) = true := by cases c <;> simp [ctD]
theorem w_eqb : oEq (.str (wd b)) (.str (wd b')) Q ↔ Q (.bl (decide (b = b'))) := by
  constructor
  · rintro ⟨p, q, e1, e2, _, _, z⟩
    cases e1; cases e2
    rw [eqv_str, wd_eq] at z; exact z
  · exact fun z => oEq_str (wd_lay b) (wd_lay b') (by rw [wd_eq]; exact z)
end
/-- a certificate's first sign behind the quote -/
theorem shown_3 {w : Str} {rest : List PyData} (h : 2 ≤ (TL.tl (reprText w)).length) : (TL.tl (PyData.tuple (.str w :: rest)).shown)[2]? = (TL.tl (reprText w))[1]? := by
  rw [PyData.shown_tuple, TL.tl_append, TL.tl_append, TL.tl_join, PyData.shownAll_cons, PyData.shown_str, List.map_cons]
  rw [show TL.tl ("(" : Str) = [40] by decide +kernel]
  cases (PyData.shownAll rest).map TL.tl with
  | nil =>
    show (([40] ++ TL.tl (reprText w)) ++ _)[2]? = _
    rw [List.getElem?_append_left (by simp only [List.length_append, List.length_singleton]; omega), List.getElem?_append_right (by simp)]
    rfl
  | cons q r =>
    show (([40] ++ (TL.tl (reprText w) ++ _)) ++ _)[2]? = _
    rw [List.getElem?_append_left (by simp only [List.length_append, List.length_singleton]; omega), List.getElem?_append_right (by simp)]
    show (TL.tl (reprText w) ++ _)[1]? = _
    rw [List.getElem?_append_left (by omega)]
theorem shown_ne {b : Bool} {x y : Nat} : (ctP (.flt b x y)).shown ≠ (ctP .good).shown := fun e => by
  have e := congrArg (fun z => (TL.tl z)[2]?) e
  simp only [ctP] at e
  rw [shown_3 (by cases b <;> decide +kernel), shown_3 (by decide +kernel)] at e
  cases b
  · exact absurd e (by decide +kernel)
  · exact absurd e (by decide +kernel)
/-! ### rows, plans, meetings -/
abbrev pN (p : Nat × Nat) : D := .tup [eI p.1, eI p.2]
abbrev plD (ps : List (Nat × Nat)) : D := .tup (ps.map pN)
theorem pN_inj : ∀ {ps qs : List (Nat × Nat)}, ps.map pN = qs.map pN → ps = qs
  | [], [], _ => rfl
  | [], _ :: _, h => by cases h
  | _ :: _, [], h => by cases h
  | p :: ps, q :: qs, h => by
    rw [List.map_cons, List.map_cons] at h
    injection h with h1 h2
    rw [pN_inj h2]
    injection h1 with h1
    injection h1 with h3 h4
    injection h4 with h4 _
    injection h3 with h3
    injection h4 with h4
    rw [show p = q from Prod.ext (by omega) (by omega)]
theorem fit_eIs : ∀ l : List Nat, (∀ n ∈ l, n < 1000) → fitL (l.map eI) = true ∧ wtL (l.map eI) ≤ l.length ∧ dpL (l.map eI) = 0
  | [], _ => ⟨rfl, Nat.le_refl _, rfl⟩
  | n :: l, h => by
    obtain ⟨h1, h2, h3⟩ := fit_eIs l fun m hm => h m (List.mem_cons_of_mem _ hm)
    have hn := h n List.mem_cons_self
    refine ⟨?_, ?_, ?_⟩
    · show (decide (((n : Nat) : Int).natAbs < 2 ^ 500) && fitL (l.map eI)) = true
      rw [h1, Bool.and_true]
      exact decide_eq_true (by rw [Int.natAbs_natCast]; exact Nat.lt_of_lt_of_le hn (by decide))
    · show 0 + 1 + wtL (l.map eI) ≤ l.length + 1
      omega
    · show max 0 (dpL (l.map eI)) = 0
      rw [h3]; rfl
theorem shw_tL {l : List Nat} (h : ∀ n ∈ l, n < 1000) (hl : l.length ≤ 1000) : Shw (tL l) := by
  obtain ⟨h1, h2, h3⟩ := fit_eIs l h
  exact ⟨h1, by show wtL (l.map eI) ≤ 20000; omega, by show dpL (l.map eI) + 1 ≤ 60; omega⟩
theorem shw_bl (b : Bool) : Shw (.bl b) := ⟨rfl, Nat.zero_le _, Nat.zero_le _⟩
end DL
set_option maxHeartbeats 4000000
/-! How houses are drawn. -/
namespace Hou
structure FamOk (k : Nat) (ms : List Nat) : Prop where
  f : Fam ms
  pos : 0 < ms.length
  le : ms.length ≤ k
  lt : ∀ m ∈ ms, m < 4096
/-! ### families told by their lists -/
def famB (ms : List Nat) : Bool := decide (ms.Nodup) && (ms.all fun x => ms.all fun y => decide (x &&& y ∈ ms)) && (ms.any fun t => ms.all fun x => decide (x &&& t = x)) && decide (0 < ms.length) && decide (ms.length ≤ 12) && ms.all fun m => decide (m < 4096)
theorem famB_ok {ms : List Nat} (h : famB ms = true) : FamOk 12 ms := by
  unfold famB at h
  simp only [Bool.and_eq_true, decide_eq_true_eq, List.all_eq_true, List.any_eq_true] at h
  obtain ⟨⟨⟨⟨⟨h1, h2⟩, h3⟩, h4⟩, h5⟩, h6⟩ := h
  exact ⟨⟨h1, h2, h3⟩, h4, h5, h6⟩
def lineL (n : Nat) : List Nat := (List.range n).map fun k => 2 ^ k - 1
def chainL (a b : Nat) : List Nat := (List.range a).flatMap fun x => (List.range b).map fun y => 2 ^ x - 1 + 256 * (2 ^ y - 1)
theorem line_ok {n : Nat} (h1 : 1 ≤ n) (h2 : n ≤ 6) : FamOk 12 (lineL n) := by
  have : n = 1 ∨ n = 2 ∨ n = 3 ∨ n = 4 ∨ n = 5 ∨ n = 6 := by omega
  rcases this with rfl | rfl | rfl | rfl | rfl | rfl <;> exact famB_ok (by decide +kernel)
theorem cube_ok {n : Nat} (h1 : 1 ≤ n) (h2 : n ≤ 3) : FamOk 12 (List.range (2 ^ n)) := by
  have : n = 1 ∨ n = 2 ∨ n = 3 := by omega
  rcases this with rfl | rfl | rfl <;> exact famB_ok (by decide +kernel)
theorem chain_ok {a b : Nat} (h1 : 1 ≤ a) (h2 : a ≤ 3) (h3 : 2 ≤ b) (h4 : b ≤ 4) : FamOk 12 (chainL a b) := by
  have ha : a = 1 ∨ a = 2 ∨ a = 3 := by omega
  have hb : b = 2 ∨ b = 3 ∨ b = 4 := by omega
  rcases ha with rfl | rfl | rfl <;> rcases hb with rfl | rfl | rfl <;> exact famB_ok (by decide +kernel)
def fives : List (List Nat) := [[0, 1, 2, 4, 7], [0, 1, 3, 4, 7], [0, 1, 2, 4, 8, 15], [0, 1, 3, 7, 8, 15]]
def twos : List (List Nat) := [[0, 1, 2, 4, 7], [0, 1, 3, 4, 7]]
theorem five_ok : ∀ ms ∈ fives, FamOk 12 ms := fun ms h => famB_ok (by
  have : fives.all famB = true := by decide +kernel
  exact List.all_eq_true.mp this ms h)
theorem two_ok : ∀ ms ∈ twos, FamOk 12 (ms ++ ms.map (· + 8)) := fun ms h => famB_ok (by
  have : (twos.all fun ms => famB (ms ++ ms.map (· + 8))) = true := by decide +kernel
  exact List.all_eq_true.mp this ms h)
theorem one_ok {k f : Nat} (hk : 1 ≤ k) (hf : f ≤ 12) : FamOk k [2 ^ f - 1] := ⟨⟨by simp, fun x hx y hy => by
  rw [List.mem_singleton.mp hx, List.mem_singleton.mp hy, Nat.and_self]; simp, ⟨_, List.mem_singleton.mpr rfl, fun x hx => by rw [List.mem_singleton.mp hx]; exact Nat.and_self _⟩⟩, by simp, by simpa using hk, fun m hm => by
  rw [List.mem_singleton.mp hm]
  have : 2 ^ f ≤ 2 ^ 12 := Nat.pow_le_pow_right (by decide) hf
  omega⟩
/-- with a mask, all its common parts -/
theorem step_ok {k : Nat} {ms ls : List Nat} (F : FamOk k ms) (m : Nat) (nd : ls.Nodup) (hm : ∀ x, x ∈ ls ↔ x ∈ ms ∨ ∃ y ∈ ms, x = m &&& y) (hl : ls.length ≤ k) : FamOk k ls := by
  obtain ⟨t, ht, top⟩ := F.f.top
  refine ⟨⟨nd, fun x hx y hy => ?_, t, (hm t).mpr (.inl ht), fun x hx => ?_⟩, ?_, hl, fun x hx => ?_⟩
  · rcases (hm x).mp hx with a | ⟨u, hu, rfl⟩ <;> rcases (hm y).mp hy with b | ⟨v, hv, rfl⟩
    · exact (hm _).mpr (.inl (F.f.cl x a y b))
    · exact (hm _).mpr (.inr ⟨x &&& v, F.f.cl x a v hv, by rw [← Nat.and_assoc, Nat.and_comm x m, Nat.and_assoc]⟩)
    · exact (hm _).mpr (.inr ⟨u &&& y, F.f.cl u hu y b, by rw [Nat.and_assoc]⟩)
    · refine (hm _).mpr (.inr ⟨u &&& v, F.f.cl u hu v hv, ?_⟩)
      refine Nat.eq_of_testBit_eq fun i => ?_
      simp only [Nat.testBit_and]
      cases m.testBit i <;> cases u.testBit i <;> cases v.testBit i <;> rfl
  · rcases (hm x).mp hx with a | ⟨u, hu, rfl⟩
    · exact top x a
    · show m &&& u &&& t = m &&& u
      rw [Nat.and_assoc, top u hu]
  · have := (hm t).mpr (.inl ht)
    exact List.length_pos_of_mem this
  · rcases (hm x).mp hx with a | ⟨u, hu, rfl⟩
    · exact F.lt x a
    · exact Nat.lt_of_le_of_lt Nat.and_le_right (F.lt u hu)
/-! ### orders -/
abbrev IsOrd (n : Nat) (l : List Nat) : Prop := l.Perm (List.range n)
theorem map_at (ms : List Nat) : (List.range ms.length).map (at_ ms) = ms := by
  refine List.ext_getElem? fun i => ?_
  by_cases h : i < ms.length
  · simp [h, at_]
  · simp [h]
theorem ord_perm {ms l : List Nat} (h : IsOrd ms.length l) : ms.Perm (l.map (at_ ms)) := by
  have := (h.map (at_ ms)).symm
  rw [map_at] at this
  exact this
theorem ord_lt {n : Nat} {l : List Nat} (h : IsOrd n l) : ∀ x ∈ l, x < n := fun x hx => List.mem_range.mp (h.mem_iff.mp hx)
theorem ord_nd {n : Nat} {l : List Nat} (h : IsOrd n l) : l.Nodup := h.nodup_iff.mpr List.nodup_range
theorem ord_len {n : Nat} {l : List Nat} (h : IsOrd n l) : l.length = n := by rw [h.length_eq, List.length_range]
theorem ord_mem {n : Nat} {l : List Nat} (h : IsOrd n l) {x : Nat} (hx : x < n) : x ∈ l := h.mem_iff.mpr (List.mem_range.mpr hx)
theorem erase_perm {α : Type} : ∀ {l : List α} {j : Nat} (h : j < l.length), (l[j] :: l.eraseIdx j).Perm l
  | x :: l, 0, _ => .refl _
  | x :: l, j + 1, h => by
    have h' : j < l.length := by simpa using h
    show (l[j] :: x :: l.eraseIdx j).Perm (x :: l)
    exact (List.Perm.swap _ _ _).trans ((erase_perm h').cons x)
theorem erase_map {α β : Type} (f : α → β) : ∀ (l : List α) (j : Nat), (l.map f).eraseIdx j = (l.eraseIdx j).map f
  | [], _ => rfl
  | x :: l, 0 => rfl
  | x :: l, j + 1 => by
    show f x :: (l.map f).eraseIdx j = f x :: (l.eraseIdx j).map f
    rw [erase_map f l j]
/-- the house whose lot order[x] is the lot x -/
def renR (h : Ho) (l : List Nat) (x y : Nat) : Bool := h.r (l.idxOf x) (l.idxOf y)
theorem ren_lat {h : Ho} (L : Lat h) {l : List Nat} (O : IsOrd h.n l) : Lat (nrm h.n (renR h l)) := by
  have nd := ord_nd O
  have ln := ord_len O
  refine (pull_lat L (f := fun x => l.idxOf x) (fun x hx => ?_) (fun x y hx hy e => ?_) fun y hy => ?_).lat
  · rw [← ln]; exact List.idxOf_lt_length_of_mem (ord_mem O hx)
  · have a := List.getElem_idxOf (List.idxOf_lt_length_of_mem (ord_mem O hx))
    have b := List.getElem_idxOf (List.idxOf_lt_length_of_mem (ord_mem O hy))
    rw [← a, ← b]
    exact (List.getElem_inj nd).mpr e
  · have hy' : y < l.length := by rw [ln]; exact hy
    exact ⟨l[y], ord_lt O _ (List.getElem_mem hy'), List.Nodup.idxOf_getElem nd y hy'⟩
theorem ord_map {h : Ho} {l : List Nat} (O : IsOrd h.n l) : IsMap h (nrm h.n (renR h l)) l := ⟨ord_len O, ord_lt O⟩
/-! ### the greatest of some, found one by one -/
theorem fold_top {R : Nat → Nat → Bool} {u : List Nat} {g : Nat} (hg : g ∈ u) (top : ∀ x ∈ u, R x g = true) (one : ∀ x ∈ u, R g x = true → x = g) : ∀ (done rest : List Nat) (low : Nat), u = done ++ rest → low ∈ u → (g ∈ done → low = g) → rest.foldl (fun low z => if R low z = true then z else low) low = g
  | done, [], low, e, hl, hd => hd (by rw [List.append_nil] at e; rw [← e]; exact hg)
  | done, z :: rest, low, e, hl, hd => by
    rw [List.foldl_cons]
    have hz : z ∈ u := by rw [e]; simp
    refine fold_top hg top one (done ++ [z]) rest _ (by rw [e]; simp) (by split; exact hz; exact hl) fun hgd => ?_
    rcases List.mem_append.mp hgd with a | a
    · have := hd a
      subst this
      split
      · rename_i r; exact one z hz r
      · rfl
    · have := List.mem_singleton.mp a
      subst this
      rw [if_pos (top low hl)]
end Hou
namespace DL
open PySem PySem.Spec PyProof.Rows L2 Hou
theorem map_tab {α : Type} (l : List Nat) (g : Nat → α) : l.map g = (List.range l.length).map fun i => g (at_ l i) := by
  refine List.ext_getElem? fun i => ?_
  by_cases h : i < l.length
  · simp [h, at_]
  · simp [h]
theorem hD_nrm {n : Nat} {r : Nat → Nat → Bool} {f : Nat → Nat → Int} (h : ∀ x y, x < n → y < n → f x y = bI (r x y)) : D.tup (tab n fun x => .tup (tab n fun y => .int (f x y))) = hD (nrm n r) := by
  unfold hD hRow
  show D.tup _ = D.tup _
  rw [show (nrm n r).n = n from rfl]
  congr 1
  refine List.map_congr_left fun x hx => ?_
  congr 1
  refine List.map_congr_left fun y hy => ?_
  rw [h x y (List.mem_range.mp hx) (List.mem_range.mp hy), nrm_r (List.mem_range.mp hx) (List.mem_range.mp hy)]
/-! #### more continuations -/
def kExt (ρ : En) (i : Nat) (d : D) (K : En → Prop) : Prop := ∃ xs ys, ρ[i]? = some (some (.ow xs)) ∧ d = .lst ys ∧ xs.length + ys.length ≤ sizeLine ∧ K (ρ.set i (some (.ow (xs ++ ys))))
def kPop (ρ : En) (i : Nat) (kd : D) (Q : D → En → Prop) : Prop := ∃ k j xs d, kd = .int k ∧ ρ[i]? = some (some (.ow xs)) ∧ -(2 ^ 63) ≤ k ∧ k < 2 ^ 63 ∧ seqIndex? k xs.length = some j ∧ xs[j]? = some d ∧ Q d (ρ.set i (some (.ow (xs.eraseIdx j))))
def kLR (d : D) (Q : SV → Prop) : Prop := ∃ n : Int, d = .int n ∧ -(2 ^ 62) ≤ n ∧ n ≤ 2 ^ 24 ∧ Q (.ow (rangeD 0 n.toNat))
section
variable {G : Gc} {ρ : En} {E : EndsD} {Q : D → En → Prop} {Qo : SV → Prop} {wa : W} {wv : WV} {i : Nat} {o : Option SV} {xs ys : List D} {d : D} {K : En → Prop}
@[simp ↓] theorem s_ext : wExt i wv G E ρ ↔ kOw ρ i ∧ wv G ρ fun d ρ' => kExt ρ' i d E.nx := Iff.rfl
@[simp ↓] theorem k_ext0 : kExt (some (.ow xs) :: ρ) 0 (.lst ys) K ↔ xs.length + ys.length ≤ sizeLine ∧ K (some (.ow (xs ++ ys)) :: ρ) := ⟨fun ⟨_, _, e, e2, h⟩ => by cases e; cases e2; exact h, fun h => ⟨xs, ys, rfl, rfl, h⟩⟩
@[simp ↓] theorem k_ext1 : kExt (o :: ρ) (i + 1) d K ↔ kExt ρ i d fun ρ' => K (o :: ρ') := Iff.rfl
@[simp ↓] theorem s_popAt : wvPopAt i wa G ρ Q ↔ kOw ρ i ∧ wa G ρ fun kd => kPop ρ i kd Q := Iff.rfl
@[simp ↓] theorem k_pop1 {kd : D} : kPop (o :: ρ) (i + 1) kd Q ↔ kPop ρ i kd fun d ρ' => Q d (o :: ρ') := Iff.rfl
theorem seqIx {n j : Nat} (h : j < n) : seqIndex? (j : Int) n = some j := by
  exact (seqIndex_of (show (0 : Int) ≤ (j : Int) by omega) (show (j : Int) < (n : Int) by omega)).trans (by rw [Int.toNat_natCast])
theorem k_pop0 {j : Nat} (hj : xs[j]? = some d) (hs : xs.length ≤ 1000) (q : Q d (some (.ow (xs.eraseIdx j)) :: ρ)) : kPop (some (.ow xs) :: ρ) 0 (.int (j : Int)) Q := by
  have hl : j < xs.length := (List.getElem?_eq_some_iff.mp hj).1
  exact ⟨j, j, xs, d, rfl, rfl, by omega, by omega, seqIx hl, hj, q⟩
@[simp ↓] theorem s_listRg1 : woListRg1 wa G ρ Qo ↔ wa G ρ fun d => kLR d Qo := Iff.rfl
@[simp ↓] theorem k_lr {n : Int} : kLR (.int n) Qo ↔ -(2 ^ 62) ≤ n ∧ n ≤ 2 ^ 24 ∧ Qo (.ow (rangeD 0 n.toNat)) := ⟨fun ⟨_, e, h⟩ => by cases e; exact h, fun h => ⟨n, rfl, h⟩⟩
end
@[simp] theorem frz_ow {xs : List D} {ρ : En} : frzAll (some (.ow xs) :: ρ) = some (.fz (.lst xs)) :: frzAll ρ := rfl
@[simp ↓] theorem s_intB {b : Bool} {Qo : SV → Prop} : oIntB [.bl b] Qo ↔ Qo (.fz (.int (bI b))) := ⟨fun ⟨_, e, h⟩ => by cases e; exact h, fun h => ⟨b, rfl, h⟩⟩
/-- the numbers of a list of naturals -/
theorem nat_list {ms : List Int} (h : ∀ k ∈ ms, 0 ≤ k) : ∃ l : List Nat, ms = l.map fun n : Nat => (n : Int) := by
  refine ⟨ms.map Int.toNat, ?_⟩
  rw [List.map_map]
  refine (List.map_id ms).symm.trans (List.map_congr_left fun k hk => ?_)
  show k = ((k.toNat : Nat) : Int)
  have := h k hk
  omega
/-! ### a tuple known whole is a tuple -/
mutual
inductive Wk : D → D → Prop
  | refl (d : D) : Wk d d
  | tix (xs : List D) : Wk (.tix xs) (.tup xs)
  | tup {xs ys : List D} : WkL xs ys → Wk (.tup xs) (.tup ys)
inductive WkL : List D → List D → Prop
  | nil : WkL [] []
  | cons {x y : D} {xs ys : List D} : Wk x y → WkL xs ys → WkL (x :: xs) (y :: ys)
end
section
variable {K : PySem.W.Frag} {F : Hp}
mutual
theorem Rp.wk : ∀ {v : V} {d d' : D}, Rp K F v d → Wk d d' → Rp K F v d'
  | _, _, _, r, .refl _ => r
  | _, _, _, .tix h _ r, .tix _ => .tup (.inl (.inr ⟨_, h⟩)) r
  | _, _, _, .tup h r, .tup w => .tup h (RpL.wk r w)
theorem RpL.wk : ∀ {vs : List V} {ds ds' : List D}, RpL K F vs ds → WkL ds ds' → RpL K F vs ds'
  | _, _, _, .nil, .nil => .nil
  | _, _, _, .cons h r, .cons w ws => .cons (Rp.wk h w) (RpL.wk r ws)
end
end
def wkQ (Q : SV → Prop) : SV → Prop := fun sv => ∃ d d', sv = .fz d ∧ Wk d d' ∧ Q (.fz d')
theorem Kn.wk {B : Bs} {k : Nat} {x : Str} {st : Stmt} {ps : List Str} {sp sp' : FS} (i : ∀ G ds Q, sp' G ds Q → sp G ds (wkQ Q)) (h : Kn B k x st ps sp) : Kn B k x st ps sp' := by
  obtain ⟨f, fd, F, hm, D, hb⟩ := h.ex
  have up : ∀ {vs : List V} {H : Hp} {Q : VK} {E : XK}, spV B.K sp' vs H Q E → spV B.K sp vs H Q E := fun ⟨G, F, ds, Qd, s1, s2, s3, r, q, g⟩ =>
    ⟨G, F, ds, _, s1, s2, s3, r, i G ds Qd q, fun v H' F' sv a b c d e rp ⟨d1, d2, e1, w, z⟩ => by
      subst e1
      exact g v H' F' (.fz d2) a b c d e (Rp.wk rp w) z⟩
  exact ⟨f, fd, ⟨fun q => F.many (up q), fun hr hn e b r q => F.goes hr hn e b r (up q)⟩, hm, D, hb⟩
end DL
set_option maxHeartbeats 4000000
namespace K87
open PySem PySem.Spec PyProof.Rows L2 DL
def top (i : Nat) : Stmt := PySem.Challenge.pw_bothandall_k87_whole_maps_and_plans.main.body.getD i (.Pass ⟨0, 0, 0, 0⟩)
/-- what the module's names stand for -/
structure FF (B : Bs) : Prop where
  x_BadMap : ∃ C fI, DLX.ErrTxt B.K B.mg "BadMap" "BadMap.__init__" C fI
  g_MOST_HANDS : ∃ t, B.mg "MOST_HANDS" = some (.int 6 t)
  g_MOST_MEETINGS : ∃ t, B.mg "MOST_MEETINGS" = some (.int 20 t)
  f_all : B.mg "all" = none
  f_bool : B.mg "bool" = none
  f_enumerate : B.mg "enumerate" = none
  f_int : B.mg "int" = none
  f_isinstance : B.mg "isinstance" = none
  f_len : B.mg "len" = none
  f_list : B.mg "list" = none
  f_max : B.mg "max" = none
  f_min : B.mg "min" = none
  f_range : B.mg "range" = none
  f_repr : B.mg "repr" = none
  f_set : B.mg "set" = none
  f_sorted : B.mg "sorted" = none
  f_str : B.mg "str" = none
  f_sum : B.mg "sum" = none
  f_tuple : B.mg "tuple" = none
def t__law_deck : Stmt := top 50
def N__law_deck : List Str := ["_law_script", "_law_mixed", "_law_cell"]
def P__law_deck : List Str := ["_law_script"]
theorem sc__law_deck : FnScope N__law_deck P__law_deck (defScope t__law_deck) := ⟨rfl, rfl, rfl, by decide +kernel, rfl, by decide +kernel, by decide +kernel⟩
def t__law_draw : Stmt := top 51
def N__law_draw : List Str := ["_law_deck_here", "_law_below", "_law_figure", "_law_cell"]
def P__law_draw : List Str := ["_law_deck_here", "_law_below"]
theorem sc__law_draw : FnScope N__law_draw P__law_draw (defScope t__law_draw) := ⟨rfl, rfl, rfl, by decide +kernel, rfl, by decide +kernel, by decide +kernel⟩
def t__law_refused : Stmt := top 63
def N__law_refused : List Str := ["_law_call", "_law_found", "e"]
def P__law_refused : List Str := ["_law_call"]
theorem sc__law_refused : FnScope N__law_refused P__law_refused (defScope t__law_refused) := ⟨rfl, rfl, rfl, by decide +kernel, rfl, by decide +kernel, by decide +kernel⟩
def t_is_integer : Stmt := top 9
def N_is_integer : List Str := ["thing"]
def P_is_integer : List Str := ["thing"]
abbrev S_is_integer (B : Bs) (k : Nat) : Sta := { B with N := N_is_integer, names := (defScope t_is_integer).names, k := k, fc := fun _ => true }
theorem sc_is_integer : FnScope N_is_integer P_is_integer (defScope t_is_integer) := ⟨rfl, rfl, rfl, by decide +kernel, rfl, by decide +kernel, by decide +kernel⟩
def w_is_integer : WS := wRet (woFz (wAnd (wIsi "int" (wVar 0)) (wNot (wIsi "bool" (wVar 0)))))
theorem d_is_integer {B : Bs} (ff : FF B) {k : Nat} : DSs (S_is_integer B k) (defBody t_is_integer) (w_is_integer) := by
  have nd : N_is_integer.Nodup := by decide +kernel
  exact (dss_one (ds_ret (do_fz (de_andV (de_isi (ff.f_isinstance) (ff.f_int) (by decide +kernel) (by decide) (de_nm (i := 0))) (de_one (de_notV (de_isi (ff.f_isinstance) (ff.f_bool) (by decide +kernel) (by decide) (de_nm (i := 0)))))))))
def t_is_between : Stmt := top 10
def N_is_between : List Str := ["thing", "least", "most"]
def P_is_between : List Str := ["thing", "least", "most"]
abbrev S_is_between (B : Bs) (k : Nat) : Sta := { B with N := N_is_between, names := (defScope t_is_between).names, k := k, fc := fun _ => true }
theorem sc_is_between : FnScope N_is_between P_is_between (defScope t_is_between) := ⟨rfl, rfl, rfl, by decide +kernel, rfl, by decide +kernel, by decide +kernel⟩
def w_is_between (s_is_integer : FS) : WS := wRet (woFz (wAnd (wFz (woCall s_is_integer (waCons (wVar 0) (waNil)))) (wChain (oB0 fun i j => decide (i ≤ j)) (oB0 fun i j => decide (i ≤ j)) (wVar 1) (wVar 0) (wVar 2))))
theorem d_is_between {B : Bs} (ff : FF B) {k : Nat} {s_is_integer : FS} {n_is_integer : Nat} (k_is_integer : Kn B n_is_integer "is_integer" t_is_integer P_is_integer s_is_integer) (hk_is_integer : n_is_integer ≤ k) : DSs (S_is_between B k) (defBody t_is_between) (w_is_between s_is_integer) := by
  have nd : N_is_between.Nodup := by decide +kernel
  exact (dss_one (ds_ret (do_fz (de_andV (de_fz (do_call k_is_integer hk_is_integer (da_cons (de_nm (i := 0)) da_nil))) (de_one (de_chain cm_le cm_le (de_nm (i := 1)) (de_nm (i := 0)) (de_nm (i := 2))))))))
def t_are_between : Stmt := top 11
def N_are_between : List Str := ["thing", "least", "most", "part"]
def P_are_between : List Str := ["thing", "least", "most"]
abbrev S_are_between (B : Bs) (k : Nat) : Sta := { B with N := N_are_between, names := (defScope t_are_between).names, k := k, fc := fun _ => true }
theorem sc_are_between : FnScope N_are_between P_are_between (defScope t_are_between) := ⟨rfl, rfl, rfl, by decide +kernel, rfl, by decide +kernel, by decide +kernel⟩
def w_are_between (s_is_between : FS) : WS := wRet (woFz (wAnd (wIsi "tuple" (wVar 0)) (wFz (woCB oAll (waCons (wFz (wComp (wiSeq (wVar 0)) (wgName 3) (wtTrue) (wFz (woCall s_is_between (waCons (wVar 3) (waCons (wVar 1) (waCons (wVar 2) (waNil)))))) [3])) (waNil))))))
theorem d_are_between {B : Bs} (ff : FF B) {k : Nat} {s_is_between : FS} {n_is_between : Nat} (k_is_between : Kn B n_is_between "is_between" t_is_between P_is_between s_is_between) (hk_is_between : n_is_between ≤ k) : DSs (S_are_between B k) (defBody t_are_between) (w_are_between s_is_between) := by
  have nd : N_are_between.Nodup := by decide +kernel
  exact (dss_one (ds_ret (do_fz (de_andV (de_isi (ff.f_isinstance) (ff.f_tuple) (by decide +kernel) (by decide) (de_nm (i := 0))) (de_one (de_fz (do_callB cd_all (ff.f_all) (by decide +kernel) (da_cons (de_fz (do_lc (own := [("part", 3)]) (di_seq (de_nm (i := 0))) nd (by kernel_rfl) (dg_name (i := 3) nd) (by decide) dts_nil (de_fz (do_call k_is_between hk_is_between (da_cons (de_nm (i := 3)) (da_cons (de_nm (i := 1)) (da_cons (de_nm (i := 2)) da_nil))))))) da_nil))))))))
def t_is_word : Stmt := top 12
def N_is_word : List Str := ["thing", "word"]
def P_is_word : List Str := ["thing", "word"]
abbrev S_is_word (B : Bs) (k : Nat) : Sta := { B with N := N_is_word, names := (defScope t_is_word).names, k := k, fc := fun _ => true }
theorem sc_is_word : FnScope N_is_word P_is_word (defScope t_is_word) := ⟨rfl, rfl, rfl, by decide +kernel, rfl, by decide +kernel, by decide +kernel⟩
def w_is_word : WS := wRet (woFz (wAnd (wIsi "tuple" (wVar 0)) (wAnd (wOp (oB0 fun i j => decide (j < i)) (wFz (woCB oLenD (waCons (wVar 0) (waNil)))) (wC (.int 0))) (wAnd (wIsi "str" (wOp oIx (wVar 0) (wC (.int 0)))) (wOp oEq (wOp oIx (wVar 0) (wC (.int 0))) (wVar 1))))))
theorem d_is_word {B : Bs} (ff : FF B) {k : Nat} : DSs (S_is_word B k) (defBody t_is_word) (w_is_word) := by
  have nd : N_is_word.Nodup := by decide +kernel
  exact (dss_one (ds_ret (do_fz (de_andV (de_isi (ff.f_isinstance) (ff.f_tuple) (by decide +kernel) (by decide) (de_nm (i := 0))) (de_andV (de_cmp cm_gt (de_fz (do_callB cd_lenD (ff.f_len) (by decide +kernel) (da_cons (de_nm (i := 0)) da_nil))) de_int) (de_andV (de_isi (ff.f_isinstance) (ff.f_str) (by decide +kernel) (by decide) (de_ix (de_nm (i := 0)) de_int)) (de_one (de_cmp cm_eq (de_ix (de_nm (i := 0)) de_int) (de_nm (i := 1))))))))))
def t_is_exactly : Stmt := top 13
def N_is_exactly : List Str := ["thing", "due"]
def P_is_exactly : List Str := ["thing", "due"]
abbrev S_is_exactly (B : Bs) (k : Nat) : Sta := { B with N := N_is_exactly, names := (defScope t_is_exactly).names, k := k, fc := fun _ => true }
theorem sc_is_exactly : FnScope N_is_exactly P_is_exactly (defScope t_is_exactly) := ⟨rfl, rfl, rfl, by decide +kernel, rfl, by decide +kernel, by decide +kernel⟩
def w_is_exactly : WS := wRet (woFz (wOp oEqS (wFz (woCB oRepr (waCons (wVar 0) (waNil)))) (wFz (woCB oRepr (waCons (wVar 1) (waNil))))))
theorem d_is_exactly {B : Bs} (ff : FF B) {k : Nat} : DSs (S_is_exactly B k) (defBody t_is_exactly) (w_is_exactly) := by
  have nd : N_is_exactly.Nodup := by decide +kernel
  exact (dss_one (ds_ret (do_fz (de_cmp cm_eqS (de_fz (do_callB cd_repr (ff.f_repr) (by decide +kernel) (da_cons (de_nm (i := 0)) da_nil))) (de_fz (do_callB cd_repr (ff.f_repr) (by decide +kernel) (da_cons (de_nm (i := 1)) da_nil)))))))
def t_is_meeting_value : Stmt := top 14
def N_is_meeting_value : List Str := ["hands", "thing"]
def P_is_meeting_value : List Str := ["hands", "thing"]
abbrev S_is_meeting_value (B : Bs) (k : Nat) : Sta := { B with N := N_is_meeting_value, names := (defScope t_is_meeting_value).names, k := k, fc := fun _ => true }
theorem sc_is_meeting_value : FnScope N_is_meeting_value P_is_meeting_value (defScope t_is_meeting_value) := ⟨rfl, rfl, rfl, by decide +kernel, rfl, by decide +kernel, by decide +kernel⟩
def w_is_meeting_value (s_are_between : FS) : WS := wRet (woFz (wAnd (wFz (woCall s_are_between (waCons (wVar 1) (waCons (wC (.int 0)) (waCons (wOp (oI0 fun i j => i - j) (wVar 0) (wC (.int 1))) (waNil)))))) (wAnd (wOp oEq (wFz (woCB oLenD (waCons (wVar 1) (waNil)))) (wC (.int 2))) (wOp oNe (wOp oIx (wVar 1) (wC (.int 0))) (wOp oIx (wVar 1) (wC (.int 1)))))))
theorem d_is_meeting_value {B : Bs} (ff : FF B) {k : Nat} {s_are_between : FS} {n_are_between : Nat} (k_are_between : Kn B n_are_between "are_between" t_are_between P_are_between s_are_between) (hk_are_between : n_are_between ≤ k) : DSs (S_is_meeting_value B k) (defBody t_is_meeting_value) (w_is_meeting_value s_are_between) := by
  have nd : N_is_meeting_value.Nodup := by decide +kernel
  exact (dss_one (ds_ret (do_fz (de_andV (de_fz (do_call k_are_between hk_are_between (da_cons (de_nm (i := 1)) (da_cons de_int (da_cons (de_sub (de_nm (i := 0)) de_int) da_nil))))) (de_andV (de_cmp cm_eq (de_fz (do_callB cd_lenD (ff.f_len) (by decide +kernel) (da_cons (de_nm (i := 1)) da_nil))) de_int) (de_one (de_cmp cm_ne (de_ix (de_nm (i := 1)) de_int) (de_ix (de_nm (i := 1)) de_int))))))))
def t_are_meetings : Stmt := top 15
def N_are_meetings : List Str := ["hands", "thing", "meeting"]
def P_are_meetings : List Str := ["hands", "thing"]
abbrev S_are_meetings (B : Bs) (k : Nat) : Sta := { B with N := N_are_meetings, names := (defScope t_are_meetings).names, k := k, fc := fun _ => true }
theorem sc_are_meetings : FnScope N_are_meetings P_are_meetings (defScope t_are_meetings) := ⟨rfl, rfl, rfl, by decide +kernel, rfl, by decide +kernel, by decide +kernel⟩
def w_are_meetings (s_is_meeting_value : FS) : WS := wRet (woFz (wAnd (wIsi "tuple" (wVar 1)) (wFz (woCB oAll (waCons (wFz (wComp (wiSeq (wVar 1)) (wgName 2) (wtTrue) (wFz (woCall s_is_meeting_value (waCons (wVar 0) (waCons (wVar 2) (waNil))))) [2])) (waNil))))))
theorem d_are_meetings {B : Bs} (ff : FF B) {k : Nat} {s_is_meeting_value : FS} {n_is_meeting_value : Nat} (k_is_meeting_value : Kn B n_is_meeting_value "is_meeting_value" t_is_meeting_value P_is_meeting_value s_is_meeting_value) (hk_is_meeting_value : n_is_meeting_value ≤ k) : DSs (S_are_meetings B k) (defBody t_are_meetings) (w_are_meetings s_is_meeting_value) := by
  have nd : N_are_meetings.Nodup := by decide +kernel
  exact (dss_one (ds_ret (do_fz (de_andV (de_isi (ff.f_isinstance) (ff.f_tuple) (by decide +kernel) (by decide) (de_nm (i := 1))) (de_one (de_fz (do_callB cd_all (ff.f_all) (by decide +kernel) (da_cons (de_fz (do_lc (own := [("meeting", 2)]) (di_seq (de_nm (i := 1))) nd (by kernel_rfl) (dg_name (i := 2) nd) (by decide) dts_nil (de_fz (do_call k_is_meeting_value hk_is_meeting_value (da_cons (de_nm (i := 0)) (da_cons (de_nm (i := 2)) da_nil)))))) da_nil))))))))
def t_is_plan_value : Stmt := top 16
def N_is_plan_value : List Str := ["hands", "thing"]
def P_is_plan_value : List Str := ["hands", "thing"]
abbrev S_is_plan_value (B : Bs) (k : Nat) : Sta := { B with N := N_is_plan_value, names := (defScope t_is_plan_value).names, k := k, fc := fun _ => true }
theorem sc_is_plan_value : FnScope N_is_plan_value P_is_plan_value (defScope t_is_plan_value) := ⟨rfl, rfl, rfl, by decide +kernel, rfl, by decide +kernel, by decide +kernel⟩
def w_is_plan_value (s_are_meetings : FS) : WS := wRet (woFz (wAnd (wFz (woCall s_are_meetings (waCons (wVar 0) (waCons (wVar 1) (waNil))))) (wOp (oB0 fun i j => decide (i ≤ j)) (wFz (woCB oLenD (waCons (wVar 1) (waNil)))) (wC (.int 20)))))
theorem d_is_plan_value {B : Bs} (ff : FF B) {k : Nat} {s_are_meetings : FS} {n_are_meetings : Nat} (k_are_meetings : Kn B n_are_meetings "are_meetings" t_are_meetings P_are_meetings s_are_meetings) (hk_are_meetings : n_are_meetings ≤ k) : DSs (S_is_plan_value B k) (defBody t_is_plan_value) (w_is_plan_value s_are_meetings) := by
  have nd : N_is_plan_value.Nodup := by decide +kernel
  exact (dss_one (ds_ret (do_fz (de_andV (de_fz (do_call k_are_meetings hk_are_meetings (da_cons (de_nm (i := 0)) (da_cons (de_nm (i := 1)) da_nil)))) (de_one (de_cmp cm_le (de_fz (do_callB cd_lenD (ff.f_len) (by decide +kernel) (da_cons (de_nm (i := 1)) da_nil))) (de_gi ff.g_MOST_MEETINGS)))))))
def t_is_table_value : Stmt := top 19
def N_is_table_value : List Str := ["thing", "most", "row"]
def P_is_table_value : List Str := ["thing", "most"]
abbrev S_is_table_value (B : Bs) (k : Nat) : Sta := { B with N := N_is_table_value, names := (defScope t_is_table_value).names, k := k, fc := fun _ => true }
theorem sc_is_table_value : FnScope N_is_table_value P_is_table_value (defScope t_is_table_value) := ⟨rfl, rfl, rfl, by decide +kernel, rfl, by decide +kernel, by decide +kernel⟩
def w_is_table_value (s_are_between : FS) : WS := wSeq (wIfS (wtOr (wtNot (wtV (wIsi "tuple" (wVar 0)))) (wtNot (wtV (wChain (oB0 fun i j => decide (i ≤ j)) (oB0 fun i j => decide (i ≤ j)) (wC (.int 1)) (wFz (woCB oLenD (waCons (wVar 0) (waNil)))) (wVar 1))))) (wRet (woFz (wC (.bl false)))) (wNext)) (wRet (woCB oAll (waCons (wFz (wComp (wiSeq (wVar 0)) (wgName 2) (wtTrue) (wAnd (wFz (woCall s_are_between (waCons (wVar 2) (waCons (wC (.int 0)) (waCons (wC (.int 1)) (waNil)))))) (wOp oEq (wFz (woCB oLenD (waCons (wVar 2) (waNil)))) (wFz (woCB oLenD (waCons (wVar 0) (waNil)))))) [2])) (waNil))))
theorem d_is_table_value {B : Bs} (ff : FF B) {k : Nat} {s_are_between : FS} {n_are_between : Nat} (k_are_between : Kn B n_are_between "are_between" t_are_between P_are_between s_are_between) (hk_are_between : n_are_between ≤ k) : DSs (S_is_table_value B k) (defBody t_is_table_value) (w_is_table_value s_are_between) := by
  have nd : N_is_table_value.Nodup := by decide +kernel
  exact (dss_cons (ds_if (dt_pw (dw_or (dt_not (dt_val (de_isi (ff.f_isinstance) (ff.f_tuple) (by decide +kernel) (by decide) (de_nm (i := 0))))) (dw_or1 (dt_not (dt_chain cm_le cm_le de_int (de_fz (do_callB cd_lenD (ff.f_len) (by decide +kernel) (da_cons (de_nm (i := 0)) da_nil))) (de_nm (i := 1))))))) (dss_one (ds_ret (do_fz de_bl))) dss_nil) (dss_one (ds_ret (do_callB cd_all (ff.f_all) (by decide +kernel) (da_cons (de_fz (do_lc (own := [("row", 2)]) (di_seq (de_nm (i := 0))) nd (by kernel_rfl) (dg_name (i := 2) nd) (by decide) dts_nil (de_andV (de_fz (do_call k_are_between hk_are_between (da_cons (de_nm (i := 2)) (da_cons de_int (da_cons de_int da_nil))))) (de_one (de_cmp cm_eq (de_fz (do_callB cd_lenD (ff.f_len) (by decide +kernel) (da_cons (de_nm (i := 2)) da_nil))) (de_fz (do_callB cd_lenD (ff.f_len) (by decide +kernel) (da_cons (de_nm (i := 0)) da_nil)))))))) da_nil)))))
def t_mask_of : Stmt := top 20
def N_mask_of : List Str := ["some", "x"]
def P_mask_of : List Str := ["some"]
abbrev S_mask_of (B : Bs) (k : Nat) : Sta := { B with N := N_mask_of, names := (defScope t_mask_of).names, k := k, fc := fun _ => true }
theorem sc_mask_of : FnScope N_mask_of P_mask_of (defScope t_mask_of) := ⟨rfl, rfl, rfl, by decide +kernel, rfl, by decide +kernel, by decide +kernel⟩
def w_mask_of : WS := wRet (woCB oSum (waCons (wFz (wComp (wiSeq (wVar 0)) (wgName 1) (wtTrue) (wOp (oI CPow fun i j => i * 2 ^ j.toNat) (wC (.int 1)) (wVar 1)) [1])) (waNil)))
theorem d_mask_of {B : Bs} (ff : FF B) {k : Nat} : DSs (S_mask_of B k) (defBody t_mask_of) (w_mask_of) := by
  have nd : N_mask_of.Nodup := by decide +kernel
  exact (dss_one (ds_ret (do_callB cd_sum (ff.f_sum) (by decide +kernel) (da_cons (de_fz (do_lc (own := [("x", 1)]) (di_seq (de_nm (i := 0))) nd (by kernel_rfl) (dg_name (i := 1) nd) (by decide) dts_nil (de_shl de_int (de_nm (i := 1))))) da_nil))))
def t_bits_of : Stmt := top 21
def N_bits_of : List Str := ["mask", "x"]
def P_bits_of : List Str := ["mask"]
abbrev S_bits_of (B : Bs) (k : Nat) : Sta := { B with N := N_bits_of, names := (defScope t_bits_of).names, k := k, fc := fun _ => true }
theorem sc_bits_of : FnScope N_bits_of P_bits_of (defScope t_bits_of) := ⟨rfl, rfl, rfl, by decide +kernel, rfl, by decide +kernel, by decide +kernel⟩
def w_bits_of : WS := wRet (wComp (wiRange1 (waCons (wBits (wVar 0)) (waNil))) (wgName 1) (wtV (wOp oEq (wOp (oI0 Builtin.bitAnd) (wOp (oI (fun _ j => 0 ≤ j) fun i j => i / 2 ^ j.toNat) (wVar 0) (wVar 1)) (wC (.int 1))) (wC (.int 1)))) (wVar 1) [1])
theorem d_bits_of {B : Bs} (ff : FF B) {k : Nat} : DSs (S_bits_of B k) (defBody t_bits_of) (w_bits_of) := by
  have nd : N_bits_of.Nodup := by decide +kernel
  exact (dss_one (ds_ret (do_lc (own := [("x", 1)]) (di_range1 (ff.f_range) (da_cons (de_bits (de_nm (i := 0))) da_nil)) nd (by kernel_rfl) (dg_name (i := 1) nd) (by decide) (dts_one (dt_cmp cm_eq (de_and (de_shr (de_nm (i := 0)) (de_nm (i := 1))) de_int) de_int)) (de_nm (i := 1)))))
def t_ups_of : Stmt := top 22
def N_ups_of : List Str := ["table", "row", "y", "within"]
def P_ups_of : List Str := ["table"]
abbrev S_ups_of (B : Bs) (k : Nat) : Sta := { B with N := N_ups_of, names := (defScope t_ups_of).names, k := k, fc := fun _ => true }
theorem sc_ups_of : FnScope N_ups_of P_ups_of (defScope t_ups_of) := ⟨rfl, rfl, rfl, by decide +kernel, rfl, by decide +kernel, by decide +kernel⟩
def w_ups_of (s_mask_of : FS) : WS := wRet (wComp (wiSeq (wVar 0)) (wgName 1) (wtTrue) (wFz (woCall s_mask_of (waCons (wFz (wComp (wiEnumA (waCons (wVar 1) (waNil))) (wgTup 2 (wgCons (wgName 2) (wgCons (wgName 3) (wgNil)))) (wtV (wOp oEq (wVar 3) (wC (.int 1)))) (wVar 2) [2, 3])) (waNil)))) [1])
theorem d_ups_of {B : Bs} (ff : FF B) {k : Nat} {s_mask_of : FS} {n_mask_of : Nat} (k_mask_of : Kn B n_mask_of "mask_of" t_mask_of P_mask_of s_mask_of) (hk_mask_of : n_mask_of ≤ k) : DSs (S_ups_of B k) (defBody t_ups_of) (w_ups_of s_mask_of) := by
  have nd : N_ups_of.Nodup := by decide +kernel
  exact (dss_one (ds_ret (do_lc (own := [("row", 1)]) (di_seq (de_nm (i := 0))) nd (by kernel_rfl) (dg_name (i := 1) nd) (by decide) dts_nil (de_fz (do_call k_mask_of hk_mask_of (da_cons (de_fz (do_lc (own := [("y", 2), ("within", 3)]) (di_enumA (ff.f_enumerate) (da_cons (de_nm (i := 1)) da_nil)) nd (by kernel_rfl) (dg_tup (dgs_cons (dg_name (i := 2) nd) (dgs_cons (dg_name (i := 3) nd) dgs_nil))) (by decide) (dts_one (dt_cmp cm_eq (de_nm (i := 3)) de_int)) (de_nm (i := 2)))) da_nil))))))
def t_downs_of : Stmt := top 23
def N_downs_of : List Str := ["table", "y", "x", "row"]
def P_downs_of : List Str := ["table"]
abbrev S_downs_of (B : Bs) (k : Nat) : Sta := { B with N := N_downs_of, names := (defScope t_downs_of).names, k := k, fc := fun _ => true }
theorem sc_downs_of : FnScope N_downs_of P_downs_of (defScope t_downs_of) := ⟨rfl, rfl, rfl, by decide +kernel, rfl, by decide +kernel, by decide +kernel⟩
def w_downs_of (s_mask_of : FS) : WS := wRet (wComp (wiRange1 (waCons (wFz (woCB oLenD (waCons (wVar 0) (waNil)))) (waNil))) (wgName 1) (wtTrue) (wFz (woCall s_mask_of (waCons (wFz (wComp (wiEnumA (waCons (wVar 0) (waNil))) (wgTup 2 (wgCons (wgName 2) (wgCons (wgName 3) (wgNil)))) (wtV (wOp oEq (wOp oIx (wVar 3) (wVar 1)) (wC (.int 1)))) (wVar 2) [2, 3])) (waNil)))) [1])
theorem d_downs_of {B : Bs} (ff : FF B) {k : Nat} {s_mask_of : FS} {n_mask_of : Nat} (k_mask_of : Kn B n_mask_of "mask_of" t_mask_of P_mask_of s_mask_of) (hk_mask_of : n_mask_of ≤ k) : DSs (S_downs_of B k) (defBody t_downs_of) (w_downs_of s_mask_of) := by
  have nd : N_downs_of.Nodup := by decide +kernel
  exact (dss_one (ds_ret (do_lc (own := [("y", 1)]) (di_range1 (ff.f_range) (da_cons (de_fz (do_callB cd_lenD (ff.f_len) (by decide +kernel) (da_cons (de_nm (i := 0)) da_nil))) da_nil)) nd (by kernel_rfl) (dg_name (i := 1) nd) (by decide) dts_nil (de_fz (do_call k_mask_of hk_mask_of (da_cons (de_fz (do_lc (own := [("x", 2), ("row", 3)]) (di_enumA (ff.f_enumerate) (da_cons (de_nm (i := 0)) da_nil)) nd (by kernel_rfl) (dg_tup (dgs_cons (dg_name (i := 2) nd) (dgs_cons (dg_name (i := 3) nd) dgs_nil))) (by decide) (dts_one (dt_cmp cm_eq (de_ix (de_nm (i := 3)) (de_nm (i := 1))) de_int)) (de_nm (i := 2)))) da_nil))))))
def t_order_fault : Stmt := top 24
def N_order_fault : List Str := ["table", "n", "ups", "x", "y"]
def P_order_fault : List Str := ["table"]
abbrev S_order_fault (B : Bs) (k : Nat) : Sta := { B with N := N_order_fault, names := (defScope t_order_fault).names, k := k, fc := fun _ => true }
theorem sc_order_fault : FnScope N_order_fault P_order_fault (defScope t_order_fault) := ⟨rfl, rfl, rfl, by decide +kernel, rfl, by decide +kernel, by decide +kernel⟩
def w_order_fault (s_ups_of : FS) (s_bits_of : FS) : WS := wSeq (wPar2 1 2 (woCB oLenD (waCons (wVar 0) (waNil))) (woCall s_ups_of (waCons (wVar 0) (waNil)))) (wSeq (wFor (wjRange1 (waCons (wVar 1) (waNil))) (wgName 3) (wIfS (wtV (wOp oEq (wOp oIx (wOp oIx (wVar 0) (wVar 3)) (wVar 3)) (wC (.int 0)))) (wRet (woFz (wTup (waCons (wC (.str "own")) (waCons (wVar 3) (waNil)))))) (wNext))) (wSeq (wFor (wjRange1 (waCons (wVar 1) (waNil))) (wgName 3) (wFor (wjRange2 (waCons (wFz (wOpO oAdd (wVar 3) (wC (.int 1)))) (waCons (wVar 1) (waNil)))) (wgName 4) (wIfS (wtAnd (wtV (wOp oEq (wOp oIx (wOp oIx (wVar 0) (wVar 3)) (wVar 4)) (wC (.int 1)))) (wtV (wOp oEq (wOp oIx (wOp oIx (wVar 0) (wVar 4)) (wVar 3)) (wC (.int 1))))) (wRet (woFz (wTup (waCons (wC (.str "round")) (waCons (wVar 3) (waCons (wVar 4) (waNil))))))) (wNext)))) (wSeq (wFor (wjRange1 (waCons (wVar 1) (waNil))) (wgName 3) (wFor (wjSeq (wvO (woCall s_bits_of (waCons (wOp oIx (wVar 2) (wVar 3)) (waNil))))) (wgName 4) (wIfS (wtV (wOp oNe (wOp (oI0 Builtin.bitAnd) (wOp oIx (wVar 2) (wVar 4)) (wInv (wOp oIx (wVar 2) (wVar 3)))) (wC (.int 0)))) (wRet (woFz (wTup (waCons (wC (.str "jump")) (waCons (wVar 3) (waCons (wVar 4) (waCons (wOp oIx (wFz (woCall s_bits_of (waCons (wOp (oI0 Builtin.bitAnd) (wOp oIx (wVar 2) (wVar 4)) (wInv (wOp oIx (wVar 2) (wVar 3)))) (waNil)))) (wC (.int 0))) (waNil)))))))) (wNext)))) (wRet (woFz (wC .non))))))
theorem d_order_fault {B : Bs} (ff : FF B) {k : Nat} {s_ups_of : FS} {n_ups_of : Nat} (k_ups_of : Kn B n_ups_of "ups_of" t_ups_of P_ups_of s_ups_of) (hk_ups_of : n_ups_of ≤ k) {s_bits_of : FS} {n_bits_of : Nat} (k_bits_of : Kn B n_bits_of "bits_of" t_bits_of P_bits_of s_bits_of) (hk_bits_of : n_bits_of ≤ k) : DSs (S_order_fault B k) (defBody t_order_fault) (w_order_fault s_ups_of s_bits_of) := by
  have nd : N_order_fault.Nodup := by decide +kernel
  exact (dss_cons (ds_par2 (i := 1) (j := 2) (do_callB cd_lenD (ff.f_len) (by decide +kernel) (da_cons (de_nm (i := 0)) da_nil)) (do_call k_ups_of hk_ups_of (da_cons (de_nm (i := 0)) da_nil)) nd (hw := swap2 (by kernel_rfl) (by kernel_rfl) (by rfl) (by rfl) (by kernel_rfl) (by kernel_rfl))) (dss_cons (ds_for (dj_range1 (ff.f_range) (da_cons (de_nm (i := 1)) da_nil)) (dg_name (i := 3) nd) (dss_one (ds_if (dt_cmp cm_eq (de_ix (de_ix (de_nm (i := 0)) (de_nm (i := 3))) (de_nm (i := 3))) de_int) (dss_one (ds_ret (do_fz (de_tup (da_cons de_str (da_cons (de_nm (i := 3)) da_nil)))))) dss_nil))) (dss_cons (ds_for (dj_range1 (ff.f_range) (da_cons (de_nm (i := 1)) da_nil)) (dg_name (i := 3) nd) (dss_one (ds_for (dj_range2 (ff.f_range) (da_cons (de_fz (do_op od_add (de_nm (i := 3)) de_int)) (da_cons (de_nm (i := 1)) da_nil))) (dg_name (i := 4) nd) (dss_one (ds_if (dt_pw (dw_and (dt_cmp cm_eq (de_ix (de_ix (de_nm (i := 0)) (de_nm (i := 3))) (de_nm (i := 4))) de_int) (dw_and1 (dt_cmp cm_eq (de_ix (de_ix (de_nm (i := 0)) (de_nm (i := 4))) (de_nm (i := 3))) de_int)))) (dss_one (ds_ret (do_fz (de_tup (da_cons de_str (da_cons (de_nm (i := 3)) (da_cons (de_nm (i := 4)) da_nil))))))) dss_nil))))) (dss_cons (ds_for (dj_range1 (ff.f_range) (da_cons (de_nm (i := 1)) da_nil)) (dg_name (i := 3) nd) (dss_one (ds_for (dj_seq (dv_do (do_call k_bits_of hk_bits_of (da_cons (de_ix (de_nm (i := 2)) (de_nm (i := 3))) da_nil)))) (dg_name (i := 4) nd) (dss_one (ds_if (dt_cmp cm_ne (de_and (de_ix (de_nm (i := 2)) (de_nm (i := 4))) (de_inv (de_ix (de_nm (i := 2)) (de_nm (i := 3))))) de_int) (dss_one (ds_ret (do_fz (de_tup (da_cons de_str (da_cons (de_nm (i := 3)) (da_cons (de_nm (i := 4)) (da_cons (de_ix (de_fz (do_call k_bits_of hk_bits_of (da_cons (de_and (de_ix (de_nm (i := 2)) (de_nm (i := 4))) (de_inv (de_ix (de_nm (i := 2)) (de_nm (i := 3))))) da_nil))) de_int) da_nil)))))))) dss_nil))))) (dss_one (ds_ret (do_fz de_non)))))))
def t_fault_of : Stmt := top 25
def N_fault_of : List Str := ["table", "fault", "ups", "downs", "above", "below", "x", "y", "mask"]
def P_fault_of : List Str := ["table"]
abbrev S_fault_of (B : Bs) (k : Nat) : Sta := { B with N := N_fault_of, names := (defScope t_fault_of).names, k := k, fc := fun _ => true }
theorem sc_fault_of : FnScope N_fault_of P_fault_of (defScope t_fault_of) := ⟨rfl, rfl, rfl, by decide +kernel, rfl, by decide +kernel, by decide +kernel⟩
def w_fault_of (s_order_fault : FS) (s_ups_of : FS) (s_downs_of : FS) : WS := wSeq (wSet 1 (woCall s_order_fault (waCons (wVar 0) (waNil)))) (wSeq (wIfS (wtV (wOp oNotNon (wVar 1) (wC .non))) (wRetV 1) (wNext)) (wSeq (wPar2 2 3 (woCall s_ups_of (waCons (wVar 0) (waNil))) (woCall s_downs_of (waCons (wVar 0) (waNil)))) (wSeq (wPar2 4 5 (wDComp (wiSeq (wVar 2)) (wgName 8) (wtTrue) (wVar 8) (wC (.bl true)) [8]) (wDComp (wiSeq (wVar 3)) (wgName 8) (wtTrue) (wVar 8) (wC (.bl true)) [8])) (wSeq (wFor (wjRange1 (waCons (wFz (woCB oLenD (waCons (wVar 0) (waNil)))) (waNil))) (wgName 6) (wFor (wjRange1 (waCons (wVar 6) (waNil))) (wgName 7) (wSeq (wIfS (wtV (wOp oDNotIn (wOp (oI0 Builtin.bitAnd) (wOp oIx (wVar 3) (wVar 6)) (wOp oIx (wVar 3) (wVar 7))) (wVar 5))) (wRet (woFz (wTup (waCons (wC (.str "both")) (waCons (wVar 7) (waCons (wVar 6) (waNil))))))) (wNext)) (wIfS (wtV (wOp oDNotIn (wOp (oI0 Builtin.bitAnd) (wOp oIx (wVar 2) (wVar 6)) (wOp oIx (wVar 2) (wVar 7))) (wVar 4))) (wRet (woFz (wTup (waCons (wC (.str "all")) (waCons (wVar 7) (waCons (wVar 6) (waNil))))))) (wNext))))) (wRet (woFz (wC .non)))))))
theorem d_fault_of {B : Bs} (ff : FF B) {k : Nat} {s_order_fault : FS} {n_order_fault : Nat} (k_order_fault : Kn B n_order_fault "order_fault" t_order_fault P_order_fault s_order_fault) (hk_order_fault : n_order_fault ≤ k) {s_ups_of : FS} {n_ups_of : Nat} (k_ups_of : Kn B n_ups_of "ups_of" t_ups_of P_ups_of s_ups_of) (hk_ups_of : n_ups_of ≤ k) {s_downs_of : FS} {n_downs_of : Nat} (k_downs_of : Kn B n_downs_of "downs_of" t_downs_of P_downs_of s_downs_of) (hk_downs_of : n_downs_of ≤ k) : DSs (S_fault_of B k) (defBody t_fault_of) (w_fault_of s_order_fault s_ups_of s_downs_of) := by
  have nd : N_fault_of.Nodup := by decide +kernel
  exact (dss_cons (ds_set (i := 1) (do_call k_order_fault hk_order_fault (da_cons (de_nm (i := 0)) da_nil)) nd) (dss_cons (ds_if (dt_cmp cm_notN (de_nm (i := 1)) de_non) (dss_one (ds_retV (i := 1))) dss_nil) (dss_cons (ds_par2 (i := 2) (j := 3) (do_call k_ups_of hk_ups_of (da_cons (de_nm (i := 0)) da_nil)) (do_call k_downs_of hk_downs_of (da_cons (de_nm (i := 0)) da_nil)) nd (hw := swap2 (by kernel_rfl) (by kernel_rfl) (by rfl) (by rfl) (by kernel_rfl) (by kernel_rfl))) (dss_cons (ds_par2 (i := 4) (j := 5) (do_dc (own := [("mask", 8)]) (di_seq (de_nm (i := 2))) nd (by kernel_rfl) (dg_name (i := 8) nd) (by decide) dts_nil (de_nm (i := 8)) de_bl) (do_dc (own := [("mask", 8)]) (di_seq (de_nm (i := 3))) nd (by kernel_rfl) (dg_name (i := 8) nd) (by decide) dts_nil (de_nm (i := 8)) de_bl) nd (hw := swap2 (by kernel_rfl) (by kernel_rfl) (by rfl) (by rfl) (by kernel_rfl) (by kernel_rfl))) (dss_cons (ds_for (dj_range1 (ff.f_range) (da_cons (de_fz (do_callB cd_lenD (ff.f_len) (by decide +kernel) (da_cons (de_nm (i := 0)) da_nil))) da_nil)) (dg_name (i := 6) nd) (dss_one (ds_for (dj_range1 (ff.f_range) (da_cons (de_nm (i := 6)) da_nil)) (dg_name (i := 7) nd) (dss_cons (ds_if (dt_dnotin (de_and (de_ix (de_nm (i := 3)) (de_nm (i := 6))) (de_ix (de_nm (i := 3)) (de_nm (i := 7)))) (de_nm (i := 5))) (dss_one (ds_ret (do_fz (de_tup (da_cons de_str (da_cons (de_nm (i := 7)) (da_cons (de_nm (i := 6)) da_nil))))))) dss_nil) (dss_one (ds_if (dt_dnotin (de_and (de_ix (de_nm (i := 2)) (de_nm (i := 6))) (de_ix (de_nm (i := 2)) (de_nm (i := 7)))) (de_nm (i := 4))) (dss_one (ds_ret (do_fz (de_tup (da_cons de_str (da_cons (de_nm (i := 7)) (da_cons (de_nm (i := 6)) da_nil))))))) dss_nil)))))) (dss_one (ds_ret (do_fz de_non))))))))
def t_is_house_value : Stmt := top 26
def N_is_house_value : List Str := ["thing"]
def P_is_house_value : List Str := ["thing"]
abbrev S_is_house_value (B : Bs) (k : Nat) : Sta := { B with N := N_is_house_value, names := (defScope t_is_house_value).names, k := k, fc := fun _ => true }
theorem sc_is_house_value : FnScope N_is_house_value P_is_house_value (defScope t_is_house_value) := ⟨rfl, rfl, rfl, by decide +kernel, rfl, by decide +kernel, by decide +kernel⟩
def w_is_house_value (s_is_table_value : FS) (s_fault_of : FS) : WS := wRet (woFz (wAnd (wFz (woCallD [24] s_is_table_value (waCons (wVar 0) (waNil)))) (wOp oIsNon (wFz (woCall s_fault_of (waCons (wVar 0) (waNil)))) (wC .non))))
theorem d_is_house_value {B : Bs} (ff : FF B) {k : Nat} {s_is_table_value : FS} {n_is_table_value : Nat} (k_is_table_value : KnD B n_is_table_value "is_table_value" t_is_table_value P_is_table_value [24] s_is_table_value) (hk_is_table_value : n_is_table_value ≤ k) {s_fault_of : FS} {n_fault_of : Nat} (k_fault_of : Kn B n_fault_of "fault_of" t_fault_of P_fault_of s_fault_of) (hk_fault_of : n_fault_of ≤ k) : DSs (S_is_house_value B k) (defBody t_is_house_value) (w_is_house_value s_is_table_value s_fault_of) := by
  have nd : N_is_house_value.Nodup := by decide +kernel
  exact (dss_one (ds_ret (do_fz (de_andV (de_fz (do_callD k_is_table_value hk_is_table_value (da_cons (de_nm (i := 0)) da_nil))) (de_one (de_cmp cm_isN (de_fz (do_call k_fault_of hk_fault_of (da_cons (de_nm (i := 0)) da_nil))) de_non))))))
def t_boths_of : Stmt := top 27
def N_boths_of : List Str := ["house", "downs", "found", "lot", "mask", "one", "other"]
def P_boths_of : List Str := ["house"]
abbrev S_boths_of (B : Bs) (k : Nat) : Sta := { B with N := N_boths_of, names := (defScope t_boths_of).names, k := k, fc := fun _ => true }
theorem sc_boths_of : FnScope N_boths_of P_boths_of (defScope t_boths_of) := ⟨rfl, rfl, rfl, by decide +kernel, rfl, by decide +kernel, by decide +kernel⟩
def w_boths_of (s_downs_of : FS) : WS := wSeq (wSet 1 (woCall s_downs_of (waCons (wVar 0) (waNil)))) (wSeq (wSet 2 (wDComp (wiEnumA (waCons (wVar 1) (waNil))) (wgTup 2 (wgCons (wgName 3) (wgCons (wgName 4) (wgNil)))) (wtTrue) (wVar 4) (wVar 3) [3, 4])) (wRet (wComp (wiSeq (wVar 1)) (wgName 5) (wtTrue) (wFz (wComp (wiSeq (wVar 1)) (wgName 6) (wtTrue) (wOp oDGet (wVar 2) (wOp (oI0 Builtin.bitAnd) (wVar 5) (wVar 6))) [6])) [5])))
theorem d_boths_of {B : Bs} (ff : FF B) {k : Nat} {s_downs_of : FS} {n_downs_of : Nat} (k_downs_of : Kn B n_downs_of "downs_of" t_downs_of P_downs_of s_downs_of) (hk_downs_of : n_downs_of ≤ k) : DSs (S_boths_of B k) (defBody t_boths_of) (w_boths_of s_downs_of) := by
  have nd : N_boths_of.Nodup := by decide +kernel
  exact (dss_cons (ds_set (i := 1) (do_call k_downs_of hk_downs_of (da_cons (de_nm (i := 0)) da_nil)) nd) (dss_cons (ds_setDcC (i := 2) (do_dc (own := [("lot", 3), ("mask", 4)]) (di_enumA (ff.f_enumerate) (da_cons (de_nm (i := 1)) da_nil)) nd (by kernel_rfl) (dg_tup (dgs_cons (dg_name (i := 3) nd) (dgs_cons (dg_name (i := 4) nd) dgs_nil))) (by decide) dts_nil (de_nm (i := 4)) (de_nm (i := 3))) nd) (dss_one (ds_ret (do_lc (own := [("one", 5)]) (di_seq (de_nm (i := 1))) nd (by kernel_rfl) (dg_name (i := 5) nd) (by decide) dts_nil (de_fz (do_lc (own := [("other", 6)]) (di_seq (de_nm (i := 1))) nd (by kernel_rfl) (dg_name (i := 6) nd) (by decide) dts_nil (de_dget (de_nm (i := 2)) (de_and (de_nm (i := 5)) (de_nm (i := 6)))))))))))
def t_alls_of : Stmt := top 28
def N_alls_of : List Str := ["house", "ups", "found", "lot", "mask", "one", "other"]
def P_alls_of : List Str := ["house"]
abbrev S_alls_of (B : Bs) (k : Nat) : Sta := { B with N := N_alls_of, names := (defScope t_alls_of).names, k := k, fc := fun _ => true }
theorem sc_alls_of : FnScope N_alls_of P_alls_of (defScope t_alls_of) := ⟨rfl, rfl, rfl, by decide +kernel, rfl, by decide +kernel, by decide +kernel⟩
def w_alls_of (s_ups_of : FS) : WS := wSeq (wSet 1 (woCall s_ups_of (waCons (wVar 0) (waNil)))) (wSeq (wSet 2 (wDComp (wiEnumA (waCons (wVar 1) (waNil))) (wgTup 2 (wgCons (wgName 3) (wgCons (wgName 4) (wgNil)))) (wtTrue) (wVar 4) (wVar 3) [3, 4])) (wRet (wComp (wiSeq (wVar 1)) (wgName 5) (wtTrue) (wFz (wComp (wiSeq (wVar 1)) (wgName 6) (wtTrue) (wOp oDGet (wVar 2) (wOp (oI0 Builtin.bitAnd) (wVar 5) (wVar 6))) [6])) [5])))
theorem d_alls_of {B : Bs} (ff : FF B) {k : Nat} {s_ups_of : FS} {n_ups_of : Nat} (k_ups_of : Kn B n_ups_of "ups_of" t_ups_of P_ups_of s_ups_of) (hk_ups_of : n_ups_of ≤ k) : DSs (S_alls_of B k) (defBody t_alls_of) (w_alls_of s_ups_of) := by
  have nd : N_alls_of.Nodup := by decide +kernel
  exact (dss_cons (ds_set (i := 1) (do_call k_ups_of hk_ups_of (da_cons (de_nm (i := 0)) da_nil)) nd) (dss_cons (ds_setDcC (i := 2) (do_dc (own := [("lot", 3), ("mask", 4)]) (di_enumA (ff.f_enumerate) (da_cons (de_nm (i := 1)) da_nil)) nd (by kernel_rfl) (dg_tup (dgs_cons (dg_name (i := 3) nd) (dgs_cons (dg_name (i := 4) nd) dgs_nil))) (by decide) dts_nil (de_nm (i := 4)) (de_nm (i := 3))) nd) (dss_one (ds_ret (do_lc (own := [("one", 5)]) (di_seq (de_nm (i := 1))) nd (by kernel_rfl) (dg_name (i := 5) nd) (by decide) dts_nil (de_fz (do_lc (own := [("other", 6)]) (di_seq (de_nm (i := 1))) nd (by kernel_rfl) (dg_name (i := 6) nd) (by decide) dts_nil (de_dget (de_nm (i := 2)) (de_and (de_nm (i := 5)) (de_nm (i := 6)))))))))))
def t_need_house : Stmt := top 30
def N_need_house : List Str := ["house"]
def P_need_house : List Str := ["house"]
abbrev S_need_house (B : Bs) (k : Nat) : Sta := { B with N := N_need_house, names := (defScope t_need_house).names, k := k, fc := fun _ => true }
theorem sc_need_house : FnScope N_need_house P_need_house (defScope t_need_house) := ⟨rfl, rfl, rfl, by decide +kernel, rfl, by decide +kernel, by decide +kernel⟩
def w_need_house (s_is_house_value : FS) : WS := wIfS (wtNot (wtV (wFz (woCall s_is_house_value (waCons (wVar 0) (waNil)))))) (wNever) (wNext)
theorem d_need_house {B : Bs} (ff : FF B) {k : Nat} {s_is_house_value : FS} {n_is_house_value : Nat} (k_is_house_value : Kn B n_is_house_value "is_house_value" t_is_house_value P_is_house_value s_is_house_value) (hk_is_house_value : n_is_house_value ≤ k) : DSs (S_need_house B k) (defBody t_need_house) (w_need_house s_is_house_value) := by
  have nd : N_need_house.Nodup := by decide +kernel
  exact (dss_one (ds_if (dt_not (dt_val (de_fz (do_call k_is_house_value hk_is_house_value (da_cons (de_nm (i := 0)) da_nil))))) (dss_one ds_never) dss_nil))
def t_is_row_value : Stmt := top 31
def N_is_row_value : List Str := ["house", "thing"]
def P_is_row_value : List Str := ["house", "thing"]
abbrev S_is_row_value (B : Bs) (k : Nat) : Sta := { B with N := N_is_row_value, names := (defScope t_is_row_value).names, k := k, fc := fun _ => true }
theorem sc_is_row_value : FnScope N_is_row_value P_is_row_value (defScope t_is_row_value) := ⟨rfl, rfl, rfl, by decide +kernel, rfl, by decide +kernel, by decide +kernel⟩
def w_is_row_value (s_are_between : FS) : WS := wRet (woFz (wAnd (wFz (woCall s_are_between (waCons (wVar 1) (waCons (wC (.int 0)) (waCons (wOp (oI0 fun i j => i - j) (wFz (woCB oLenD (waCons (wVar 0) (waNil)))) (wC (.int 1))) (waNil)))))) (wChain (oB0 fun i j => decide (i ≤ j)) (oB0 fun i j => decide (i ≤ j)) (wC (.int 1)) (wFz (woCB oLenD (waCons (wVar 1) (waNil)))) (wC (.int 6)))))
theorem d_is_row_value {B : Bs} (ff : FF B) {k : Nat} {s_are_between : FS} {n_are_between : Nat} (k_are_between : Kn B n_are_between "are_between" t_are_between P_are_between s_are_between) (hk_are_between : n_are_between ≤ k) : DSs (S_is_row_value B k) (defBody t_is_row_value) (w_is_row_value s_are_between) := by
  have nd : N_is_row_value.Nodup := by decide +kernel
  exact (dss_one (ds_ret (do_fz (de_andV (de_fz (do_call k_are_between hk_are_between (da_cons (de_nm (i := 1)) (da_cons de_int (da_cons (de_sub (de_fz (do_callB cd_lenD (ff.f_len) (by decide +kernel) (da_cons (de_nm (i := 0)) da_nil))) de_int) da_nil))))) (de_one (de_chain cm_le cm_le de_int (de_fz (do_callB cd_lenD (ff.f_len) (by decide +kernel) (da_cons (de_nm (i := 1)) da_nil))) (de_gi ff.g_MOST_HANDS)))))))
def t_need_row : Stmt := top 32
def N_need_row : List Str := ["house", "row"]
def P_need_row : List Str := ["house", "row"]
abbrev S_need_row (B : Bs) (k : Nat) : Sta := { B with N := N_need_row, names := (defScope t_need_row).names, k := k, fc := fun _ => true }
theorem sc_need_row : FnScope N_need_row P_need_row (defScope t_need_row) := ⟨rfl, rfl, rfl, by decide +kernel, rfl, by decide +kernel, by decide +kernel⟩
def w_need_row (s_is_row_value : FS) : WS := wIfS (wtNot (wtV (wFz (woCall s_is_row_value (waCons (wVar 0) (waCons (wVar 1) (waNil))))))) (wNever) (wNext)
theorem d_need_row {B : Bs} (ff : FF B) {k : Nat} {s_is_row_value : FS} {n_is_row_value : Nat} (k_is_row_value : Kn B n_is_row_value "is_row_value" t_is_row_value P_is_row_value s_is_row_value) (hk_is_row_value : n_is_row_value ≤ k) : DSs (S_need_row B k) (defBody t_need_row) (w_need_row s_is_row_value) := by
  have nd : N_need_row.Nodup := by decide +kernel
  exact (dss_one (ds_if (dt_not (dt_val (de_fz (do_call k_is_row_value hk_is_row_value (da_cons (de_nm (i := 0)) (da_cons (de_nm (i := 1)) da_nil)))))) (dss_one ds_never) dss_nil))
def t_need_house_and_row : Stmt := top 33
def N_need_house_and_row : List Str := ["house", "row"]
def P_need_house_and_row : List Str := ["house", "row"]
abbrev S_need_house_and_row (B : Bs) (k : Nat) : Sta := { B with N := N_need_house_and_row, names := (defScope t_need_house_and_row).names, k := k, fc := fun _ => true }
theorem sc_need_house_and_row : FnScope N_need_house_and_row P_need_house_and_row (defScope t_need_house_and_row) := ⟨rfl, rfl, rfl, by decide +kernel, rfl, by decide +kernel, by decide +kernel⟩
def w_need_house_and_row (s_need_house : FS) (s_need_row : FS) : WS := wSeq (wExpr (wFz (woCall s_need_house (waCons (wVar 0) (waNil))))) (wExpr (wFz (woCall s_need_row (waCons (wVar 0) (waCons (wVar 1) (waNil))))))
theorem d_need_house_and_row {B : Bs} (ff : FF B) {k : Nat} {s_need_house : FS} {n_need_house : Nat} (k_need_house : Kn B n_need_house "need_house" t_need_house P_need_house s_need_house) (hk_need_house : n_need_house ≤ k) {s_need_row : FS} {n_need_row : Nat} (k_need_row : Kn B n_need_row "need_row" t_need_row P_need_row s_need_row) (hk_need_row : n_need_row ≤ k) : DSs (S_need_house_and_row B k) (defBody t_need_house_and_row) (w_need_house_and_row s_need_house s_need_row) := by
  have nd : N_need_house_and_row.Nodup := by decide +kernel
  exact (dss_cons (ds_expr (de_fz (do_call k_need_house hk_need_house (da_cons (de_nm (i := 0)) da_nil)))) (dss_one (ds_expr (de_fz (do_call k_need_row hk_need_row (da_cons (de_nm (i := 0)) (da_cons (de_nm (i := 1)) da_nil)))))))
def t_need_plan : Stmt := top 34
def N_need_plan : List Str := ["hands", "plan"]
def P_need_plan : List Str := ["hands", "plan"]
abbrev S_need_plan (B : Bs) (k : Nat) : Sta := { B with N := N_need_plan, names := (defScope t_need_plan).names, k := k, fc := fun _ => true }
theorem sc_need_plan : FnScope N_need_plan P_need_plan (defScope t_need_plan) := ⟨rfl, rfl, rfl, by decide +kernel, rfl, by decide +kernel, by decide +kernel⟩
def w_need_plan (s_is_plan_value : FS) : WS := wIfS (wtNot (wtV (wFz (woCall s_is_plan_value (waCons (wVar 0) (waCons (wVar 1) (waNil))))))) (wNever) (wNext)
theorem d_need_plan {B : Bs} (ff : FF B) {k : Nat} {s_is_plan_value : FS} {n_is_plan_value : Nat} (k_is_plan_value : Kn B n_is_plan_value "is_plan_value" t_is_plan_value P_is_plan_value s_is_plan_value) (hk_is_plan_value : n_is_plan_value ≤ k) : DSs (S_need_plan B k) (defBody t_need_plan) (w_need_plan s_is_plan_value) := by
  have nd : N_need_plan.Nodup := by decide +kernel
  exact (dss_one (ds_if (dt_not (dt_val (de_fz (do_call k_is_plan_value hk_is_plan_value (da_cons (de_nm (i := 0)) (da_cons (de_nm (i := 1)) da_nil)))))) (dss_one ds_never) dss_nil))
def t_check : Stmt := top 36
def N_check : List Str := ["house", "other", "lots"]
def P_check : List Str := ["house", "other", "lots"]
abbrev S_check (B : Bs) (k : Nat) : Sta := { B with N := N_check, names := (defScope t_check).names, k := k, fc := fun _ => true }
theorem sc_check : FnScope N_check P_check (defScope t_check) := ⟨rfl, rfl, rfl, by decide +kernel, rfl, by decide +kernel, by decide +kernel⟩
def w_check (s_need_house : FS) (s_are_between : FS) : WS := wSeq (wExpr (wFz (woCall s_need_house (waCons (wVar 0) (waNil))))) (wSeq (wExpr (wFz (woCall s_need_house (waCons (wVar 1) (waNil))))) (wIfS (wtOr (wtNot (wtV (wFz (woCall s_are_between (waCons (wVar 2) (waCons (wC (.int 0)) (waCons (wOp (oI0 fun i j => i - j) (wFz (woCB oLenD (waCons (wVar 1) (waNil)))) (wC (.int 1))) (waNil)))))))) (wtV (wOp oNe (wFz (woCB oLenD (waCons (wVar 2) (waNil)))) (wFz (woCB oLenD (waCons (wVar 0) (waNil))))))) (wNever) (wNext)))
theorem d_check {B : Bs} (ff : FF B) {k : Nat} {s_need_house : FS} {n_need_house : Nat} (k_need_house : Kn B n_need_house "need_house" t_need_house P_need_house s_need_house) (hk_need_house : n_need_house ≤ k) {s_are_between : FS} {n_are_between : Nat} (k_are_between : Kn B n_are_between "are_between" t_are_between P_are_between s_are_between) (hk_are_between : n_are_between ≤ k) : DSs (S_check B k) (defBody t_check) (w_check s_need_house s_are_between) := by
  have nd : N_check.Nodup := by decide +kernel
  exact (dss_cons (ds_expr (de_fz (do_call k_need_house hk_need_house (da_cons (de_nm (i := 0)) da_nil)))) (dss_cons (ds_expr (de_fz (do_call k_need_house hk_need_house (da_cons (de_nm (i := 1)) da_nil)))) (dss_one (ds_if (dt_pw (dw_or (dt_not (dt_val (de_fz (do_call k_are_between hk_are_between (da_cons (de_nm (i := 2)) (da_cons de_int (da_cons (de_sub (de_fz (do_callB cd_lenD (ff.f_len) (by decide +kernel) (da_cons (de_nm (i := 1)) da_nil))) de_int) da_nil))))))) (dw_or1 (dt_cmp cm_ne (de_fz (do_callB cd_lenD (ff.f_len) (by decide +kernel) (da_cons (de_nm (i := 2)) da_nil))) (de_fz (do_callB cd_lenD (ff.f_len) (by decide +kernel) (da_cons (de_nm (i := 0)) da_nil))))))) (dss_one ds_never) dss_nil))))
def t_is_led : Stmt := top 37
def N_is_led : List Str := ["near", "far", "lots", "x", "y"]
def P_is_led : List Str := ["near", "far", "lots", "x", "y"]
abbrev S_is_led (B : Bs) (k : Nat) : Sta := { B with N := N_is_led, names := (defScope t_is_led).names, k := k, fc := fun _ => true }
theorem sc_is_led : FnScope N_is_led P_is_led (defScope t_is_led) := ⟨rfl, rfl, rfl, by decide +kernel, rfl, by decide +kernel, by decide +kernel⟩
def w_is_led : WS := wRet (woFz (wOp oEq (wOp oIx (wVar 2) (wOp oIx (wOp oIx (wVar 0) (wVar 3)) (wVar 4))) (wOp oIx (wOp oIx (wVar 1) (wOp oIx (wVar 2) (wVar 3))) (wOp oIx (wVar 2) (wVar 4)))))
theorem d_is_led {B : Bs} (ff : FF B) {k : Nat} : DSs (S_is_led B k) (defBody t_is_led) (w_is_led) := by
  have nd : N_is_led.Nodup := by decide +kernel
  exact (dss_one (ds_ret (do_fz (de_cmp cm_eq (de_ix (de_nm (i := 2)) (de_ix (de_ix (de_nm (i := 0)) (de_nm (i := 3))) (de_nm (i := 4)))) (de_ix (de_ix (de_nm (i := 1)) (de_ix (de_nm (i := 2)) (de_nm (i := 3)))) (de_ix (de_nm (i := 2)) (de_nm (i := 4))))))))
def t_judged_map : Stmt := top 38
def N_judged_map : List Str := ["house", "other", "lots", "tables", "word", "near", "far", "x", "y"]
def P_judged_map : List Str := ["house", "other", "lots"]
abbrev S_judged_map (B : Bs) (k : Nat) : Sta := { B with N := N_judged_map, names := (defScope t_judged_map).names, k := k, fc := fun _ => true }
theorem sc_judged_map : FnScope N_judged_map P_judged_map (defScope t_judged_map) := ⟨rfl, rfl, rfl, by decide +kernel, rfl, by decide +kernel, by decide +kernel⟩
def w_judged_map (s_alls_of : FS) (s_boths_of : FS) (s_is_led : FS) : WS := wSeq (wSet 3 (woFz (wTup (waCons (wTup (waCons (wC (.str "both")) (waCons (wFz (woCall s_boths_of (waCons (wVar 0) (waNil)))) (waCons (wFz (woCall s_boths_of (waCons (wVar 1) (waNil)))) (waNil))))) (waCons (wTup (waCons (wC (.str "all")) (waCons (wFz (woCall s_alls_of (waCons (wVar 0) (waNil)))) (waCons (wFz (woCall s_alls_of (waCons (wVar 1) (waNil)))) (waNil))))) (waNil)))))) (wSeq (wFor (wjSeq (wvVar 3)) (wgTup 3 (wgCons (wgName 4) (wgCons (wgName 5) (wgCons (wgName 6) (wgNil))))) (wFor (wjRange1 (waCons (wFz (woCB oLenD (waCons (wVar 0) (waNil)))) (waNil))) (wgName 7) (wFor (wjRange1 (waCons (wFz (woCB oLenD (waCons (wVar 0) (waNil)))) (waNil))) (wgName 8) (wIfS (wtNot (wtV (wFz (woCall s_is_led (waCons (wVar 5) (waCons (wVar 6) (waCons (wVar 2) (waCons (wVar 7) (waCons (wVar 8) (waNil)))))))))) (wRet (woFz (wTup (waCons (wVar 4) (waCons (wVar 7) (waCons (wVar 8) (waNil))))))) (wNext))))) (wRet (woFz (wTup (waCons (wC (.str "good")) (waNil))))))
theorem d_judged_map {B : Bs} (ff : FF B) {k : Nat} {s_alls_of : FS} {n_alls_of : Nat} (k_alls_of : Kn B n_alls_of "alls_of" t_alls_of P_alls_of s_alls_of) (hk_alls_of : n_alls_of ≤ k) {s_boths_of : FS} {n_boths_of : Nat} (k_boths_of : Kn B n_boths_of "boths_of" t_boths_of P_boths_of s_boths_of) (hk_boths_of : n_boths_of ≤ k) {s_is_led : FS} {n_is_led : Nat} (k_is_led : Kn B n_is_led "is_led" t_is_led P_is_led s_is_led) (hk_is_led : n_is_led ≤ k) : DSs (S_judged_map B k) (defBody t_judged_map) (w_judged_map s_alls_of s_boths_of s_is_led) := by
  have nd : N_judged_map.Nodup := by decide +kernel
  exact (dss_cons (ds_set (i := 3) (do_fz (de_tup (da_cons (de_tup (da_cons de_str (da_cons (de_fz (do_call k_boths_of hk_boths_of (da_cons (de_nm (i := 0)) da_nil))) (da_cons (de_fz (do_call k_boths_of hk_boths_of (da_cons (de_nm (i := 1)) da_nil))) da_nil)))) (da_cons (de_tup (da_cons de_str (da_cons (de_fz (do_call k_alls_of hk_alls_of (da_cons (de_nm (i := 0)) da_nil))) (da_cons (de_fz (do_call k_alls_of hk_alls_of (da_cons (de_nm (i := 1)) da_nil))) da_nil)))) da_nil)))) nd) (dss_cons (ds_for (dj_seq (dv_var (i := 3))) (dg_tup (dgs_cons (dg_name (i := 4) nd) (dgs_cons (dg_name (i := 5) nd) (dgs_cons (dg_name (i := 6) nd) dgs_nil)))) (dss_one (ds_for (dj_range1 (ff.f_range) (da_cons (de_fz (do_callB cd_lenD (ff.f_len) (by decide +kernel) (da_cons (de_nm (i := 0)) da_nil))) da_nil)) (dg_name (i := 7) nd) (dss_one (ds_for (dj_range1 (ff.f_range) (da_cons (de_fz (do_callB cd_lenD (ff.f_len) (by decide +kernel) (da_cons (de_nm (i := 0)) da_nil))) da_nil)) (dg_name (i := 8) nd) (dss_one (ds_if (dt_not (dt_val (de_fz (do_call k_is_led hk_is_led (da_cons (de_nm (i := 5)) (da_cons (de_nm (i := 6)) (da_cons (de_nm (i := 2)) (da_cons (de_nm (i := 7)) (da_cons (de_nm (i := 8)) da_nil))))))))) (dss_one (ds_ret (do_fz (de_tup (da_cons (de_nm (i := 4)) (da_cons (de_nm (i := 7)) (da_cons (de_nm (i := 8)) da_nil))))))) dss_nil))))))) (dss_one (ds_ret (do_fz (de_tup (da_cons de_str da_nil)))))))
def t_judge_map : Stmt := top 39
def N_judge_map : List Str := ["house", "other", "lots"]
def P_judge_map : List Str := ["house", "other", "lots"]
abbrev S_judge_map (B : Bs) (k : Nat) : Sta := { B with N := N_judge_map, names := (defScope t_judge_map).names, k := k, fc := fun _ => true }
theorem sc_judge_map : FnScope N_judge_map P_judge_map (defScope t_judge_map) := ⟨rfl, rfl, rfl, by decide +kernel, rfl, by decide +kernel, by decide +kernel⟩
def w_judge_map (s_check : FS) (s_judged_map : FS) : WS := wSeq (wExpr (wFz (woCall s_check (waCons (wVar 0) (waCons (wVar 1) (waCons (wVar 2) (waNil))))))) (wRet (woCall s_judged_map (waCons (wVar 0) (waCons (wVar 1) (waCons (wVar 2) (waNil))))))
theorem d_judge_map {B : Bs} (ff : FF B) {k : Nat} {s_check : FS} {n_check : Nat} (k_check : Kn B n_check "check" t_check P_check s_check) (hk_check : n_check ≤ k) {s_judged_map : FS} {n_judged_map : Nat} (k_judged_map : Kn B n_judged_map "judged_map" t_judged_map P_judged_map s_judged_map) (hk_judged_map : n_judged_map ≤ k) : DSs (S_judge_map B k) (defBody t_judge_map) (w_judge_map s_check s_judged_map) := by
  have nd : N_judge_map.Nodup := by decide +kernel
  exact (dss_cons (ds_expr (de_fz (do_call k_check hk_check (da_cons (de_nm (i := 0)) (da_cons (de_nm (i := 1)) (da_cons (de_nm (i := 2)) da_nil)))))) (dss_one (ds_ret (do_call k_judged_map hk_judged_map (da_cons (de_nm (i := 0)) (da_cons (de_nm (i := 1)) (da_cons (de_nm (i := 2)) da_nil)))))))
def t_map_holds : Stmt := top 40
def N_map_holds : List Str := ["house", "other", "lots", "thing", "is_both"]
def P_map_holds : List Str := ["house", "other", "lots", "thing"]
abbrev S_map_holds (B : Bs) (k : Nat) : Sta := { B with N := N_map_holds, names := (defScope t_map_holds).names, k := k, fc := fun _ => true }
theorem sc_map_holds : FnScope N_map_holds P_map_holds (defScope t_map_holds) := ⟨rfl, rfl, rfl, by decide +kernel, rfl, by decide +kernel, by decide +kernel⟩
def w_map_holds (s_check : FS) (s_is_exactly : FS) (s_judged_map : FS) (s_is_word : FS) (s_is_between : FS) (s_is_led : FS) (s_boths_of : FS) (s_alls_of : FS) : WS := wSeq (wExpr (wFz (woCall s_check (waCons (wVar 0) (waCons (wVar 1) (waCons (wVar 2) (waNil))))))) (wSeq (wIfS (wtV (wFz (woCall s_is_exactly (waCons (wVar 3) (waCons (wTup (waCons (wC (.str "good")) (waNil))) (waNil)))))) (wRet (woFz (wOp oEq (wFz (woCall s_judged_map (waCons (wVar 0) (waCons (wVar 1) (waCons (wVar 2) (waNil)))))) (wTup (waCons (wC (.str "good")) (waNil)))))) (wNext)) (wSeq (wSet 4 (woCall s_is_word (waCons (wVar 3) (waCons (wC (.str "both")) (waNil))))) (wSeq (wIfS (wtOr (wtAnd (wtNot (wtV (wVar 4))) (wtNot (wtV (wFz (woCall s_is_word (waCons (wVar 3) (waCons (wC (.str "all")) (waNil)))))))) (wtV (wOp oNe (wFz (woCB oLenD (waCons (wVar 3) (waNil)))) (wC (.int 3))))) (wRet (woFz (wC (.bl false)))) (wNext)) (wSeq (wIfS (wtOr (wtNot (wtV (wFz (woCall s_is_between (waCons (wOp oIx (wVar 3) (wC (.int 1))) (waCons (wC (.int 0)) (waCons (wOp (oI0 fun i j => i - j) (wFz (woCB oLenD (waCons (wVar 0) (waNil)))) (wC (.int 1))) (waNil)))))))) (wtNot (wtV (wFz (woCall s_is_between (waCons (wOp oIx (wVar 3) (wC (.int 2))) (waCons (wC (.int 0)) (waCons (wOp (oI0 fun i j => i - j) (wFz (woCB oLenD (waCons (wVar 0) (waNil)))) (wC (.int 1))) (waNil))))))))) (wRet (woFz (wC (.bl false)))) (wNext)) (wSeq (wIfS (wtV (wVar 4)) (wRet (woFz (wNot (wFz (woCall s_is_led (waCons (wFz (woCall s_boths_of (waCons (wVar 0) (waNil)))) (waCons (wFz (woCall s_boths_of (waCons (wVar 1) (waNil)))) (waCons (wVar 2) (waCons (wOp oIx (wVar 3) (wC (.int 1))) (waCons (wOp oIx (wVar 3) (wC (.int 2))) (waNil))))))))))) (wNext)) (wRet (woFz (wNot (wFz (woCall s_is_led (waCons (wFz (woCall s_alls_of (waCons (wVar 0) (waNil)))) (waCons (wFz (woCall s_alls_of (waCons (wVar 1) (waNil)))) (waCons (wVar 2) (waCons (wOp oIx (wVar 3) (wC (.int 1))) (waCons (wOp oIx (wVar 3) (wC (.int 2))) (waNil))))))))))))))))
theorem d_map_holds {B : Bs} (ff : FF B) {k : Nat} {s_check : FS} {n_check : Nat} (k_check : Kn B n_check "check" t_check P_check s_check) (hk_check : n_check ≤ k) {s_is_exactly : FS} {n_is_exactly : Nat} (k_is_exactly : Kn B n_is_exactly "is_exactly" t_is_exactly P_is_exactly s_is_exactly) (hk_is_exactly : n_is_exactly ≤ k) {s_judged_map : FS} {n_judged_map : Nat} (k_judged_map : Kn B n_judged_map "judged_map" t_judged_map P_judged_map s_judged_map) (hk_judged_map : n_judged_map ≤ k) {s_is_word : FS} {n_is_word : Nat} (k_is_word : Kn B n_is_word "is_word" t_is_word P_is_word s_is_word) (hk_is_word : n_is_word ≤ k) {s_is_between : FS} {n_is_between : Nat} (k_is_between : Kn B n_is_between "is_between" t_is_between P_is_between s_is_between) (hk_is_between : n_is_between ≤ k) {s_is_led : FS} {n_is_led : Nat} (k_is_led : Kn B n_is_led "is_led" t_is_led P_is_led s_is_led) (hk_is_led : n_is_led ≤ k) {s_boths_of : FS} {n_boths_of : Nat} (k_boths_of : Kn B n_boths_of "boths_of" t_boths_of P_boths_of s_boths_of) (hk_boths_of : n_boths_of ≤ k) {s_alls_of : FS} {n_alls_of : Nat} (k_alls_of : Kn B n_alls_of "alls_of" t_alls_of P_alls_of s_alls_of) (hk_alls_of : n_alls_of ≤ k) : DSs (S_map_holds B k) (defBody t_map_holds) (w_map_holds s_check s_is_exactly s_judged_map s_is_word s_is_between s_is_led s_boths_of s_alls_of) := by
  have nd : N_map_holds.Nodup := by decide +kernel
  exact (dss_cons (ds_expr (de_fz (do_call k_check hk_check (da_cons (de_nm (i := 0)) (da_cons (de_nm (i := 1)) (da_cons (de_nm (i := 2)) da_nil)))))) (dss_cons (ds_if (dt_val (de_fz (do_call k_is_exactly hk_is_exactly (da_cons (de_nm (i := 3)) (da_cons (de_tup (da_cons de_str da_nil)) da_nil))))) (dss_one (ds_ret (do_fz (de_cmp cm_eq (de_fz (do_call k_judged_map hk_judged_map (da_cons (de_nm (i := 0)) (da_cons (de_nm (i := 1)) (da_cons (de_nm (i := 2)) da_nil))))) (de_tup (da_cons de_str da_nil)))))) dss_nil) (dss_cons (ds_set (i := 4) (do_call k_is_word hk_is_word (da_cons (de_nm (i := 3)) (da_cons de_str da_nil))) nd) (dss_cons (ds_if (dt_pw (dw_or (dt_pw (dw_and (dt_not (dt_val (de_nm (i := 4)))) (dw_and1 (dt_not (dt_val (de_fz (do_call k_is_word hk_is_word (da_cons (de_nm (i := 3)) (da_cons de_str da_nil))))))))) (dw_or1 (dt_cmp cm_ne (de_fz (do_callB cd_lenD (ff.f_len) (by decide +kernel) (da_cons (de_nm (i := 3)) da_nil))) de_int)))) (dss_one (ds_ret (do_fz de_bl))) dss_nil) (dss_cons (ds_if (dt_pw (dw_or (dt_not (dt_val (de_fz (do_call k_is_between hk_is_between (da_cons (de_ix (de_nm (i := 3)) de_int) (da_cons de_int (da_cons (de_sub (de_fz (do_callB cd_lenD (ff.f_len) (by decide +kernel) (da_cons (de_nm (i := 0)) da_nil))) de_int) da_nil))))))) (dw_or1 (dt_not (dt_val (de_fz (do_call k_is_between hk_is_between (da_cons (de_ix (de_nm (i := 3)) de_int) (da_cons de_int (da_cons (de_sub (de_fz (do_callB cd_lenD (ff.f_len) (by decide +kernel) (da_cons (de_nm (i := 0)) da_nil))) de_int) da_nil)))))))))) (dss_one (ds_ret (do_fz de_bl))) dss_nil) (dss_cons (ds_if (dt_val (de_nm (i := 4))) (dss_one (ds_ret (do_fz (de_notV (de_fz (do_call k_is_led hk_is_led (da_cons (de_fz (do_call k_boths_of hk_boths_of (da_cons (de_nm (i := 0)) da_nil))) (da_cons (de_fz (do_call k_boths_of hk_boths_of (da_cons (de_nm (i := 1)) da_nil))) (da_cons (de_nm (i := 2)) (da_cons (de_ix (de_nm (i := 3)) de_int) (da_cons (de_ix (de_nm (i := 3)) de_int) da_nil))))))))))) dss_nil) (dss_one (ds_ret (do_fz (de_notV (de_fz (do_call k_is_led hk_is_led (da_cons (de_fz (do_call k_alls_of hk_alls_of (da_cons (de_nm (i := 0)) da_nil))) (da_cons (de_fz (do_call k_alls_of hk_alls_of (da_cons (de_nm (i := 1)) da_nil))) (da_cons (de_nm (i := 2)) (da_cons (de_ix (de_nm (i := 3)) de_int) (da_cons (de_ix (de_nm (i := 3)) de_int) da_nil)))))))))))))))))
def t_led_row : Stmt := top 41
def N_led_row : List Str := ["house", "other", "lots", "row", "lot"]
def P_led_row : List Str := ["house", "other", "lots", "row"]
abbrev S_led_row (B : Bs) (k : Nat) : Sta := { B with N := N_led_row, names := (defScope t_led_row).names, k := k, fc := fun _ => true }
theorem sc_led_row : FnScope N_led_row P_led_row (defScope t_led_row) := ⟨rfl, rfl, rfl, by decide +kernel, rfl, by decide +kernel, by decide +kernel⟩
def wx_led_row (s_check : FS) (s_judged_map : FS) (s_need_row : FS) : WSX := wSeqX (wUp (wExpr (wFz (woCall s_check (waCons (wVar 0) (waCons (wVar 1) (waCons (wVar 2) (waNil)))))))) (wSeqX (wIfX (wtV (wOp oNe (wFz (woCall s_judged_map (waCons (wVar 0) (waCons (wVar 1) (waCons (wVar 2) (waNil)))))) (wTup (waCons (wC (.str "good")) (waNil))))) (wRaise "BadMap" (wVar 2)) (wUp (wNext))) (wUp (wSeq (wExpr (wFz (woCall s_need_row (waCons (wVar 0) (waCons (wVar 3) (waNil)))))) (wRet (woCB oTuple (waCons (wFz (wComp (wiSeq (wVar 3)) (wgName 4) (wtTrue) (wOp oIx (wVar 2) (wVar 4)) [4])) (waNil)))))))
theorem dx_led_row {B : Bs} (ff : FF B) {k : Nat} (hk1 : 1 ≤ k) {s_check : FS} {n_check : Nat} (k_check : Kn B n_check "check" t_check P_check s_check) (hk_check : n_check ≤ k) {s_judged_map : FS} {n_judged_map : Nat} (k_judged_map : Kn B n_judged_map "judged_map" t_judged_map P_judged_map s_judged_map) (hk_judged_map : n_judged_map ≤ k) {s_need_row : FS} {n_need_row : Nat} (k_need_row : Kn B n_need_row "need_row" t_need_row P_need_row s_need_row) (hk_need_row : n_need_row ≤ k) : DSXs (S_led_row B k) (defBody t_led_row) (wx_led_row s_check s_judged_map s_need_row) := by
  have nd : N_led_row.Nodup := by decide +kernel
  obtain ⟨C_BadMap, I_BadMap, T_BadMap⟩ := ff.x_BadMap
  exact (dssx_cons (dsx_up (ds_expr (de_fz (do_call k_check hk_check (da_cons (de_nm (i := 0)) (da_cons (de_nm (i := 1)) (da_cons (de_nm (i := 2)) da_nil))))))) (dssx_cons (dsx_if (dt_cmp cm_ne (de_fz (do_call k_judged_map hk_judged_map (da_cons (de_nm (i := 0)) (da_cons (de_nm (i := 1)) (da_cons (de_nm (i := 2)) da_nil))))) (de_tup (da_cons de_str da_nil))) (dssx_one (dsx_raise (k := 0) T_BadMap hk1 (de_nm (i := 2)))) (dssx_up dss_nil)) (dssx_up (dss_cons (ds_expr (de_fz (do_call k_need_row hk_need_row (da_cons (de_nm (i := 0)) (da_cons (de_nm (i := 3)) da_nil))))) (dss_one (ds_ret (do_callTy cd_tuple (ff.f_tuple) (by decide +kernel) (da_cons (de_fz (do_lc (own := [("lot", 4)]) (di_seq (de_nm (i := 3))) nd (by kernel_rfl) (dg_name (i := 4) nd) (by decide) dts_nil (de_ix (de_nm (i := 2)) (de_nm (i := 4))))) da_nil))))))))
def t_met_of : Stmt := top 43
def N_met_of : List Str := ["house"]
def P_met_of : List Str := ["house"]
abbrev S_met_of (B : Bs) (k : Nat) : Sta := { B with N := N_met_of, names := (defScope t_met_of).names, k := k, fc := fun _ => true }
theorem sc_met_of : FnScope N_met_of P_met_of (defScope t_met_of) := ⟨rfl, rfl, rfl, by decide +kernel, rfl, by decide +kernel, by decide +kernel⟩
def w_met_of (s_alls_of : FS) (s_boths_of : FS) : WS := wRet (woFz (wTup (waCons (wFz (woCall s_boths_of (waCons (wVar 0) (waNil)))) (waCons (wFz (woCall s_alls_of (waCons (wVar 0) (waNil)))) (waNil)))))
theorem d_met_of {B : Bs} (ff : FF B) {k : Nat} {s_alls_of : FS} {n_alls_of : Nat} (k_alls_of : Kn B n_alls_of "alls_of" t_alls_of P_alls_of s_alls_of) (hk_alls_of : n_alls_of ≤ k) {s_boths_of : FS} {n_boths_of : Nat} (k_boths_of : Kn B n_boths_of "boths_of" t_boths_of P_boths_of s_boths_of) (hk_boths_of : n_boths_of ≤ k) : DSs (S_met_of B k) (defBody t_met_of) (w_met_of s_alls_of s_boths_of) := by
  have nd : N_met_of.Nodup := by decide +kernel
  exact (dss_one (ds_ret (do_fz (de_tup (da_cons (de_fz (do_call k_boths_of hk_boths_of (da_cons (de_nm (i := 0)) da_nil))) (da_cons (de_fz (do_call k_alls_of hk_alls_of (da_cons (de_nm (i := 0)) da_nil))) da_nil))))))
def t_row_met : Stmt := top 44
def N_row_met : List Str := ["met", "row", "meeting", "i", "j", "x", "y", "found"]
def P_row_met : List Str := ["met", "row", "meeting"]
abbrev S_row_met (B : Bs) (k : Nat) : Sta := { B with N := N_row_met, names := (defScope t_row_met).names, k := k, fc := fun _ => true }
theorem sc_row_met : FnScope N_row_met P_row_met (defScope t_row_met) := ⟨rfl, rfl, rfl, by decide +kernel, rfl, by decide +kernel, by decide +kernel⟩
def w_row_met : WS := wSeq (wSetT (wgTup 2 (wgCons (wgName 3) (wgCons (wgName 4) (wgNil)))) (wvVar 2)) (wSeq (wPar2 5 6 (woFz (wOp oIx (wVar 1) (wVar 3))) (woFz (wOp oIx (wVar 1) (wVar 4)))) (wSeq (wSet 7 (woCB oList (waCons (wVar 1) (waNil)))) (wSeq (wSto2 7 (wVar 3) (wVar 4) (wvO (woFz (wTup (waCons (wOp oIx (wOp oIx (wOp oIx (wVar 0) (wC (.int 0))) (wVar 5)) (wVar 6)) (waCons (wOp oIx (wOp oIx (wOp oIx (wVar 0) (wC (.int 1))) (wVar 5)) (wVar 6)) (waNil))))))) (wRet (woCB oTuple (waCons (wVar 7) (waNil)))))))
theorem d_row_met {B : Bs} (ff : FF B) {k : Nat} : DSs (S_row_met B k) (defBody t_row_met) (w_row_met) := by
  have nd : N_row_met.Nodup := by decide +kernel
  exact (dss_cons (ds_asgT (dv_var (i := 2)) (dg_tup (dgs_cons (dg_name (i := 3) nd) (dgs_cons (dg_name (i := 4) nd) dgs_nil)))) (dss_cons (ds_par2 (i := 5) (j := 6) (do_fz (de_ix (de_nm (i := 1)) (de_nm (i := 3)))) (do_fz (de_ix (de_nm (i := 1)) (de_nm (i := 4)))) nd (hw := swap2 (by kernel_rfl) (by kernel_rfl) (by rfl) (by rfl) (by kernel_rfl) (by kernel_rfl))) (dss_cons (ds_set (i := 7) (do_callTy cd_list (ff.f_list) (by decide +kernel) (da_cons (de_nm (i := 1)) da_nil)) nd) (dss_cons (ds_sto2 (i := 7) (dv_do (do_fz (de_tup (da_cons (de_ix (de_ix (de_ix (de_nm (i := 0)) de_int) (de_nm (i := 5))) (de_nm (i := 6))) (da_cons (de_ix (de_ix (de_ix (de_nm (i := 0)) de_int) (de_nm (i := 5))) (de_nm (i := 6))) da_nil))))) (de_nm (i := 3)) (de_nm (i := 4))) (dss_one (ds_ret (do_callTy cd_tuple (ff.f_tuple) (by decide +kernel) (da_cons (de_nm (i := 7)) da_nil))))))))
def t_rows_along : Stmt := top 45
def N_rows_along : List Str := ["house", "row", "plan", "met", "found", "meeting"]
def P_rows_along : List Str := ["house", "row", "plan"]
abbrev S_rows_along (B : Bs) (k : Nat) : Sta := { B with N := N_rows_along, names := (defScope t_rows_along).names, k := k, fc := fun _ => true }
theorem sc_rows_along : FnScope N_rows_along P_rows_along (defScope t_rows_along) := ⟨rfl, rfl, rfl, by decide +kernel, rfl, by decide +kernel, by decide +kernel⟩
def w_rows_along (s_met_of : FS) (s_row_met : FS) : WS := wSeq (wPar2 3 4 (woCall s_met_of (waCons (wVar 0) (waNil))) (woLst (waCons (wVar 1) (waNil)))) (wSeq (wFor (wjSeq (wvVar 2)) (wgName 5) (wApp 4 (wvO (woCall s_row_met (waCons (wVar 3) (waCons (wOp oIx (wVar 4) (wNeg (wC (.int 1)))) (waCons (wVar 5) (waNil)))))))) (wRetV 4))
theorem d_rows_along {B : Bs} (ff : FF B) {k : Nat} {s_met_of : FS} {n_met_of : Nat} (k_met_of : Kn B n_met_of "met_of" t_met_of P_met_of s_met_of) (hk_met_of : n_met_of ≤ k) {s_row_met : FS} {n_row_met : Nat} (k_row_met : Kn B n_row_met "row_met" t_row_met P_row_met s_row_met) (hk_row_met : n_row_met ≤ k) : DSs (S_rows_along B k) (defBody t_rows_along) (w_rows_along s_met_of s_row_met) := by
  have nd : N_rows_along.Nodup := by decide +kernel
  exact (dss_cons (ds_par2 (i := 3) (j := 4) (do_call k_met_of hk_met_of (da_cons (de_nm (i := 0)) da_nil)) (do_lst (da_cons (de_nm (i := 1)) da_nil)) nd (hw := swap2 (by kernel_rfl) (by kernel_rfl) (by rfl) (by rfl) (by kernel_rfl) (by kernel_rfl))) (dss_cons (ds_for (dj_seq (dv_var (i := 2))) (dg_name (i := 5) nd) (dss_one (ds_app (i := 4) (dv_do (do_call k_row_met hk_row_met (da_cons (de_nm (i := 3)) (da_cons (de_ix (de_nm (i := 4)) (de_neg de_int)) (da_cons (de_nm (i := 5)) da_nil)))))))) (dss_one (ds_retV (i := 4)))))
def t_row_behind : Stmt := top 46
def N_row_behind : List Str := ["house", "row", "plan"]
def P_row_behind : List Str := ["house", "row", "plan"]
abbrev S_row_behind (B : Bs) (k : Nat) : Sta := { B with N := N_row_behind, names := (defScope t_row_behind).names, k := k, fc := fun _ => true }
theorem sc_row_behind : FnScope N_row_behind P_row_behind (defScope t_row_behind) := ⟨rfl, rfl, rfl, by decide +kernel, rfl, by decide +kernel, by decide +kernel⟩
def w_row_behind (s_rows_along : FS) : WS := wRet (woFz (wOp oIx (wFz (woCall s_rows_along (waCons (wVar 0) (waCons (wVar 1) (waCons (wVar 2) (waNil)))))) (wNeg (wC (.int 1)))))
theorem d_row_behind {B : Bs} (ff : FF B) {k : Nat} {s_rows_along : FS} {n_rows_along : Nat} (k_rows_along : Kn B n_rows_along "rows_along" t_rows_along P_rows_along s_rows_along) (hk_rows_along : n_rows_along ≤ k) : DSs (S_row_behind B k) (defBody t_row_behind) (w_row_behind s_rows_along) := by
  have nd : N_row_behind.Nodup := by decide +kernel
  exact (dss_one (ds_ret (do_fz (de_ix (de_fz (do_call k_rows_along hk_rows_along (da_cons (de_nm (i := 0)) (da_cons (de_nm (i := 1)) (da_cons (de_nm (i := 2)) da_nil))))) (de_neg de_int)))))
def t_behind : Stmt := top 48
def N_behind : List Str := ["house", "row", "plan"]
def P_behind : List Str := ["house", "row", "plan"]
abbrev S_behind (B : Bs) (k : Nat) : Sta := { B with N := N_behind, names := (defScope t_behind).names, k := k, fc := fun _ => true }
theorem sc_behind : FnScope N_behind P_behind (defScope t_behind) := ⟨rfl, rfl, rfl, by decide +kernel, rfl, by decide +kernel, by decide +kernel⟩
def w_behind (s_need_house_and_row : FS) (s_need_plan : FS) (s_row_behind : FS) : WS := wSeq (wExpr (wFz (woCall s_need_house_and_row (waCons (wVar 0) (waCons (wVar 1) (waNil)))))) (wSeq (wExpr (wFz (woCall s_need_plan (waCons (wFz (woCB oLenD (waCons (wVar 1) (waNil)))) (waCons (wVar 2) (waNil)))))) (wRet (woCall s_row_behind (waCons (wVar 0) (waCons (wVar 1) (waCons (wVar 2) (waNil)))))))
theorem d_behind {B : Bs} (ff : FF B) {k : Nat} {s_need_house_and_row : FS} {n_need_house_and_row : Nat} (k_need_house_and_row : Kn B n_need_house_and_row "need_house_and_row" t_need_house_and_row P_need_house_and_row s_need_house_and_row) (hk_need_house_and_row : n_need_house_and_row ≤ k) {s_need_plan : FS} {n_need_plan : Nat} (k_need_plan : Kn B n_need_plan "need_plan" t_need_plan P_need_plan s_need_plan) (hk_need_plan : n_need_plan ≤ k) {s_row_behind : FS} {n_row_behind : Nat} (k_row_behind : Kn B n_row_behind "row_behind" t_row_behind P_row_behind s_row_behind) (hk_row_behind : n_row_behind ≤ k) : DSs (S_behind B k) (defBody t_behind) (w_behind s_need_house_and_row s_need_plan s_row_behind) := by
  have nd : N_behind.Nodup := by decide +kernel
  exact (dss_cons (ds_expr (de_fz (do_call k_need_house_and_row hk_need_house_and_row (da_cons (de_nm (i := 0)) (da_cons (de_nm (i := 1)) da_nil))))) (dss_cons (ds_expr (de_fz (do_call k_need_plan hk_need_plan (da_cons (de_fz (do_callB cd_lenD (ff.f_len) (by decide +kernel) (da_cons (de_nm (i := 1)) da_nil))) (da_cons (de_nm (i := 2)) da_nil))))) (dss_one (ds_ret (do_call k_row_behind hk_row_behind (da_cons (de_nm (i := 0)) (da_cons (de_nm (i := 1)) (da_cons (de_nm (i := 2)) da_nil))))))))
def t__law_pick : Stmt := top 52
def N__law_pick : List Str := ["_law_deck_here", "_law_some"]
def P__law_pick : List Str := ["_law_deck_here", "_law_some"]
abbrev S__law_pick (B : Bs) (k : Nat) : Sta := { B with N := N__law_pick, names := (defScope t__law_pick).names, k := k, fc := fun _ => true }
theorem sc__law_pick : FnScope N__law_pick P__law_pick (defScope t__law_pick) := ⟨rfl, rfl, rfl, by decide +kernel, rfl, by decide +kernel, by decide +kernel⟩
def w__law_pick (s__law_draw : FS) : WS := wRet (woFz (wOp oIx (wVar 1) (wFz (woCall s__law_draw (waCons (wVar 0) (waCons (wFz (woCB oLenD (waCons (wVar 1) (waNil)))) (waNil)))))))
theorem d__law_pick {B : Bs} (ff : FF B) {k : Nat} {s__law_draw : FS} {n__law_draw : Nat} (k__law_draw : Kn B n__law_draw "_law_draw" t__law_draw P__law_draw s__law_draw) (hk__law_draw : n__law_draw ≤ k) : DSs (S__law_pick B k) (defBody t__law_pick) (w__law_pick s__law_draw) := by
  have nd : N__law_pick.Nodup := by decide +kernel
  exact (dss_one (ds_ret (do_fz (de_ix (de_nm (i := 1)) (de_fz (do_call k__law_draw hk__law_draw (da_cons (de_nm (i := 0)) (da_cons (de_fz (do_callB cd_lenD (ff.f_len) (by decide +kernel) (da_cons (de_nm (i := 1)) da_nil))) da_nil))))))))
def t__law_chains : Stmt := top 53
def N__law_chains : List Str := ["_law_a", "_law_b", "_law_found", "_law_x", "_law_y"]
def P__law_chains : List Str := ["_law_a", "_law_b"]
abbrev S__law_chains (B : Bs) (k : Nat) : Sta := { B with N := N__law_chains, names := (defScope t__law_chains).names, k := k, fc := fun _ => true }
theorem sc__law_chains : FnScope N__law_chains P__law_chains (defScope t__law_chains) := ⟨rfl, rfl, rfl, by decide +kernel, rfl, by decide +kernel, by decide +kernel⟩
def w__law_chains : WS := wSeq (wSet 2 (woLst (waNil))) (wSeq (wFor (wjRange1 (waCons (wVar 0) (waNil))) (wgName 3) (wExt 2 (wvO (wComp (wiRange1 (waCons (wVar 1) (waNil))) (wgName 4) (wtTrue) (wFz (wOpO oAdd (wOp (oI0 fun i j => i - j) (wOp (oI CPow fun i j => i * 2 ^ j.toNat) (wC (.int 1)) (wVar 3)) (wC (.int 1))) (wFz (wOpO oMul (wC (.int 256)) (wOp (oI0 fun i j => i - j) (wOp (oI CPow fun i j => i * 2 ^ j.toNat) (wC (.int 1)) (wVar 4)) (wC (.int 1))))))) [4])))) (wRetV 2))
theorem d__law_chains {B : Bs} (ff : FF B) {k : Nat} : DSs (S__law_chains B k) (defBody t__law_chains) (w__law_chains) := by
  have nd : N__law_chains.Nodup := by decide +kernel
  exact (dss_cons (ds_set (i := 2) (do_lst da_nil) nd) (dss_cons (ds_for (dj_range1 (ff.f_range) (da_cons (de_nm (i := 0)) da_nil)) (dg_name (i := 3) nd) (dss_one (ds_ext (i := 2) (dv_do (do_lc (own := [("_law_y", 4)]) (di_range1 (ff.f_range) (da_cons (de_nm (i := 1)) da_nil)) nd (by kernel_rfl) (dg_name (i := 4) nd) (by decide) dts_nil (de_fz (do_op od_add (de_sub (de_shl de_int (de_nm (i := 3))) de_int) (de_fz (do_op od_mul de_int (de_sub (de_shl de_int (de_nm (i := 4))) de_int)))))))))) (dss_one (ds_retV (i := 2)))))
def t__law_masks : Stmt := top 54
def N__law_masks : List Str := ["_law_deck_here", "_law_most", "_law_way", "_law_five", "_law_facts", "_law_found", "_law_go", "_law_mask", "_law_later", "_law_k", "_law_it"]
def P__law_masks : List Str := ["_law_deck_here", "_law_most"]
abbrev S__law_masks (B : Bs) (k : Nat) : Sta := { B with N := N__law_masks, names := (defScope t__law_masks).names, k := k, fc := fun _ => true }
theorem sc__law_masks : FnScope N__law_masks P__law_masks (defScope t__law_masks) := ⟨rfl, rfl, rfl, by decide +kernel, rfl, by decide +kernel, by decide +kernel⟩
def w__law_masks (s__law_draw : FS) (s__law_pick : FS) (s__law_chains : FS) : WS := wSeq (wSet 2 (woCall s__law_draw (waCons (wVar 0) (waCons (wC (.int 10)) (waNil))))) (wSeq (wIfS (wtV (wOp oEq (wVar 2) (wC (.int 0)))) (wRet (wComp (wiRange1 (waCons (wFz (wOpO oAdd (wC (.int 1)) (wFz (woCall s__law_draw (waCons (wVar 0) (waCons (wC (.int 6)) (waNil))))))) (waNil))) (wgName 9) (wtTrue) (wOp (oI0 fun i j => i - j) (wOp (oI CPow fun i j => i * 2 ^ j.toNat) (wC (.int 1)) (wVar 9)) (wC (.int 1))) [9])) (wNext)) (wSeq (wIfS (wtV (wOp oEq (wVar 2) (wC (.int 1)))) (wRet (woListRg1 (wOp (oI CPow fun i j => i * 2 ^ j.toNat) (wC (.int 1)) (wFz (wOpO oAdd (wC (.int 1)) (wFz (woCall s__law_draw (waCons (wVar 0) (waCons (wC (.int 3)) (waNil)))))))))) (wNext)) (wSeq (wIfS (wtV (wOp oEq (wVar 2) (wC (.int 2)))) (wRet (woCall s__law_pick (waCons (wVar 0) (waCons (wFz (woLst (waCons (wFz (woLst (waCons (wC (.int 0)) (waCons (wC (.int 1)) (waCons (wC (.int 2)) (waCons (wC (.int 4)) (waCons (wC (.int 7)) (waNil)))))))) (waCons (wFz (woLst (waCons (wC (.int 0)) (waCons (wC (.int 1)) (waCons (wC (.int 3)) (waCons (wC (.int 4)) (waCons (wC (.int 7)) (waNil)))))))) (waCons (wFz (woLst (waCons (wC (.int 0)) (waCons (wC (.int 1)) (waCons (wC (.int 2)) (waCons (wC (.int 4)) (waCons (wC (.int 8)) (waCons (wC (.int 15)) (waNil))))))))) (waCons (wFz (woLst (waCons (wC (.int 0)) (waCons (wC (.int 1)) (waCons (wC (.int 3)) (waCons (wC (.int 7)) (waCons (wC (.int 8)) (waCons (wC (.int 15)) (waNil))))))))) (waNil))))))) (waNil))))) (wNext)) (wSeq (wIfS (wtV (wOp oEq (wVar 2) (wC (.int 3)))) (wRet (woCall s__law_chains (waCons (wFz (wOpO oAdd (wC (.int 1)) (wFz (woCall s__law_draw (waCons (wVar 0) (waCons (wC (.int 3)) (waNil))))))) (waCons (wFz (wOpO oAdd (wC (.int 2)) (wFz (woCall s__law_draw (waCons (wVar 0) (waCons (wC (.int 3)) (waNil))))))) (waNil))))) (wNext)) (wSeq (wIfS (wtV (wOp oEq (wVar 2) (wC (.int 4)))) (wSeq (wSet 3 (woCall s__law_pick (waCons (wVar 0) (waCons (wFz (woLst (waCons (wFz (woLst (waCons (wC (.int 0)) (waCons (wC (.int 1)) (waCons (wC (.int 2)) (waCons (wC (.int 4)) (waCons (wC (.int 7)) (waNil)))))))) (waCons (wFz (woLst (waCons (wC (.int 0)) (waCons (wC (.int 1)) (waCons (wC (.int 3)) (waCons (wC (.int 4)) (waCons (wC (.int 7)) (waNil)))))))) (waNil))))) (waNil))))) (wRet (wOpO oAdd (wVar 3) (wFz (wComp (wiSeq (wVar 3)) (wgName 10) (wtTrue) (wFz (wOpO oAdd (wVar 10) (wC (.int 8)))) [10]))))) (wNext)) (wSeq (wSet 4 (wOpO oAdd (wC (.int 2)) (wFz (woCall s__law_draw (waCons (wVar 0) (waCons (wC (.int 4)) (waNil))))))) (wSeq (wSet 5 (woLst (waCons (wOp (oI0 fun i j => i - j) (wOp (oI CPow fun i j => i * 2 ^ j.toNat) (wC (.int 1)) (wVar 4)) (wC (.int 1))) (waNil)))) (wSeq (wFor (wjRange1 (waCons (wFz (wOpO oAdd (wC (.int 1)) (wFz (woCall s__law_draw (waCons (wVar 0) (waCons (wC (.int 6)) (waNil))))))) (waNil))) (wgName 6) (wSeq (wSet 7 (woCall s__law_draw (waCons (wVar 0) (waCons (wOp (oI CPow fun i j => i * 2 ^ j.toNat) (wC (.int 1)) (wVar 4)) (waNil))))) (wSeq (wSet 8 (woSortSetA (wFz (wOpO oAdd (wVar 5) (wFz (wComp (wiSeq (wVar 5)) (wgName 10) (wtTrue) (wOp (oI0 Builtin.bitAnd) (wVar 7) (wVar 10)) [10])))))) (wSet 5 (woIf (wtV (wOp (oB0 fun i j => decide (i ≤ j)) (wFz (woCB oLenD (waCons (wVar 8) (waNil)))) (wVar 1))) (woFz (wVar 8)) (woFz (wVar 5))))))) (wRetV 5)))))))))
theorem d__law_masks {B : Bs} (ff : FF B) {k : Nat} {s__law_draw : FS} {n__law_draw : Nat} (k__law_draw : Kn B n__law_draw "_law_draw" t__law_draw P__law_draw s__law_draw) (hk__law_draw : n__law_draw ≤ k) {s__law_pick : FS} {n__law_pick : Nat} (k__law_pick : Kn B n__law_pick "_law_pick" t__law_pick P__law_pick s__law_pick) (hk__law_pick : n__law_pick ≤ k) {s__law_chains : FS} {n__law_chains : Nat} (k__law_chains : Kn B n__law_chains "_law_chains" t__law_chains P__law_chains s__law_chains) (hk__law_chains : n__law_chains ≤ k) : DSs (S__law_masks B k) (defBody t__law_masks) (w__law_masks s__law_draw s__law_pick s__law_chains) := by
  have nd : N__law_masks.Nodup := by decide +kernel
  exact (dss_cons (ds_set (i := 2) (do_call k__law_draw hk__law_draw (da_cons (de_nm (i := 0)) (da_cons de_int da_nil))) nd) (dss_cons (ds_if (dt_cmp cm_eq (de_nm (i := 2)) de_int) (dss_one (ds_ret (do_lc (own := [("_law_k", 9)]) (di_range1 (ff.f_range) (da_cons (de_fz (do_op od_add de_int (de_fz (do_call k__law_draw hk__law_draw (da_cons (de_nm (i := 0)) (da_cons de_int da_nil)))))) da_nil)) nd (by kernel_rfl) (dg_name (i := 9) nd) (by decide) dts_nil (de_sub (de_shl de_int (de_nm (i := 9))) de_int)))) dss_nil) (dss_cons (ds_if (dt_cmp cm_eq (de_nm (i := 2)) de_int) (dss_one (ds_ret (do_listRg1 (ff.f_list) (ff.f_range) (de_shl de_int (de_fz (do_op od_add de_int (de_fz (do_call k__law_draw hk__law_draw (da_cons (de_nm (i := 0)) (da_cons de_int da_nil)))))))))) dss_nil) (dss_cons (ds_if (dt_cmp cm_eq (de_nm (i := 2)) de_int) (dss_one (ds_ret (do_call k__law_pick hk__law_pick (da_cons (de_nm (i := 0)) (da_cons (de_fz (do_lst (da_cons (de_fz (do_lst (da_cons de_int (da_cons de_int (da_cons de_int (da_cons de_int (da_cons de_int da_nil))))))) (da_cons (de_fz (do_lst (da_cons de_int (da_cons de_int (da_cons de_int (da_cons de_int (da_cons de_int da_nil))))))) (da_cons (de_fz (do_lst (da_cons de_int (da_cons de_int (da_cons de_int (da_cons de_int (da_cons de_int (da_cons de_int da_nil)))))))) (da_cons (de_fz (do_lst (da_cons de_int (da_cons de_int (da_cons de_int (da_cons de_int (da_cons de_int (da_cons de_int da_nil)))))))) da_nil)))))) da_nil))))) dss_nil) (dss_cons (ds_if (dt_cmp cm_eq (de_nm (i := 2)) de_int) (dss_one (ds_ret (do_call k__law_chains hk__law_chains (da_cons (de_fz (do_op od_add de_int (de_fz (do_call k__law_draw hk__law_draw (da_cons (de_nm (i := 0)) (da_cons de_int da_nil)))))) (da_cons (de_fz (do_op od_add de_int (de_fz (do_call k__law_draw hk__law_draw (da_cons (de_nm (i := 0)) (da_cons de_int da_nil)))))) da_nil))))) dss_nil) (dss_cons (ds_if (dt_cmp cm_eq (de_nm (i := 2)) de_int) (dss_cons (ds_set (i := 3) (do_call k__law_pick hk__law_pick (da_cons (de_nm (i := 0)) (da_cons (de_fz (do_lst (da_cons (de_fz (do_lst (da_cons de_int (da_cons de_int (da_cons de_int (da_cons de_int (da_cons de_int da_nil))))))) (da_cons (de_fz (do_lst (da_cons de_int (da_cons de_int (da_cons de_int (da_cons de_int (da_cons de_int da_nil))))))) da_nil)))) da_nil))) nd) (dss_one (ds_ret (do_op od_add (de_nm (i := 3)) (de_fz (do_lc (own := [("_law_it", 10)]) (di_seq (de_nm (i := 3))) nd (by kernel_rfl) (dg_name (i := 10) nd) (by decide) dts_nil (de_fz (do_op od_add (de_nm (i := 10)) de_int)))))))) dss_nil) (dss_cons (ds_set (i := 4) (do_op od_add de_int (de_fz (do_call k__law_draw hk__law_draw (da_cons (de_nm (i := 0)) (da_cons de_int da_nil))))) nd) (dss_cons (ds_set (i := 5) (do_lst (da_cons (de_sub (de_shl de_int (de_nm (i := 4))) de_int) da_nil)) nd) (dss_cons (ds_for (dj_range1 (ff.f_range) (da_cons (de_fz (do_op od_add de_int (de_fz (do_call k__law_draw hk__law_draw (da_cons (de_nm (i := 0)) (da_cons de_int da_nil)))))) da_nil)) (dg_name (i := 6) nd) (dss_cons (ds_set (i := 7) (do_call k__law_draw hk__law_draw (da_cons (de_nm (i := 0)) (da_cons (de_shl de_int (de_nm (i := 4))) da_nil))) nd) (dss_cons (ds_set (i := 8) (do_sortSetA (ff.f_sorted) (ff.f_set) (de_fz (do_op od_add (de_nm (i := 5)) (de_fz (do_lc (own := [("_law_it", 10)]) (di_seq (de_nm (i := 5))) nd (by kernel_rfl) (dg_name (i := 10) nd) (by decide) dts_nil (de_and (de_nm (i := 7)) (de_nm (i := 10)))))))) nd) (dss_one (ds_set (i := 5) (do_if (dt_cmp cm_le (de_fz (do_callB cd_lenD (ff.f_len) (by decide +kernel) (da_cons (de_nm (i := 8)) da_nil))) (de_nm (i := 1))) (do_fz (de_nm (i := 8))) (do_fz (de_nm (i := 5)))) nd))))) (dss_one (ds_retV (i := 5))))))))))))
def t__law_order : Stmt := top 55
def N__law_order : List Str := ["_law_deck_here", "_law_many", "_law_left", "_law_found", "_law_go"]
def P__law_order : List Str := ["_law_deck_here", "_law_many"]
abbrev S__law_order (B : Bs) (k : Nat) : Sta := { B with N := N__law_order, names := (defScope t__law_order).names, k := k, fc := fun _ => true }
theorem sc__law_order : FnScope N__law_order P__law_order (defScope t__law_order) := ⟨rfl, rfl, rfl, by decide +kernel, rfl, by decide +kernel, by decide +kernel⟩
def w__law_order (s__law_draw : FS) : WS := wSeq (wPar2 2 3 (woListRg1 (wVar 1)) (woLst (waNil))) (wSeq (wFor (wjRange1 (waCons (wVar 1) (waNil))) (wgName 4) (wApp 3 (wvPopAt 2 (wFz (woCall s__law_draw (waCons (wVar 0) (waCons (wFz (woCB oLenD (waCons (wVar 2) (waNil)))) (waNil)))))))) (wRet (woCB (oTupX .tix) (waCons (wVar 3) (waNil)))))
theorem d__law_order {B : Bs} (ff : FF B) {k : Nat} {s__law_draw : FS} {n__law_draw : Nat} (k__law_draw : Kn B n__law_draw "_law_draw" t__law_draw P__law_draw s__law_draw) (hk__law_draw : n__law_draw ≤ k) : DSs (S__law_order B k) (defBody t__law_order) (w__law_order s__law_draw) := by
  have nd : N__law_order.Nodup := by decide +kernel
  exact (dss_cons (ds_par2 (i := 2) (j := 3) (do_listRg1 (ff.f_list) (ff.f_range) (de_nm (i := 1))) (do_lst da_nil) nd (hw := swap2 (by kernel_rfl) (by kernel_rfl) (by rfl) (by rfl) (by kernel_rfl) (by kernel_rfl))) (dss_cons (ds_for (dj_range1 (ff.f_range) (da_cons (de_nm (i := 1)) da_nil)) (dg_name (i := 4) nd) (dss_one (ds_app (i := 3) (dv_popAt (i := 2) (de_fz (do_call k__law_draw hk__law_draw (da_cons (de_nm (i := 0)) (da_cons (de_fz (do_callB cd_lenD (ff.f_len) (by decide +kernel) (da_cons (de_nm (i := 2)) da_nil))) da_nil)))))))) (dss_one (ds_ret (do_callTy cd_tix (ff.f_tuple) (by decide +kernel) (da_cons (de_nm (i := 3)) da_nil))))))
def t__law_house : Stmt := top 56
def N__law_house : List Str := ["_law_deck_here", "_law_most", "_law_masks_here", "_law_lots", "_law_at", "_law_x", "_law_y"]
def P__law_house : List Str := ["_law_deck_here", "_law_most"]
abbrev S__law_house (B : Bs) (k : Nat) : Sta := { B with N := N__law_house, names := (defScope t__law_house).names, k := k, fc := fun _ => true }
theorem sc__law_house : FnScope N__law_house P__law_house (defScope t__law_house) := ⟨rfl, rfl, rfl, by decide +kernel, rfl, by decide +kernel, by decide +kernel⟩
def w__law_house (s__law_masks : FS) (s__law_order : FS) : WS := wSeq (wSet 2 (woCall s__law_masks (waCons (wVar 0) (waCons (wVar 1) (waNil))))) (wSeq (wSet 3 (wComp (wiSeq (wFz (woCall s__law_order (waCons (wVar 0) (waCons (wFz (woCB oLenD (waCons (wVar 2) (waNil)))) (waNil)))))) (wgName 4) (wtTrue) (wOp oIx (wVar 2) (wVar 4)) [4])) (wRet (woCB oTuple (waCons (wFz (wComp (wiSeq (wVar 3)) (wgName 5) (wtTrue) (wFz (woCB oTuple (waCons (wFz (wComp (wiSeq (wVar 3)) (wgName 6) (wtTrue) (wFz (woCB oIntB (waCons (wOp oEq (wOp (oI0 Builtin.bitAnd) (wVar 5) (wVar 6)) (wVar 5)) (waNil)))) [6])) (waNil)))) [5])) (waNil)))))
theorem d__law_house {B : Bs} (ff : FF B) {k : Nat} {s__law_masks : FS} {n__law_masks : Nat} (k__law_masks : Kn B n__law_masks "_law_masks" t__law_masks P__law_masks s__law_masks) (hk__law_masks : n__law_masks ≤ k) {s__law_order : FS} {n__law_order : Nat} (k__law_order : Kn B n__law_order "_law_order" t__law_order P__law_order s__law_order) (hk__law_order : n__law_order ≤ k) : DSs (S__law_house B k) (defBody t__law_house) (w__law_house s__law_masks s__law_order) := by
  have nd : N__law_house.Nodup := by decide +kernel
  exact (dss_cons (ds_set (i := 2) (do_call k__law_masks hk__law_masks (da_cons (de_nm (i := 0)) (da_cons (de_nm (i := 1)) da_nil))) nd) (dss_cons (ds_setLcC (i := 3) (do_lc (own := [("_law_at", 4)]) (di_seq (de_fz (do_call k__law_order hk__law_order (da_cons (de_nm (i := 0)) (da_cons (de_fz (do_callB cd_lenD (ff.f_len) (by decide +kernel) (da_cons (de_nm (i := 2)) da_nil))) da_nil))))) nd (by kernel_rfl) (dg_name (i := 4) nd) (by decide) dts_nil (de_ix (de_nm (i := 2)) (de_nm (i := 4)))) nd) (dss_one (ds_ret (do_callTy cd_tuple (ff.f_tuple) (by decide +kernel) (da_cons (de_fz (do_lc (own := [("_law_x", 5)]) (di_seq (de_nm (i := 3))) nd (by kernel_rfl) (dg_name (i := 5) nd) (by decide) dts_nil (de_fz (do_callTy cd_tuple (ff.f_tuple) (by decide +kernel) (da_cons (de_fz (do_lc (own := [("_law_y", 6)]) (di_seq (de_nm (i := 3))) nd (by kernel_rfl) (dg_name (i := 6) nd) (by decide) dts_nil (de_fz (do_callTy cd_intB (ff.f_int) (by decide +kernel) (da_cons (de_cmp cm_eq (de_and (de_nm (i := 5)) (de_nm (i := 6))) (de_nm (i := 5))) da_nil))))) da_nil))))) da_nil))))))
def t__law_met : Stmt := top 57
def N__law_met : List Str := ["_law_house_here", "_law_x", "_law_y", "_law_under", "_law_above", "_law_low", "_law_high", "_law_z"]
def P__law_met : List Str := ["_law_house_here", "_law_x", "_law_y"]
abbrev S__law_met (B : Bs) (k : Nat) : Sta := { B with N := N__law_met, names := (defScope t__law_met).names, k := k, fc := fun _ => true }
theorem sc__law_met : FnScope N__law_met P__law_met (defScope t__law_met) := ⟨rfl, rfl, rfl, by decide +kernel, rfl, by decide +kernel, by decide +kernel⟩
def w__law_met : WS := wSeq (wSet 3 (wComp (wiRange1 (waCons (wFz (woCB oLenD (waCons (wVar 0) (waNil)))) (waNil))) (wgName 7) (wtV (wOp oEq (wFz (wOpO oMul (wOp oIx (wOp oIx (wVar 0) (wVar 7)) (wVar 1)) (wOp oIx (wOp oIx (wVar 0) (wVar 7)) (wVar 2)))) (wC (.int 1)))) (wVar 7) [7])) (wSeq (wSet 4 (wComp (wiRange1 (waCons (wFz (woCB oLenD (waCons (wVar 0) (waNil)))) (waNil))) (wgName 7) (wtV (wOp oEq (wFz (wOpO oMul (wOp oIx (wOp oIx (wVar 0) (wVar 1)) (wVar 7)) (wOp oIx (wOp oIx (wVar 0) (wVar 2)) (wVar 7)))) (wC (.int 1)))) (wVar 7) [7])) (wSeq (wPar2 5 6 (woFz (wOp oIx (wVar 3) (wC (.int 0)))) (woFz (wOp oIx (wVar 4) (wC (.int 0))))) (wSeq (wFor (wjSeq (wvVar 3)) (wgName 7) (wSet 5 (woIf (wtV (wOp oEq (wOp oIx (wOp oIx (wVar 0) (wVar 5)) (wVar 7)) (wC (.int 1)))) (woFz (wVar 7)) (woFz (wVar 5))))) (wSeq (wFor (wjSeq (wvVar 4)) (wgName 7) (wSet 6 (woIf (wtV (wOp oEq (wOp oIx (wOp oIx (wVar 0) (wVar 7)) (wVar 6)) (wC (.int 1)))) (woFz (wVar 7)) (woFz (wVar 6))))) (wRet (woFz (wTup (waCons (wVar 5) (waCons (wVar 6) (waNil))))))))))
theorem d__law_met {B : Bs} (ff : FF B) {k : Nat} : DSs (S__law_met B k) (defBody t__law_met) (w__law_met) := by
  have nd : N__law_met.Nodup := by decide +kernel
  exact (dss_cons (ds_setLc (i := 3) (own := [("_law_z", 7)]) (di_range1 (ff.f_range) (da_cons (de_fz (do_callB cd_lenD (ff.f_len) (by decide +kernel) (da_cons (de_nm (i := 0)) da_nil))) da_nil)) nd (by kernel_rfl) (dg_name (i := 7) nd) (by decide) (dts_one (dt_cmp cm_eq (de_fz (do_op od_mul (de_ix (de_ix (de_nm (i := 0)) (de_nm (i := 7))) (de_nm (i := 1))) (de_ix (de_ix (de_nm (i := 0)) (de_nm (i := 7))) (de_nm (i := 2))))) de_int)) (de_nm (i := 7))) (dss_cons (ds_setLc (i := 4) (own := [("_law_z", 7)]) (di_range1 (ff.f_range) (da_cons (de_fz (do_callB cd_lenD (ff.f_len) (by decide +kernel) (da_cons (de_nm (i := 0)) da_nil))) da_nil)) nd (by kernel_rfl) (dg_name (i := 7) nd) (by decide) (dts_one (dt_cmp cm_eq (de_fz (do_op od_mul (de_ix (de_ix (de_nm (i := 0)) (de_nm (i := 1))) (de_nm (i := 7))) (de_ix (de_ix (de_nm (i := 0)) (de_nm (i := 2))) (de_nm (i := 7))))) de_int)) (de_nm (i := 7))) (dss_cons (ds_par2 (i := 5) (j := 6) (do_fz (de_ix (de_nm (i := 3)) de_int)) (do_fz (de_ix (de_nm (i := 4)) de_int)) nd (hw := swap2 (by kernel_rfl) (by kernel_rfl) (by rfl) (by rfl) (by kernel_rfl) (by kernel_rfl))) (dss_cons (ds_for (dj_seq (dv_var (i := 3))) (dg_name (i := 7) nd) (dss_one (ds_set (i := 5) (do_if (dt_cmp cm_eq (de_ix (de_ix (de_nm (i := 0)) (de_nm (i := 5))) (de_nm (i := 7))) de_int) (do_fz (de_nm (i := 7))) (do_fz (de_nm (i := 5)))) nd))) (dss_cons (ds_for (dj_seq (dv_var (i := 4))) (dg_name (i := 7) nd) (dss_one (ds_set (i := 6) (do_if (dt_cmp cm_eq (de_ix (de_ix (de_nm (i := 0)) (de_nm (i := 7))) (de_nm (i := 6))) de_int) (do_fz (de_nm (i := 7))) (do_fz (de_nm (i := 6)))) nd))) (dss_one (ds_ret (do_fz (de_tup (da_cons (de_nm (i := 5)) (da_cons (de_nm (i := 6)) da_nil)))))))))))
def t__law_behind : Stmt := top 58
def N__law_behind : List Str := ["_law_house_here", "_law_row", "_law_plan", "_law_i", "_law_j"]
def P__law_behind : List Str := ["_law_house_here", "_law_row", "_law_plan"]
abbrev S__law_behind (B : Bs) (k : Nat) : Sta := { B with N := N__law_behind, names := (defScope t__law_behind).names, k := k, fc := fun _ => true }
theorem sc__law_behind : FnScope N__law_behind P__law_behind (defScope t__law_behind) := ⟨rfl, rfl, rfl, by decide +kernel, rfl, by decide +kernel, by decide +kernel⟩
def w__law_behind (s__law_met : FS) : WS := wSeq (wSet 1 (woCB oList (waCons (wVar 1) (waNil)))) (wSeq (wFor (wjSeq (wvVar 2)) (wgTup 2 (wgCons (wgName 3) (wgCons (wgName 4) (wgNil)))) (wSto2 1 (wVar 3) (wVar 4) (wvO (woCall s__law_met (waCons (wVar 0) (waCons (wOp oIx (wVar 1) (wVar 3)) (waCons (wOp oIx (wVar 1) (wVar 4)) (waNil)))))))) (wRet (woCB oTuple (waCons (wVar 1) (waNil)))))
theorem d__law_behind {B : Bs} (ff : FF B) {k : Nat} {s__law_met : FS} {n__law_met : Nat} (k__law_met : Kn B n__law_met "_law_met" t__law_met P__law_met s__law_met) (hk__law_met : n__law_met ≤ k) : DSs (S__law_behind B k) (defBody t__law_behind) (w__law_behind s__law_met) := by
  have nd : N__law_behind.Nodup := by decide +kernel
  exact (dss_cons (ds_set (i := 1) (do_callTy cd_list (ff.f_list) (by decide +kernel) (da_cons (de_nm (i := 1)) da_nil)) nd) (dss_cons (ds_for (dj_seq (dv_var (i := 2))) (dg_tup (dgs_cons (dg_name (i := 3) nd) (dgs_cons (dg_name (i := 4) nd) dgs_nil))) (dss_one (ds_sto2 (i := 1) (dv_do (do_call k__law_met hk__law_met (da_cons (de_nm (i := 0)) (da_cons (de_ix (de_nm (i := 1)) (de_nm (i := 3))) (da_cons (de_ix (de_nm (i := 1)) (de_nm (i := 4))) da_nil))))) (de_nm (i := 3)) (de_nm (i := 4))))) (dss_one (ds_ret (do_callTy cd_tuple (ff.f_tuple) (by decide +kernel) (da_cons (de_nm (i := 1)) da_nil))))))
def t__law_beside : Stmt := top 59
def N__law_beside : List Str := ["_law_one", "_law_other", "_law_m", "_law_found", "_law_x", "_law_near", "_law_far", "_law_y"]
def P__law_beside : List Str := ["_law_one", "_law_other"]
abbrev S__law_beside (B : Bs) (k : Nat) : Sta := { B with N := N__law_beside, names := (defScope t__law_beside).names, k := k, fc := fun _ => true }
theorem sc__law_beside : FnScope N__law_beside P__law_beside (defScope t__law_beside) := ⟨rfl, rfl, rfl, by decide +kernel, rfl, by decide +kernel, by decide +kernel⟩
def w__law_beside : WS := wSeq (wPar2 2 3 (woCB oLenD (waCons (wVar 1) (waNil))) (woLst (waNil))) (wSeq (wFor (wjRange1 (waCons (wFz (wOpO oMul (wFz (woCB oLenD (waCons (wVar 0) (waNil)))) (wVar 2))) (waNil))) (wgName 4) (wSeq (wPar2 5 6 (woFz (wOp oIx (wVar 0) (wOp (oI CDivW fun i j => i / j) (wVar 4) (wVar 2)))) (woFz (wOp oIx (wVar 1) (wOp (oI (fun _ j => 0 < j) fun i j => i % j) (wFz (woCB oInt (waCons (wVar 4) (waNil)))) (wVar 2))))) (wApp 3 (wvO (woCB oTuple (waCons (wFz (wComp (wiRange1 (waCons (wFz (wOpO oMul (wFz (woCB oLenD (waCons (wVar 0) (waNil)))) (wVar 2))) (waNil))) (wgName 7) (wtTrue) (wFz (wOpO oMul (wOp oIx (wVar 5) (wOp (oI CDivW fun i j => i / j) (wVar 7) (wVar 2))) (wOp oIx (wVar 6) (wOp (oI (fun _ j => 0 < j) fun i j => i % j) (wFz (woCB oInt (waCons (wVar 7) (waNil)))) (wVar 2))))) [7])) (waNil))))))) (wRet (woCB oTuple (waCons (wVar 3) (waNil)))))
theorem d__law_beside {B : Bs} (ff : FF B) {k : Nat} : DSs (S__law_beside B k) (defBody t__law_beside) (w__law_beside) := by
  have nd : N__law_beside.Nodup := by decide +kernel
  exact (dss_cons (ds_parT2 (i := 2) (j := 3) (do_callB cd_lenD (ff.f_len) (by decide +kernel) (da_cons (de_nm (i := 1)) da_nil)) (do_lst da_nil) nd) (dss_cons (ds_for (dj_range1 (ff.f_range) (da_cons (de_fz (do_op od_mul (de_fz (do_callB cd_lenD (ff.f_len) (by decide +kernel) (da_cons (de_nm (i := 0)) da_nil))) (de_nm (i := 2)))) da_nil)) (dg_name (i := 4) nd) (dss_cons (ds_parT2 (i := 5) (j := 6) (do_fz (de_ix (de_nm (i := 0)) (de_fdivW (de_nm (i := 4)) (de_nm (i := 2))))) (do_fz (de_ix (de_nm (i := 1)) (de_mod (de_fz (do_callTy cd_int (ff.f_int) (by decide +kernel) (da_cons (de_nm (i := 4)) da_nil))) (de_nm (i := 2))))) nd) (dss_one (ds_app (i := 3) (dv_do (do_callTy cd_tuple (ff.f_tuple) (by decide +kernel) (da_cons (de_fz (do_lc (own := [("_law_y", 7)]) (di_range1 (ff.f_range) (da_cons (de_fz (do_op od_mul (de_fz (do_callB cd_lenD (ff.f_len) (by decide +kernel) (da_cons (de_nm (i := 0)) da_nil))) (de_nm (i := 2)))) da_nil)) nd (by kernel_rfl) (dg_name (i := 7) nd) (by decide) dts_nil (de_fz (do_op od_mul (de_ix (de_nm (i := 5)) (de_fdivW (de_nm (i := 7)) (de_nm (i := 2)))) (de_ix (de_nm (i := 6)) (de_mod (de_fz (do_callTy cd_int (ff.f_int) (by decide +kernel) (da_cons (de_nm (i := 7)) da_nil))) (de_nm (i := 2)))))))) da_nil))))))) (dss_one (ds_ret (do_callTy cd_tuple (ff.f_tuple) (by decide +kernel) (da_cons (de_nm (i := 3)) da_nil))))))
def t__law_renamed : Stmt := top 60
def N__law_renamed : List Str := ["_law_house_here", "_law_order_here", "_law_back", "_law_x", "_law_y"]
def P__law_renamed : List Str := ["_law_house_here", "_law_order_here"]
abbrev S__law_renamed (B : Bs) (k : Nat) : Sta := { B with N := N__law_renamed, names := (defScope t__law_renamed).names, k := k, fc := fun _ => true }
theorem sc__law_renamed : FnScope N__law_renamed P__law_renamed (defScope t__law_renamed) := ⟨rfl, rfl, rfl, by decide +kernel, rfl, by decide +kernel, by decide +kernel⟩
def w__law_renamed : WS := wSeq (wSet 2 (wComp (wiRange1 (waCons (wFz (woCB oLenD (waCons (wVar 0) (waNil)))) (waNil))) (wgName 3) (wtTrue) (wIxT (wVar 1) (wVar 3)) [3])) (wRet (woCB oTuple (waCons (wFz (wComp (wiSeq (wVar 2)) (wgName 3) (wtTrue) (wFz (woCB oTuple (waCons (wFz (wComp (wiSeq (wVar 2)) (wgName 4) (wtTrue) (wOp oIx (wOp oIx (wVar 0) (wVar 3)) (wVar 4)) [4])) (waNil)))) [3])) (waNil))))
theorem d__law_renamed {B : Bs} (ff : FF B) {k : Nat} : DSs (S__law_renamed B k) (defBody t__law_renamed) (w__law_renamed) := by
  have nd : N__law_renamed.Nodup := by decide +kernel
  exact (dss_cons (ds_setLcC (i := 2) (do_lc (own := [("_law_x", 3)]) (di_range1 (ff.f_range) (da_cons (de_fz (do_callB cd_lenD (ff.f_len) (by decide +kernel) (da_cons (de_nm (i := 0)) da_nil))) da_nil)) nd (by kernel_rfl) (dg_name (i := 3) nd) (by decide) dts_nil (de_ixT (de_nm (i := 1)) (de_nm (i := 3)))) nd) (dss_one (ds_ret (do_callTy cd_tuple (ff.f_tuple) (by decide +kernel) (da_cons (de_fz (do_lc (own := [("_law_x", 3)]) (di_seq (de_nm (i := 2))) nd (by kernel_rfl) (dg_name (i := 3) nd) (by decide) dts_nil (de_fz (do_callTy cd_tuple (ff.f_tuple) (by decide +kernel) (da_cons (de_fz (do_lc (own := [("_law_y", 4)]) (di_seq (de_nm (i := 2))) nd (by kernel_rfl) (dg_name (i := 4) nd) (by decide) dts_nil (de_ix (de_ix (de_nm (i := 0)) (de_nm (i := 3))) (de_nm (i := 4))))) da_nil))))) da_nil)))))
def t__law_case : Stmt := top 61
def N__law_case : List Str := ["_law_deck_here", "_law_house_here", "_law_way", "_law_other", "_law_n", "_law_order_here", "_law_m", "_law_first", "_law_lots", "_law_lot", "_law_high", "_law_x"]
def P__law_case : List Str := ["_law_deck_here"]
abbrev S__law_case (B : Bs) (k : Nat) : Sta := { B with N := N__law_case, names := (defScope t__law_case).names, k := k, fc := fun _ => true }
theorem sc__law_case : FnScope N__law_case P__law_case (defScope t__law_case) := ⟨rfl, rfl, rfl, by decide +kernel, rfl, by decide +kernel, by decide +kernel⟩
def w__law_case (s__law_house : FS) (s__law_pick : FS) (s__law_draw : FS) (s__law_order : FS) (s__law_renamed : FS) (s__law_beside : FS) (s__law_met : FS) : WS := wSeq (wPar2 1 2 (woCall s__law_house (waCons (wVar 0) (waCons (wFz (woCall s__law_pick (waCons (wVar 0) (waCons (wFz (woLst (waCons (wC (.int 8)) (waCons (wC (.int 10)) (waCons (wC (.int 12)) (waNil)))))) (waNil))))) (waNil)))) (woCall s__law_draw (waCons (wVar 0) (waCons (wC (.int 8)) (waNil))))) (wSeq (wPar2 3 4 (woCall s__law_house (waCons (wVar 0) (waCons (wFz (woCall s__law_pick (waCons (wVar 0) (waCons (wFz (woLst (waCons (wC (.int 8)) (waCons (wC (.int 6)) (waCons (wC (.int 10)) (waNil)))))) (waNil))))) (waNil)))) (woCB oLenD (waCons (wVar 1) (waNil)))) (wSeq (wIfS (wtV (wOp oEq (wVar 2) (wC (.int 0)))) (wSeq (wSet 5 (woCall s__law_order (waCons (wVar 0) (waCons (wVar 4) (waNil))))) (wRet (woFz (wTup (waCons (wVar 1) (waCons (wFz (woCall s__law_renamed (waCons (wVar 1) (waCons (wVar 5) (waNil))))) (waCons (wVar 5) (waNil)))))))) (wNext)) (wSeq (wIfS (wtV (wOp oEq (wVar 2) (wC (.int 1)))) (wRet (woFz (wTup (waCons (wVar 1) (waCons (wVar 3) (waCons (wFz (wOpO oMulA (wTup (waCons (wFz (woCall s__law_draw (waCons (wVar 0) (waCons (wFz (woCB oLenD (waCons (wVar 3) (waNil)))) (waNil))))) (waNil))) (wVar 4))) (waNil))))))) (wNext)) (wSeq (wIfS (wtAnd (wtV (wOp oEq (wVar 2) (wC (.int 2)))) (wtV (wOp (oB0 fun i j => decide (i ≤ j)) (wFz (wOpO oMul (wVar 4) (wFz (woCB oLenD (waCons (wVar 3) (waNil)))))) (wC (.int 16))))) (wSeq (wPar2 6 7 (woCB oLenD (waCons (wVar 3) (waNil))) (woCall s__law_draw (waCons (wVar 0) (waCons (wC (.int 2)) (waNil))))) (wSeq (wSet 8 (woCB oTuple (waCons (wFz (wComp (wiRange1 (waCons (wFz (wOpO oMul (wVar 4) (wVar 6))) (waNil))) (wgName 11) (wtTrue) (wIf (wtV (wOp oEq (wVar 7) (wC (.int 0)))) (wOp (oI CDivW fun i j => i / j) (wVar 11) (wVar 6)) (wOp (oI (fun _ j => 0 < j) fun i j => i % j) (wFz (woCB oInt (waCons (wVar 11) (waNil)))) (wVar 6))) [11])) (waNil)))) (wRet (woFz (wTup (waCons (wFz (woCall s__law_beside (waCons (wVar 1) (waCons (wVar 3) (waNil))))) (waCons (wIf (wtV (wOp oEq (wVar 7) (wC (.int 0)))) (wVar 1) (wVar 3)) (waCons (wVar 8) (waNil))))))))) (wNext)) (wSeq (wIfS (wtV (wOp oEq (wVar 2) (wC (.int 3)))) (wSeq (wSet 9 (woCall s__law_draw (waCons (wVar 0) (waCons (wVar 4) (waNil))))) (wRet (woFz (wTup (waCons (wVar 1) (waCons (wTup (waCons (wTup (waCons (wC (.int 1)) (waCons (wC (.int 1)) (waNil)))) (waCons (wTup (waCons (wC (.int 0)) (waCons (wC (.int 1)) (waNil)))) (waNil)))) (waCons (wFz (woCB oTuple (waCons (wFz (wComp (wiRange1 (waCons (wVar 4) (waNil))) (wgName 11) (wtTrue) (wOp oIx (wOp oIx (wVar 1) (wVar 9)) (wVar 11)) [11])) (waNil)))) (waNil)))))))) (wNext)) (wSeq (wIfS (wtOr (wtV (wOp oEq (wVar 2) (wC (.int 4)))) (wtV (wOp oEq (wVar 2) (wC (.int 5))))) (wSeq (wPar2 9 10 (woCall s__law_draw (waCons (wVar 0) (waCons (wVar 4) (waNil)))) (woCall s__law_draw (waCons (wVar 0) (waCons (wC (.int 2)) (waNil))))) (wRet (woFz (wTup (waCons (wVar 1) (waCons (wVar 1) (waCons (wFz (woCB oTuple (waCons (wFz (wComp (wiRange1 (waCons (wVar 4) (waNil))) (wgName 11) (wtTrue) (wOp oIx (wFz (woCall s__law_met (waCons (wVar 1) (waCons (wVar 11) (waCons (wVar 9) (waNil)))))) (wVar 10)) [11])) (waNil)))) (waNil)))))))) (wNext)) (wSeq (wIfS (wtV (wOp oEq (wVar 2) (wC (.int 6)))) (wSeq (wSet 8 (woListRg1 (wVar 4))) (wSeq (wStoreIx 8 (wFz (woCall s__law_draw (waCons (wVar 0) (waCons (wVar 4) (waNil))))) (wvO (woCall s__law_draw (waCons (wVar 0) (waCons (wVar 4) (waNil)))))) (wRet (woFz (wTup (waCons (wVar 1) (waCons (wVar 1) (waCons (wFz (woCB oTuple (waCons (wVar 8) (waNil)))) (waNil))))))))) (wNext)) (wRet (woFz (wTup (waCons (wVar 1) (waCons (wVar 3) (waCons (wFz (woCB oTuple (waCons (wFz (wComp (wiRange1 (waCons (wVar 4) (waNil))) (wgName 11) (wtTrue) (wFz (woCall s__law_draw (waCons (wVar 0) (waCons (wFz (woCB oLenD (waCons (wVar 3) (waNil)))) (waNil))))) [11])) (waNil)))) (waNil))))))))))))))
theorem d__law_case {B : Bs} (ff : FF B) {k : Nat} {s__law_house : FS} {n__law_house : Nat} (k__law_house : Kn B n__law_house "_law_house" t__law_house P__law_house s__law_house) (hk__law_house : n__law_house ≤ k) {s__law_pick : FS} {n__law_pick : Nat} (k__law_pick : Kn B n__law_pick "_law_pick" t__law_pick P__law_pick s__law_pick) (hk__law_pick : n__law_pick ≤ k) {s__law_draw : FS} {n__law_draw : Nat} (k__law_draw : Kn B n__law_draw "_law_draw" t__law_draw P__law_draw s__law_draw) (hk__law_draw : n__law_draw ≤ k) {s__law_order : FS} {n__law_order : Nat} (k__law_order : Kn B n__law_order "_law_order" t__law_order P__law_order s__law_order) (hk__law_order : n__law_order ≤ k) {s__law_renamed : FS} {n__law_renamed : Nat} (k__law_renamed : Kn B n__law_renamed "_law_renamed" t__law_renamed P__law_renamed s__law_renamed) (hk__law_renamed : n__law_renamed ≤ k) {s__law_beside : FS} {n__law_beside : Nat} (k__law_beside : Kn B n__law_beside "_law_beside" t__law_beside P__law_beside s__law_beside) (hk__law_beside : n__law_beside ≤ k) {s__law_met : FS} {n__law_met : Nat} (k__law_met : Kn B n__law_met "_law_met" t__law_met P__law_met s__law_met) (hk__law_met : n__law_met ≤ k) : DSs (S__law_case B k) (defBody t__law_case) (w__law_case s__law_house s__law_pick s__law_draw s__law_order s__law_renamed s__law_beside s__law_met) := by
  have nd : N__law_case.Nodup := by decide +kernel
  exact (dss_cons (ds_parT2 (i := 1) (j := 2) (do_call k__law_house hk__law_house (da_cons (de_nm (i := 0)) (da_cons (de_fz (do_call k__law_pick hk__law_pick (da_cons (de_nm (i := 0)) (da_cons (de_fz (do_lst (da_cons de_int (da_cons de_int (da_cons de_int da_nil))))) da_nil)))) da_nil))) (do_call k__law_draw hk__law_draw (da_cons (de_nm (i := 0)) (da_cons de_int da_nil))) nd) (dss_cons (ds_parT2 (i := 3) (j := 4) (do_call k__law_house hk__law_house (da_cons (de_nm (i := 0)) (da_cons (de_fz (do_call k__law_pick hk__law_pick (da_cons (de_nm (i := 0)) (da_cons (de_fz (do_lst (da_cons de_int (da_cons de_int (da_cons de_int da_nil))))) da_nil)))) da_nil))) (do_callB cd_lenD (ff.f_len) (by decide +kernel) (da_cons (de_nm (i := 1)) da_nil)) nd) (dss_cons (ds_if (dt_cmp cm_eq (de_nm (i := 2)) de_int) (dss_cons (ds_set (i := 5) (do_call k__law_order hk__law_order (da_cons (de_nm (i := 0)) (da_cons (de_nm (i := 4)) da_nil))) nd) (dss_one (ds_ret (do_fz (de_tup (da_cons (de_nm (i := 1)) (da_cons (de_fz (do_call k__law_renamed hk__law_renamed (da_cons (de_nm (i := 1)) (da_cons (de_nm (i := 5)) da_nil)))) (da_cons (de_nm (i := 5)) da_nil)))))))) dss_nil) (dss_cons (ds_if (dt_cmp cm_eq (de_nm (i := 2)) de_int) (dss_one (ds_ret (do_fz (de_tup (da_cons (de_nm (i := 1)) (da_cons (de_nm (i := 3)) (da_cons (de_fz (do_op od_mulA (de_tup (da_cons (de_fz (do_call k__law_draw hk__law_draw (da_cons (de_nm (i := 0)) (da_cons (de_fz (do_callB cd_lenD (ff.f_len) (by decide +kernel) (da_cons (de_nm (i := 3)) da_nil))) da_nil)))) da_nil)) (de_nm (i := 4)))) da_nil))))))) dss_nil) (dss_cons (ds_if (dt_pw (dw_and (dt_cmp cm_eq (de_nm (i := 2)) de_int) (dw_and1 (dt_cmp cm_le (de_fz (do_op od_mul (de_nm (i := 4)) (de_fz (do_callB cd_lenD (ff.f_len) (by decide +kernel) (da_cons (de_nm (i := 3)) da_nil))))) de_int)))) (dss_cons (ds_parT2 (i := 6) (j := 7) (do_callB cd_lenD (ff.f_len) (by decide +kernel) (da_cons (de_nm (i := 3)) da_nil)) (do_call k__law_draw hk__law_draw (da_cons (de_nm (i := 0)) (da_cons de_int da_nil))) nd) (dss_cons (ds_set (i := 8) (do_callTy cd_tuple (ff.f_tuple) (by decide +kernel) (da_cons (de_fz (do_lc (own := [("_law_x", 11)]) (di_range1 (ff.f_range) (da_cons (de_fz (do_op od_mul (de_nm (i := 4)) (de_nm (i := 6)))) da_nil)) nd (by kernel_rfl) (dg_name (i := 11) nd) (by decide) dts_nil (de_if (dt_cmp cm_eq (de_nm (i := 7)) de_int) (de_fdivW (de_nm (i := 11)) (de_nm (i := 6))) (de_mod (de_fz (do_callTy cd_int (ff.f_int) (by decide +kernel) (da_cons (de_nm (i := 11)) da_nil))) (de_nm (i := 6)))))) da_nil)) nd) (dss_one (ds_ret (do_fz (de_tup (da_cons (de_fz (do_call k__law_beside hk__law_beside (da_cons (de_nm (i := 1)) (da_cons (de_nm (i := 3)) da_nil)))) (da_cons (de_if (dt_cmp cm_eq (de_nm (i := 7)) de_int) (de_nm (i := 1)) (de_nm (i := 3))) (da_cons (de_nm (i := 8)) da_nil))))))))) dss_nil) (dss_cons (ds_if (dt_cmp cm_eq (de_nm (i := 2)) de_int) (dss_cons (ds_set (i := 9) (do_call k__law_draw hk__law_draw (da_cons (de_nm (i := 0)) (da_cons (de_nm (i := 4)) da_nil))) nd) (dss_one (ds_ret (do_fz (de_tup (da_cons (de_nm (i := 1)) (da_cons (de_tup (da_cons (de_tup (da_cons de_int (da_cons de_int da_nil))) (da_cons (de_tup (da_cons de_int (da_cons de_int da_nil))) da_nil))) (da_cons (de_fz (do_callTy cd_tuple (ff.f_tuple) (by decide +kernel) (da_cons (de_fz (do_lc (own := [("_law_x", 11)]) (di_range1 (ff.f_range) (da_cons (de_nm (i := 4)) da_nil)) nd (by kernel_rfl) (dg_name (i := 11) nd) (by decide) dts_nil (de_ix (de_ix (de_nm (i := 1)) (de_nm (i := 9))) (de_nm (i := 11))))) da_nil))) da_nil)))))))) dss_nil) (dss_cons (ds_if (dt_pw (dw_or (dt_cmp cm_eq (de_nm (i := 2)) de_int) (dw_or1 (dt_cmp cm_eq (de_nm (i := 2)) de_int)))) (dss_cons (ds_parT2 (i := 9) (j := 10) (do_call k__law_draw hk__law_draw (da_cons (de_nm (i := 0)) (da_cons (de_nm (i := 4)) da_nil))) (do_call k__law_draw hk__law_draw (da_cons (de_nm (i := 0)) (da_cons de_int da_nil))) nd) (dss_one (ds_ret (do_fz (de_tup (da_cons (de_nm (i := 1)) (da_cons (de_nm (i := 1)) (da_cons (de_fz (do_callTy cd_tuple (ff.f_tuple) (by decide +kernel) (da_cons (de_fz (do_lc (own := [("_law_x", 11)]) (di_range1 (ff.f_range) (da_cons (de_nm (i := 4)) da_nil)) nd (by kernel_rfl) (dg_name (i := 11) nd) (by decide) dts_nil (de_ix (de_fz (do_call k__law_met hk__law_met (da_cons (de_nm (i := 1)) (da_cons (de_nm (i := 11)) (da_cons (de_nm (i := 9)) da_nil))))) (de_nm (i := 10))))) da_nil))) da_nil)))))))) dss_nil) (dss_cons (ds_if (dt_cmp cm_eq (de_nm (i := 2)) de_int) (dss_cons (ds_set (i := 8) (do_listRg1 (ff.f_list) (ff.f_range) (de_nm (i := 4))) nd) (dss_cons (ds_storeIx (i := 8) (dv_do (do_call k__law_draw hk__law_draw (da_cons (de_nm (i := 0)) (da_cons (de_nm (i := 4)) da_nil)))) (de_fz (do_call k__law_draw hk__law_draw (da_cons (de_nm (i := 0)) (da_cons (de_nm (i := 4)) da_nil))))) (dss_one (ds_ret (do_fz (de_tup (da_cons (de_nm (i := 1)) (da_cons (de_nm (i := 1)) (da_cons (de_fz (do_callTy cd_tuple (ff.f_tuple) (by decide +kernel) (da_cons (de_nm (i := 8)) da_nil))) da_nil))))))))) dss_nil) (dss_one (ds_ret (do_fz (de_tup (da_cons (de_nm (i := 1)) (da_cons (de_nm (i := 3)) (da_cons (de_fz (do_callTy cd_tuple (ff.f_tuple) (by decide +kernel) (da_cons (de_fz (do_lc (own := [("_law_x", 11)]) (di_range1 (ff.f_range) (da_cons (de_nm (i := 4)) da_nil)) nd (by kernel_rfl) (dg_name (i := 11) nd) (by decide) dts_nil (de_fz (do_call k__law_draw hk__law_draw (da_cons (de_nm (i := 0)) (da_cons (de_fz (do_callB cd_lenD (ff.f_len) (by decide +kernel) (da_cons (de_nm (i := 3)) da_nil))) da_nil)))))) da_nil))) da_nil)))))))))))))))
def t__law_faults : Stmt := top 62
def N__law_faults : List Str := ["_law_house_here", "_law_other", "_law_lots", "_law_found", "_law_y", "_law_x", "_law_near", "_law_far"]
def P__law_faults : List Str := ["_law_house_here", "_law_other", "_law_lots"]
abbrev S__law_faults (B : Bs) (k : Nat) : Sta := { B with N := N__law_faults, names := (defScope t__law_faults).names, k := k, fc := fun _ => true }
theorem sc__law_faults : FnScope N__law_faults P__law_faults (defScope t__law_faults) := ⟨rfl, rfl, rfl, by decide +kernel, rfl, by decide +kernel, by decide +kernel⟩
def w__law_faults (s__law_met : FS) : WS := wSeq (wSet 3 (woLst (waNil))) (wSeq (wFor (wjRange1 (waCons (wFz (woCB oLenD (waCons (wVar 0) (waNil)))) (waNil))) (wgName 4) (wFor (wjRange1 (waCons (wVar 4) (waNil))) (wgName 5) (wSeq (wPar2 6 7 (woCall s__law_met (waCons (wVar 0) (waCons (wVar 5) (waCons (wVar 4) (waNil))))) (woCall s__law_met (waCons (wVar 1) (waCons (wOp oIx (wVar 2) (wVar 5)) (waCons (wOp oIx (wVar 2) (wVar 4)) (waNil)))))) (wSeq (wIfS (wtV (wOp oNe (wOp oIx (wVar 2) (wOp oIx (wVar 6) (wC (.int 0)))) (wOp oIx (wVar 7) (wC (.int 0))))) (wApp 3 (wvO (woFz (wTup (waCons (wC (.str "both")) (waCons (wVar 5) (waCons (wVar 4) (waNil)))))))) (wNext)) (wIfS (wtV (wOp oNe (wOp oIx (wVar 2) (wOp oIx (wVar 6) (wC (.int 1)))) (wOp oIx (wVar 7) (wC (.int 1))))) (wApp 3 (wvO (woFz (wTup (waCons (wC (.str "all")) (waCons (wVar 5) (waCons (wVar 4) (waNil)))))))) (wNext)))))) (wRetV 3))
theorem d__law_faults {B : Bs} (ff : FF B) {k : Nat} {s__law_met : FS} {n__law_met : Nat} (k__law_met : Kn B n__law_met "_law_met" t__law_met P__law_met s__law_met) (hk__law_met : n__law_met ≤ k) : DSs (S__law_faults B k) (defBody t__law_faults) (w__law_faults s__law_met) := by
  have nd : N__law_faults.Nodup := by decide +kernel
  exact (dss_cons (ds_set (i := 3) (do_lst da_nil) nd) (dss_cons (ds_for (dj_range1 (ff.f_range) (da_cons (de_fz (do_callB cd_lenD (ff.f_len) (by decide +kernel) (da_cons (de_nm (i := 0)) da_nil))) da_nil)) (dg_name (i := 4) nd) (dss_one (ds_for (dj_range1 (ff.f_range) (da_cons (de_nm (i := 4)) da_nil)) (dg_name (i := 5) nd) (dss_cons (ds_par2 (i := 6) (j := 7) (do_call k__law_met hk__law_met (da_cons (de_nm (i := 0)) (da_cons (de_nm (i := 5)) (da_cons (de_nm (i := 4)) da_nil)))) (do_call k__law_met hk__law_met (da_cons (de_nm (i := 1)) (da_cons (de_ix (de_nm (i := 2)) (de_nm (i := 5))) (da_cons (de_ix (de_nm (i := 2)) (de_nm (i := 4))) da_nil)))) nd (hw := swap2 (by kernel_rfl) (by kernel_rfl) (by rfl) (by rfl) (by kernel_rfl) (by kernel_rfl))) (dss_cons (ds_if (dt_cmp cm_ne (de_ix (de_nm (i := 2)) (de_ix (de_nm (i := 6)) de_int)) (de_ix (de_nm (i := 7)) de_int)) (dss_one (ds_app (i := 3) (dv_do (do_fz (de_tup (da_cons de_str (da_cons (de_nm (i := 5)) (da_cons (de_nm (i := 4)) da_nil)))))))) dss_nil) (dss_one (ds_if (dt_cmp cm_ne (de_ix (de_nm (i := 2)) (de_ix (de_nm (i := 6)) de_int)) (de_ix (de_nm (i := 7)) de_int)) (dss_one (ds_app (i := 3) (dv_do (do_fz (de_tup (da_cons de_str (da_cons (de_nm (i := 5)) (da_cons (de_nm (i := 4)) da_nil)))))))) dss_nil))))))) (dss_one (ds_retV (i := 3)))))
def t__law_is_map_right : Stmt := top 64
def N__law_is_map_right : List Str := ["_law_deck_here", "_law_house_here", "_law_other", "_law_lots", "_law_faults_here", "_law_told", "_law_word", "_law_x", "_law_y", "_law_due"]
def P__law_is_map_right : List Str := ["_law_deck_here", "_law_house_here", "_law_other", "_law_lots", "_law_faults_here"]
abbrev S__law_is_map_right (B : Bs) (k : Nat) : Sta := { B with N := N__law_is_map_right, names := (defScope t__law_is_map_right).names, k := k, fc := fun _ => true }
theorem sc__law_is_map_right : FnScope N__law_is_map_right P__law_is_map_right (defScope t__law_is_map_right) := ⟨rfl, rfl, rfl, by decide +kernel, rfl, by decide +kernel, by decide +kernel⟩
def w__law_is_map_right (s__law_draw : FS) (s_judge_map : FS) (s_map_holds : FS) (s__law_pick : FS) : WS := wSeq (wSet 5 (woIf (wtV (wOp oEq (wFz (woCall s__law_draw (waCons (wVar 0) (waCons (wC (.int 2)) (waNil))))) (wC (.int 0)))) (woCall s_judge_map (waCons (wVar 1) (waCons (wVar 2) (waCons (wVar 3) (waNil))))) (woCallK 3 [2, 1, 0] s_judge_map (waCons (wVar 3) (waCons (wVar 2) (waCons (wVar 1) (waNil))))))) (wSeq (wIfS (wtV (wOp oNotBl (wFz (woCall s_map_holds (waCons (wVar 1) (waCons (wVar 2) (waCons (wVar 3) (waCons (wVar 5) (waNil))))))) (wC (.bl true)))) (wRet (woFz (wC (.bl false)))) (wNext)) (wSeq (wIfS (wtV (wOp oEq (wVar 4) (wFz (woLst (waNil))))) (wIfS (wtV (wOp oNe (wVar 5) (wTup (waCons (wC (.str "good")) (waNil))))) (wRet (woFz (wC (.bl false)))) (wNext)) (wIfS (wtOr (wtNot (wtV (wIsi "tuple" (wVar 5)))) (wtOr (wtV (wOp oNe (wFz (woCB oLenD (waCons (wVar 5) (waNil)))) (wC (.int 3)))) (wtV (wOp oNotIn (wTup (waCons (wOp oIx (wVar 5) (wC (.int 0))) (waCons (wFz (woCB (oMax1 min) (waCons (wFz (woSl (wVar 5) (wpSome (wC (.int 1))) (wpNone))) (waNil)))) (waCons (wFz (woCB (oMax1 max) (waCons (wFz (woSl (wVar 5) (wpSome (wC (.int 1))) (wpNone))) (waNil)))) (waNil))))) (wVar 4))))) (wRet (woFz (wC (.bl false)))) (wNext))) (wSeq (wPar3 6 7 8 (woCall s__law_pick (waCons (wVar 0) (waCons (wFz (woLst (waCons (wC (.str "both")) (waCons (wC (.str "all")) (waNil))))) (waNil)))) (woCall s__law_draw (waCons (wVar 0) (waCons (wFz (woCB oLenD (waCons (wVar 1) (waNil)))) (waNil)))) (woCall s__law_draw (waCons (wVar 0) (waCons (wFz (woCB oLenD (waCons (wVar 1) (waNil)))) (waNil))))) (wSeq (wSet 9 (woFz (wOp oIn (wTup (waCons (wVar 6) (waCons (wFz (woCB oMin (waCons (wVar 7) (waCons (wVar 8) (waNil))))) (waCons (wFz (woCB oMax (waCons (wVar 7) (waCons (wVar 8) (waNil))))) (waNil))))) (wVar 4)))) (wSeq (wIfS (wtV (wOp oNeS (wFz (woCB oRepr (waCons (wFz (woCallK 4 [3, 2, 1, 0] s_map_holds (waCons (wTup (waCons (wVar 6) (waCons (wVar 7) (waCons (wVar 8) (waNil))))) (waCons (wVar 3) (waCons (wVar 2) (waCons (wVar 1) (waNil))))))) (waNil)))) (wFz (woCB oRepr (waCons (wVar 9) (waNil)))))) (wRet (woFz (wC (.bl false)))) (wNext)) (wRet (woFz (wOp oEqS (wFz (woCB oRepr (waCons (wFz (woCall s_map_holds (waCons (wVar 1) (waCons (wVar 2) (waCons (wVar 3) (waCons (wTup (waCons (wC (.str "good")) (waNil))) (waNil))))))) (waNil)))) (wFz (woCB oRepr (waCons (wOp oEq (wVar 4) (wFz (woLst (waNil)))) (waNil))))))))))))
theorem d__law_is_map_right {B : Bs} (ff : FF B) {k : Nat} {s__law_draw : FS} {n__law_draw : Nat} (k__law_draw : Kn B n__law_draw "_law_draw" t__law_draw P__law_draw s__law_draw) (hk__law_draw : n__law_draw ≤ k) {s_judge_map : FS} {n_judge_map : Nat} (k_judge_map : Kn B n_judge_map "judge_map" t_judge_map P_judge_map s_judge_map) (hk_judge_map : n_judge_map ≤ k) {s_map_holds : FS} {n_map_holds : Nat} (k_map_holds : Kn B n_map_holds "map_holds" t_map_holds P_map_holds s_map_holds) (hk_map_holds : n_map_holds ≤ k) {s__law_pick : FS} {n__law_pick : Nat} (k__law_pick : Kn B n__law_pick "_law_pick" t__law_pick P__law_pick s__law_pick) (hk__law_pick : n__law_pick ≤ k) : DSs (S__law_is_map_right B k) (defBody t__law_is_map_right) (w__law_is_map_right s__law_draw s_judge_map s_map_holds s__law_pick) := by
  have nd : N__law_is_map_right.Nodup := by decide +kernel
  exact (dss_cons (ds_set (i := 5) (do_if (dt_cmp cm_eq (de_fz (do_call k__law_draw hk__law_draw (da_cons (de_nm (i := 0)) (da_cons de_int da_nil)))) de_int) (do_call k_judge_map hk_judge_map (da_cons (de_nm (i := 1)) (da_cons (de_nm (i := 2)) (da_cons (de_nm (i := 3)) da_nil)))) (do_callK (is := [2, 1, 0]) (ks := ["lots", "other", "house"]) k_judge_map hk_judge_map (dk_cons (de_nm (i := 3)) (dk_cons (de_nm (i := 2)) (dk_cons (de_nm (i := 1)) dk_nil))) (by simp [P_judge_map]) (fun _ _ _ _ _ _ ws hl => match ws, hl with | [_, _, _], _ => rfl))) nd) (dss_cons (ds_if (dt_cmp cm_notB (de_fz (do_call k_map_holds hk_map_holds (da_cons (de_nm (i := 1)) (da_cons (de_nm (i := 2)) (da_cons (de_nm (i := 3)) (da_cons (de_nm (i := 5)) da_nil)))))) de_bl) (dss_one (ds_ret (do_fz de_bl))) dss_nil) (dss_cons (ds_if (dt_cmp cm_eq (de_nm (i := 4)) (de_fz (do_lst da_nil))) (dss_one (ds_if (dt_cmp cm_ne (de_nm (i := 5)) (de_tup (da_cons de_str da_nil))) (dss_one (ds_ret (do_fz de_bl))) dss_nil)) (dss_one (ds_if (dt_pw (dw_or (dt_not (dt_val (de_isi (ff.f_isinstance) (ff.f_tuple) (by decide +kernel) (by decide) (de_nm (i := 5))))) (dw_or (dt_cmp cm_ne (de_fz (do_callB cd_lenD (ff.f_len) (by decide +kernel) (da_cons (de_nm (i := 5)) da_nil))) de_int) (dw_or1 (dt_cmp cm_notIn (de_tup (da_cons (de_ix (de_nm (i := 5)) de_int) (da_cons (de_fz (do_callB cd_min1 (ff.f_min) (by decide +kernel) (da_cons (de_fz (do_slice (de_nm (i := 5)) (dp_some de_int) dp_none)) da_nil))) (da_cons (de_fz (do_callB cd_max1 (ff.f_max) (by decide +kernel) (da_cons (de_fz (do_slice (de_nm (i := 5)) (dp_some de_int) dp_none)) da_nil))) da_nil)))) (de_nm (i := 4))))))) (dss_one (ds_ret (do_fz de_bl))) dss_nil))) (dss_cons (ds_par3 (i := 6) (j := 7) (l := 8) (do_call k__law_pick hk__law_pick (da_cons (de_nm (i := 0)) (da_cons (de_fz (do_lst (da_cons de_str (da_cons de_str da_nil)))) da_nil))) (do_call k__law_draw hk__law_draw (da_cons (de_nm (i := 0)) (da_cons (de_fz (do_callB cd_lenD (ff.f_len) (by decide +kernel) (da_cons (de_nm (i := 1)) da_nil))) da_nil))) (do_call k__law_draw hk__law_draw (da_cons (de_nm (i := 0)) (da_cons (de_fz (do_callB cd_lenD (ff.f_len) (by decide +kernel) (da_cons (de_nm (i := 1)) da_nil))) da_nil))) nd (hw := swap3 (by kernel_rfl) (by kernel_rfl) (by kernel_rfl) (by kernel_rfl) (by kernel_rfl) (by rfl) (by rfl) (by rfl) (by kernel_rfl) (by kernel_rfl))) (dss_cons (ds_set (i := 9) (do_fz (de_cmp cm_in (de_tup (da_cons (de_nm (i := 6)) (da_cons (de_fz (do_callB cd_min (ff.f_min) (by decide +kernel) (da_cons (de_nm (i := 7)) (da_cons (de_nm (i := 8)) da_nil)))) (da_cons (de_fz (do_callB cd_max (ff.f_max) (by decide +kernel) (da_cons (de_nm (i := 7)) (da_cons (de_nm (i := 8)) da_nil)))) da_nil)))) (de_nm (i := 4)))) nd) (dss_cons (ds_if (dt_cmp cm_neS (de_fz (do_callB cd_repr (ff.f_repr) (by decide +kernel) (da_cons (de_fz (do_callK (is := [3, 2, 1, 0]) (ks := ["thing", "lots", "other", "house"]) k_map_holds hk_map_holds (dk_cons (de_tup (da_cons (de_nm (i := 6)) (da_cons (de_nm (i := 7)) (da_cons (de_nm (i := 8)) da_nil)))) (dk_cons (de_nm (i := 3)) (dk_cons (de_nm (i := 2)) (dk_cons (de_nm (i := 1)) dk_nil)))) (by simp [P_map_holds]) (fun _ _ _ _ _ _ ws hl => match ws, hl with | [_, _, _, _], _ => rfl))) da_nil))) (de_fz (do_callB cd_repr (ff.f_repr) (by decide +kernel) (da_cons (de_nm (i := 9)) da_nil)))) (dss_one (ds_ret (do_fz de_bl))) dss_nil) (dss_one (ds_ret (do_fz (de_cmp cm_eqS (de_fz (do_callB cd_repr (ff.f_repr) (by decide +kernel) (da_cons (de_fz (do_call k_map_holds hk_map_holds (da_cons (de_nm (i := 1)) (da_cons (de_nm (i := 2)) (da_cons (de_nm (i := 3)) (da_cons (de_tup (da_cons de_str da_nil)) da_nil)))))) da_nil))) (de_fz (do_callB cd_repr (ff.f_repr) (by decide +kernel) (da_cons (de_cmp cm_eq (de_nm (i := 4)) (de_fz (do_lst da_nil))) da_nil)))))))))))))
def t__law_is_led_right : Stmt := top 65
def N__law_is_led_right : List Str := ["_law_deck_here", "_law_house_here", "_law_other", "_law_lots", "_law_faults_here", "_law_row", "_law_hands", "_law_plan", "_law_due", "_law_go", "_law_i", "_law_told", "_law_far", "_law_lot", "_law_more", "_law_hand", "_law_x"]
def P__law_is_led_right : List Str := ["_law_deck_here", "_law_house_here", "_law_other", "_law_lots", "_law_faults_here"]
abbrev S__law_is_led_right (B : Bs) (k : Nat) (c : Addr) : Sta := { B with N := N__law_is_led_right, names := (defScope t__law_is_led_right).names, k := k, fc := fun _ => true, cd := some (c, "_law_is_led_right.<locals>.") }
theorem sc__law_is_led_right : FnScope N__law_is_led_right P__law_is_led_right (defScope t__law_is_led_right) := ⟨rfl, rfl, rfl, by decide +kernel, rfl, by decide +kernel, by decide +kernel⟩
def w__law_is_led_right (P : Addr) (Kc : Str → Prop) (s__law_pick : FS) (s__law_draw : FS) (s_led_row : FS) (s_behind : FS) (s__law_behind : FS) (s__law_met : FS) (s__law_faults : FS) (s_judge_map : FS) (sx_led_row : FSX) : WS := wSeq (wSet 5 (woCB oTuple (waCons (wFz (wComp (wiRange1 (waCons (wFz (woCall s__law_pick (waCons (wVar 0) (waCons (wFz (woLst (waCons (wC (.int 3)) (waCons (wC (.int 2)) (waCons (wC (.int 4)) (waCons (wC (.int 6)) (waCons (wC (.int 1)) (waNil)))))))) (waNil))))) (waNil))) (wgName 15) (wtTrue) (wFz (woCall s__law_draw (waCons (wVar 0) (waCons (wFz (woCB oLenD (waCons (wVar 1) (waNil)))) (waNil))))) [15])) (waNil)))) (wSeq (wIfS (wtV (wOp oNe (wVar 4) (wFz (woLst (waNil))))) (wRet (woFz (wOp oEqS (wFz (woCB oRepr (waCons (wFz (woCatch P ("_law_is_led_right.<locals>." ++ "<lambda>") Kc (woCallX sx_led_row (waCons (wVar 1) (waCons (wVar 2) (waCons (wVar 3) (waCons (wVar 5) (waNil)))))))) (waNil)))) (wFz (woCB oRepr (waCons (wVar 3) (waNil))))))) (wNext)) (wSeq (wPar3 6 7 8 (woCB oLenD (waCons (wVar 5) (waNil))) (woFz (wTup (waNil))) (woCB oTuple (waCons (wFz (wComp (wiSeq (wVar 5)) (wgName 16) (wtTrue) (wOp oIx (wVar 3) (wVar 16)) [16])) (waNil)))) (wSeq (wFor (wjRange1 (waCons (wIf (wtV (wOp (oB0 fun i j => decide (j < i)) (wVar 6) (wC (.int 1)))) (wFz (woCall s__law_draw (waCons (wVar 0) (waCons (wC (.int 13)) (waNil))))) (wC (.int 0))) (waNil))) (wgName 9) (wSeq (wSet 10 (woCall s__law_draw (waCons (wVar 0) (waCons (wVar 6) (waNil))))) (wSet 7 (wOpO oAdd (wVar 7) (wTup (waCons (wTup (waCons (wVar 10) (waCons (wOp (oI (fun _ j => 0 < j) fun i j => i % j) (wFz (woCB oInt (waCons (wFz (wOpO oAdd (wFz (wOpO oAdd (wVar 10) (wC (.int 1)))) (wFz (woCall s__law_draw (waCons (wVar 0) (waCons (wOp (oI0 fun i j => i - j) (wVar 6) (wC (.int 1))) (waNil))))))) (waNil)))) (wVar 6)) (waNil)))) (waNil))))))) (wSeq (wIfS (wtV (wOp oEq (wFz (woCall s__law_draw (waCons (wVar 0) (waCons (wC (.int 2)) (waNil))))) (wC (.int 0)))) (wSet 11 (woCall s_led_row (waCons (wVar 1) (waCons (wVar 2) (waCons (wVar 3) (waCons (wVar 5) (waNil))))))) (wSet 11 (woCallK 4 [3, 2, 1, 0] s_led_row (waCons (wVar 5) (waCons (wVar 3) (waCons (wVar 2) (waCons (wVar 1) (waNil)))))))) (wSeq (wIfS (wtV (wOp oNeS (wFz (woCB oRepr (waCons (wVar 11) (waNil)))) (wFz (woCB oRepr (waCons (wVar 8) (waNil)))))) (wRet (woFz (wC (.bl false)))) (wNext)) (wSeq (wSet 12 (woCB oTuple (waCons (wFz (wComp (wiSeq (wFz (woCall s_behind (waCons (wVar 1) (waCons (wVar 5) (waCons (wVar 7) (waNil))))))) (wgName 16) (wtTrue) (wOp oIx (wVar 3) (wVar 16)) [16])) (waNil)))) (wSeq (wIfS (wtOr (wtV (wOp oNeS (wFz (woCB oRepr (waCons (wFz (woCall s_behind (waCons (wVar 2) (waCons (wVar 8) (waCons (wVar 7) (waNil)))))) (waNil)))) (wFz (woCB oRepr (waCons (wVar 12) (waNil)))))) (wtV (wOp oNeS (wFz (woCB oRepr (waCons (wVar 12) (waNil)))) (wFz (woCB oRepr (waCons (wFz (woCall s__law_behind (waCons (wVar 2) (waCons (wVar 8) (waCons (wVar 7) (waNil)))))) (waNil))))))) (wRet (woFz (wC (.bl false)))) (wNext)) (wSeq (wSet 13 (woCall s__law_draw (waCons (wVar 0) (waCons (wFz (woCB oLenD (waCons (wVar 2) (waNil)))) (waNil))))) (wSeq (wSet 14 (woCB oTuple (waCons (wFz (wComp (wiRange1 (waCons (wFz (woCB oLenD (waCons (wVar 2) (waNil)))) (waNil))) (wgName 16) (wtTrue) (wOp oIx (wFz (woCall s__law_met (waCons (wVar 2) (waCons (wVar 16) (waCons (wVar 13) (waNil)))))) (wC (.int 0))) [16])) (waNil)))) (wSeq (wIfS (wtV (wOp oNe (wFz (woCall s__law_faults (waCons (wVar 2) (waCons (wVar 2) (waCons (wVar 14) (waNil)))))) (wFz (woLst (waNil))))) (wRet (woFz (wC (.bl true)))) (wNext)) (wRet (woFz (wOp oEq (wFz (woCall s_judge_map (waCons (wVar 1) (waCons (wVar 2) (waCons (wFz (woCB oTuple (waCons (wFz (wComp (wiSeq (wVar 3)) (wgName 16) (wtTrue) (wOp oIx (wVar 14) (wVar 16)) [16])) (waNil)))) (waNil)))))) (wTup (waCons (wC (.str "good")) (waNil))))))))))))))))
theorem d__law_is_led_right {B : Bs} (ff : FF B) {k : Nat} {c P : Addr} {Kc : Str → Prop} (TB : LamX.TabB B.base B.mg c P) (R : Catch B "_law_refused" Kc) {s__law_pick : FS} {n__law_pick : Nat} (k__law_pick : Kn B n__law_pick "_law_pick" t__law_pick P__law_pick s__law_pick) (hk__law_pick : n__law_pick ≤ k) {s__law_draw : FS} {n__law_draw : Nat} (k__law_draw : Kn B n__law_draw "_law_draw" t__law_draw P__law_draw s__law_draw) (hk__law_draw : n__law_draw ≤ k) {s_led_row : FS} {n_led_row : Nat} (k_led_row : Kn B n_led_row "led_row" t_led_row P_led_row s_led_row) (hk_led_row : n_led_row ≤ k) {s_behind : FS} {n_behind : Nat} (k_behind : Kn B n_behind "behind" t_behind P_behind s_behind) (hk_behind : n_behind ≤ k) {s__law_behind : FS} {n__law_behind : Nat} (k__law_behind : Kn B n__law_behind "_law_behind" t__law_behind P__law_behind s__law_behind) (hk__law_behind : n__law_behind ≤ k) {s__law_met : FS} {n__law_met : Nat} (k__law_met : Kn B n__law_met "_law_met" t__law_met P__law_met s__law_met) (hk__law_met : n__law_met ≤ k) {s__law_faults : FS} {n__law_faults : Nat} (k__law_faults : Kn B n__law_faults "_law_faults" t__law_faults P__law_faults s__law_faults) (hk__law_faults : n__law_faults ≤ k) {s_judge_map : FS} {n_judge_map : Nat} (k_judge_map : Kn B n_judge_map "judge_map" t_judge_map P_judge_map s_judge_map) (hk_judge_map : n_judge_map ≤ k) {sx_led_row : FSX} {nx_led_row : Nat} (kx_led_row : KnX B nx_led_row "led_row" t_led_row P_led_row sx_led_row) (hkx_led_row : nx_led_row + 2 ≤ k) : DSs (S__law_is_led_right B k c) (defBody t__law_is_led_right) (w__law_is_led_right P Kc s__law_pick s__law_draw s_led_row s_behind s__law_behind s__law_met s__law_faults s_judge_map sx_led_row) := by
  have nd : N__law_is_led_right.Nodup := by decide +kernel
  exact (dss_cons (ds_set (i := 5) (do_callTy cd_tuple (ff.f_tuple) (by decide +kernel) (da_cons (de_fz (do_lc (own := [("_law_hand", 15)]) (di_range1 (ff.f_range) (da_cons (de_fz (do_call k__law_pick hk__law_pick (da_cons (de_nm (i := 0)) (da_cons (de_fz (do_lst (da_cons de_int (da_cons de_int (da_cons de_int (da_cons de_int (da_cons de_int da_nil))))))) da_nil)))) da_nil)) nd (by kernel_rfl) (dg_name (i := 15) nd) (by decide) dts_nil (de_fz (do_call k__law_draw hk__law_draw (da_cons (de_nm (i := 0)) (da_cons (de_fz (do_callB cd_lenD (ff.f_len) (by decide +kernel) (da_cons (de_nm (i := 1)) da_nil))) da_nil)))))) da_nil)) nd) (dss_cons (ds_if (dt_cmp cm_ne (de_nm (i := 4)) (de_fz (do_lst da_nil))) (dss_one (ds_ret (do_fz (de_cmp cm_eqS (de_fz (do_callB cd_repr (ff.f_repr) (by decide +kernel) (da_cons (de_fz (do_catch (k := nx_led_row) R (dox_call kx_led_row (Nat.le_refl _) (da_cons (de_nm (i := 1)) (da_cons (de_nm (i := 2)) (da_cons (de_nm (i := 3)) (da_cons (de_nm (i := 5)) da_nil))))) TB rfl hkx_led_row)) da_nil))) (de_fz (do_callB cd_repr (ff.f_repr) (by decide +kernel) (da_cons (de_nm (i := 3)) da_nil))))))) dss_nil) (dss_cons (ds_par3 (i := 6) (j := 7) (l := 8) (do_callB cd_lenD (ff.f_len) (by decide +kernel) (da_cons (de_nm (i := 5)) da_nil)) (do_fz (de_tup da_nil)) (do_callTy cd_tuple (ff.f_tuple) (by decide +kernel) (da_cons (de_fz (do_lc (own := [("_law_x", 16)]) (di_seq (de_nm (i := 5))) nd (by kernel_rfl) (dg_name (i := 16) nd) (by decide) dts_nil (de_ix (de_nm (i := 3)) (de_nm (i := 16))))) da_nil)) nd (hw := swap3 (by kernel_rfl) (by kernel_rfl) (by kernel_rfl) (by kernel_rfl) (by kernel_rfl) (by rfl) (by rfl) (by rfl) (by kernel_rfl) (by kernel_rfl))) (dss_cons (ds_for (dj_range1 (ff.f_range) (da_cons (de_if (dt_cmp cm_gt (de_nm (i := 6)) de_int) (de_fz (do_call k__law_draw hk__law_draw (da_cons (de_nm (i := 0)) (da_cons de_int da_nil)))) de_int) da_nil)) (dg_name (i := 9) nd) (dss_cons (ds_set (i := 10) (do_call k__law_draw hk__law_draw (da_cons (de_nm (i := 0)) (da_cons (de_nm (i := 6)) da_nil))) nd) (dss_one (ds_set (i := 7) (do_op od_add (de_nm (i := 7)) (de_tup (da_cons (de_tup (da_cons (de_nm (i := 10)) (da_cons (de_mod (de_fz (do_callTy cd_int (ff.f_int) (by decide +kernel) (da_cons (de_fz (do_op od_add (de_fz (do_op od_add (de_nm (i := 10)) de_int)) (de_fz (do_call k__law_draw hk__law_draw (da_cons (de_nm (i := 0)) (da_cons (de_sub (de_nm (i := 6)) de_int) da_nil)))))) da_nil))) (de_nm (i := 6))) da_nil))) da_nil))) nd)))) (dss_cons (ds_if (dt_cmp cm_eq (de_fz (do_call k__law_draw hk__law_draw (da_cons (de_nm (i := 0)) (da_cons de_int da_nil)))) de_int) (dss_one (ds_set (i := 11) (do_call k_led_row hk_led_row (da_cons (de_nm (i := 1)) (da_cons (de_nm (i := 2)) (da_cons (de_nm (i := 3)) (da_cons (de_nm (i := 5)) da_nil))))) nd)) (dss_one (ds_set (i := 11) (do_callK (is := [3, 2, 1, 0]) (ks := ["row", "lots", "other", "house"]) k_led_row hk_led_row (dk_cons (de_nm (i := 5)) (dk_cons (de_nm (i := 3)) (dk_cons (de_nm (i := 2)) (dk_cons (de_nm (i := 1)) dk_nil)))) (by simp [P_led_row]) (fun _ _ _ _ _ _ ws hl => match ws, hl with | [_, _, _, _], _ => rfl)) nd))) (dss_cons (ds_if (dt_cmp cm_neS (de_fz (do_callB cd_repr (ff.f_repr) (by decide +kernel) (da_cons (de_nm (i := 11)) da_nil))) (de_fz (do_callB cd_repr (ff.f_repr) (by decide +kernel) (da_cons (de_nm (i := 8)) da_nil)))) (dss_one (ds_ret (do_fz de_bl))) dss_nil) (dss_cons (ds_set (i := 12) (do_callTy cd_tuple (ff.f_tuple) (by decide +kernel) (da_cons (de_fz (do_lc (own := [("_law_x", 16)]) (di_seq (de_fz (do_call k_behind hk_behind (da_cons (de_nm (i := 1)) (da_cons (de_nm (i := 5)) (da_cons (de_nm (i := 7)) da_nil)))))) nd (by kernel_rfl) (dg_name (i := 16) nd) (by decide) dts_nil (de_ix (de_nm (i := 3)) (de_nm (i := 16))))) da_nil)) nd) (dss_cons (ds_if (dt_pw (dw_or (dt_cmp cm_neS (de_fz (do_callB cd_repr (ff.f_repr) (by decide +kernel) (da_cons (de_fz (do_call k_behind hk_behind (da_cons (de_nm (i := 2)) (da_cons (de_nm (i := 8)) (da_cons (de_nm (i := 7)) da_nil))))) da_nil))) (de_fz (do_callB cd_repr (ff.f_repr) (by decide +kernel) (da_cons (de_nm (i := 12)) da_nil)))) (dw_or1 (dt_cmp cm_neS (de_fz (do_callB cd_repr (ff.f_repr) (by decide +kernel) (da_cons (de_nm (i := 12)) da_nil))) (de_fz (do_callB cd_repr (ff.f_repr) (by decide +kernel) (da_cons (de_fz (do_call k__law_behind hk__law_behind (da_cons (de_nm (i := 2)) (da_cons (de_nm (i := 8)) (da_cons (de_nm (i := 7)) da_nil))))) da_nil))))))) (dss_one (ds_ret (do_fz de_bl))) dss_nil) (dss_cons (ds_set (i := 13) (do_call k__law_draw hk__law_draw (da_cons (de_nm (i := 0)) (da_cons (de_fz (do_callB cd_lenD (ff.f_len) (by decide +kernel) (da_cons (de_nm (i := 2)) da_nil))) da_nil))) nd) (dss_cons (ds_set (i := 14) (do_callTy cd_tuple (ff.f_tuple) (by decide +kernel) (da_cons (de_fz (do_lc (own := [("_law_x", 16)]) (di_range1 (ff.f_range) (da_cons (de_fz (do_callB cd_lenD (ff.f_len) (by decide +kernel) (da_cons (de_nm (i := 2)) da_nil))) da_nil)) nd (by kernel_rfl) (dg_name (i := 16) nd) (by decide) dts_nil (de_ix (de_fz (do_call k__law_met hk__law_met (da_cons (de_nm (i := 2)) (da_cons (de_nm (i := 16)) (da_cons (de_nm (i := 13)) da_nil))))) de_int))) da_nil)) nd) (dss_cons (ds_if (dt_cmp cm_ne (de_fz (do_call k__law_faults hk__law_faults (da_cons (de_nm (i := 2)) (da_cons (de_nm (i := 2)) (da_cons (de_nm (i := 14)) da_nil))))) (de_fz (do_lst da_nil))) (dss_one (ds_ret (do_fz de_bl))) dss_nil) (dss_one (ds_ret (do_fz (de_cmp cm_eq (de_fz (do_call k_judge_map hk_judge_map (da_cons (de_nm (i := 1)) (da_cons (de_nm (i := 2)) (da_cons (de_fz (do_callTy cd_tuple (ff.f_tuple) (by decide +kernel) (da_cons (de_fz (do_lc (own := [("_law_x", 16)]) (di_seq (de_nm (i := 3))) nd (by kernel_rfl) (dg_name (i := 16) nd) (by decide) dts_nil (de_ix (de_nm (i := 14)) (de_nm (i := 16))))) da_nil))) da_nil))))) (de_tup (da_cons de_str da_nil)))))))))))))))))
def t_law : Stmt := top 66
def N_law : List Str := ["_law_script", "_law_deck_here", "_law_go", "_law_house_here", "_law_other", "_law_lots", "_law_faults_here"]
def P_law : List Str := ["_law_script"]
abbrev S_law (B : Bs) (k : Nat) : Sta := { B with N := N_law, names := (defScope t_law).names, k := k, fc := fun _ => true }
theorem sc_law : FnScope N_law P_law (defScope t_law) := ⟨rfl, rfl, rfl, by decide +kernel, rfl, by decide +kernel, by decide +kernel⟩
def w_law (K : PySem.W.Frag) (s__law_case : FS) (s__law_faults : FS) (s__law_is_map_right : FS) (s__law_is_led_right : FS) : WS := wDeckS K 1 0 (wSeq (wFor (wjRange1 (waCons (wC (.int 2)) (waNil))) (wgName 2) (wSeq (wSetT (wgTup 3 (wgCons (wgName 3) (wgCons (wgName 4) (wgCons (wgName 5) (wgNil))))) (wvO (woCall s__law_case (waCons (wVar 1) (waNil))))) (wSeq (wSet 6 (woCall s__law_faults (waCons (wVar 3) (waCons (wVar 4) (waCons (wVar 5) (waNil)))))) (wSeq (wIfS (wtNot (wtV (wFz (woCall s__law_is_map_right (waCons (wVar 1) (waCons (wVar 3) (waCons (wVar 4) (waCons (wVar 5) (waCons (wVar 6) (waNil)))))))))) (wRet (woFz (wC (.bl false)))) (wNext)) (wIfS (wtNot (wtV (wFz (woCall s__law_is_led_right (waCons (wVar 1) (waCons (wVar 3) (waCons (wVar 4) (waCons (wVar 5) (waCons (wVar 6) (waNil)))))))))) (wRet (woFz (wC (.bl false)))) (wNext)))))) (wRet (woFz (wC (.bl true)))))
theorem d_law {B : Bs} (ff : FF B) {k kD : Nat} {aD : Addr} {fD : FuncData} (FD : FnG B.P B.w B.K B.mg B.base CX0 kD aD fD P__law_deck (spDeck B.K)) (hmD : B.mg "_law_deck" = some (.ref aD)) (hkD : PySem.W.keepIn B.K (.ref aD) = true) (hbD : Binds B.K fD P__law_deck []) (hD : kD ≤ k) {s__law_case : FS} {n__law_case : Nat} (k__law_case : Kn B n__law_case "_law_case" t__law_case P__law_case s__law_case) (hk__law_case : n__law_case ≤ k) {s__law_faults : FS} {n__law_faults : Nat} (k__law_faults : Kn B n__law_faults "_law_faults" t__law_faults P__law_faults s__law_faults) (hk__law_faults : n__law_faults ≤ k) {s__law_is_map_right : FS} {n__law_is_map_right : Nat} (k__law_is_map_right : Kn B n__law_is_map_right "_law_is_map_right" t__law_is_map_right P__law_is_map_right s__law_is_map_right) (hk__law_is_map_right : n__law_is_map_right ≤ k) {s__law_is_led_right : FS} {n__law_is_led_right : Nat} (k__law_is_led_right : Kn B n__law_is_led_right "_law_is_led_right" t__law_is_led_right P__law_is_led_right s__law_is_led_right) (hk__law_is_led_right : n__law_is_led_right ≤ k) : DSs (S_law B k) (defBody t_law) (w_law B.K s__law_case s__law_faults s__law_is_map_right s__law_is_led_right) := by
  have nd : N_law.Nodup := by decide +kernel
  exact (dss_deck (i := 1) (j := 0) FD hmD hkD hbD hD (dss_cons (ds_for (dj_range1 (ff.f_range) (da_cons de_int da_nil)) (dg_name (i := 2) nd) (dss_cons (ds_asgT (dv_do (do_call k__law_case hk__law_case (da_cons (de_nm (i := 1)) da_nil))) (dg_tup (dgs_cons (dg_name (i := 3) nd) (dgs_cons (dg_name (i := 4) nd) (dgs_cons (dg_name (i := 5) nd) dgs_nil))))) (dss_cons (ds_set (i := 6) (do_call k__law_faults hk__law_faults (da_cons (de_nm (i := 3)) (da_cons (de_nm (i := 4)) (da_cons (de_nm (i := 5)) da_nil)))) nd) (dss_cons (ds_if (dt_not (dt_val (de_fz (do_call k__law_is_map_right hk__law_is_map_right (da_cons (de_nm (i := 1)) (da_cons (de_nm (i := 3)) (da_cons (de_nm (i := 4)) (da_cons (de_nm (i := 5)) (da_cons (de_nm (i := 6)) da_nil))))))))) (dss_one (ds_ret (do_fz de_bl))) dss_nil) (dss_one (ds_if (dt_not (dt_val (de_fz (do_call k__law_is_led_right hk__law_is_led_right (da_cons (de_nm (i := 1)) (da_cons (de_nm (i := 3)) (da_cons (de_nm (i := 4)) (da_cons (de_nm (i := 5)) (da_cons (de_nm (i := 6)) da_nil))))))))) (dss_one (ds_ret (do_fz de_bl))) dss_nil)))))) (dss_one (ds_ret (do_fz de_bl)))) nd)
end K87
set_option maxHeartbeats 4000000
namespace K87
open PySem PySem.Spec PyProof.Rows L2 DL
theorem iteB {b : Bool} {p q : Prop} (h : b = true) (hp : p) : if b = true then p else q := by rw [if_pos h]; exact hp
abbrev int1 : List V → Hp → VK → Prop := fun xs H Q => (∃ i, xs = [V.int i] ∧ Q (V.int i) H) ∨ ∃ k, xs = [V.bl k] ∧ Q (V.int (if k = true then 1 else 0)) H
abbrev md : R2 := rI (fun _ j => 0 < j) fun i j => V.int (i % j)
def tailK87b : TS :=
  tSeq (tAsg (tOp md (tCB int1 (tCons (tOp (rI0 fun i j => V.int (i + j)) (tOp (rI0 fun i j => V.int (i + j)) (tOp (rI CMul fun i j => V.int (i * j)) (tVar 2) (tVar 2)) (tOp (rI CMul fun i j => V.int (i * j)) (tC (V.int 58391)) (tDGet (tVar 0) (tC (V.str (Str.ofString "turn")))))) (tC (V.int 87))) tNil)) (tC (V.int 2147483549))) (gName 2))
    (tSeq (tAsg (tOp md (tCB int1 (tCons (tOp (rI CMul fun i j => V.int (i * j)) (tVar 2) (tC (V.int 39373))) tNil)) (tC (V.int 2147483579))) (gName 2))
      (tRet (tOp md (tCB int1 (tCons (tOp (rI CDiv fun i j => V.int (i / j)) (tVar 2) (tC (V.int 64))) tNil)) (tVar 1))))
def tailK87 : TS := tSeq (tAsg (tOp md (tCB int1 (tCons (tOp (rI0 fun i j => V.int (i + j)) (tOp (rI CMul fun i j => V.int (i * j)) (tVar 2) (tC (V.int 69621))) (tC (V.int 87))) tNil)) (tC (V.int 2147483587))) (gName 2)) tailK87b
theorem kn_draw {B : Bs} (hmax : B.mg "max" = none) (hint : B.mg "int" = none) {k : Nat} {f : Addr} {fd : FuncData} (F : FunD B.K "_law_draw" "_law_draw" (defArgs t__law_draw) (defBody t__law_draw) (defScope t__law_draw) [] [] f fd) (hm : B.mg "_law_draw" = some (.ref f)) (hb : Binds B.K fd P__law_draw []) :
    Kn B (k + 1) "_law_draw" t__law_draw P__law_draw s_draw := by
  refine kn_raw F sc__law_draw hm hb (fun G ds Q ⟨da, n, e, _⟩ => by rw [e]; rfl) fun X fX vs H Q E ⟨G, F, ds, Qd, sF, sR, sW, r, ⟨da, n, e, ⟨ca, dk⟩, hn0, hn1, hQ⟩, g⟩ => ?_
  subst e
  obtain ⟨u, u2, rfl, ra, rb⟩ := r.two
  have e2 := rb.intI
  subst e2
  cases ra
  have nd : X.N.Nodup := by rw [fX.N]; exact (by decide +kernel : N__law_draw.Nodup)
  have hu : X.A.units + 1 < cLine := by have := fX.room.un; omega
  have hu64 : X.A.units + 64 < cLine := by have := fX.room.un; omega
  have hc := fX.calm
  have nm : ∀ {i : Nat} {x : Str} {p : Pos}, (N__law_draw[i]? == some x) = true → ((defScope t__law_draw).names.lookup x == some .local || (defScope t__law_draw).names.lookup x == some .cell || (defScope t__law_draw).names.lookup x == some .free) = true → (x == ("__debug__" : Str)) = false → (x == ("__classdict__" : Str)) = false → PE X (.Name x p) (tVar i) :=
    fun h1 h2 h3 h4 => pvN fX h1 h2 h3 h4
  have st : ∀ {i : Nat} {x : Str} {e : Expr} {te : TE} {pos pos' : Pos}, PE X e te → (N__law_draw[i]? == some x) = true → ((defScope t__law_draw).names.lookup x == some .local || ((defScope t__law_draw).names.lookup x == some .cell && true)) = true → (∀ env, swapsWith e (some (.Name x pos')) pos.line env = pure false) → PS X (.Assign [.Name x pos'] e pos) (tAsg te (gName i)) :=
    fun he h1 h2 h3 => ps_set nd (by rw [fX.N]; exact beq_iff_eq.mp h1) (locOf fX h2).1 he (h3 _) (locOf fX h2).2
  have n0 : ∀ {p : Pos}, PE X (.Name "_law_deck_here" p) (tVar 0) := fun {p} => nm (by kernel_rfl) (by kernel_rfl) (by kernel_rfl) (by kernel_rfl)
  have n1 : ∀ {p : Pos}, PE X (.Name "_law_below" p) (tVar 1) := fun {p} => nm (by kernel_rfl) (by kernel_rfl) (by kernel_rfl) (by kernel_rfl)
  have n2 : ∀ {p : Pos}, PE X (.Name "_law_figure" p) (tVar 2) := fun {p} => nm (by kernel_rfl) (by kernel_rfl) (by kernel_rfl) (by kernel_rfl)
  have n3 : ∀ {p : Pos}, PE X (.Name "_law_cell" p) (tVar 3) := fun {p} => nm (by kernel_rfl) (by kernel_rfl) (by kernel_rfl) (by kernel_rfl)
  have dg : ∀ {x : Str} {p p2 pos : Pos} {j : Nat}, PE X (.Subscript (.Name "_law_deck_here" p) (.Constant (.str x) j p2) pos) (tDGet (tVar 0) (tC (.str x))) := fun {x p p2 pos j} => pe_dget hu n0 pe_str fun _ _ => rfl
  have gi : Gl X "int" := glOf fX (by kernel_rfl)
  have gm : Gl X "max" := glOf fX (by kernel_rfl)
  have mi : X.mg "int" = none := by rw [fX.mg]; exact hint
  have mm : X.mg "max" = none := by rw [fX.mg]; exact hmax
  have ci : ∀ {e : Expr} {te : TE} {p pos : Pos}, PE X e te → (∀ env, starEach [e] env = (false, eval e env) :: starEach [] env) → PE X (.Call (.Name "int" p) [e] [] pos) (tCB _ (tCons te tNil)) := fun he hs => pe_callTy call_int1 gi mi (by decide +kernel) (pa_cons he pa_nil (hs _)) (by decide) (by decide) (hs _) rfl
  refine ⟨_, pss_cons (ps_dput hu n0 pe_str (pe_op op_add dg pe_int) (by rfl)) <|
    pss_cons (st (i := 2) (pe_op op_add dg (pe_op op_mul pe_int dg)) (by kernel_rfl) (by kernel_rfl) (by intro _; rfl)) <|
    pss_cons (ps_if (pt_cmpR (op_neD hu64) dg (pe_lst pa_nil) (nomark _)) (
      pss_cons (st (i := 3) (pe_bm0 PySem.F.plainAttrs_list PySem.F.slot_list_pop PySem.F.type_list_pop mt_pop dg (by rfl) (by kernel_rfl)) (by kernel_rfl) (by kernel_rfl) (by intro _; rfl)) <|
      pss_cons (ps_if (pt_cmpR op_ge n3 (pe_op op_pow pe_int pe_int) (nomark _)) (
        pss_cons (ps_expr (pe_bm PySem.F.plainAttrs_list PySem.F.slot_list_append PySem.F.type_list_append mt_append dg (pa_cons (pe_op op_fdiv n3 (pe_callB (call_max2 hc) gm mm (by decide +kernel) (pa_cons pe_int (pa_cons n1 pa_nil)) (by decide) (by decide))) pa_nil) (by rfl) (by rfl) (by kernel_rfl)) (by rfl)) <|
        pss_one (ps_ret (pe_op op_mod (ci n3 (by intro _; rfl)) n1))) pss_nil) <|
      pss_one (st (i := 2) (pe_op op_add n2 (pe_op op_mod (ci n3 (by intro _; rfl)) pe_int)) (by kernel_rfl) (by kernel_rfl) (by intro _; rfl))) pss_nil) <|
    pss_cons (st (i := 2) (pe_op op_mod (ci (pe_op op_add (pe_op op_mul n2 pe_int) pe_int) (by intro _; rfl)) pe_int) (by kernel_rfl) (by kernel_rfl) (by intro _; rfl)) <|
    pss_cons (st (i := 2) (pe_op op_mod (ci (pe_op op_add (pe_op op_add (pe_op op_mul n2 n2) (pe_op op_mul pe_int dg)) pe_int) (by intro _; rfl)) pe_int) (by kernel_rfl) (by kernel_rfl) (by intro _; rfl)) <|
    pss_cons (st (i := 2) (pe_op op_mod (ci (pe_op op_mul n2 pe_int) (by intro _; rfl)) pe_int) (by kernel_rfl) (by kernel_rfl) (by intro _; rfl)) <|
    pss_one (ps_ret (pe_op op_mod (ci (pe_op op_fdiv n2 pe_int) (by intro _; rfl)) n1)), ?_⟩
  obtain ⟨m, t, cs, hcs, hd, hl⟩ := dk.at_ _ sW
  have J0 : DkAt H H da ca m t cs := ⟨hd, hl, fun _ _ _ _ h => h⟩
  have fin : ∀ {H' : Hp} {m t : Int} {cs : List Int}, cs.length < 100 → DkAt H H' da ca m t cs → ∀ k : Int, 0 ≤ k → k < n → Q (.int k) H' := fun hl J k h0 h1 => J.fin dk hl sF sR sW (hQ k h0 h1) g
  refine ⟨.ref da, rfl, da, .int t, rfl, J0.turn, t, _, rfl, rfl, .ref da, rfl, da, _, rfl, J0.put _, ?_⟩
  have J1 := J0.after (t + 1)
  refine ⟨.ref da, rfl, da, .int m, rfl, J1.mixed, .ref da, rfl, da, .int (t + 1), rfl, J1.turn, _, t + 1, rfl, rfl, .inl ⟨by decide, by decide⟩, m, _, rfl, rfl, ?_⟩
  refine ⟨.ref da, rfl, da, .ref ca, rfl, J1.cells, by decide, fun p hp => ?_⟩
  have J2 := J1.new (o := .lst []) hp
  refine ⟨.list (cs.map .int), .list [], .lst (SqL.of J2.c) (dp_ints cs), .lst (SqL.of upd_same) .nil, shaped_ints cs, shaped_ints [], _, rfl, ?_⟩
  have pos : ∀ {j : Int}, 0 < j → ∀ i : Int, (fun (_ j : Int) => 0 < j) i j := fun h _ => h
  have tb : ∀ {H' : Hp} {m t : Int} {cs : List Int}, cs.length < 100 → DkAt H H' da ca m t cs → ∀ (x : Int) (y : Option V), 0 ≤ x → x < 2147483648 → tailK87b { nx := fun _ H' => Q .non H', rt := Q } [some (.ref da), some (.int n), some (.int x), y] H' := fun {H' m t cs} hl J x1 y b1 b2 => by
    refine ⟨.int x1, rfl, .int x1, rfl, x1, x1, rfl, rfl, .inl ⟨by omega, by omega⟩, .ref da, rfl, da, .int t, rfl, J.turn, _, t, rfl, rfl, .inl ⟨by decide, by decide⟩, _, _, rfl, rfl, _, _, rfl, rfl, .inl ⟨_, rfl, _, _, rfl, rfl, (by show (0 : Int) < _; decide), ?_⟩⟩
    refine ⟨.int _, rfl, _, _, rfl, rfl, .inr ⟨by decide, by decide⟩, .inl ⟨_, rfl, _, _, rfl, rfl, (by show (0 : Int) < _; decide), ?_⟩⟩
    refine ⟨.int _, rfl, _, _, rfl, rfl, ⟨by decide, by decide⟩, .inl ⟨_, rfl, .int n, rfl, _, n, rfl, rfl, hn0, ?_⟩⟩
    exact fin hl J _ (Int.emod_nonneg _ (by omega)) (Int.emod_lt_of_pos _ hn0)
  have tail : ∀ {H' : Hp} {m t : Int} {cs : List Int}, cs.length < 100 → DkAt H H' da ca m t cs → ∀ (x : Int) (y : Option V), tailK87 { nx := fun _ H' => Q .non H', rt := Q } [some (.ref da), some (.int n), some (.int x), y] H' := fun {H' m t cs} hl J x y =>
    ⟨.int x, rfl, x, _, rfl, rfl, .inr ⟨by decide, by decide⟩, _, _, rfl, rfl, .inl ⟨_, rfl, _, _, rfl, rfl, (by show (0 : Int) < _; decide),
      tb hl J _ y (Int.emod_nonneg _ (by decide)) (Int.lt_of_lt_of_le (Int.emod_lt_of_pos _ (by decide)) (by decide))⟩⟩
  have hcc : cs = [] ∨ ∃ l c, cs = l ++ [c] := by
    rcases List.eq_nil_or_concat cs with h | ⟨l, c, h⟩
    · exact .inl h
    · exact .inr ⟨l, c, by rw [h, List.concat_eq_append]⟩
  rcases hcc with rfl | ⟨l, c, rfl⟩
  · exact tail hcs J2 _ none
  · have hlen : l.length < 99 := by simp at hcs; omega
    have he : (!PyData.eqv (.list ((l ++ [c]).map .int)) (.list [])) = true := by
      cases l <;> simp [PyData.eqv, PyData.eqvAll]
    refine iteB he ?_
    refine ⟨.ref da, rfl, da, .ref ca, rfl, J2.cells, .inl ⟨rfl, _, .inl (.inl J2.c)⟩, ca, _, .int c, rfl, rfl, J2.c, by simp, ?_⟩
    have J3 := J2.set l (vs := ((l ++ [c]).map V.int).dropLast) (by simp)
    refine ⟨.int c, rfl, _, _, rfl, rfl, ⟨by decide, by decide, by decide⟩, c, _, rfl, rfl, _, rfl, ?_⟩
    cases decide ((10 : Int) ^ (18 : Int).toNat ≤ c) with
    | true =>
      refine ⟨.ref da, rfl, da, .ref ca, rfl, J3.cells, .inl ⟨rfl, _, .inl (.inl J3.c)⟩, .int c, rfl, .int n, rfl, 2, n, rfl, c, _, rfl, rfl, ⟨by split <;> omega, by split <;> omega⟩, ca, _, _, rfl, rfl, J3.c, by rw [List.length_map, sizeLine_eq]; omega, ?_⟩
      have J4 := J3.set (l ++ [c / (if n > 2 then n else 2)]) (vs := l.map V.int ++ [.int (c / (if n > 2 then n else 2))]) (by simp)
      exact ⟨.int c, rfl, .inl ⟨c, rfl, .int n, rfl, c, n, rfl, rfl, hn0, fin (by simp; omega) J4 _ (Int.emod_nonneg _ (by omega)) (Int.emod_lt_of_pos _ hn0)⟩⟩
    | false =>
      exact ⟨.int _, rfl, .int c, rfl, .inl ⟨c, rfl, c, _, rfl, rfl, (by show (0 : Int) < _; decide), _, _, rfl, rfl, tail (by omega) J3 _ _⟩⟩
end K87
set_option maxHeartbeats 4000000
namespace K87
open PySem PySem.Spec PyProof.Rows L2 DL
abbrev S__law_deck (B : Bs) (k : Nat) : Sta := { B with N := N__law_deck, names := (defScope t__law_deck).names, k := k, fc := fun _ => true }
theorem kn_deck {B : Bs} (hint : B.mg "int" = none) {k : Nat} {f : Addr} {fd : FuncData} (F : FunD B.K "_law_deck" "_law_deck" (defArgs t__law_deck) (defBody t__law_deck) (defScope t__law_deck) [] [] f fd) :
    FnG B.P B.w B.K B.mg B.base CX0 (k + 1) f fd P__law_deck (spDeck B.K) := by
  refine F.okG sc__law_deck (fun vs H Q E ⟨a, ns, e, _⟩ => by rw [e]; rfl) (fun cdv A outer s H vs Q E hr hn h => ?_)
  have fX : Fam (S__law_deck B k) (Cx.nox (cxOf CX0 B.P B.w B.K B.mg B.base N__law_deck "_law_deck" (defScope t__law_deck) f cdv A outer s H E)) := ⟨rfl, rfl, rfl, rfl, rfl, rfl, rfl, rfl, hr, PassesOwn.never, fun _ _ => rfl, sc__law_deck.kind, hn, fun _ _ z => nomatch z⟩
  have nd : (S__law_deck B k).N.Nodup := (by decide +kernel : N__law_deck.Nodup)
  suffices hs : ∃ t, PSs (Cx.nox (cxOf CX0 B.P B.w B.K B.mg B.base N__law_deck "_law_deck" (defScope t__law_deck) f cdv A outer s H E)) (defBody t__law_deck) t ∧ t { nx := fun _ H' => Q .non H', rt := Q } (L2.start N__law_deck vs) H by
    obtain ⟨t, h1, h2⟩ := hs
    exact ⟨t, PSs.nox h1, h2⟩
  generalize Cx.nox (cxOf CX0 B.P B.w B.K B.mg B.base N__law_deck "_law_deck" (defScope t__law_deck) f cdv A outer s H E) = X at fX
  obtain ⟨a, ns, rfl, hlen, hsq, hQ⟩ := h
  have dsX : ∀ {st : Stmt} {w : WS}, DS (S__law_deck B k) st w → PS X st (tS B.K w) := fun h => h X fX
  have doX : ∀ {e : Expr} {w : WO}, DO (S__law_deck B k) e w → PE X e (tO B.K w) := fun h => h X fX
  have deX : ∀ {e : Expr} {w : W}, DE (S__law_deck B k) e w → PE X e (tD B.K w) := fun h => h X fX
  refine ⟨_, pss_cons (dsX (ds_set (i := 1) (do_fz de_int) nd)) <|
    pss_cons (dsX (ds_for (dj_seq (dv_do (do_scr (i := 0)))) (dg_name (i := 2) nd) (dss_one (ds_set (i := 1) (do_fz (de_mod (de_fz (do_callTy cd_int hint (by decide +kernel) (da_cons (de_fz (do_op od_add (de_fz (do_op od_add (de_fz (do_op od_mul (de_nm (i := 1)) de_int)) (de_mod (de_fz (do_callTy cd_int hint (by decide +kernel) (da_cons (de_nm (i := 2)) da_nil))) de_int))) de_int)) da_nil))) de_int)) nd)))) <|
    pss_one (ps_ret (pe_disp (pps_cons pe_str (doX (do_rev (de_fz (do_lc (own := [("_law_cell", 2)]) (di_seq (de_fz (do_scr (i := 0)))) nd (by kernel_rfl) (dg_name (i := 2) nd) (by decide) dts_nil (de_fz (do_callTy cd_int hint (by decide +kernel) (da_cons (de_nm (i := 2)) da_nil))))))) (pps_cons pe_str (deX (de_nm (i := 1))) (pps_cons pe_str pe_int pps_nil))) rfl rfl (by simp) (by decide))), ?_⟩
  obtain ⟨G, gw, gR, gs⟩ := script_gc hsq
  have fresh : ∀ {H' : Hp} {b : Addr}, G.Wd H' → DL.Fr G H H' → H' b = none → H b = none := fun {H' b} w fr h => by
    cases e : H b with
    | none => rfl
    | some o =>
      by_cases r : G.R b
      · have := gR b H' r w
        rw [h, e] at this; cases this
      · rw [fr b o e r] at h; cases h
  have ev0 : Ev B.K G H noHp noHp H (L2.start N__law_deck [V.ref a]) [some (.fz (.ob a)), none, none] := by
    refine ⟨⟨noHp_same, fun _ _ => rfl, gw, fun i sv h => ?_, rfl⟩, Same.refl _, Fr.refl, fun i sv b h ho => ?_, fun i j sv sw b _ h ho => ?_⟩
    · match i, h with
      | 0, h => cases h; exact ⟨_, rfl, Rp.ob a⟩
      | 1, h => cases h
      | 2, h => cases h
      | (i + 3), h => simp at h
    · match i, h with
      | 0, h => cases h; cases ho
      | 1, h => cases h
      | 2, h => cases h
      | (i + 3), h => simp at h
    · match i, h with
      | 0, h => cases h; cases ho
      | 1, h => cases h
      | 2, h => cases h
      | (i + 3), h => simp at h
  refine ⟨G, H, noHp, noHp, _, { nx := fun ρ' => ∃ c : Int, ρ' = [some (.fz (.ob a)), some (.fz (.int c)), none], rt := fun _ => False }, ev0, ⟨by show 1 < 3; decide, _, rfl⟩, ⟨fun σ1 H1 F1 ρ1 ev1 s1 ⟨c1, e1⟩ => ?_, fun _ _ _ _ _ _ q => q.elim, fun _ _ _ _ _ _ q => q.elim, fun _ _ _ _ _ _ _ _ _ _ q => q.elim⟩⟩
  subst e1
  refine ⟨G, H, noHp, F1, _, { nx := fun ρ' => ∃ (c : Int) (y : Option SV), ρ' = [some (.fz (.ob a)), some (.fz (.int c)), y], rt := fun _ => False }, ev1, ?_, ⟨fun σ2 H2 F2 ρ2 ev2 s2 ⟨c, y, e2⟩ => ?_, fun _ _ _ _ _ _ q => q.elim, fun _ _ _ _ _ _ q => q.elim, fun _ _ _ _ _ _ _ _ _ _ q => q.elim⟩⟩
  · refine ⟨a, ns, rfl, gs, ?_⟩
    refine ⟨_, rfl, ?_⟩
    rw [cutD_ints, immL_ints, if_pos rfl]
    generalize cutI ns none (some 63) = l
    clear ev1
    generalize (none : Option SV) = y
    induction l generalizing c1 y with
    | nil => exact ⟨c1, y, rfl⟩
    | cons x l ih =>
      refine ⟨by show 2 < 3; decide, by show 1 < 3; decide, .fz (.int c1), rfl, .inl ⟨c1, _, rfl, rfl, .inr ⟨by decide, by decide⟩, .fz (.int x), rfl, x, rfl, x, _, rfl, rfl, (by show (0 : Int) < _; decide), .inl ⟨_, _, rfl, rfl, .inl ⟨_, _, rfl, rfl, _, rfl, _, _, rfl, rfl, (by show (0 : Int) < _; decide), ?_⟩⟩⟩⟩
      exact ih _ ⟨_, rfl⟩ (some (.fz (.int x)))
  · subst e2
    intro p hp
    have e1 := evr_more (ev2.r.liveO (o := .dK []) hp) upd_same rfl (ev2.r.fnone hp) (ev2.ne hp)
    refine ⟨_, F2, _, fun sv => sv = .ow (((cutI ns none (some 63)).map D.int).reverse), e1, ⟨a, ns, rfl, fun H' w => gs H' w.1, ?_⟩, fun v H3 F3 sv s3 e3 f3 r3 q3 => ?_⟩
    · show ∃ ds, itemsOf (.lst (cutD (ns.map D.int) none (some 63))) = some ds ∧ _
      rw [cutD_ints]
      refine ⟨_, rfl, ?_⟩
      have hl := cutI_len ns none (some 63)
      generalize cutI ns none (some 63) = l at hl ⊢
      have h63 : l.length + 0 ≤ 63 := by omega
      have go : ∀ (l acc : List Int), l.length + acc.length ≤ 63 → ∀ Qf : List D → Prop, Qf ((acc ++ l).map D.int) → wcL (wgName 2) wtTrue (wFz (woCB oInt (waCons (wVar 2) waNil))) [2] (G.more p (.dK [])) [some (.fz (.ob a)), some (.fz (.int c)), y] (l.map D.int) (acc.map D.int) Qf := fun l => by
        induction l with
        | nil => intro acc _ Qf q; rw [List.append_nil] at q; exact q
        | cons x l ih =>
          intro acc hz Qf q G' _
          refine ⟨by show 2 < 3; decide, ?_⟩
          refine ⟨.fz (.int x), rfl, x, rfl, by rw [List.length_map, sizeLine_eq]; simp at hz; omega, ?_⟩
          have := ih (acc ++ [x]) (by simp at hz ⊢; omega) Qf (by rw [List.append_assoc]; exact q)
          rw [List.map_append] at this
          exact this
      exact go l [] (by simp only [List.length_nil]; omega) _ ⟨_, rfl, rfl⟩
    · subst q3
      obtain ⟨ca, vs, rfl, h1, h2, h3, h4, h5⟩ := r3
      refine ⟨_, F3, _, fun d => d = .int c, e3, ⟨.fz (.int c), rfl, rfl⟩, fun u H4 F4 d s4 e4 f4 r4 q4 => ?_⟩
      subst q4
      have eu := r4.intI
      subst eu
      have hp4 := e4.wd.2.1
      have hc4 : H4 ca = some (.lst vs) := f4 _ _ h1 h3
      have nep : ca ≠ p := fun z => by rw [z, upd_same] at h4; cases h4
      have frA : ∀ b o, H b = some o → H4 b = some o := fun b o hb => by
        by_cases r : G.R b
        · rw [gR b H4 r e4.wd.1]; exact hb
        · have hb2 := ev2.fr b o hb r
          have nb : b ≠ p := ne_of_none hb2 hp
          have nr : ¬ (G.more p (.dK [])).R b := fun z => z.elim r nb
          exact f4 b o (f3 b o (by rw [upd_ne nb]; exact hb2) nr) nr
      have hp0 : H p = none := fresh ev2.r.wd ev2.fr hp
      have hc0 : H ca = none := by
        cases e : H ca with
        | none => rfl
        | some o =>
          by_cases r : G.R ca
          · exact absurd (.inl r) h3
          · have q := ev2.fr ca o e r
            rw [upd_ne nep, q] at h4; cases h4
      refine ⟨hp4, dkV (.ref ca) (.int c) (.int 0), rfl, by show 3 ≤ 15; decide, ?_⟩
      have em : mergeK [] (dkV (.ref ca) (.int c) (.int 0)) = dkV (.ref ca) (.int c) (.int 0) := by first | rfl | kernel_rfl
      rw [em]
      refine hQ p ca _ hp0 hc0 (fun b o hb => by rw [upd_ne (ne_of_none hb hp0)]; exact frA b o hb) ⟨c, 0, (cutI ns none (some 63)).reverse, ?_, upd_same, ?_⟩
      · have := cutI_len ns none (some 63)
        rw [List.length_reverse]; omega
      · rw [upd_ne nep, hc4]
        rw [← List.map_reverse] at h2
        rw [h2.ints]
end K87
set_option maxHeartbeats 4000000
namespace K87
open PySem PySem.Spec PyProof.Rows L2 DL LamX
/-- what is caught: BadMap, whose thing is told -/
abbrev kc : Str → Prop := fun n => n = "BadMap"
theorem catches {B : Bs} (hi : B.mg "isinstance" = none) {CM CH CB : Addr} (mM : B.mg "BadMap" = some (.ref CM)) (mH : B.mg "HouseError" = some (.ref CH)) (mB : B.mg "BadHouse" = some (.ref CB)) (T : ErrIs B.K CM) (x1 : PySem.W.exmOne B.K (.ref CM) (.ref CM) = some true)
    (i1 : PySem.W.kitOne B.K (.ref CM) (.ref CH) = some true) (i2 : PySem.W.kitOne B.K (.ref CM) (.ref CB) = some false) {g : Addr} {fd : FuncData} (F : FunD B.K "_law_refused" "_law_refused" (defArgs t__law_refused) (defBody t__law_refused) (defScope t__law_refused) [] [] g fd)
    (hm : B.mg "_law_refused" = some (.ref g)) (hb : Binds B.K fd P__law_refused []) : Catch B "_law_refused" kc := by
  have kp := F.kp
  obtain ⟨oc, od, dV, kV, doc, pm, an, cdv, ct, osl, rfl, lk, hcd, _, _⟩ := F.ex
  refine ⟨g, N__law_refused, "_law_call", _, _, _, dV, kV, doc, pm, cdv, ct, oc, an, od, osl, hm, kp, lk, hcd, hb, sc__law_refused, rfl, .inl (by decide +kernel), by decide +kernel, by decide +kernel, fun X q eK em => ?_⟩
  intro f c' s H Q tl act hc h
  have nd : N__law_refused.Nodup := by decide +kernel
  have lf : (defScope t__law_refused).names.lookup ("_law_found" : Str) = some .local := by decide +kernel
  have le : (defScope t__law_refused).names.lookup ("e" : Str) = some .local := by decide +kernel
  have lH : (defScope t__law_refused).names.lookup ("HouseError" : Str) = some .globalImplicit := by decide +kernel
  have lB : (defScope t__law_refused).names.lookup ("BadHouse" : Str) = some .globalImplicit := by decide +kernel
  have lM : (defScope t__law_refused).names.lookup ("BadMap" : Str) = some .globalImplicit := by decide +kernel
  have lI : (defScope t__law_refused).names.lookup ("isinstance" : Str) = some .globalImplicit := by decide +kernel
  have gl : ∀ {n : Str}, (defScope t__law_refused).names.lookup n = some .globalImplicit → Gl (cxOf C8.CX0 X.prog X.w X.K X.mg X.base N__law_refused "_law_refused" (defScope t__law_refused) g cdv X.A X.stack s H C8.E0).nox n := fun {n} z => z
  have is : ∀ {a : Addr} {oe : Obj} {cls : Value} {d : Option Addr} {pn : List (Addr × Obj)} {n : Str} {C : Addr} {p1 p2 p3 pos : Pos}, Zc cls d oe → (∃ vs, oe.data = .fields vs) → (defScope t__law_refused).names.lookup n = some .globalImplicit → (n == ("__debug__" : Str)) = false → X.mg n = some (.ref C) →
      PE ((cxOf C8.CX0 X.prog X.w X.K X.mg X.base N__law_refused "_law_refused" (defScope t__law_refused) g cdv X.A X.stack s H C8.E0).nox.suite a ((a, oe) :: pn)) (.Call (.Name "isinstance" p1) [.Name "e" p2, .Name n p3] [] pos) _ := fun {a oe cls d pn n C p1 p2 p3 pos} hz hf hn hd hmn =>
    pe_callB (call_isD (X := (cxOf C8.CX0 X.prog X.w X.K X.mg X.base N__law_refused "_law_refused" (defScope t__law_refused) g cdv X.A X.stack s H C8.E0).nox) hz hf) (gl (n := "isinstance") lI) (show X.mg "isinstance" = none by rw [em]; exact hi) rfl
      (pa_cons (pe_var (i := 2) rfl (.inl le) (by decide +kernel) (by decide +kernel)) (pa_cons (pe_glob (v := .ref C) (u := .ref C) hn hmn rfl hd) pa_nil))
  refine ⟨_, pss_cons (ps_set (i := 1) nd rfl (.inl lf) pe_non (hf := .inr lf)) (pss_cons (ps_try_as (i := 2) (c := .ref CM) (Wout := fun _ _ _ _ => False)
      (tb := fun W D σ H => ∃ (Ech : XK) (Qv : VK), (∀ cls d σ' H', σ'.length = 3 → Ech cls d H' → W cls d σ' H') ∧ (σ[0]? = some (some (.ref f)) ∧ H c' = some (CodeO c' q) ∧ tl Ech H Qv) ∧ ∀ v H', Qv v H' → D.nx σ H')
      rfl rfl nd rfl le ⟨gl lM, by decide +kernel, .inl (show X.mg "BadMap" = _ by rw [em]; exact mM)⟩ takes0 (fun W pn xe tk _ => ?_) fun a oe cls d pn hz hf =>
        pss_one (ps_set (i := 1) nd rfl (.inl lf) (pe_ifExp ((pw_and (pt_val (is hz hf (n := "HouseError") (C := CH) lH (by decide +kernel) (by rw [em]; exact mH))) (pw_and1 (pt_not (pt_val (is hz hf (n := "BadHouse") (C := CB) lB (by decide +kernel) (by rw [em]; exact mB)))))).pt)
          (pe_thing (i := 2) (n := "e") hz hf rfl (.inl le) (by decide +kernel) (by decide +kernel)) pe_bl) (hf := .inr lf))) (pss_one (ps_ret (pe_var (i := 1) rfl (.inl lf) (by decide +kernel) (by decide +kernel))))), ?_⟩
  · refine ⟨fun pins s' σ H' D I ⟨Ech, Qv, hW, h0, hQ⟩ => ?_⟩
    have tk2 : Takes ((cxOf C8.CX0 X.prog X.w X.K X.mg X.base N__law_refused "_law_refused" (defScope t__law_refused) g cdv X.A X.stack s H C8.E0).tr pn xe) (fun cls d σ H => σ.length = 3 → W cls d σ H) := fun u s' ⟨a, b1, b2, b3, b4, b5, b6, b7, c1, I, c2, c3, c4, c5, c6, c7, w⟩ =>
      tk u s' ⟨a, b1, b2, b3, b4, b5, b6, b7, c1, I, c2, c3, c4, c5, c6, c7, w I.len⟩
    have hp2 := fun p1 p2 => (show PE ((cxOf C8.CX0 X.prog X.w X.K X.mg X.base N__law_refused "_law_refused" (defScope t__law_refused) g cdv X.A X.stack s H C8.E0).tr pn xe) (.Call (.Name "_law_call" p1) [] [] p2) (fun σ H Q => ∃ Qv : VK, (σ[0]? = some (some (.ref f)) ∧ H c' = some (CodeO c' q) ∧ tl Ech H Qv) ∧ ∀ v H', Qv v H' → Q v H') from
      ⟨fun pins s σ H Q I ⟨Qv, h, m⟩ => thn ((act (fun cls d σ H => σ.length = 3 → W cls d σ H) pn xe Ech p1 p2 tk2 fun cls d σ' H' z l => hW cls d σ' H' l z).run pins s σ H Qv I h) fun u s1 ⟨x, H1, I1, r1, q1⟩ => ⟨x, H1, I1, r1, m _ _ q1⟩⟩)
    exact (pss_one (ps_expr (hp2 _ _))).run pins s' σ H' D I ⟨Qv, h0, hQ⟩
  · refine ⟨fun cls d H' => ∃ n C dd v, B.mg n = some (.ref C) ∧ cls = .ref C ∧ d = some dd ∧ H' dd = some (DLX.thingD v) ∧ kc n ∧ Q v H', fun _ H' => Q .non H', fun cls d σ' H' l z => ?_, ⟨rfl, hc, h⟩, fun v H' z => ⟨.non, rfl, z⟩⟩
    obtain ⟨n, C, dd, v, hn, rfl, rfl, hd, rfl, z⟩ := z
    rw [mM] at hn
    cases hn
    have s2 : ∀ a : Addr, (σ'.set 2 (some (.ref a)))[2]? = some (some (.ref a)) := fun a => List.getElem?_set_self (by omega)
    have eK : X.K = B.K := eK
    refine ⟨true, by rw [show (Cx.nox (cxOf C8.CX0 X.prog X.w X.K X.mg X.base N__law_refused "_law_refused" (defScope t__law_refused) g cdv X.A X.stack s H C8.E0)).K = B.K from eK]; exact x1, fun _ a ha => ?_, fun z => nomatch z⟩
    refine ⟨.ref a, s2 a, CM, CH, true, dd, _, rfl, by rw [← eK] at T; exact T, rfl, hd, rfl, by rw [← eK] at i1; exact i1, true, rfl, ?_⟩
    refine ⟨.ref a, s2 a, CM, CB, false, dd, _, rfl, by rw [← eK] at T; exact T, rfl, hd, rfl, by rw [← eK] at i2; exact i2, false, rfl, ?_⟩
    refine ⟨s2 a, CM, dd, v, rfl, by rw [← eK] at T; exact T, rfl, hd, ?_⟩
    refine ⟨v, ?_, z⟩
    rw [List.getElem?_set_ne (by decide), List.getElem?_set_self (by rw [List.length_set]; omega)]
end K87
set_option maxHeartbeats 4000000
namespace K87
open PySem PySem.Spec PyProof.Rows L2 DL Hou

/-! ### looks -/
def s_is_integer : FS := fun _ ds Q => ∃ i : Int, ds = [.int i] ∧ Q (.fz (.bl true))
@[simp ↓] theorem c_is_integer {G : Gc} {i : Int} {Q : SV → Prop} : s_is_integer G [.int i] Q ↔ Q (.fz (.bl true)) := ⟨fun ⟨_, e, h⟩ => by cases e; exact h, fun h => ⟨i, rfl, h⟩⟩
theorem p_is_integer : Keeps P_is_integer N_is_integer s_is_integer w_is_integer := fun G ds Qd h => by
  obtain ⟨i, rfl, q⟩ := h
  refine ⟨rfl, ?_⟩
  simp [N_is_integer, w_is_integer, startD, q]
def s_is_between : FS := fun _ ds Q => ∃ i lo hi : Int, ds = [.int i, .int lo, .int hi] ∧ lo ≤ i ∧ i ≤ hi ∧ Q (.fz (.bl true))
@[simp ↓] theorem c_is_between {G : Gc} {i lo hi : Int} {Q : SV → Prop} : s_is_between G [.int i, .int lo, .int hi] Q ↔ lo ≤ i ∧ i ≤ hi ∧ Q (.fz (.bl true)) := ⟨fun ⟨_, _, _, e, h⟩ => by cases e; exact h, fun h => ⟨_, _, _, rfl, h⟩⟩
theorem p_is_between : Keeps P_is_between N_is_between s_is_between (w_is_between s_is_integer) := fun G ds Qd h => by
  obtain ⟨i, lo, hi, rfl, h1, h2, q⟩ := h
  refine ⟨rfl, ?_⟩
  simp [N_is_between, w_is_between, startD, h1, h2, q]
theorem allT {α : Type} (xs : List α) {Q : SV → Prop} (q : Q (.fz (.bl true))) : oAll [.lst (xs.map fun _ => D.bl true)] Q := by
  rw [show (xs.map fun _ => D.bl true) = (xs.map fun _ => true).map D.bl by rw [List.map_map]; rfl, s_allB, show ((xs.map fun _ => true).all id) = true by simp]
  exact q
def s_are_between : FS := fun _ ds Q => ∃ (xs : List D) (lo hi : Int), ds = [.tup xs, .int lo, .int hi] ∧ xs.length ≤ 1000 ∧ (∀ d ∈ xs, ∃ i : Int, d = .int i ∧ lo ≤ i ∧ i ≤ hi) ∧ Q (.fz (.bl true))
@[simp ↓] theorem c_are_between {G : Gc} {xs : List D} {lo hi : Int} {Q : SV → Prop} : s_are_between G [.tup xs, .int lo, .int hi] Q ↔ xs.length ≤ 1000 ∧ (∀ d ∈ xs, ∃ i : Int, d = .int i ∧ lo ≤ i ∧ i ≤ hi) ∧ Q (.fz (.bl true)) := ⟨fun ⟨_, _, _, e, h⟩ => by cases e; exact h, fun h => ⟨_, _, _, rfl, h⟩⟩
theorem p_are_between : Keeps P_are_between N_are_between s_are_between (w_are_between s_is_between) := fun G ds Qd h => by
  obtain ⟨xs, lo, hi, rfl, hl, hx, q⟩ := h
  refine ⟨rfl, ?_⟩
  simp only [N_are_between, w_are_between, startD]
  simp
  refine wcL_map (fun _ => .bl true) _ _ (fun d hm G' hG Qy hy => ?_) (len_small (by omega)) (allT _ q)
  obtain ⟨i, rfl, h1, h2⟩ := hx d hm
  simp [wipeD, h1, h2, hy]
/-! ### tables of houses -/
def s_is_table_value : FS := fun _ ds Q => ∃ h : Ho, ds = [hD h, .int 24] ∧ 0 < h.n ∧ h.n ≤ 24 ∧ Q (.fz (.bl true))
@[simp ↓] theorem c_is_table_value {G : Gc} {h : Ho} {Q : SV → Prop} : s_is_table_value G [hD h, .int 24] Q ↔ 0 < h.n ∧ h.n ≤ 24 ∧ Q (.fz (.bl true)) := ⟨fun ⟨_, e, z⟩ => by injection e with e _; rw [hD_inj e]; exact z, fun z => ⟨h, rfl, z⟩⟩
theorem p_is_table_value : Keeps P_is_table_value N_is_table_value s_is_table_value (w_is_table_value s_are_between) := fun G ds Qd h => by
  obtain ⟨h, rfl, h0, h1, q⟩ := h
  refine ⟨rfl, ?_⟩
  simp only [N_is_table_value, w_is_table_value, startD, hD]
  have e1 : (1 : Int) ≤ (h.n : Int) := by omega
  have e2 : (h.n : Int) ≤ 24 := by omega
  simp [e1, e2]
  refine wcL_map (fun _ => .bl true) _ _ (fun d hm G' hG Qy hy => ?_) (len_small (by rw [tab_len]; omega)) (allT _ q)
  obtain ⟨x, hx, rfl⟩ := List.mem_map.mp hm
  simp only [hRow]
  simp [wipeD, hy]
  refine ⟨by omega, fun a _ => ?_⟩
  cases h.r x a <;> simp
def s_mask_of : FS := fun _ ds Q => ∃ (p : Nat → Bool) (n : Nat), ds = [.lst (((List.range n).filter p).map eI)] ∧ n ≤ 1000 ∧ Q (.fz (eI (pm p n)))
theorem p_mask_of : Keeps P_mask_of N_mask_of s_mask_of w_mask_of := fun G ds Qd h => by
  obtain ⟨p, n, rfl, hn, q⟩ := h
  refine ⟨rfl, ?_⟩
  have hl : ((List.range n).filter p).length ≤ 1000 := Nat.le_trans (List.length_filter_le _ _) (by simpa using hn)
  simp only [N_mask_of, w_mask_of, startD]
  simp
  refine wcL_map (fun d => match d with | .int i => .int (2 ^ i.toNat) | d => d) _ _ (fun d hm G' hG Qy hy => ?_) (len_small (by rw [List.length_map]; omega)) ?_
  · obtain ⟨x, hx, rfl⟩ := List.mem_map.mp hm
    have hx := List.mem_range.mp (List.mem_filter.mp hx).1
    have c : CPow 1 (x : Int) := ⟨by omega, by omega, by decide⟩
    simp [wipeD, c]
    simpa using hy
  · refine ⟨((List.range n).filter p).map fun x : Nat => ((2 : Int) ^ x), ?_, ?_⟩
    · rw [List.map_map, List.map_map]
      rfl
    · rw [pm_sum]; exact q
end K87
set_option maxHeartbeats 4000000
namespace K87
open PySem PySem.Spec PyProof.Rows L2 DL Hou

/-! ### masks of houses -/
abbrev upL (h : Ho) : List D := tab h.n fun x => eI (upM h x)
abbrev dnL (h : Ho) : List D := tab h.n fun x => eI (dnM h x)
theorem imm_eT {n : Nat} {f : Nat → Nat} : immL (tab n fun x => eI (f x)) = true := imm_tab fun _ _ => imm_int
theorem mask_c {G : Gc} {p : Nat → Bool} {n : Nat} {Q : SV → Prop} (hn : n ≤ 1000) (q : Q (.fz (eI (pm p n)))) : s_mask_of G [.lst (((List.range n).filter p).map eI)] Q := ⟨p, n, rfl, hn, q⟩
def s_ups_of : FS := fun _ ds Q => ∃ h : Ho, ds = [hD h] ∧ h.n ≤ 24 ∧ Q (.ow (upL h))
@[simp ↓] theorem c_ups_of {G : Gc} {h : Ho} {Q : SV → Prop} : s_ups_of G [hD h] Q ↔ h.n ≤ 24 ∧ Q (.ow (upL h)) := ⟨fun ⟨_, e, z⟩ => by injection e with e _; rw [hD_inj e]; exact z, fun z => ⟨h, rfl, z⟩⟩
theorem p_ups_of : Keeps P_ups_of N_ups_of s_ups_of (w_ups_of s_mask_of) := fun G ds Qd z => by
  obtain ⟨h, rfl, hn, q⟩ := z
  refine ⟨rfl, ?_⟩
  simp only [N_ups_of, w_ups_of, startD, hD]
  simp
  refine wcL_onM (fun x => eI (upM h x)) _ _ (fun x hx G' hG Qy hy => ?_) (len_small (by rw [List.length_range]; omega)) q
  simp [wipeD, hRow]
  rw [enum_tab]
  refine wcL_on (fun y => h.r x y) (fun y => eI y) (List.range h.n) [] _ (fun y hy2 G2 hG2 Qy2 Qn h1 h2 => ?_) (len_small (by simp; omega)) ?_
  · simp [wipeD]
    cases e : h.r x y
    · simp [h2 e]
    · simp [h1 e]
  · rw [List.nil_append]
    exact mask_c (by omega) hy
def s_downs_of : FS := fun _ ds Q => ∃ h : Ho, ds = [hD h] ∧ h.n ≤ 24 ∧ Q (.ow (dnL h))
@[simp ↓] theorem c_downs_of {G : Gc} {h : Ho} {Q : SV → Prop} : s_downs_of G [hD h] Q ↔ h.n ≤ 24 ∧ Q (.ow (dnL h)) := ⟨fun ⟨_, e, z⟩ => by injection e with e _; rw [hD_inj e]; exact z, fun z => ⟨h, rfl, z⟩⟩
theorem p_downs_of : Keeps P_downs_of N_downs_of s_downs_of (w_downs_of s_mask_of) := fun G ds Qd z => by
  obtain ⟨h, rfl, hn, q⟩ := z
  refine ⟨rfl, ?_⟩
  simp only [N_downs_of, w_downs_of, startD, hD]
  simp [range_tab]
  refine ⟨by omega, ?_⟩
  refine wcL_onM (fun x => eI (dnM h x)) _ _ (fun x hx G' hG Qy hy => ?_) (len_small (by rw [List.length_range]; omega)) q
  have hx := List.mem_range.mp hx
  simp [wipeD]
  rw [enum_tab]
  refine wcL_on (fun y => h.r y x) (fun y => eI y) (List.range h.n) [] _ (fun y hy2 G2 hG2 Qy2 Qn h1 h2 => ?_) (len_small (by simp; omega)) ?_
  · simp [wipeD, hRow, k_tab hx]
    cases e : h.r y x
    · simp [h2 e]
    · simp [h1 e]
  · rw [List.nil_append]
    exact mask_c (by omega) hy
/-- the places of a mask, ascending -/
def s_bits_of : FS := fun _ ds Q => ∃ m : Nat, ds = [eI m] ∧ m < 2 ^ 100 ∧ ∀ bs : List Nat, (∀ b ∈ bs, m.testBit b = true) → Q (.ow (bs.map eI))
theorem bits_small {m : Nat} (h : m < 2 ^ 100) : Builtin.Int.intBits (m : Int) ≤ 100 := by
  exact PyProof.Rows.intBits_le (a := (m : Int)) (k := 100) (by rw [Int.natAbs_natCast]; exact h)
theorem p_bits_of : Keeps P_bits_of N_bits_of s_bits_of w_bits_of := fun G ds Qd z => by
  obtain ⟨m, rfl, hm, q⟩ := z
  refine ⟨rfl, ?_⟩
  have hb := bits_small hm
  simp only [N_bits_of, w_bits_of, startD]
  simp [range_tab]
  refine ⟨by omega, ?_⟩
  refine wcL_on (fun x => m.testBit x) (fun x => eI x) (List.range _) [] _ (fun x hx G' hG Qy Qn h1 h2 => ?_) (len_small (by simp; omega)) ?_
  · have e : Builtin.bitAnd ((m : Int) / 2 ^ x) 1 = ((m / 2 ^ x % 2 : Nat) : Int) := by
      rw [show ((m : Int) / 2 ^ x) = ((m / 2 ^ x : Nat) : Int) by push_cast; rfl, PyProof.Rows.bitAnd_m1]
      push_cast; rfl
    have e2 : m.testBit x = decide (m / 2 ^ x % 2 = 1) := by rw [Nat.testBit_eq_decide_div_mod_eq]
    simp [wipeD, e]
    by_cases c : m / 2 ^ x % 2 = 1
    · rw [if_pos (by rw [show (m : Int) / 2 ^ x % 2 = ((m / 2 ^ x % 2 : Nat) : Int) by push_cast; rfl, c]; rfl)]
      exact h1 (by rw [e2, decide_eq_true c])
    · rw [if_neg fun z => c (by rw [show (m : Int) / 2 ^ x % 2 = ((m / 2 ^ x % 2 : Nat) : Int) by push_cast; rfl] at z; omega)]
      exact h2 (by rw [e2, decide_eq_false c])
  · rw [List.nil_append]
    exact q _ fun b hb => (List.mem_filter.mp hb).2
end K87
set_option maxHeartbeats 4000000
namespace K87
open PySem PySem.Spec PyProof.Rows L2 DL Hou

/-! ### a house has no fault -/
def s_order_fault : FS := fun _ ds Q => ∃ h : Ho, ds = [hD h] ∧ Lat h ∧ Q (.fz .non)
@[simp ↓] theorem c_order_fault {G : Gc} {h : Ho} {Q : SV → Prop} : s_order_fault G [hD h] Q ↔ Lat h ∧ Q (.fz .non) := ⟨fun ⟨_, e, z⟩ => by injection e with e _; rw [hD_inj e]; exact z, fun z => ⟨h, rfl, z⟩⟩
theorem up_small {h : Ho} (L : Lat h) (x : Nat) : upM h x < 2 ^ 100 := Nat.lt_of_lt_of_le (pm_lt _ _) (Nat.pow_le_pow_right (by decide) (by have := L.le; omega))
theorem p_order_fault : Keeps P_order_fault N_order_fault s_order_fault (w_order_fault s_ups_of s_bits_of) := fun G ds Qd z => by
  obtain ⟨h, rfl, L, q⟩ := z
  refine ⟨rfl, ?_⟩
  have hn := L.le
  simp only [N_order_fault, w_order_fault, startD]
  simp [range_tab, hn, imm_eT]
  intro G1 hG1
  refine ⟨by omega, ?_⟩
  refine wFor_tab (fun _ ρ => ∃ a b, ρ = [some (.fz (hD h)), some (.fz (eI h.n)), some (.ow (upL h)), a, b]) ⟨_, _, rfl⟩ (fun x hx ρ ⟨a, b, hρ⟩ N hN => ?_) (fun ρ ⟨a, b, hρ⟩ => ?_)
  · subst hρ
    simp [ix_h hx, ix_r hx, L.refl x hx]
    exact hN _ ⟨_, _, rfl⟩
  subst hρ
  simp [range_tab]
  refine ⟨by omega, ?_⟩
  refine wFor_tab (fun _ ρ => ∃ a b, ρ = [some (.fz (hD h)), some (.fz (eI h.n)), some (.ow (upL h)), a, b]) ⟨_, _, rfl⟩ (fun x hx ρ ⟨a, b, hρ⟩ N hN => ?_) (fun ρ ⟨a, b, hρ⟩ => ?_)
  · subst hρ
    simp
    refine ⟨by omega, ?_⟩
    rw [show (x : Int) + 1 = ((x + 1 : Nat) : Int) by push_cast; rfl, show ((h.n : Int) - ((x + 1 : Nat) : Int)).toNat = h.n - (x + 1) by omega, range_tab2]
    refine wFor_tab (fun _ ρ => ∃ b, ρ = [some (.fz (hD h)), some (.fz (eI h.n)), some (.ow (upL h)), some (.fz (eI x)), b]) ⟨_, rfl⟩ (fun y hy ρ ⟨b, hρ⟩ N hN => ?_) (fun ρ ⟨b, hρ⟩ => hN ρ ⟨_, _, hρ⟩)
    subst hρ
    have hy : x + 1 + y < h.n := by omega
    have ne : ¬ (h.r x (x + 1 + y) = true ∧ h.r (x + 1 + y) x = true) := fun ⟨p, q⟩ => by have := L.asym _ _ hx hy p q; omega
    have e1 := @ix_h (h := h)
    simp [ix_h hx, ix_r hx, ix_h hy, ix_r hy, -Int.natCast_add]
    cases p1 : h.r x (x + 1 + y)
    · simp
      exact hN _ ⟨_, rfl⟩
    · cases p2 : h.r (x + 1 + y) x
      · simp
        exact hN _ ⟨_, rfl⟩
      · exact absurd ⟨p1, p2⟩ ne
  subst hρ
  simp [range_tab]
  refine ⟨by omega, ?_⟩
  refine wFor_tab (fun _ ρ => ∃ a b, ρ = [some (.fz (hD h)), some (.fz (eI h.n)), some (.ow (upL h)), a, b]) ⟨_, _, rfl⟩ (fun x hx ρ ⟨a, b, hρ⟩ N hN => ?_) (fun ρ ⟨a, b, hρ⟩ => ?_)
  · subst hρ
    simp [k_tab hx]
    refine ⟨upM h x, rfl, up_small L x, fun bs hbs => ?_⟩
    simp [imm_eIs]
    refine wFor_J (fun ρ => ∃ b, ρ = [some (.fz (hD h)), some (.fz (eI h.n)), some (.ow (upL h)), some (.fz (eI x)), b]) ⟨_, rfl⟩ (fun d hd ρ ⟨b, hρ⟩ N hN => ?_) (fun ρ ⟨b, hρ⟩ => hN ρ ⟨_, _, hρ⟩)
    subst hρ
    obtain ⟨y, hy, rfl⟩ := List.mem_map.mp hd
    have hb := hbs y hy
    unfold upM at hb
    rw [pm_bit, Bool.and_eq_true] at hb
    have hy := of_decide_eq_true hb.1
    have e : Builtin.bitAnd (upM h y : Int) (Builtin.bitNot (upM h x : Int)) = 0 := by rw [and_not, up_sub L hx hy hb.2]; omega
    simp [k_tab hx, k_tab hy, e]
    exact hN _ ⟨_, rfl⟩
  subst hρ
  simp [q]
end K87
set_option maxHeartbeats 4000000
namespace K87
open PySem PySem.Spec PyProof.Rows L2 DL Hou
def s_fault_of : FS := fun _ ds Q => ∃ h : Ho, ds = [hD h] ∧ Lat h ∧ Q (.fz .non)
@[simp ↓] theorem c_fault_of {G : Gc} {h : Ho} {Q : SV → Prop} : s_fault_of G [hD h] Q ↔ Lat h ∧ Q (.fz .non) := ⟨fun ⟨_, e, z⟩ => by injection e with e _; rw [hD_inj e]; exact z, fun z => ⟨h, rfl, z⟩⟩
abbrev mT (f : Nat → Nat) (n : Nat) : List (Key × D) := mtab f n fun _ => .bl true
theorem dc_set {G : Gc} {ρ : En} {f : Nat → Nat} {n : Nat} {Qa : List (Key × D) → Prop} {o : Option SV} (hn : n ≤ 24) (hρ : ∃ a0 a1 a2 a3 a4 a5 a6 a7, ρ = [a0, a1, a2, a3, a4, a5, a6, a7, o]) (q : Qa (mT f n)) : wdL (wgName 8) wtTrue (wVar 8) (wC (.bl true)) [8] G ρ (tab n fun x => eI (f x)) [] Qa := by
  obtain ⟨a0, a1, a2, a3, a4, a5, a6, a7, rfl⟩ := hρ
  refine wdL_on (fun x => .inl (f x : Int)) (fun _ => .bl true) (List.range n) [] Qa (fun x hx G' hG Qy hy => ?_) (len_small (by simp; omega)) q
  simp [wipeD]
  exact ⟨.inl (f x : Int), rfl, hy⟩
theorem p_fault_of : Keeps P_fault_of N_fault_of s_fault_of (w_fault_of s_order_fault s_ups_of s_downs_of) := fun G ds Qd z => by
  obtain ⟨h, rfl, L, q⟩ := z
  refine ⟨rfl, ?_⟩
  have hn := L.le
  have im : ∀ f, immL ((sg (mT f h.n)).map (·.2)) = true := fun f => imm_mtab (fun _ => imm_bl) h.n
  simp only [N_fault_of, w_fault_of, startD]
  simp [hn, L, imm_eT]
  intro G1 hG1
  refine dc_set hn ⟨_, _, _, _, _, _, _, _, rfl⟩ ?_
  intro G2 hG2
  refine dc_set hn ⟨_, _, _, _, _, _, _, _, rfl⟩ ?_
  simp only [oK]
  simp [im, range_tab]
  refine ⟨by omega, ?_⟩
  refine wFor_tab (fun _ ρ => ∃ a b c, ρ = [some (.fz (hD h)), some (.fz .non), some (.ow (upL h)), some (.ow (dnL h)), some (.od false (sg (mT (upM h) h.n))), some (.od false (sg (mT (dnM h) h.n))), a, b, c]) ⟨_, _, _, rfl⟩ (fun x hx ρ ⟨a, b, c, hρ⟩ N hN => ?_) (fun ρ ⟨a, b, c, hρ⟩ => ?_)
  · subst hρ
    simp [range_tab]
    refine ⟨by omega, ?_⟩
    refine wFor_tab (fun _ ρ => ∃ b c, ρ = [some (.fz (hD h)), some (.fz .non), some (.ow (upL h)), some (.ow (dnL h)), some (.od false (sg (mT (upM h) h.n))), some (.od false (sg (mT (dnM h) h.n))), some (.fz (eI x)), b, c]) ⟨_, _, rfl⟩ (fun y hy ρ ⟨b, c, hρ⟩ N hN => ?_) (fun ρ ⟨b, c, hρ⟩ => hN ρ ⟨_, _, _, hρ⟩)
    subst hρ
    have hy : y < h.n := by omega
    have l1 : lookD (mT (dnM h) h.n) (.inl ((dnM h x &&& dnM h y : Nat) : Int)) = some (.bl true) := by
      rw [dn_and L hx hy]; exact mtab_look (fun a b ha hb e => dn_inj L ha hb e) _ (op_lt L false hx hy)
    have l2 : lookD (mT (upM h) h.n) (.inl ((upM h x &&& upM h y : Nat) : Int)) = some (.bl true) := by
      rw [up_and L hx hy]; exact mtab_look (fun a b ha hb e => up_inj L ha hb e) _ (op_lt L true hx hy)
    simp [k_tab hx, k_tab hy, and_nat, l1, l2]
    exact hN _ ⟨_, _, rfl⟩
  subst hρ
  simp [q]
def s_is_house_value : FS := fun _ ds Q => ∃ h : Ho, ds = [hD h] ∧ Lat h ∧ Q (.fz (.bl true))
@[simp ↓] theorem c_is_house_value {G : Gc} {h : Ho} {Q : SV → Prop} : s_is_house_value G [hD h] Q ↔ Lat h ∧ Q (.fz (.bl true)) := ⟨fun ⟨_, e, z⟩ => by injection e with e _; rw [hD_inj e]; exact z, fun z => ⟨h, rfl, z⟩⟩
theorem p_is_house_value : Keeps P_is_house_value N_is_house_value s_is_house_value (w_is_house_value s_is_table_value s_fault_of) := fun G ds Qd z => by
  obtain ⟨h, rfl, L, q⟩ := z
  refine ⟨rfl, ?_⟩
  simp only [N_is_house_value, w_is_house_value, startD]
  simp [L, q, L.pos, L.le]
def s_need_house : FS := fun _ ds Q => ∃ h : Ho, ds = [hD h] ∧ Lat h ∧ Q (.fz .non)
@[simp ↓] theorem c_need_house {G : Gc} {h : Ho} {Q : SV → Prop} : s_need_house G [hD h] Q ↔ Lat h ∧ Q (.fz .non) := ⟨fun ⟨_, e, z⟩ => by injection e with e _; rw [hD_inj e]; exact z, fun z => ⟨h, rfl, z⟩⟩
theorem p_need_house : Keeps P_need_house N_need_house s_need_house (w_need_house s_is_house_value) := fun G ds Qd z => by
  obtain ⟨h, rfl, L, q⟩ := z
  refine ⟨rfl, ?_⟩
  simp [N_need_house, w_need_house, startD, L, q]
/-! ### tables of both and all -/
def s_boths_of : FS := fun _ ds Q => ∃ h : Ho, ds = [hD h] ∧ Lat h ∧ Q (.ow (bRows h false))
@[simp ↓] theorem c_boths_of {G : Gc} {h : Ho} {Q : SV → Prop} : s_boths_of G [hD h] Q ↔ Lat h ∧ Q (.ow (bRows h false)) := ⟨fun ⟨_, e, z⟩ => by injection e with e _; rw [hD_inj e]; exact z, fun z => ⟨h, rfl, z⟩⟩
def s_alls_of : FS := fun _ ds Q => ∃ h : Ho, ds = [hD h] ∧ Lat h ∧ Q (.ow (bRows h true))
@[simp ↓] theorem c_alls_of {G : Gc} {h : Ho} {Q : SV → Prop} : s_alls_of G [hD h] Q ↔ Lat h ∧ Q (.ow (bRows h true)) := ⟨fun ⟨_, e, z⟩ => by injection e with e _; rw [hD_inj e]; exact z, fun z => ⟨h, rfl, z⟩⟩
theorem p_boths_of : Keeps P_boths_of N_boths_of s_boths_of (w_boths_of s_downs_of) := fun G ds Qd z => by
  obtain ⟨h, rfl, L, q⟩ := z
  refine ⟨rfl, ?_⟩
  have hn := L.le
  have im : immL ((sg (mtab (dnM h) h.n eI)).map (·.2)) = true := imm_mtab (fun _ => imm_int) h.n
  simp only [N_boths_of, w_boths_of, startD]
  simp [hn, imm_eT]
  rw [enum_tab]
  refine wdL_on (fun x => .inl (dnM h x : Int)) eI (List.range h.n) [] _ (fun x hx G' hG Qy hy => ?_) (len_small (by simp; omega)) ?_
  · simp [wipeD]
    exact ⟨.inl (dnM h x : Int), rfl, hy⟩
  rw [show (List.range h.n).foldl (fun a x => putD a (.inl (dnM h x : Int)) (eI x)) [] = mtab (dnM h) h.n eI from rfl]
  simp only [oK]
  simp [im]
  refine wcL_onM (fun x => bRow h false x) _ _ (fun x hx G' hG Qy hy => ?_) (len_small (by simp; omega)) q
  have hx := List.mem_range.mp hx
  simp [wipeD]
  refine wcL_onM (fun y => eI (op h false x y)) _ _ (fun y hy2 G2 hG2 Qy2 hy3 => ?_) (len_small (by simp; omega)) hy
  have hy := List.mem_range.mp hy2
  have l1 : lookD (mtab (dnM h) h.n eI) (.inl ((dnM h x &&& dnM h y : Nat) : Int)) = some (eI (op h false x y)) := by
    rw [dn_and L hx hy]; exact mtab_look (fun a b ha hb e => dn_inj L ha hb e) _ (op_lt L false hx hy)
  simp [wipeD, and_nat, k_get l1, hy3]
theorem p_alls_of : Keeps P_alls_of N_alls_of s_alls_of (w_alls_of s_ups_of) := fun G ds Qd z => by
  obtain ⟨h, rfl, L, q⟩ := z
  refine ⟨rfl, ?_⟩
  have hn := L.le
  have im : immL ((sg (mtab (upM h) h.n eI)).map (·.2)) = true := imm_mtab (fun _ => imm_int) h.n
  simp only [N_alls_of, w_alls_of, startD]
  simp [hn, imm_eT]
  rw [enum_tab]
  refine wdL_on (fun x => .inl (upM h x : Int)) eI (List.range h.n) [] _ (fun x hx G' hG Qy hy => ?_) (len_small (by simp; omega)) ?_
  · simp [wipeD]
    exact ⟨.inl (upM h x : Int), rfl, hy⟩
  rw [show (List.range h.n).foldl (fun a x => putD a (.inl (upM h x : Int)) (eI x)) [] = mtab (upM h) h.n eI from rfl]
  simp only [oK]
  simp [im]
  refine wcL_onM (fun x => bRow h true x) _ _ (fun x hx G' hG Qy hy => ?_) (len_small (by simp; omega)) q
  have hx := List.mem_range.mp hx
  simp [wipeD]
  refine wcL_onM (fun y => eI (op h true x y)) _ _ (fun y hy2 G2 hG2 Qy2 hy3 => ?_) (len_small (by simp; omega)) hy
  have hy := List.mem_range.mp hy2
  have l1 : lookD (mtab (upM h) h.n eI) (.inl ((upM h x &&& upM h y : Nat) : Int)) = some (eI (op h true x y)) := by
    rw [up_and L hx hy]; exact mtab_look (fun a b ha hb e => up_inj L ha hb e) _ (op_lt L true hx hy)
  simp [wipeD, and_nat, k_get l1, hy3]
/-! ### rows, plans -/
def s_is_row_value : FS := fun _ ds Q => ∃ (h : Ho) (l : List Nat), ds = [hD h, tL l] ∧ 0 < l.length ∧ l.length ≤ 6 ∧ (∀ x ∈ l, x < h.n) ∧ Q (.fz (.bl true))
@[simp ↓] theorem c_is_row_value {G : Gc} {h : Ho} {l : List Nat} {Q : SV → Prop} : s_is_row_value G [hD h, tL l] Q ↔ 0 < l.length ∧ l.length ≤ 6 ∧ (∀ x ∈ l, x < h.n) ∧ Q (.fz (.bl true)) := ⟨fun ⟨_, _, e, z⟩ => by
  injection e with e1 e
  injection e with e _
  injection e with e
  rw [hD_inj e1, eIs_inj e]; exact z, fun z => ⟨h, l, rfl, z⟩⟩
theorem ints_of {l : List Nat} {n : Nat} (h : ∀ x ∈ l, x < n) : ∀ d ∈ l.map eI, ∃ i : Int, d = .int i ∧ 0 ≤ i ∧ i ≤ (n : Int) - 1 := fun d hd => by
  obtain ⟨x, hx, rfl⟩ := List.mem_map.mp hd
  exact ⟨x, rfl, by omega, by have := h x hx; omega⟩
theorem p_is_row_value : Keeps P_is_row_value N_is_row_value s_is_row_value (w_is_row_value s_are_between) := fun G ds Qd z => by
  obtain ⟨h, l, rfl, h0, h1, hx, q⟩ := z
  refine ⟨rfl, ?_⟩
  have e1 : (1 : Int) ≤ (l.length : Int) := by omega
  have e2 : (l.length : Int) ≤ 6 := by omega
  simp only [N_is_row_value, w_is_row_value, startD]
  simp [e1, e2, q, -List.mem_map]
  exact ⟨by omega, ints_of hx⟩
def s_need_row : FS := fun _ ds Q => ∃ (h : Ho) (l : List Nat), ds = [hD h, tL l] ∧ 0 < l.length ∧ l.length ≤ 6 ∧ (∀ x ∈ l, x < h.n) ∧ Q (.fz .non)
@[simp ↓] theorem c_need_row {G : Gc} {h : Ho} {l : List Nat} {Q : SV → Prop} : s_need_row G [hD h, tL l] Q ↔ 0 < l.length ∧ l.length ≤ 6 ∧ (∀ x ∈ l, x < h.n) ∧ Q (.fz .non) := ⟨fun ⟨_, _, e, z⟩ => by
  injection e with e1 e
  injection e with e _
  injection e with e
  rw [hD_inj e1, eIs_inj e]; exact z, fun z => ⟨h, l, rfl, z⟩⟩
theorem p_need_row : Keeps P_need_row N_need_row s_need_row (w_need_row s_is_row_value) := fun G ds Qd z => by
  obtain ⟨h, l, rfl, h0, h1, hx, q⟩ := z
  refine ⟨rfl, ?_⟩
  simp only [N_need_row, w_need_row, startD]
  simp [h0, h1, q]
  exact hx
def s_need_house_and_row : FS := fun _ ds Q => ∃ (h : Ho) (l : List Nat), ds = [hD h, tL l] ∧ Lat h ∧ 0 < l.length ∧ l.length ≤ 6 ∧ (∀ x ∈ l, x < h.n) ∧ Q (.fz .non)
@[simp ↓] theorem c_need_house_and_row {G : Gc} {h : Ho} {l : List Nat} {Q : SV → Prop} : s_need_house_and_row G [hD h, tL l] Q ↔ Lat h ∧ 0 < l.length ∧ l.length ≤ 6 ∧ (∀ x ∈ l, x < h.n) ∧ Q (.fz .non) := ⟨fun ⟨_, _, e, z⟩ => by
  injection e with e1 e
  injection e with e _
  injection e with e
  rw [hD_inj e1, eIs_inj e]; exact z, fun z => ⟨h, l, rfl, z⟩⟩
theorem p_need_house_and_row : Keeps P_need_house_and_row N_need_house_and_row s_need_house_and_row (w_need_house_and_row s_need_house s_need_row) := fun G ds Qd z => by
  obtain ⟨h, l, rfl, L, h0, h1, hx, q⟩ := z
  refine ⟨rfl, ?_⟩
  simp only [N_need_house_and_row, w_need_house_and_row, startD]
  simp [L, h0, h1, q]
  exact hx
end K87
set_option maxHeartbeats 4000000
namespace K87
open PySem PySem.Spec PyProof.Rows L2 DL Hou

/-! ### meetings, plans -/
def s_is_meeting_value : FS := fun _ ds Q => ∃ (m : Nat) (p : Nat × Nat), ds = [eI m, pN p] ∧ p.1 < m ∧ p.2 < m ∧ p.1 ≠ p.2 ∧ Q (.fz (.bl true))
theorem p_is_meeting_value : Keeps P_is_meeting_value N_is_meeting_value s_is_meeting_value (w_is_meeting_value s_are_between) := fun G ds Qd z => by
  obtain ⟨m, p, rfl, h1, h2, h3, q⟩ := z
  refine ⟨rfl, ?_⟩
  have e1 : ((p.1 : Int) ≤ (m : Int) - 1) := by omega
  have e2 : ((p.2 : Int) ≤ (m : Int) - 1) := by omega
  have e3 : ¬ ((p.1 : Int) = (p.2 : Int)) := by omega
  simp only [N_is_meeting_value, w_is_meeting_value, startD]
  simp [e1, e2, e3, h3, q]
def s_are_meetings : FS := fun _ ds Q => ∃ (m : Nat) (ps : List (Nat × Nat)), ds = [eI m, plD ps] ∧ PlanOk m ps ∧ ps.length ≤ 1000 ∧ Q (.fz (.bl true))
theorem p_are_meetings : Keeps P_are_meetings N_are_meetings s_are_meetings (w_are_meetings s_is_meeting_value) := fun G ds Qd z => by
  obtain ⟨m, ps, rfl, P, hl, q⟩ := z
  refine ⟨rfl, ?_⟩
  simp only [N_are_meetings, w_are_meetings, startD]
  simp
  refine wcL_onM (fun _ => .bl true) _ _ (fun p hp G' hG Qy hy => ?_) (len_small (by omega)) (allT _ q)
  obtain ⟨h1, h2, h3⟩ := P p hp
  simp [wipeD]
  exact ⟨m, p, rfl, h1, h2, h3, hy⟩
def s_is_plan_value : FS := fun _ ds Q => ∃ (m : Nat) (ps : List (Nat × Nat)), ds = [eI m, plD ps] ∧ PlanOk m ps ∧ ps.length ≤ 20 ∧ Q (.fz (.bl true))
theorem p_is_plan_value : Keeps P_is_plan_value N_is_plan_value s_is_plan_value (w_is_plan_value s_are_meetings) := fun G ds Qd z => by
  obtain ⟨m, ps, rfl, P, hl, q⟩ := z
  refine ⟨rfl, ?_⟩
  have e : (ps.length : Int) ≤ 20 := by omega
  simp only [N_is_plan_value, w_is_plan_value, startD]
  simp
  exact ⟨m, ps, rfl, P, by omega, by simp [e, q]⟩
def s_need_plan : FS := fun _ ds Q => ∃ (m : Nat) (ps : List (Nat × Nat)), ds = [eI m, plD ps] ∧ PlanOk m ps ∧ ps.length ≤ 20 ∧ Q (.fz .non)
theorem p_need_plan : Keeps P_need_plan N_need_plan s_need_plan (w_need_plan s_is_plan_value) := fun G ds Qd z => by
  obtain ⟨m, ps, rfl, P, hl, q⟩ := z
  refine ⟨rfl, ?_⟩
  simp only [N_need_plan, w_need_plan, startD]
  simp
  exact ⟨m, ps, rfl, P, hl, by simp [q]⟩
/-! ### rows behind -/
noncomputable abbrev mtD (h : Ho) : D := .tup [bD h false, bD h true]
def s_met_of : FS := fun _ ds Q => ∃ h : Ho, ds = [hD h] ∧ Lat h ∧ Q (.fz (mtD h))
theorem p_met_of : Keeps P_met_of N_met_of s_met_of (w_met_of s_alls_of s_boths_of) := fun G ds Qd z => by
  obtain ⟨h, rfl, L, q⟩ := z
  refine ⟨rfl, ?_⟩
  simp only [N_met_of, w_met_of, startD]
  simp [L, q]
def s_row_met : FS := fun _ ds Q => ∃ (h : Ho) (row : Rw) (p : Nat × Nat), ds = [mtD h, tL row, pN p] ∧ RowOk h row ∧ p.1 < row.length ∧ p.2 < row.length ∧ Q (.fz (tL (metR h row p)))
theorem ixN_nat {n i : Nat} (h : i < n) : ixN n (i : Int) = some i := by
  unfold ixN
  rw [if_pos (by omega), if_pos (by omega)]
  rfl
theorem p_row_met : Keeps P_row_met N_row_met s_row_met w_row_met := fun G ds Qd z => by
  obtain ⟨h, row, p, rfl, R, h1, h2, q⟩ := z
  refine ⟨rfl, ?_⟩
  have r1 := at_row R h1
  have r2 := at_row R h2
  have i1 : ixN (row.map eI).length (p.1 : Int) = some p.1 := ixN_nat (by simpa using h1)
  have i2 : ∀ d, ixN ((row.map eI).set p.1 d).length (p.2 : Int) = some p.2 := fun d => ixN_nat (by simpa using h2)
  simp only [N_row_met, w_row_met, startD]
  simp [k_eI h1, k_eI h2, imm_eIs, ix_b r1, ix_br r2, k_sto i1, k_sto (i2 _)]
  intro G' hG
  rw [← List.map_set, ← List.map_set]
  exact q
theorem rows_loop {h : Ho} (L : Lat h) {G : Gc} {E : EndsD} {a b c : Option SV} : ∀ (ps : List (Nat × Nat)) (row : Rw) (acc : List Rw) (y : Option SV), RowOk h row → PlanOk row.length ps → acc.length + ps.length ≤ 1000 → (∀ (rs : List Rw) (y : Option SV), E.nx [a, b, c, some (.fz (mtD h)), some (.ow ((rs ++ [behR h row ps]).map fun r => tL r)), y]) →
    wForL (wgName 5) (wApp 4 (wvO (woCall s_row_met (waCons (wVar 3) (waCons (wOp oIx (wVar 4) (wNeg (wC (.int 1)))) (waCons (wVar 5) (waNil))))))) G E (ps.map pN) [a, b, c, some (.fz (mtD h)), some (.ow ((acc ++ [row]).map fun r => tL r)), y]
  | [], row, acc, y, _, _, _, q => q acc y
  | p :: ps, row, acc, y, R, P, hl, q => by
    obtain ⟨h1, h2, _⟩ := P p List.mem_cons_self
    rw [List.length_cons] at hl
    rw [List.map_cons, s_for1]
    simp [k_neg1]
    refine ⟨h, row, p, rfl, R, h1, h2, ?_⟩
    have s : acc.length + 1 < sizeLine := lt_small (by omega)
    have ih := rows_loop L (G := G) (E := E) (a := a) (b := b) (c := c) ps (metR h row p) (acc ++ [row]) (some (.fz (pN p))) (metR_ok L R h1 h2) (by rw [metR_len]; exact fun x hx => P x (List.mem_cons_of_mem _ hx)) (by rw [List.length_append, List.length_singleton]; omega) fun rs y => q rs y
    simp [imm_eIs, s]
    simpa using ih
def s_rows_along : FS := fun _ ds Q => ∃ (h : Ho) (row : Rw) (ps : List (Nat × Nat)), ds = [hD h, tL row, plD ps] ∧ Lat h ∧ RowOk h row ∧ PlanOk row.length ps ∧ ps.length ≤ 500 ∧ ∀ rs : List Rw, Q (.ow ((rs ++ [behR h row ps]).map fun r => tL r))
theorem p_rows_along : Keeps P_rows_along N_rows_along s_rows_along (w_rows_along s_met_of s_row_met) := fun G ds Qd z => by
  obtain ⟨h, row, ps, rfl, L, R, P, hl, q⟩ := z
  refine ⟨rfl, ?_⟩
  simp only [N_rows_along, w_rows_along, startD]
  simp
  refine ⟨h, rfl, L, fun G' hG => ?_⟩
  simp [k_p2N]
  have := rows_loop L (G := G) (E := { nx := fun ρ' => wRetV 4 G { nx := fun _ => Qd (.fz .non), rt := Qd } ρ', rt := Qd }) (a := some (.fz (hD h))) (b := some (.fz (tL row))) (c := some (.fz (plD ps))) ps row [] none R P (by simp; omega) fun rs y => by simpa using q rs
  simpa using this
def s_row_behind : FS := fun _ ds Q => ∃ (h : Ho) (row : Rw) (ps : List (Nat × Nat)), ds = [hD h, tL row, plD ps] ∧ Lat h ∧ RowOk h row ∧ PlanOk row.length ps ∧ ps.length ≤ 500 ∧ Q (.fz (tL (behR h row ps)))
theorem p_row_behind : Keeps P_row_behind N_row_behind s_row_behind (w_row_behind s_rows_along) := fun G ds Qd z => by
  obtain ⟨h, row, ps, rfl, L, R, P, hl, q⟩ := z
  refine ⟨rfl, ?_⟩
  simp only [N_row_behind, w_row_behind, startD]
  simp
  refine ⟨h, row, ps, rfl, L, R, P, hl, fun rs => ?_⟩
  simp [k_neg1, q]
def s_behind : FS := fun _ ds Q => ∃ (h : Ho) (row : Rw) (ps : List (Nat × Nat)), ds = [hD h, tL row, plD ps] ∧ Lat h ∧ RowOk h row ∧ 0 < row.length ∧ row.length ≤ 6 ∧ PlanOk row.length ps ∧ ps.length ≤ 20 ∧ Q (.fz (tL (behR h row ps)))
theorem p_behind : Keeps P_behind N_behind s_behind (w_behind s_need_house_and_row s_need_plan s_row_behind) := fun G ds Qd z => by
  obtain ⟨h, row, ps, rfl, L, R, h0, h6, P, hl, q⟩ := z
  refine ⟨rfl, ?_⟩
  simp only [N_behind, w_behind, startD]
  simp [L, h0, h6]
  refine ⟨R, row.length, ps, rfl, P, hl, h, row, ps, rfl, L, R, P, by omega, q⟩
end K87
set_option maxHeartbeats 4000000
namespace K87
open PySem PySem.Spec PyProof.Rows L2 DL Hou

/-! ### certificates -/
def small : Ct → Prop
  | .good => True
  | .flt _ x y => x < 1000 ∧ y < 1000
theorem shw_ct {c : Ct} (h : small c) : Shw (ctD c) := by
  cases c with
  | good => exact ⟨by decide +kernel, by decide +kernel, by decide +kernel⟩
  | flt b x y =>
    obtain ⟨h1, h2⟩ := h
    obtain ⟨f1, f2, f3⟩ := fit_eIs [x, y] (by simp; omega)
    have f1 : (fitD (eI x) && (fitD (eI y) && true)) = true := f1
    have f2 : wtD (eI x) + 1 + (wtD (eI y) + 1 + 0) ≤ 2 := f2
    have f3 : max (dpD (eI x)) (max (dpD (eI y)) 0) = 0 := f3
    have w1 : fitD (.str (wd b)) = true := by cases b <;> decide +kernel
    have w2 : wtD (.str (wd b)) ≤ 4 := by cases b <;> decide +kernel
    refine ⟨?_, ?_, ?_⟩
    · show (fitD (.str (wd b)) && (fitD (eI x) && (fitD (eI y) && true))) = true
      rw [w1, f1]; rfl
    · show wtD (.str (wd b)) + 1 + (wtD (eI x) + 1 + (wtD (eI y) + 1 + 0)) ≤ 20000
      omega
    · show max (dpD (.str (wd b))) (max (dpD (eI x)) (max (dpD (eI y)) 0)) + 1 ≤ 60
      rw [f3]
      show max 0 0 + 1 ≤ 60
      decide
theorem toPy_ct (c : Ct) : toPy (ctD c) = some (ctP c) := enc_ct.py c
def s_is_exactly : FS := fun _ ds Q => ∃ c : Ct, ds = [ctD c, .tup [.str "good"]] ∧ small c ∧ Q (.fz (.bl (decide (c = .good))))
theorem p_is_exactly : Keeps P_is_exactly N_is_exactly s_is_exactly w_is_exactly := fun G ds Qd z => by
  obtain ⟨c, rfl, hc, q⟩ := z
  refine ⟨rfl, ?_⟩
  simp only [N_is_exactly, w_is_exactly, startD]
  simp
  refine oRepr_of (shw_ct hc) fun p e => ?_
  rw [toPy_ct] at e
  cases e
  simp
  refine oRepr_of (x := ctD .good) (shw_ct (c := .good) trivial) fun p e => ?_
  rw [toPy_ct] at e
  cases e
  simp
  cases c with
  | good => simpa using q
  | flt b x y =>
    rw [decide_eq_false shown_ne]
    simpa using q
def s_is_word : FS := fun _ ds Q => ∃ (b : Bool) (x y : Nat) (b' : Bool), ds = [ctD (.flt b x y), .str (wd b')] ∧ Q (.fz (.bl (decide (b = b'))))
theorem p_is_word : Keeps P_is_word N_is_word s_is_word w_is_word := fun G ds Qd z => by
  obtain ⟨b, x, y, b', rfl, q⟩ := z
  refine ⟨rfl, ?_⟩
  simp only [N_is_word, w_is_word, startD, ctD]
  simp [w_eqb, q]
/-! ### maps -/
def s_check : FS := fun _ ds Q => ∃ (h o : Ho) (f : List Nat), ds = [hD h, hD o, tL f] ∧ Lat h ∧ Lat o ∧ IsMap h o f ∧ Q (.fz .non)
theorem p_check : Keeps P_check N_check s_check (w_check s_need_house s_are_between) := fun G ds Qd z => by
  obtain ⟨h, o, f, rfl, L, L', M, q⟩ := z
  refine ⟨rfl, ?_⟩
  have e : (f.length : Int) = (h.n : Int) := by have := M.1; omega
  have hn := L.le
  simp only [N_check, w_check, startD]
  simp [L, L', e, q, -List.mem_map]
  exact ⟨by have := M.1; omega, ints_of M.2⟩
def s_is_led : FS := fun _ ds Q => ∃ (h o : Ho) (b : Bool) (f : List Nat) (x y : Nat), ds = [bD h b, bD o b, tL f, eI x, eI y] ∧ Lat h ∧ IsMap h o f ∧ x < h.n ∧ y < h.n ∧ Q (.fz (.bl (decide (at_ f (op h b x y) = op o b (at_ f x) (at_ f y)))))
theorem p_is_led : Keeps P_is_led N_is_led s_is_led w_is_led := fun G ds Qd z => by
  obtain ⟨h, o, b, f, x, y, rfl, L, M, hx, hy, q⟩ := z
  refine ⟨rfl, ?_⟩
  have l1 : x < f.length := by rw [M.1]; exact hx
  have l2 : y < f.length := by rw [M.1]; exact hy
  have l3 : op h b x y < f.length := by rw [M.1]; exact op_lt L b hx hy
  have m1 := at_lt M hx
  have m2 := at_lt M hy
  have i : ∀ m n : Nat, decide ((m : Int) = (n : Int)) = decide (m = n) := fun m n => decide_eq_decide.mpr (by omega)
  simp only [N_is_led, w_is_led, startD]
  simp [ix_b hx, ix_br hy, ix_b m1, ix_br m2, k_eI l1, k_eI l2, k_eI l3, i, q]
theorem led_loop {h o : Ho} (L : Lat h) {f : List Nat} (M : IsMap h o f) (b : Bool) {G : Gc} {E : EndsD} {t : D} {a0 a1 : Option SV} (q : (∀ x y, x < h.n → y < h.n → ¬ Flt h o f b x y) → ∀ a c, E.nx [some (.fz (hD h)), some (.fz (hD o)), some (.fz (tL f)), some (.fz t), some (.fz (.str (wd b))), some (.fz (bD h b)), some (.fz (bD o b)), a, c])
    (r : ∀ x y, x < h.n → y < h.n → Flt h o f b x y → E.rt (.fz (ctD (.flt b x y)))) :
    wForL (wgName 7) (wFor (wjRange1 (waCons (wFz (woCB oLenD (waCons (wVar 0) (waNil)))) (waNil))) (wgName 8) (wIfS (wtNot (wtV (wFz (woCall s_is_led (waCons (wVar 5) (waCons (wVar 6) (waCons (wVar 2) (waCons (wVar 7) (waCons (wVar 8) (waNil)))))))))) (wRet (woFz (wTup (waCons (wVar 4) (waCons (wVar 7) (waCons (wVar 8) (waNil))))))) (wNext)))
      G E (tab h.n eI) [some (.fz (hD h)), some (.fz (hD o)), some (.fz (tL f)), some (.fz t), some (.fz (.str (wd b))), some (.fz (bD h b)), some (.fz (bD o b)), a0, a1] := by
  have hn := L.le
  refine wFor_tab (fun k ρ => (∀ x y, x < k → y < h.n → ¬ Flt h o f b x y) ∧ ∃ a c, ρ = [some (.fz (hD h)), some (.fz (hD o)), some (.fz (tL f)), some (.fz t), some (.fz (.str (wd b))), some (.fz (bD h b)), some (.fz (bD o b)), a, c]) ⟨fun x y hx => absurd hx (Nat.not_lt_zero _), _, _, rfl⟩ (fun x hx ρ ⟨hk, a, c, hρ⟩ N hN => ?_) (fun ρ ⟨hk, a, c, hρ⟩ => by subst hρ; exact q (fun x y hx hy => hk x y hx hy) a c)
  subst hρ
  simp [range_tab]
  refine ⟨by omega, ?_⟩
  refine wFor_tab (fun k ρ => (∀ y, y < k → ¬ Flt h o f b x y) ∧ ∃ c, ρ = [some (.fz (hD h)), some (.fz (hD o)), some (.fz (tL f)), some (.fz t), some (.fz (.str (wd b))), some (.fz (bD h b)), some (.fz (bD o b)), some (.fz (eI x)), c]) ⟨fun y hy => absurd hy (Nat.not_lt_zero _), _, rfl⟩ (fun y hy ρ ⟨hk2, c, hρ⟩ N2 hN2 => ?_) (fun ρ ⟨hk2, c, hρ⟩ => hN ρ ⟨fun u v hu hv => ?_, _, _, hρ⟩)
  · subst hρ
    simp
    refine ⟨h, o, b, f, x, y, rfl, L, M, hx, hy, ?_⟩
    by_cases fl : at_ f (op h b x y) = op o b (at_ f x) (at_ f y)
    · simp [fl]
      refine hN2 _ ⟨fun v hv => ?_, _, rfl⟩
      rcases Nat.lt_succ_iff_lt_or_eq.mp hv with z | z
      · exact hk2 v z
      · subst z; exact fun w => w fl
    · simp [fl]
      exact r x y hx hy fl
  · rcases Nat.lt_succ_iff_lt_or_eq.mp hu with z | z
    · exact hk u v z hv
    · subst z; exact hk2 v hv
def s_judged_map : FS := fun _ ds Q => ∃ (h o : Ho) (f : List Nat), ds = [hD h, hD o, tL f] ∧ Lat h ∧ Lat o ∧ IsMap h o f ∧ (Good h o f → Q (.fz (ctD .good))) ∧ ∀ b x y, x < h.n → y < h.n → Flt h o f b x y → Q (.fz (ctD (.flt b x y)))
theorem p_judged_map : Keeps P_judged_map N_judged_map s_judged_map (w_judged_map s_alls_of s_boths_of s_is_led) := fun G ds Qd z => by
  obtain ⟨h, o, f, rfl, L, L', M, q, r⟩ := z
  refine ⟨rfl, ?_⟩
  simp only [N_judged_map, w_judged_map, startD, s_seq, s_set]
  have hn := L.le
  simp [L, L', k_putN]
  rw [s_for1]
  simp [range_tab]
  refine ⟨by omega, ?_⟩
  refine led_loop L M false (fun g1 a c => ?_) (fun x y hx hy fl => ?_)
  rotate_left
  · exact r false x y hx hy fl
  dsimp only
  rw [s_for1]
  simp [range_tab]
  refine ⟨by omega, ?_⟩
  refine led_loop L M true (fun g2 a c => ?_) (fun x y hx hy fl => ?_)
  rotate_left
  · exact r true x y hx hy fl
  simp
  refine q fun b x y hx hy => ?_
  cases b
  · exact g1 x y hx hy
  · exact g2 x y hx hy
def s_judge_map : FS := s_judged_map
theorem p_judge_map : Keeps P_judge_map N_judge_map s_judge_map (w_judge_map s_check s_judged_map) := fun G ds Qd z => by
  obtain ⟨h, o, f, rfl, L, L', M, q, r⟩ := z
  refine ⟨rfl, ?_⟩
  simp only [N_judge_map, w_judge_map, startD]
  simp
  refine ⟨h, o, f, rfl, L, L', M, h, o, f, rfl, L, L', M, q, r⟩
/-- whether a certificate is right -/
def Rgt (h o : Ho) (f : List Nat) : Ct → Prop
  | .good => Good h o f
  | .flt b x y => Flt h o f b x y
def inH (h : Ho) : Ct → Prop
  | .good => True
  | .flt _ x y => x < h.n ∧ y < h.n
def s_map_holds : FS := fun _ ds Q => ∃ (h o : Ho) (f : List Nat) (c : Ct), ds = [hD h, hD o, tL f, ctD c] ∧ Lat h ∧ Lat o ∧ IsMap h o f ∧ inH h c ∧ ∀ v : Bool, (v = true ↔ Rgt h o f c) → Q (.fz (.bl v))
theorem p_map_holds : Keeps P_map_holds N_map_holds s_map_holds (w_map_holds s_check s_is_exactly s_judged_map s_is_word s_is_between s_is_led s_boths_of s_alls_of) := fun G ds Qd z => by
  obtain ⟨h, o, f, c, rfl, L, L', M, hc, q⟩ := z
  refine ⟨rfl, ?_⟩
  have hn := L.le
  have sm : small c := by
    cases c with
    | good => trivial
    | flt b x y => obtain ⟨h1, h2⟩ := hc; exact ⟨by omega, by omega⟩
  simp only [N_map_holds, w_map_holds, startD]
  simp
  refine ⟨h, o, f, rfl, L, L', M, ?_⟩
  simp
  refine ⟨c, rfl, sm, ?_⟩
  cases c with
  | good =>
    simp
    refine ⟨h, o, f, rfl, L, L', M, fun g => ?_, fun b x y hx hy fl => ?_⟩
    · simp
      exact q true ⟨fun _ => g, fun _ => rfl⟩
    · simp
      exact q false ⟨fun z => Bool.noConfusion z, fun g => absurd fl (g b x y hx hy)⟩
  | flt b x y =>
    obtain ⟨hx, hy⟩ := hc
    have fin : ∀ b', b' = b → s_is_led G [bD h b, bD o b, tL f, eI x, eI y] (fun sv => kFz sv fun d => kTv d fun k => Qd (.fz (.bl (!k)))) := fun _ _ => by
      refine ⟨h, o, b, f, x, y, rfl, L, M, hx, hy, ?_⟩
      simp
      refine q _ ?_
      rw [Bool.not_eq_true', decide_eq_false_iff_not]
      exact Iff.rfl
    simp
    refine ⟨b, x, y, false, rfl, ?_⟩
    have bx : (x : Int) ≤ (h.n : Int) - 1 := by omega
    have by_ : (y : Int) ≤ (h.n : Int) - 1 := by omega
    cases b
    · simp [ctD, bx, by_, L, L']
      exact fin false rfl
    · simp [ctD]
      refine ⟨true, x, y, true, rfl, ?_⟩
      simp [ctD, bx, by_, L, L']
      exact fin true rfl
def sx_led_row : FSX := fun _ ds Q Ed => ∃ (h o : Ho) (f : List Nat) (row : Rw), ds = [hD h, hD o, tL f, tL row] ∧ Lat h ∧ Lat o ∧ IsMap h o f ∧ RowOk h row ∧ 0 < row.length ∧ row.length ≤ 6 ∧ (Good h o f → Q (.fz (tL (row.map (at_ f))))) ∧ (¬ Good h o f → Ed "BadMap" (tL f))
theorem px_led_row : KeepsX P_led_row N_led_row sx_led_row (wx_led_row s_check s_judged_map s_need_row) := fun G ds Qd Ed z => by
  obtain ⟨h, o, f, row, rfl, L, L', M, R, h0, h6, q, r⟩ := z
  refine ⟨rfl, ?_⟩
  simp only [N_led_row, wx_led_row, startD]
  simp
  refine ⟨h, o, f, rfl, L, L', M, ?_⟩
  simp
  refine ⟨h, o, f, rfl, L, L', M, fun g => ?_, fun b x y hx hy fl => ?_⟩
  · simp [h0, h6]
    refine ⟨R, ?_⟩
    refine wcL_onM (fun x => eI (at_ f x)) _ _ (fun x hx G' hG Qy hy => ?_) (len_small (by omega)) ?_
    · have : x < f.length := by rw [M.1]; exact R x hx
      simp [wipeD, k_eI this, hy]
    · rw [show row.map (fun x => eI (at_ f x)) = (row.map (at_ f)).map eI by rw [List.map_map]; rfl]
      exact q g
  · simp
    exact r fun g => g b x y hx hy fl
end K87
set_option maxHeartbeats 4000000
namespace K87
open PySem PySem.Spec PyProof.Rows L2 DL Hou

/-! ### drawn houses -/
theorem p__law_pick : Keeps P__law_pick N__law_pick s_pick (w__law_pick s_draw) := fun G ds Qd z => by
  obtain ⟨da, xs, rfl, dk, h0, h1, q⟩ := z
  refine ⟨rfl, ?_⟩
  simp only [N__law_pick, w__law_pick, startD]
  simp
  refine ⟨dk, by omega, by omega, fun k hk hk2 => ?_⟩
  obtain ⟨x, e1, e2⟩ := atI_ok hk hk2
  rw [k_at e1]
  exact q x (List.mem_of_getElem? e2)
def s__law_chains : FS := fun _ ds Q => ∃ a b : Nat, ds = [eI a, eI b] ∧ a ≤ 10 ∧ b ≤ 10 ∧ Q (.ow ((chainL a b).map eI))
theorem c_pow {x : Nat} (h : x ≤ 1000) : CPow 1 (x : Int) := ⟨by omega, by omega, by decide⟩
theorem pow_cast (x : Nat) : (2 : Int) ^ x = ((2 ^ x : Nat) : Int) := by push_cast; rfl
theorem pow1 (x : Nat) : (2 : Int) ^ x - 1 = ((2 ^ x - 1 : Nat) : Int) := by
  have : 0 < 2 ^ x := Nat.two_pow_pos x
  rw [pow_cast]; omega
theorem p__law_chains : Keeps P__law_chains N__law_chains s__law_chains w__law_chains := fun G ds Qd z => by
  obtain ⟨a, b, rfl, ha, hb, q⟩ := z
  refine ⟨rfl, ?_⟩
  simp only [N__law_chains, w__law_chains, startD]
  simp [range_tab]
  refine ⟨by omega, ?_⟩
  refine wFor_tab (fun k ρ => ∃ u v, ρ = [some (.fz (eI a)), some (.fz (eI b)), some (.ow ((chainL k b).map eI)), u, v]) ⟨_, _, rfl⟩ (fun x hx ρ ⟨u, v, hρ⟩ N hN => ?_) (fun ρ ⟨u, v, hρ⟩ => by subst hρ; simp; exact q)
  subst hρ
  simp [range_tab]
  refine ⟨by omega, ?_⟩
  refine wcL_onM (fun y => eI (2 ^ x - 1 + 256 * (2 ^ y - 1))) _ _ (fun y hy G' hG Qy hq => ?_) (len_small (by simp; omega)) ?_
  · have hy := List.mem_range.mp hy
    have c : CMul 256 ((2 : Int) ^ y - 1) := .inl ⟨by decide, by decide⟩
    simp [wipeD, c_pow (x := x) (by omega), c_pow (x := y) (by omega), c]
    rw [pow1, pow1, show ((2 ^ x - 1 : Nat) : Int) + 256 * ((2 ^ y - 1 : Nat) : Int) = ((2 ^ x - 1 + 256 * (2 ^ y - 1) : Nat) : Int) by push_cast; rfl]
    exact hq
  · have e : (List.range b).map (fun y => eI (2 ^ x - 1 + 256 * (2 ^ y - 1))) = ((List.range b).map fun y => 2 ^ x - 1 + 256 * (2 ^ y - 1)).map eI := by rw [List.map_map]; rfl
    rw [e]
    simp [imm_eIs, -List.map_map]
    have ec : chainL (x + 1) b = chainL x b ++ (List.range b).map fun y => 2 ^ x - 1 + 256 * (2 ^ y - 1) := by
      unfold chainL
      rw [List.range_succ, List.flatMap_append, List.flatMap_cons, List.flatMap_nil, List.append_nil]
    have hl : (chainL x b).length = x * b := by
      unfold chainL
      rw [List.length_flatMap]
      have : ∀ n, ((List.range n).map fun _ : Nat => b).sum = n * b := fun n => by
        induction n with
        | zero => simp
        | succ n ih => rw [List.range_succ, List.map_append, List.sum_append, ih, Nat.succ_mul]; simp
      simpa using this x
    refine ⟨len_small (by rw [hl]; have : x * b ≤ 10 * 10 := Nat.mul_le_mul (by omega) hb; omega), hN _ ⟨some (.fz (eI x)), v, ?_⟩⟩
    rw [ec, List.map_append]
/-- a list of masks, as its own or as one that stands -/
def twoF (xs : List D) (Q : SV → Prop) : Prop := Q (.ow xs) ∧ Q (.fz (.lst xs))
def s__law_masks : FS := fun G ds Q => ∃ (da : Addr) (k : Nat), ds = [.ob da, eI k] ∧ IsDeck G da ∧ 1 ≤ k ∧ k ≤ 12 ∧ ∀ ms : List Nat, FamOk 12 ms → twoF (ms.map eI) Q
/-- found so far: an own list, or one that stands -/
def holds (sv : SV) (xs : List D) : Prop := sv = .ow xs ∨ sv = .fz (.lst xs)
theorem p__law_masks : Keeps P__law_masks N__law_masks s__law_masks (w__law_masks s_draw s_pick s__law_chains) := fun G ds Qd z => by
  obtain ⟨da, k, rfl, dk, hk1, hk2, q⟩ := z
  refine ⟨rfl, ?_⟩
  simp only [N__law_masks, w__law_masks, startD]
  simp
  refine ⟨dk, fun way hw0 hw1 => ?_⟩
  have hw : way = 0 ∨ way = 1 ∨ way = 2 ∨ way = 3 ∨ way = 4 ∨ 5 ≤ way := by omega
  rcases hw with rfl | rfl | rfl | rfl | rfl | hw
  · simp [dk]
    intro n hn0 hn1
    obtain ⟨n, rfl⟩ := Int.eq_ofNat_of_zero_le hn0
    rw [show ((1 : Int) + (n : Int)).toNat = 1 + n by omega]
    simp [range_tab]
    refine ⟨by omega, by omega, ?_⟩
    have e : ∀ x : Nat, x ≤ 10 → CPow 1 (x : Int) := fun x hx => c_pow (by omega)
    refine wcL_onM (fun x => eI (2 ^ x - 1)) _ _ (fun x hx G' hG Qy hq => ?_) (len_small (by simp; omega)) ?_
    · have hx := List.mem_range.mp hx
      simp [wipeD, e x (by omega)]
      rw [pow1]; exact hq
    · have := (q (lineL (1 + n)) (line_ok (by omega) (by omega))).1
      unfold lineL at this
      rw [List.map_map] at this
      exact this
  · simp [dk]
    intro n hn0 hn1
    obtain ⟨n, rfl⟩ := Int.eq_ofNat_of_zero_le hn0
    rw [show ((1 : Int) + (n : Int)).toNat = 1 + n by omega]
    refine ⟨?_, ?_⟩
    · have := c_pow (x := 1 + n) (by omega)
      simpa using this
    have h8 : 2 ^ (1 + n) ≤ 8 := by
      have : 2 ^ (1 + n) ≤ 2 ^ 3 := Nat.pow_le_pow_right (by decide) (by omega)
      omega
    rw [pow_cast]
    have qq := (q _ (cube_ok (n := 1 + n) (by omega) (by omega))).1
    generalize 2 ^ (1 + n) = p at h8 qq ⊢
    refine ⟨by omega, by omega, ?_⟩
    rw [Int.toNat_natCast, range_tab]
    exact qq
  · simp [dk]
    intro x hx
    obtain ⟨ms, hms, rfl⟩ : ∃ ms ∈ fives, D.lst (ms.map eI) = x := by
      simp only [List.mem_cons, List.not_mem_nil, or_false] at hx
      rcases hx with rfl | rfl | rfl | rfl
      · exact ⟨[0, 1, 2, 4, 7], by decide, rfl⟩
      · exact ⟨[0, 1, 3, 4, 7], by decide, rfl⟩
      · exact ⟨[0, 1, 2, 4, 8, 15], by decide, rfl⟩
      · exact ⟨[0, 1, 3, 7, 8, 15], by decide, rfl⟩
    exact (q ms (five_ok ms hms)).2
  · simp [dk]
    intro a ha0 ha1 b hb0 hb1
    obtain ⟨a, rfl⟩ := Int.eq_ofNat_of_zero_le ha0
    obtain ⟨b, rfl⟩ := Int.eq_ofNat_of_zero_le hb0
    exact ⟨1 + a, 2 + b, by push_cast; rfl, by omega, by omega, (q _ (chain_ok (by omega) (by omega) (by omega) (by omega))).1⟩
  · simp [dk]
    intro x hx
    obtain ⟨ms, hms, rfl⟩ : ∃ ms ∈ twos, D.lst (ms.map eI) = x := by
      simp only [List.mem_cons, List.not_mem_nil, or_false] at hx
      rcases hx with rfl | rfl
      · exact ⟨[0, 1, 2, 4, 7], by decide, rfl⟩
      · exact ⟨[0, 1, 3, 4, 7], by decide, rfl⟩
    have hl : ms.length = 5 := by
      have : ∀ ms ∈ twos, ms.length = 5 := by decide
      exact this ms hms
    simp [k_putN]
    refine wcL_onM (fun x => eI (x + 8)) _ _ (fun x hx G' hG Qy hq => ?_) (len_small (by omega)) ?_
    · simp [wipeD]
      exact hq
    · have := (q (ms ++ ms.map (· + 8)) (two_ok ms hms)).1
      rw [List.map_append, List.map_map] at this
      simp [hl]
      exact this
  · have n0 : ¬ way = 0 := by omega
    have n1 : ¬ way = 1 := by omega
    have n2 : ¬ way = 2 := by omega
    have n3 : ¬ way = 3 := by omega
    have n4 : ¬ way = 4 := by omega
    simp [dk, n0, n1, n2, n3, n4]
    intro f hf0 hf1
    obtain ⟨f, rfl⟩ := Int.eq_ofNat_of_zero_le hf0
    rw [show (2 : Int) + (f : Int) = ((2 + f : Nat) : Int) by push_cast; rfl]
    generalize hg : 2 + f = g
    have g1 : g ≤ 5 := by omega
    simp [c_pow (x := g) (by omega)]
    rw [pow1]
    intro n hn0 hn1
    obtain ⟨n, rfl⟩ := Int.eq_ofNat_of_zero_le hn0
    rw [show ((1 : Int) + (n : Int)).toNat = 1 + n by omega]
    refine ⟨by omega, by omega, ?_⟩
    refine wFor_J (fun ρ => ∃ ms sv a b c, FamOk k ms ∧ holds sv (ms.map eI) ∧ ρ = [some (.fz (.ob da)), some (.fz (eI k)), some (.fz (.int way)), none, some (.fz (eI g)), some sv, a, b, c, none, none]) ⟨[2 ^ g - 1], .ow [eI (2 ^ g - 1)], none, none, none, one_ok hk1 (by omega), .inl rfl, rfl⟩ (fun d hd ρ ⟨ms, sv, a, b, c, F, hs, hρ⟩ N hN => ?_) (fun ρ ⟨ms, sv, a, b, c, F, hs, hρ⟩ => ?_)
    · subst hρ
      have two : 2 ^ g ≤ 32 := by
        have : 2 ^ g ≤ 2 ^ 5 := Nat.pow_le_pow_right (by decide) g1
        omega
      have pos : 0 < 2 ^ g := Nat.two_pow_pos g
      have hl := F.le
      have step : ∀ (m : Nat) (Q : SV → Prop), (∀ ls : List Nat, ls.Nodup → (∀ x, x ∈ ls ↔ x ∈ ms ∨ ∃ y ∈ ms, x = m &&& y) → Q (.ow (ls.map eI))) → kSS (.lst (ms.map eI ++ ms.map fun x => eI (m &&& x))) Q := fun m Q h => by
        refine ⟨(ms ++ ms.map fun x => m &&& x).map fun n : Nat => (n : Int), ?_, ⟨?_, (ms ++ ms.map fun x => m &&& x).map fun n : Nat => (n : Int), ?_, fun k hk => hk⟩, fun zs hp hz => ?_⟩
        · show some _ = some _
          rw [← eIs, List.map_append, List.map_map]; rfl
        · simp; omega
        · simp; omega
        · obtain ⟨ls, rfl⟩ := nat_list (ms := zs) fun k hk => by
            obtain ⟨x, _, rfl⟩ := List.mem_map.mp ((hz k).mp hk)
            omega
          rw [← eIs]
          refine h ls ?_ fun x => ?_
          · exact (List.pairwise_map.mp hp).imp fun {a b} hab => by omega
          · have := hz (x : Int)
            simp only [List.mem_map, List.mem_append] at this
            constructor
            · intro hx
              obtain ⟨y, hy, e⟩ := this.mp ⟨x, hx, rfl⟩
              have e : y = x := by omega
              subst e
              rcases hy with z | ⟨u, hu, rfl⟩
              · exact .inl z
              · exact .inr ⟨u, hu, rfl⟩
            · intro hx
              obtain ⟨y, hy, e⟩ := this.mpr ⟨x, (by
                rcases hx with z | ⟨u, hu, rfl⟩
                · exact .inl z
                · exact .inr ⟨u, hu, rfl⟩), rfl⟩
              have e : y = x := by omega
              subst e; exact hy
      have fin : ∀ (m : Nat) (sv : SV), holds sv (ms.map eI) → ∀ (ls : List Nat), ls.Nodup → (∀ x, x ∈ ls ↔ x ∈ ms ∨ ∃ y ∈ ms, x = m &&& y) →
          (if decide (((ls.map eI).length : Int) ≤ (k : Int)) = true then N [some (.fz (.ob da)), some (.fz (eI k)), some (.fz (.int way)), none, some (.fz (eI g)), some (.fz (.lst (ls.map eI))), some (.fz d), some (.fz (eI m)), some (.fz (.lst (ls.map eI))), none, none]
            else N [some (.fz (.ob da)), some (.fz (eI k)), some (.fz (.int way)), none, some (.fz (eI g)), some (.fz (.lst (ms.map eI))), some (.fz d), some (.fz (eI m)), some (.fz (.lst (ls.map eI))), none, none]) := fun m sv hs ls nd hm => by
        split
        · rename_i h
          have h := of_decide_eq_true h
          exact hN _ ⟨ls, _, _, _, _, step_ok F m nd hm (by simpa using h), .inr rfl, rfl⟩
        · exact hN _ ⟨ms, _, _, _, _, F, .inr rfl, rfl⟩
      rcases hs with rfl | rfl
      all_goals
        simp [dk, c_pow (x := g) (by omega)]
        refine ⟨by rw [pow_cast]; omega, by rw [pow_cast]; omega, fun m hm0 hm1 => ?_⟩
        obtain ⟨m, rfl⟩ := Int.eq_ofNat_of_zero_le hm0
        refine wcL_onM (fun x => eI (m &&& x)) _ _ (fun x hx G' hG Qy hq => by simp [wipeD, and_nat]; exact hq) (len_small (by omega)) ?_
        refine ⟨len_small (by simp; omega), step m _ fun ls nd hm => ?_⟩
        simp [imm_eIs, k_putN]
        have := fin m (.ow (ms.map eI)) (.inl rfl) ls nd hm
        simpa using this
    · subst hρ
      rcases hs with rfl | rfl
      · simp; exact (q ms ⟨F.f, F.pos, by have := F.le; omega, F.lt⟩).1
      · simp; exact (q ms ⟨F.f, F.pos, by have := F.le; omega, F.lt⟩).2
end K87
set_option maxHeartbeats 4000000
namespace K87
open PySem PySem.Spec PyProof.Rows L2 DL Hou

abbrev tX (l : List Nat) : D := .tix (l.map eI)
def s__law_order : FS := fun G ds Q => ∃ (da : Addr) (n : Nat), ds = [.ob da, eI n] ∧ IsDeck G da ∧ n ≤ 500 ∧ ∀ l : List Nat, IsOrd n l → Q (.fz (tX l))
theorem p__law_order : Keeps P__law_order N__law_order s__law_order (w__law_order s_draw) := fun G ds Qd z => by
  obtain ⟨da, n, rfl, dk, hn, q⟩ := z
  refine ⟨rfl, ?_⟩
  simp only [N__law_order, w__law_order, startD]
  simp [range_tab]
  refine ⟨by omega, fun G' hG => ?_⟩
  simp [imm_eIs]
  refine ⟨by omega, ?_⟩
  refine wFor_tab (fun i ρ => ∃ (l fd : List Nat) (a : Option SV), l.length = n - i ∧ fd.length = i ∧ (fd ++ l).Perm (List.range n) ∧ ρ = [some (.fz (.ob da)), some (.fz (eI n)), some (.ow (l.map eI)), some (.ow (fd.map eI)), a]) ⟨List.range n, [], none, by simp, rfl, .refl _, rfl⟩ (fun i hi ρ ⟨l, fd, a, h1, h2, hp, hρ⟩ N hN => ?_) (fun ρ ⟨l, fd, a, h1, h2, hp, hρ⟩ => ?_)
  · subst hρ
    have hl : l.length ≤ 1000 := by omega
    simp [dk]
    refine ⟨by omega, by omega, fun j hj0 hj1 => ?_⟩
    obtain ⟨j, rfl⟩ := Int.eq_ofNat_of_zero_le hj0
    have hj : j < l.length := by omega
    refine k_pop0 (d := eI l[j]) (by simp [hj]) (by simpa using hl) ?_
    have s1 : fd.length < sizeLine := lt_small (by omega)
    simp [s1]
    refine hN _ ⟨l.eraseIdx j, fd ++ [l[j]], some (.fz (eI i)), ?_, by simp [h2], ?_, ?_⟩
    · rw [List.length_eraseIdx_of_lt hj]; omega
    · refine .trans ?_ hp
      rw [List.append_assoc]
      refine List.Perm.append_left fd ?_
      exact erase_perm hj
    · rw [List.map_append, erase_map]; rfl
  · subst hρ
    have : l = [] := List.eq_nil_of_length_eq_zero (by omega)
    subst this
    rw [List.append_nil] at hp
    simp
    exact q fd hp
def s__law_house : FS := fun G ds Q => ∃ (da : Addr) (k : Nat), ds = [.ob da, eI k] ∧ IsDeck G da ∧ 1 ≤ k ∧ k ≤ 12 ∧ ∀ h : Ho, Lat h → h.n ≤ 12 → Q (.fz (hD h))
theorem famD (l : List Nat) : D.tup (l.map fun x => .tup (l.map fun y => .int (bI (decide (x &&& y = x))))) = hD (famH l) := by
  rw [map_tab l (fun x => D.tup (l.map fun y => .int (bI (decide (x &&& y = x)))))]
  rw [show (fun i => D.tup (l.map fun y => .int (bI (decide (at_ l i &&& y = at_ l i))))) = fun i => D.tup (tab l.length fun j => .int (bI (decide (at_ l i &&& at_ l j = at_ l i)))) from funext fun i => by rw [map_tab l (fun y => D.int (bI (decide (at_ l i &&& y = at_ l i))))]]
  exact hD_nrm (f := fun x y => bI (decide (at_ l x &&& at_ l y = at_ l x))) fun x y _ _ => rfl
theorem p__law_house : Keeps P__law_house N__law_house s__law_house (w__law_house s__law_masks s__law_order) := fun G ds Qd z => by
  obtain ⟨da, k, rfl, dk, hk1, hk2, q⟩ := z
  refine ⟨rfl, ?_⟩
  simp only [N__law_house, w__law_house, startD]
  simp
  refine ⟨da, k, rfl, dk, hk1, hk2, fun ms F => ?_⟩
  have hl := F.le
  have go : ∀ sv, holds sv (ms.map eI) → wFz (woCall s__law_order (waCons (wVar 0) (waCons (wFz (woCB oLenD (waCons (wVar 2) (waNil)))) (waNil)))) G [some (.fz (.ob da)), some (.fz (eI k)), some sv, none, none, none, none] (fun d => kIt d fun ds => wcL (wgName 4) wtTrue (wOp oIx (wVar 2) (wVar 4)) [4] G [some (.fz (.ob da)), some (.fz (eI k)), some sv, none, none, none, none] ds [] fun acc =>
      kPut [some (.fz (.ob da)), some (.fz (eI k)), some sv, none, none, none, none] 3 (.ow acc) fun ρ' => (wRet (woCB oTuple (waCons (wFz (wComp (wiSeq (wVar 3)) (wgName 5) (wtTrue) (wFz (woCB oTuple (waCons (wFz (wComp (wiSeq (wVar 3)) (wgName 6) (wtTrue) (wFz (woCB oIntB (waCons (wOp oEq (wOp (oI0 Builtin.bitAnd) (wVar 5) (wVar 6)) (wVar 5)) (waNil)))) [6])) (waNil)))) [5])) (waNil)))) G { nx := fun _ => Qd (.fz .non), rt := Qd } ρ') := fun sv hs => by
    have body : ∀ l : List Nat, IsOrd ms.length l → wcL (wgName 4) wtTrue (wOp oIx (wVar 2) (wVar 4)) [4] G [some (.fz (.ob da)), some (.fz (eI k)), some sv, none, none, none, none] (l.map eI) [] fun acc =>
        kPut [some (.fz (.ob da)), some (.fz (eI k)), some sv, none, none, none, none] 3 (.ow acc) fun ρ' => (wRet (woCB oTuple (waCons (wFz (wComp (wiSeq (wVar 3)) (wgName 5) (wtTrue) (wFz (woCB oTuple (waCons (wFz (wComp (wiSeq (wVar 3)) (wgName 6) (wtTrue) (wFz (woCB oIntB (waCons (wOp oEq (wOp (oI0 Builtin.bitAnd) (wVar 5) (wVar 6)) (wVar 5)) (waNil)))) [6])) (waNil)))) [5])) (waNil)))) G { nx := fun _ => Qd (.fz .non), rt := Qd } ρ' := fun l O => by
      have ll := ord_len O
      refine wcL_onM (fun x => eI (at_ ms x)) _ _ (fun x hx G' hG Qy hy => ?_) (len_small (by omega)) ?_
      · have hx := ord_lt O x hx
        rcases hs with rfl | rfl <;> simp [wipeD, k_eI hx, hy]
      have e : (l.map fun x => eI (at_ ms x)) = (l.map (at_ ms)).map eI := by rw [List.map_map]; rfl
      rw [e]
      have P := ord_perm O
      have F2 := F.f.perm P
      have l2 : (l.map (at_ ms)).length = ms.length := P.length_eq.symm
      generalize l.map (at_ ms) = lots at F2 l2 ⊢
      simp [imm_eIs]
      refine wcL_onM (fun x => .tup (lots.map fun y => .int (bI (decide (x &&& y = x))))) _ _ (fun x hx G' hG Qy hy => ?_) (len_small (by omega)) ?_
      · simp [wipeD]
        refine wcL_onM (fun y => .int (bI (decide (x &&& y = x)))) _ _ (fun y hy2 G2 hG2 Qy2 hy3 => ?_) (len_small (by omega)) ?_
        · have i : decide (((x &&& y : Nat) : Int) = (x : Int)) = decide (x &&& y = x) := decide_eq_decide.mpr (by omega)
          simp [wipeD, and_nat, i]
          exact hy3
        · exact hy
      · rw [famD]
        exact q _ (fam_lat F2 (by rw [l2]; exact F.pos) (by omega)).lat (by show lots.length ≤ 12; omega)
    rcases hs with rfl | rfl
    · simp
      exact ⟨da, ms.length, rfl, dk, by omega, fun l O => by have := body l O; simpa using this⟩
    · simp
      exact ⟨da, ms.length, rfl, dk, by omega, fun l O => by have := body l O; simpa using this⟩
  refine ⟨?_, ?_⟩
  · simp [imm_eIs]
    have := go (.ow (ms.map eI)) (.inl rfl)
    simpa using this
  · simp [k_putN]
    have := go (.fz (.lst (ms.map eI))) (.inr rfl)
    simpa using this
end K87
set_option maxHeartbeats 4000000
namespace K87
open PySem PySem.Spec PyProof.Rows L2 DL Hou

/-! ### the law's own both and all -/
theorem c_mulB {b : Bool} {k : Int} : CMul (bI b) k := .inl (by cases b <;> decide)
def loF (h : Ho) (low z : Nat) : Nat := if h.r low z = true then z else low
def hiF (h : Ho) (hi z : Nat) : Nat := if h.r z hi = true then z else hi
section
variable {h : Ho} {G : Gc} {E : EndsD} {b c d e o : Option SV}
theorem low_loop : ∀ (rest : List Nat) (low : Nat) (zz : Option SV), low < h.n → (∀ z ∈ rest, z < h.n) → (∀ zz, E.nx [some (.fz (hD h)), b, c, d, e, some (.fz (eI (rest.foldl (loF h) low))), o, zz]) →
    wForL (wgName 7) (wSet 5 (woIf (wtV (wOp oEq (wOp oIx (wOp oIx (wVar 0) (wVar 5)) (wVar 7)) (wC (.int 1)))) (woFz (wVar 7)) (woFz (wVar 5)))) G E (rest.map eI) [some (.fz (hD h)), b, c, d, e, some (.fz (eI low)), o, zz]
  | [], low, zz, _, _, q => q zz
  | z :: rest, low, zz, hl, hz, q => by
    have z1 := hz z List.mem_cons_self
    have ih := fun l2 hl2 => low_loop rest l2 (some (.fz (eI z))) hl2 fun y hy => hz y (List.mem_cons_of_mem _ hy)
    rw [List.map_cons, s_for1]
    simp [ix_h hl, ix_r z1]
    cases r : h.r low z
    · simp
      exact ih low hl fun zz => by have := q zz; rw [List.foldl_cons, show loF h low z = low by unfold loF; rw [r]; rfl] at this; exact this
    · simp
      exact ih z z1 fun zz => by have := q zz; rw [List.foldl_cons, show loF h low z = z by unfold loF; rw [r]; rfl] at this; exact this
theorem high_loop {a5 : Option SV} : ∀ (rest : List Nat) (hi : Nat) (zz : Option SV), hi < h.n → (∀ z ∈ rest, z < h.n) → (∀ zz, E.nx [some (.fz (hD h)), b, c, d, e, a5, some (.fz (eI (rest.foldl (hiF h) hi))), zz]) →
    wForL (wgName 7) (wSet 6 (woIf (wtV (wOp oEq (wOp oIx (wOp oIx (wVar 0) (wVar 7)) (wVar 6)) (wC (.int 1)))) (woFz (wVar 7)) (woFz (wVar 6)))) G E (rest.map eI) [some (.fz (hD h)), b, c, d, e, a5, some (.fz (eI hi)), zz]
  | [], low, zz, _, _, q => q zz
  | z :: rest, low, zz, hl, hz, q => by
    have z1 := hz z List.mem_cons_self
    have ih := fun l2 hl2 => high_loop (a5 := a5) rest l2 (some (.fz (eI z))) hl2 fun y hy => hz y (List.mem_cons_of_mem _ hy)
    rw [List.map_cons, s_for1]
    simp [ix_h z1, ix_r hl]
    cases r : h.r z low
    · simp
      exact ih low hl fun zz => by have := q zz; rw [List.foldl_cons, show hiF h low z = low by unfold hiF; rw [r]; rfl] at this; exact this
    · simp
      exact ih z z1 fun zz => by have := q zz; rw [List.foldl_cons, show hiF h low z = z by unfold hiF; rw [r]; rfl] at this; exact this
end
def s__law_met : FS := fun _ ds Q => ∃ (h : Ho) (x y : Nat), ds = [hD h, eI x, eI y] ∧ Lat h ∧ x < h.n ∧ y < h.n ∧ Q (.fz (.tup [eI (op h false x y), eI (op h true x y)]))
theorem p__law_met : Keeps P__law_met N__law_met s__law_met w__law_met := fun G ds Qd z => by
  obtain ⟨h, x, y, rfl, L, hx, hy, q⟩ := z
  refine ⟨rfl, ?_⟩
  have hn := L.le
  have gB := op_B L hx hy
  have gA := op_A L hx hy
  generalize eB : op h false x y = lo at gB q
  generalize eA : op h true x y = hi at gA q
  simp only [N__law_met, w__law_met, startD]
  simp [range_tab]
  refine ⟨by omega, ?_⟩
  have mU : ∀ z, z ∈ (List.range h.n).filter (fun z => h.r z x && h.r z y) ↔ z < h.n ∧ h.r z x = true ∧ h.r z y = true := fun z => by simp
  have mA : ∀ z, z ∈ (List.range h.n).filter (fun z => h.r x z && h.r y z) ↔ z < h.n ∧ h.r x z = true ∧ h.r y z = true := fun z => by simp
  refine wcL_on (fun z => h.r z x && h.r z y) eI (List.range h.n) [] _ (fun z hz G' hG Qy Qn h1 h2 => ?_) (len_small (by simp; omega)) ?_
  · have hz := List.mem_range.mp hz
    simp [wipeD, ix_h hz, ix_r hx, ix_r hy, c_mulB]
    cases e1 : h.r z x <;> cases e2 : h.r z y <;> simp [e1, e2] at h1 h2 ⊢ <;> first | exact h1 | exact h2
  rw [List.nil_append]
  have gU := (mU lo).mpr ⟨gB.lt, gB.l, gB.r⟩
  have gAA := (mA hi).mpr ⟨gA.lt, gA.l, gA.r⟩
  have uT : ∀ z ∈ (List.range h.n).filter (fun z => h.r z x && h.r z y), h.r z lo = true := fun z hz => by
    obtain ⟨a, b, c⟩ := (mU z).mp hz
    exact gB.gr z a b c
  have aT : ∀ z ∈ (List.range h.n).filter (fun z => h.r x z && h.r y z), h.r hi z = true := fun z hz => by
    obtain ⟨a, b, c⟩ := (mA z).mp hz
    exact gA.ls z a b c
  have uL : ∀ z ∈ (List.range h.n).filter (fun z => h.r z x && h.r z y), z < h.n := fun z hz => ((mU z).mp hz).1
  have aL : ∀ z ∈ (List.range h.n).filter (fun z => h.r x z && h.r y z), z < h.n := fun z hz => ((mA z).mp hz).1
  have uS : ((List.range h.n).filter (fun z => h.r z x && h.r z y)).length ≤ 24 := Nat.le_trans (List.length_filter_le _ _) (by simpa using hn)
  generalize (List.range h.n).filter (fun z => h.r z x && h.r z y) = U at mU gU uT uL uS ⊢
  simp [range_tab, imm_eIs]
  refine ⟨by omega, ?_⟩
  refine wcL_on (fun z => h.r x z && h.r y z) eI (List.range h.n) [] _ (fun z hz G' hG Qy Qn h1 h2 => ?_) (len_small (by simp; omega)) ?_
  · have hz := List.mem_range.mp hz
    simp [wipeD, ix_h hx, ix_h hy, ix_r hz, c_mulB]
    cases e1 : h.r x z <;> cases e2 : h.r y z <;> simp [e1, e2] at h1 h2 ⊢ <;> first | exact h1 | exact h2
  rw [List.nil_append]
  generalize (List.range h.n).filter (fun z => h.r x z && h.r y z) = A at mA gAA aT aL ⊢
  cases U with
  | nil => cases gU
  | cons u0 us =>
    cases A with
    | nil => cases gAA
    | cons a0 as =>
      have iu := imm_eIs (u0 :: us)
      have ia := imm_eIs (a0 :: as)
      rw [List.map_cons] at iu ia
      simp [iu, ia, imm_eIs]
      intro G' hG
      change wForL _ _ _ _ ((u0 :: us).map eI) _
      refine low_loop (u0 :: us) u0 none (uL u0 List.mem_cons_self) uL fun zz => ?_
      have fl := fold_top (R := fun a z => h.r a z) gU uT (fun z hz r => L.asym z lo (uL z hz) gB.lt (uT z hz) r) [] (u0 :: us) u0 rfl List.mem_cons_self (fun z => by cases z)
      rw [show (u0 :: us).foldl (loF h) u0 = lo from fl]
      simp
      change wForL _ _ _ _ ((a0 :: as).map eI) _
      refine high_loop (a0 :: as) a0 zz (aL a0 List.mem_cons_self) aL fun zz => ?_
      have fh := fold_top (R := fun a z => h.r z a) gAA aT (fun z hz r => L.asym z hi (aL z hz) gA.lt r (aT z hz)) [] (a0 :: as) a0 rfl List.mem_cons_self (fun z => by cases z)
      rw [show (a0 :: as).foldl (hiF h) a0 = hi from fh]
      simp
      exact q
end K87
set_option maxHeartbeats 4000000
namespace K87
open PySem PySem.Spec PyProof.Rows L2 DL Hou

theorem bh_loop {h : Ho} (L : Lat h) {G : Gc} {E : EndsD} {pl : Option SV} : ∀ (ps : List (Nat × Nat)) (row : Rw) (a b : Option SV), RowOk h row → PlanOk row.length ps → (∀ a b, E.nx [some (.fz (hD h)), some (.ow ((behR h row ps).map eI)), pl, a, b]) →
    wForL (wgTup 2 (wgCons (wgName 3) (wgCons (wgName 4) (wgNil)))) (wSto2 1 (wVar 3) (wVar 4) (wvO (woCall s__law_met (waCons (wVar 0) (waCons (wOp oIx (wVar 1) (wVar 3)) (waCons (wOp oIx (wVar 1) (wVar 4)) (waNil))))))) G E (ps.map pN) [some (.fz (hD h)), some (.ow (row.map eI)), pl, a, b]
  | [], row, a, b, _, _, q => q a b
  | p :: ps, row, a, b, R, P, q => by
    obtain ⟨h1, h2, _⟩ := P p List.mem_cons_self
    have i1 : ixN (row.map eI).length (p.1 : Int) = some p.1 := ixN_nat (by simpa using h1)
    have i2 : ∀ d, ixN ((row.map eI).set p.1 d).length (p.2 : Int) = some p.2 := fun d => ixN_nat (by simpa using h2)
    rw [List.map_cons, s_for1]
    simp [k_eI h1, k_eI h2]
    refine ⟨h, _, _, rfl, L, at_row R h1, at_row R h2, ?_⟩
    have ih := bh_loop L (G := G) (E := E) (pl := pl) ps (metR h row p) (some (.fz (eI p.1))) (some (.fz (eI p.2))) (metR_ok L R h1 h2) (by rw [metR_len]; exact fun x hx => P x (List.mem_cons_of_mem _ hx)) q
    simp [k_sto i1, k_sto (i2 _)]
    rw [← List.map_set, ← List.map_set]
    exact ih
def s__law_behind : FS := fun _ ds Q => ∃ (h : Ho) (row : Rw) (ps : List (Nat × Nat)), ds = [hD h, tL row, plD ps] ∧ Lat h ∧ RowOk h row ∧ PlanOk row.length ps ∧ Q (.fz (tL (behR h row ps)))
theorem p__law_behind : Keeps P__law_behind N__law_behind s__law_behind (w__law_behind s__law_met) := fun G ds Qd z => by
  obtain ⟨h, row, ps, rfl, L, R, P, q⟩ := z
  refine ⟨rfl, ?_⟩
  simp only [N__law_behind, w__law_behind, startD]
  simp [imm_eIs]
  refine bh_loop L ps row none none R P fun a b => ?_
  simp
  exact q
theorem tab_succ (k : Nat) (f : Nat → D) : tab (k + 1) f = tab k f ++ [f k] := by
  unfold tab
  rw [List.range_succ, List.map_append]
  rfl
theorem div_cast (x m : Nat) : (x : Int) / (m : Int) = ((x / m : Nat) : Int) := by push_cast; rfl
theorem mod_cast' (x m : Nat) : (x : Int) % (m : Int) = ((x % m : Nat) : Int) := by push_cast; rfl
theorem c_div {x m : Nat} (h0 : 0 < m) (h1 : m ≤ 1000) : CDivW (x : Int) (m : Int) := ⟨by omega, by
  rw [Int.natAbs_natCast]
  exact log2_lt (by decide) (Nat.lt_of_le_of_lt h1 (Nat.lt_of_lt_of_le (by decide : 1000 < 2 ^ 10) (Nat.pow_le_pow_right (by decide) (by decide))))⟩
def s__law_beside : FS := fun _ ds Q => ∃ h o : Ho, ds = [hD h, hD o] ∧ Lat h ∧ Lat o ∧ h.n * o.n ≤ 16 ∧ Q (.fz (hD (nrm (h.n * o.n) (prodR h o))))
theorem p__law_beside : Keeps P__law_beside N__law_beside s__law_beside w__law_beside := fun G ds Qd z => by
  obtain ⟨h, o, rfl, L, L', hs, q⟩ := z
  refine ⟨rfl, ?_⟩
  have p := L'.pos
  have hn := L.le
  have on := L'.le
  have d : ∀ {x}, x < h.n * o.n → x / o.n < h.n := fun {x} hx => Nat.div_lt_of_lt_mul (by rw [Nat.mul_comm]; exact hx)
  have m : ∀ {x : Nat}, x % o.n < o.n := fun {x} => Nat.mod_lt _ p
  have cm : CMul (h.n : Int) (o.n : Int) := .inl ⟨by omega, by omega⟩
  have cd : ∀ x : Nat, CDivW (x : Int) (o.n : Int) := fun x => c_div p (by omega)
  have e : (h.n : Int) * (o.n : Int) = ((h.n * o.n : Nat) : Int) := by push_cast; rfl
  rw [← hD_nrm (f := fun x y => bI (h.r (x / o.n) (y / o.n)) * bI (o.r (x % o.n) (y % o.n))) (fun x y _ _ => by rw [bI_mul]; rfl)] at q
  simp only [N__law_beside, w__law_beside, startD]
  simp [cm]
  intro G' hG
  rw [e]
  generalize hN : h.n * o.n = M at hs d e q ⊢
  refine ⟨by omega, by omega, ?_⟩
  rw [Int.toNat_natCast, range_tab]
  refine wFor_tab (fun k ρ => ∃ a b c d, ρ = [some (.fz (hD h)), some (.fz (hD o)), some (.fz (eI o.n)), some (.ow (tab k fun x => .tup (tab M fun y => .int (bI (h.r (x / o.n) (y / o.n)) * bI (o.r (x % o.n) (y % o.n)))))), a, b, c, d]) ⟨_, _, _, _, rfl⟩ (fun x hx ρ ⟨a, b, c, d', hρ⟩ N h87 => ?_) (fun ρ ⟨a, b, c, d', hρ⟩ => ?_)
  · subst hρ
    have dx := d hx
    have po : (0 : Int) < (o.n : Int) := by omega
    have i1 : ∀ {Q : D → Prop}, oIx (hD h) (.int ((x : Int) / (o.n : Int))) Q ↔ Q (hRow h (x / o.n)) := by intro Q; rw [div_cast]; exact ix_h dx
    have i2 : ∀ {Q : D → Prop}, oIx (hD o) (.int ((x : Int) % (o.n : Int))) Q ↔ Q (hRow o (x % o.n)) := by intro Q; rw [mod_cast']; exact ix_h m
    simp [cd, po, i1, i2]
    intro G2 hG2
    simp [cm, e, hN]
    refine ⟨by omega, by omega, ?_⟩
    rw [range_tab]
    refine wcL_onM (fun y => .int (bI (h.r (x / o.n) (y / o.n)) * bI (o.r (x % o.n) (y % o.n)))) _ _ (fun y hy G3 hG3 Qy hq => ?_) (len_small (by simp; omega)) ?_
    · have hy := List.mem_range.mp hy
      have i1 : ∀ {Q : D → Prop} {z : Nat}, oIx (hRow h z) (.int ((y : Int) / (o.n : Int))) Q ↔ Q (.int (bI (h.r z (y / o.n)))) := by intro Q z; rw [div_cast]; exact ix_r (d hy)
      have i2 : ∀ {Q : D → Prop} {z : Nat}, oIx (hRow o z) (.int ((y : Int) % (o.n : Int))) Q ↔ Q (.int (bI (o.r z (y % o.n)))) := by intro Q z; rw [mod_cast']; exact ix_r m
      simp [wipeD, cd, po, i1, i2, c_mulB]
      exact ⟨p, hq⟩
    · have s : x < sizeLine := lt_small (by omega)
      have im : immL (tab M fun y => D.int (bI (h.r (x / o.n) (y / o.n)) * bI (o.r (x % o.n) (y % o.n)))) = true := imm_tab fun _ _ => imm_int
      simp [im, s]
      refine h87 _ ⟨some (.fz (eI x)), some (.fz (hRow h (x / o.n))), some (.fz (hRow o (x % o.n))), d', ?_⟩
      rw [tab_succ]
  · subst hρ
    simp
    exact q
def s__law_renamed : FS := fun _ ds Q => ∃ (h : Ho) (l : List Nat), ds = [hD h, tX l] ∧ h.n ≤ 24 ∧ IsOrd h.n l ∧ Q (.fz (hD (nrm h.n (renR h l))))
theorem idx_at {l : List Nat} {x : Nat} (h : x ∈ l) : (l.map fun n : Nat => (n : Int))[l.idxOf x]? = some (x : Int) ∧ ∀ m, m < l.idxOf x → (l.map fun n : Nat => (n : Int))[m]? ≠ some (x : Int) := by
  have hl := List.idxOf_lt_length_of_mem h
  refine ⟨by rw [List.getElem?_map, List.getElem?_eq_getElem hl, List.getElem_idxOf hl]; rfl, fun m hm e => ?_⟩
  have hm2 : m < l.length := Nat.lt_trans hm hl
  rw [List.getElem?_map, List.getElem?_eq_getElem hm2] at e
  have e2 : l[m] = x := by
    have := Option.some.inj e
    have this : ((l[m] : Nat) : Int) = (x : Int) := this
    omega
  have := List.not_of_lt_findIdx (p := fun y => y == x) (xs := l) (i := m) hm
  simp [e2] at this
theorem p__law_renamed : Keeps P__law_renamed N__law_renamed s__law_renamed w__law_renamed := fun G ds Qd z => by
  obtain ⟨h, l, rfl, hn, O, q⟩ := z
  refine ⟨rfl, ?_⟩
  have li : ∀ {x}, x < h.n → l.idxOf x < h.n := fun {x} hx => by
    have := List.idxOf_lt_length_of_mem (ord_mem O hx)
    rw [ord_len O] at this; exact this
  rw [← hD_nrm (r := renR h l) (f := fun x y => bI (h.r (l.idxOf x) (l.idxOf y))) (fun x y _ _ => rfl)] at q
  simp only [N__law_renamed, w__law_renamed, startD]
  simp [range_tab]
  refine ⟨by omega, ?_⟩
  refine wcL_onM (fun x => eI (l.idxOf x)) _ _ (fun x hx G' hG Qy hy => ?_) (len_small (by simp; omega)) ?_
  · have hx := List.mem_range.mp hx
    obtain ⟨a1, a2⟩ := idx_at (ord_mem O hx)
    simp [wipeD]
    refine ⟨l.map fun n : Nat => (n : Int), by rw [← eIs], ?_⟩
    simp only [s_var1, s_var0]
    exact ⟨(x : Int), l.idxOf x, rfl, a1, a2, hy⟩
  simp [imm_eT]
  refine wcL_onM (fun x => .tup (tab h.n fun y => .int (bI (h.r (l.idxOf x) (l.idxOf y))))) _ _ (fun x hx G' hG Qy hy => ?_) (len_small (by simp; omega)) q
  have hx := List.mem_range.mp hx
  simp [wipeD]
  refine wcL_onM (fun y => .int (bI (h.r (l.idxOf x) (l.idxOf y)))) _ _ (fun y hy2 G2 hG2 Qy2 hy3 => ?_) (len_small (by simp; omega)) hy
  have hy := List.mem_range.mp hy2
  simp [wipeD, ix_h (li hx), ix_r (li hy)]
  exact hy3
end K87
set_option maxHeartbeats 4000000
namespace K87
open PySem PySem.Spec PyProof.Rows L2 DL Hou

structure CaseOk (h o : Ho) (f : List Nat) : Prop where
  L : Lat h
  L' : Lat o
  M : IsMap h o f
  hn : h.n ≤ 16
  on : o.n ≤ 16
def s__law_case : FS := fun G ds Q => ∃ da : Addr, ds = [.ob da] ∧ IsDeck G da ∧ ∀ h o f, CaseOk h o f → Q (.fz (.tup [hD h, hD o, tL f]))
def s__law_case0 : FS := fun G ds Q => ∃ da : Addr, ds = [.ob da] ∧ IsDeck G da ∧ (∀ h o f, CaseOk h o f → Q (.fz (.tup [hD h, hD o, tL f]))) ∧ ∀ h o f, CaseOk h o f → Q (.fz (.tup [hD h, hD o, tX f]))
theorem i__law_case : ∀ G ds Q, s__law_case G ds Q → s__law_case0 G ds (wkQ Q) := fun G ds Q ⟨da, e, dk, q⟩ =>
  ⟨da, e, dk, fun h o f c => ⟨_, _, rfl, .refl _, q h o f c⟩, fun h o f c => ⟨_, _, rfl, .tup (.cons (.refl _) (.cons (.refl _) (.cons (.tix _) .nil))), q h o f c⟩⟩
theorem mulA1 {x : D} {k : Nat} {Q : SV → Prop} (h1 : 1 ≤ k) (h2 : k ≤ 1000) : oMulA (.tup [x]) (eI k) Q ↔ Q (.fz (.tup (List.replicate k x))) := by
  have fl : (List.replicate k [x]).flatten = List.replicate k x := by simp
  have tk : ((k : Nat) : Int).toNat = k := Int.toNat_natCast k
  constructor
  · rintro (h | ⟨a, e1, e2, q⟩)
    · rcases h with ⟨i, j, e, _⟩ | ⟨a, j, e, _⟩ | ⟨a, j, e, e2, z, q⟩
      · cases e
      · cases e
      · cases e
        cases e2
        rw [tk, fl] at q
        exact q
    · cases e1
      injection e2 with e2
      obtain rfl : k = 1 := by omega
      exact q
  · intro q
    by_cases h : k = 1
    · subst h
      exact .inr ⟨_, rfl, rfl, q⟩
    · exact .inl (.inr (.inr ⟨[x], k, rfl, rfl, ⟨by simp, by omega, by omega, by simp⟩, by rw [tk, fl]; exact q⟩))
theorem two_lat : Lat (famH [0, 1]) := (fam_lat (famB_ok (ms := [0, 1]) (by decide +kernel)).f (by decide) (by decide)).lat
theorem two_hD : hD (famH [0, 1]) = .tup [.tup [.int 1, .int 1], .tup [.int 0, .int 1]] := by
  rw [← famD]
  simp
theorem nat_some {xs : List D} {k : Nat} {x : D} (h : x ∈ xs) (all : ∀ x ∈ xs, ∃ n : Nat, 1 ≤ n ∧ n ≤ k ∧ x = eI n) : ∃ n : Nat, 1 ≤ n ∧ n ≤ k ∧ x = eI n := all x h
theorem tL_map {α : Type} {l : List α} {g : α → Nat} : tL (l.map g) = .tup (l.map fun y => eI (g y)) := by
  show D.tup _ = D.tup _
  rw [List.map_map]
  rfl
theorem metd {h : Ho} {G : Gc} {da : Addr} {Q : D → Prop} {o0 o2 o3 : Option SV} (dk : IsDeck G da) (L : Lat h) (hp : 0 < h.n) (hn : h.n ≤ 12) (q : ∀ f, IsMap h h f → Q (tL f)) : IsDeck G da ∧ 0 < h.n ∧ (h.n : Int) < 1073741824 ∧ ∀ k : Int, 0 ≤ k → k < (h.n : Int) → ∀ G', GExt G G' → IsDeck G' da ∧ ∀ j : Int, 0 ≤ j → j < 2 → (h.n : Int) < 4611686018427387904 ∧
    wcL (wgName 11) wtTrue (wOp oIx (wFz (woCall s__law_met (waCons (wVar 1) (waCons (wVar 11) (waCons (wVar 9) waNil))))) (wVar 10)) [11] G
      [o0, some (.fz (hD h)), o2, o3, some (.fz (eI h.n)), none, none, none, none, some (.fz (.int k)), some (.fz (.int j)), none] (rangeD 0 h.n) [] fun acc => Q (.tup acc) := by
  refine ⟨dk, hp, by omega, fun x hx0 hx1 G3 hG3 => ⟨dk.ext hG3, fun j hj0 hj1 => ⟨by omega, ?_⟩⟩⟩
  obtain ⟨x, rfl⟩ := Int.eq_ofNat_of_zero_le hx0
  have hx : x < h.n := by omega
  have hj : ∃ b : Bool, j = bI b := by
    rcases (show j = 0 ∨ j = 1 by omega) with rfl | rfl
    · exact ⟨false, rfl⟩
    · exact ⟨true, rfl⟩
  obtain ⟨b, rfl⟩ := hj
  rw [range_tab]
  refine wcL_onM (fun y => eI (op h b y x)) _ _ (fun y hy G' hG Qy hq => ?_) (len_small (by simp; omega)) ?_
  · have hy := List.mem_range.mp hy
    simp [wipeD]
    refine ⟨h, y, x, rfl, L, hy, hx, ?_⟩
    cases b <;> simp [hq]
  · have := q ((List.range h.n).map fun y => op h b y x) ⟨by simp, fun z hz => by
      obtain ⟨y, hy, rfl⟩ := List.mem_map.mp hz
      exact op_lt L b (List.mem_range.mp hy) hx⟩
    rw [tL_map] at this
    exact this
theorem p__law_case : Keeps P__law_case N__law_case s__law_case0 (w__law_case s__law_house s_pick s_draw s__law_order s__law_renamed s__law_beside s__law_met) := fun G ds Qd z => by
  obtain ⟨da, rfl, dk, q, q2⟩ := z
  refine ⟨rfl, ?_⟩
  simp only [N__law_case, w__law_case, startD]
  simp [dk]
  intro x hx
  obtain ⟨k, hk1, hk2, rfl⟩ : ∃ n : Nat, 1 ≤ n ∧ n ≤ 12 ∧ x = eI n := by
    simp only [List.mem_cons, List.not_mem_nil, or_false] at hx
    rcases hx with rfl | rfl | rfl
    · exact ⟨8, by decide, by decide, rfl⟩
    · exact ⟨10, by decide, by decide, rfl⟩
    · exact ⟨12, by decide, by decide, rfl⟩
  refine ⟨da, k, rfl, dk, hk1, hk2, fun h L hn => ?_⟩
  have hp := L.pos
  intro G' hG
  have dk' := dk.ext hG
  refine ⟨dk', fun way hw0 hw1 => ?_⟩
  simp [dk]
  intro x hx
  obtain ⟨k, hk1, hk2, rfl⟩ : ∃ n : Nat, 1 ≤ n ∧ n ≤ 12 ∧ x = eI n := by
    simp only [List.mem_cons, List.not_mem_nil, or_false] at hx
    rcases hx with rfl | rfl | rfl
    · exact ⟨8, by decide, by decide, rfl⟩
    · exact ⟨6, by decide, by decide, rfl⟩
    · exact ⟨10, by decide, by decide, rfl⟩
  refine ⟨da, k, rfl, dk, hk1, hk2, fun o L' on => ?_⟩
  have op_ := L'.pos
  intro G2 hG2
  simp
  have hw : way = 0 ∨ way = 1 ∨ way = 2 ∨ way = 3 ∨ way = 4 ∨ way = 5 ∨ way = 6 ∨ way = 7 := by omega
  have drawn : ∀ Q : D → Prop, (∀ f, IsMap h o f → Q (tL f)) → ((h.n : Int) < 4611686018427387904 ∧
      wcL (wgName 11) wtTrue (wFz (woCall s_draw (waCons (wVar 0) (waCons (wFz (woCB oLenD (waCons (wVar 3) waNil))) waNil)))) [11] G
        [some (.fz (.ob da)), some (.fz (hD h)), some (.fz (.int way)), some (.fz (hD o)), some (.fz (eI h.n)), none, none, none, none, none, none, none] (rangeD 0 h.n) [] fun acc => Q (.tup acc)) := fun Q hQ => by
    refine ⟨by omega, ?_⟩
    rw [range_tab]
    refine wcL_onA eI (fun x => x < o.n) _ [] _ (fun x hx G' hG Qy hy => ?_) (len_small (by simp; omega)) fun ys hl hJ => ?_
    · have dk2 := dk.ext hG
      simp [wipeD, dk2]
      refine ⟨op_, by omega, fun k hk0 hk1 => ?_⟩
      obtain ⟨k, rfl⟩ := Int.eq_ofNat_of_zero_le hk0
      exact hy k (by omega)
    · rw [List.nil_append]
      exact hQ ys ⟨by simpa using hl, hJ⟩
  rcases hw with rfl | rfl | rfl | rfl | rfl | rfl | rfl | rfl
  all_goals simp
  · -- an order
    refine ⟨da, h.n, rfl, dk, by omega, fun l O => ?_⟩
    simp [imm_eIs]
    refine ⟨h, l, rfl, by omega, O, ?_⟩
    simp
    exact q2 h _ l ⟨L, ren_lat L O, ord_map O, by omega, by show h.n ≤ 16; omega⟩
  · refine ⟨dk, op_, by omega, fun k hk0 hk1 => ?_⟩
    obtain ⟨k, rfl⟩ := Int.eq_ofNat_of_zero_le hk0
    rw [mulA1 (by omega) (by omega)]
    simp
    have := q h o (List.replicate h.n k) ⟨L, L', ⟨by simp, fun x hx => by rw [List.eq_of_mem_replicate hx]; omega⟩, by omega, by omega⟩
    rw [show tL (List.replicate h.n k) = D.tup (List.replicate h.n (eI k)) by show D.tup _ = D.tup _; rw [List.map_replicate]] at this
    exact this
  · -- beside one another
    have p := op_
    have cm : CMul (h.n : Int) (o.n : Int) := .inl ⟨by omega, by omega⟩
    have cd : ∀ x : Nat, CDivW (x : Int) (o.n : Int) := fun x => c_div p (by omega)
    have e : (h.n : Int) * (o.n : Int) = ((h.n * o.n : Nat) : Int) := by push_cast; rfl
    refine ⟨cm, ?_⟩
    rw [e]
    by_cases hs : h.n * o.n ≤ 16
    rotate_left
    · rw [if_neg (by omega)]
      exact drawn (fun d => Qd (.fz (.tup [hD h, hD o, d]))) fun f M => q h o f ⟨L, L', M, by omega, by omega⟩
    rw [if_pos (by omega)]
    have PL := prod_lat L L' (by omega)
    have d : ∀ {x}, x < h.n * o.n → x / o.n < h.n := fun {x} hx => Nat.div_lt_of_lt_mul (by rw [Nat.mul_comm]; exact hx)
    have m : ∀ {x : Nat}, x % o.n < o.n := fun {x} => Nat.mod_lt _ p
    have po : (0 : Int) < (o.n : Int) := by omega
    generalize hN : h.n * o.n = M at hs d PL ⊢
    intro G3 hG3
    refine ⟨dk.ext hG3, fun j hj0 hj1 => ⟨cm, by omega, by omega, ?_⟩⟩
    rw [Int.toNat_natCast, range_tab]
    have hj : j = 0 ∨ j = 1 := by omega
    rcases hj with rfl | rfl
    · refine wcL_onM (fun y => eI (y / o.n)) _ _ (fun y hy G' hG Qy hq => ?_) (len_small (by simp; omega)) ?_
      · simp [wipeD, cd]
        rw [div_cast]
        exact hq
      · have im : immL ((List.range M).map fun y => eI (y / o.n)) = true := imm_tab fun _ _ => imm_int
        simp [im]
        refine ⟨h, o, rfl, L, L', by omega, ?_⟩
        simp
        have := q (nrm M (prodR h o)) h ((List.range M).map fun y => y / o.n) ⟨PL.lat, L, ⟨by simp; rfl, fun z hz => by
          obtain ⟨y, hy, rfl⟩ := List.mem_map.mp hz
          exact d (List.mem_range.mp hy)⟩, hs, by omega⟩
        rw [tL_map] at this
        rw [hN]
        exact this
    · refine wcL_onM (fun y => eI (y % o.n)) _ _ (fun y hy G' hG Qy hq => ?_) (len_small (by simp; omega)) ?_
      · simp [wipeD, cd, po]
        rw [mod_cast']
        exact ⟨p, hq⟩
      · have im : immL ((List.range M).map fun y => eI (y % o.n)) = true := imm_tab fun _ _ => imm_int
        simp [im]
        refine ⟨h, o, rfl, L, L', by omega, ?_⟩
        simp
        have := q (nrm M (prodR h o)) o ((List.range M).map fun y => y % o.n) ⟨PL.lat, L', ⟨by simp; rfl, fun z hz => by
          obtain ⟨y, hy, rfl⟩ := List.mem_map.mp hz
          exact m⟩, hs, by omega⟩
        rw [tL_map] at this
        rw [hN]
        exact this
  · refine ⟨dk, hp, by omega, fun x hx0 hx1 => ?_⟩
    obtain ⟨x, rfl⟩ := Int.eq_ofNat_of_zero_le hx0
    have hx : x < h.n := by omega
    refine ⟨by omega, ?_⟩
    rw [range_tab]
    refine wcL_onM (fun y => .int (bI (h.r x y))) _ _ (fun y hy G' hG Qy hq => ?_) (len_small (by simp; omega)) ?_
    · have hy := List.mem_range.mp hy
      simp [wipeD, ix_h hx, ix_r hy, hq]
    · have := q h (famH [0, 1]) ((List.range h.n).map fun y => if h.r x y = true then 1 else 0) ⟨L, two_lat, ⟨by simp, fun z hz => by
        obtain ⟨y, hy, rfl⟩ := List.mem_map.mp hz
        show _ < 2
        cases h.r x y <;> decide⟩, by omega, by decide⟩
      rw [two_hD, tL_map] at this
      have e : ((List.range h.n).map fun y => D.int (bI (h.r x y))) = (List.range h.n).map fun y => eI (if h.r x y = true then 1 else 0) := List.map_congr_left fun y _ => by
        show D.int (bI (h.r x y)) = eI (if h.r x y = true then 1 else 0)
        cases h.r x y <;> rfl
      rw [e]
      exact this
  · exact metd (Q := fun d => Qd (.fz (.tup [hD h, hD h, d]))) dk L hp hn fun f M => q h h f ⟨L, L, M, by omega, by omega⟩
  · exact metd (Q := fun d => Qd (.fz (.tup [hD h, hD h, d]))) dk L hp hn fun f M => q h h f ⟨L, L, M, by omega, by omega⟩
  · have im : immL (rangeD 0 h.n) = true := by rw [range_tab]; exact imm_tab fun _ _ => imm_int
    refine ⟨by omega, ?_⟩
    simp [im, dk]
    refine ⟨hp, by omega, fun x hx0 hx1 => ?_⟩
    refine ⟨hp, by omega, fun j hj0 hj1 => ?_⟩
    obtain ⟨x, rfl⟩ := Int.eq_ofNat_of_zero_le hx0
    obtain ⟨j, rfl⟩ := Int.eq_ofNat_of_zero_le hj0
    have hj : j < h.n := by omega
    rw [k_sto (j := j) (by rw [range_tab, tab_len]; exact ixN_nat hj)]
    simp
    have e : (rangeD 0 h.n).set j (eI x) = ((List.range h.n).set j x).map eI := by rw [range_tab, List.map_set]
    rw [e]
    exact q h h ((List.range h.n).set j x) ⟨L, L, ⟨by simp, fun z hz => by
      rcases List.mem_or_eq_of_mem_set hz with a | a
      · exact List.mem_range.mp a
      · rw [a]; omega⟩, by omega, by omega⟩
  · exact drawn (fun d => Qd (.fz (.tup [hD h, hD o, d]))) fun f M => q h o f ⟨L, L', M, by omega, by omega⟩
end K87
set_option maxHeartbeats 4000000
namespace K87
open PySem PySem.Spec PyProof.Rows L2 DL Hou

/-! ### the law's own list of faults -/
structure FltsOk (h o : Ho) (f : List Nat) (fs : List Ct) : Prop where
  g : Ct.good ∉ fs
  m : ∀ b x y, Ct.flt b x y ∈ fs ↔ x < y ∧ y < h.n ∧ Flt h o f b x y
def s__law_faults : FS := fun _ ds Q => ∃ (h o : Ho) (f : List Nat), ds = [hD h, hD o, tL f] ∧ Lat h ∧ Lat o ∧ IsMap h o f ∧ ∀ fs : List Ct, FltsOk h o f fs → Q (.ow (fs.map ctD))
theorem fl_step {h o : Ho} {f : List Nat} {x y : Nat} {fs e0 e1 : List Ct} (hx : x < y) (g : Ct.good ∉ fs) (m : ∀ b u v, Ct.flt b u v ∈ fs ↔ u < v ∧ (v < y ∨ (v = y ∧ u < x)) ∧ Flt h o f b u v)
    (a0 : (Flt h o f false x y ∧ e0 = [.flt false x y]) ∨ (¬ Flt h o f false x y ∧ e0 = [])) (a1 : (Flt h o f true x y ∧ e1 = [.flt true x y]) ∨ (¬ Flt h o f true x y ∧ e1 = [])) :
    Ct.good ∉ fs ++ e0 ++ e1 ∧ ∀ b u v, Ct.flt b u v ∈ fs ++ e0 ++ e1 ↔ u < v ∧ (v < y ∨ (v = y ∧ u < x + 1)) ∧ Flt h o f b u v := by
  have i0 : ∀ c, c ∈ e0 ↔ c = .flt false x y ∧ Flt h o f false x y := fun c => by
    rcases a0 with ⟨p, e⟩ | ⟨p, e⟩ <;> subst e <;> simp [p]
  have i1 : ∀ c, c ∈ e1 ↔ c = .flt true x y ∧ Flt h o f true x y := fun c => by
    rcases a1 with ⟨p, e⟩ | ⟨p, e⟩ <;> subst e <;> simp [p]
  constructor
  · intro z
    rw [List.mem_append, List.mem_append, i0, i1] at z
    rcases z with (z | ⟨z, _⟩) | ⟨z, _⟩
    · exact g z
    · cases z
    · cases z
  · intro b u v
    rw [List.mem_append, List.mem_append, i0, i1, m]
    constructor
    · rintro ((⟨p, q, r⟩ | ⟨e, r⟩) | ⟨e, r⟩)
      · exact ⟨p, by omega, r⟩
      · cases e; exact ⟨hx, .inr ⟨rfl, Nat.lt_succ_self _⟩, r⟩
      · cases e; exact ⟨hx, .inr ⟨rfl, Nat.lt_succ_self _⟩, r⟩
    · rintro ⟨p, q, r⟩
      by_cases e : v = y ∧ u = x
      · obtain ⟨rfl, rfl⟩ := e
        cases b
        · exact .inl (.inr ⟨rfl, r⟩)
        · exact .inr ⟨rfl, r⟩
      · exact .inl (.inl ⟨p, by omega, r⟩)
theorem p__law_faults : Keeps P__law_faults N__law_faults s__law_faults (w__law_faults s__law_met) := fun G ds Qd z => by
  obtain ⟨h, o, f, rfl, L, L', M, q⟩ := z
  refine ⟨rfl, ?_⟩
  have hn := L.le
  simp only [N__law_faults, w__law_faults, startD]
  simp [range_tab]
  refine ⟨by omega, ?_⟩
  refine wFor_tab (fun y ρ => ∃ fs a b c d, ρ = [some (.fz (hD h)), some (.fz (hD o)), some (.fz (tL f)), some (.ow (fs.map ctD)), a, b, c, d] ∧ Ct.good ∉ fs ∧ (∀ b u v, Ct.flt b u v ∈ fs ↔ u < v ∧ v < y ∧ Flt h o f b u v) ∧ fs.length ≤ 48 * y) ⟨[], _, _, _, _, rfl, by simp, fun b u v => by simp, Nat.zero_le _⟩ (fun y hy ρ ⟨fs, a, b, c, d, hρ, g, m, hl⟩ N hN => ?_) (fun ρ ⟨fs, a, b, c, d, hρ, g, m, hl⟩ => ?_)
  rotate_left
  · subst hρ
    simp
    exact q fs ⟨g, m⟩
  subst hρ
  simp [range_tab]
  refine ⟨by omega, ?_⟩
  refine wFor_tab (fun x ρ => ∃ fs b c d, ρ = [some (.fz (hD h)), some (.fz (hD o)), some (.fz (tL f)), some (.ow (fs.map ctD)), some (.fz (eI y)), b, c, d] ∧ Ct.good ∉ fs ∧ (∀ b u v, Ct.flt b u v ∈ fs ↔ u < v ∧ (v < y ∨ (v = y ∧ u < x)) ∧ Flt h o f b u v) ∧ fs.length ≤ 48 * y + 2 * x) ⟨fs, _, _, _, rfl, g, fun b u v => by simp [m], by omega⟩ (fun x hx ρ ⟨fs, b, c, d, hρ, g, m, hl⟩ N hN2 => ?_) (fun ρ ⟨fs, b, c, d, hρ, g, m, hl⟩ => ?_)
  rotate_left
  · exact hN ρ ⟨fs, _, b, c, d, hρ, g, fun b u v => by rw [m]; constructor <;> (rintro ⟨p, q, r⟩; exact ⟨p, by omega, r⟩), by omega⟩
  subst hρ
  have xh : x < h.n := by omega
  have l1 : x < f.length := by rw [M.1]; omega
  have l2 : y < f.length := by rw [M.1]; omega
  have l3 : ∀ b, op h b x y < f.length := fun b => by rw [M.1]; exact op_lt L b xh hy
  have m1 := at_lt M xh
  have m2 := at_lt M hy
  simp
  refine ⟨h, x, y, rfl, L, xh, hy, ?_⟩
  simp [k_eI l1, k_eI l2]
  intro G1 hG1
  refine ⟨o, at_ f x, at_ f y, rfl, L', m1, m2, ?_⟩
  simp [k_eI (l3 false), k_eI (l3 true)]
  have fin : ∀ e0 e1 : List Ct, ((Flt h o f false x y ∧ e0 = [.flt false x y]) ∨ (¬ Flt h o f false x y ∧ e0 = [])) → ((Flt h o f true x y ∧ e1 = [.flt true x y]) ∨ (¬ Flt h o f true x y ∧ e1 = [])) →
      ∀ b c d, N [some (.fz (hD h)), some (.fz (hD o)), some (.fz (tL f)), some (.ow ((fs ++ e0 ++ e1).map ctD)), some (.fz (eI y)), b, c, d] := fun e0 e1 a0 a1 b c d => by
    obtain ⟨g', m'⟩ := fl_step hx g m a0 a1
    refine hN2 _ ⟨_, b, c, d, rfl, g', m', ?_⟩
    have k0 : e0.length ≤ 1 := by rcases a0 with ⟨_, e⟩ | ⟨_, e⟩ <;> subst e <;> simp
    have k1 : e1.length ≤ 1 := by rcases a1 with ⟨_, e⟩ | ⟨_, e⟩ <;> subst e <;> simp
    simp only [List.length_append]
    omega
  have sz : fs.length + 2 ≤ sizeLine := by rw [sizeLine_eq]; omega
  have nt : ∀ m n : Nat, ((m : Nat) : Int) = (n : Int) ↔ m = n := fun m n => by omega
  by_cases f0 : at_ f (op h false x y) = op o false (at_ f x) (at_ f y) <;> by_cases f1 : at_ f (op h true x y) = op o true (at_ f x) (at_ f y) <;> simp only [nt, f0, f1, if_true, if_false]
  · have e := fin [] [] (.inr ⟨fun z => z f0, rfl⟩) (.inr ⟨fun z => z f1, rfl⟩)
    simp only [List.append_nil] at e
    exact e _ _ _
  · have e := fin [] [.flt true x y] (.inr ⟨fun z => z f0, rfl⟩) (.inl ⟨f1, rfl⟩)
    simp only [List.append_nil, List.map_append, List.map_cons, List.map_nil, ctD, wd] at e
    exact ⟨by omega, e _ _ _⟩
  · have e := fin [.flt false x y] [] (.inl ⟨f0, rfl⟩) (.inr ⟨fun z => z f1, rfl⟩)
    simp only [List.append_nil, List.map_append, List.map_cons, List.map_nil, ctD, wd] at e
    exact ⟨by omega, e _ _ _⟩
  · have e := fin [.flt false x y] [.flt true x y] (.inl ⟨f0, rfl⟩) (.inl ⟨f1, rfl⟩)
    simp only [List.append_nil, List.map_append, List.map_cons, List.map_nil, ctD, wd, List.append_assoc, List.cons_append, List.nil_append] at e
    exact ⟨by omega, by omega, e _ _ _⟩
end K87
set_option maxHeartbeats 4000000
namespace K87
open PySem PySem.Spec PyProof.Rows L2 DL Hou

/-! ### what the law says of the map's certificate -/
def s__law_is_map_right : FS := fun G ds Q => ∃ (da : Addr) (h o : Ho) (f : List Nat) (fs : List Ct), ds = [.ob da, hD h, hD o, tL f, .lst (fs.map ctD)] ∧ IsDeck G da ∧ CaseOk h o f ∧ FltsOk h o f fs ∧ Q (.fz (.bl true))
theorem rep_bl {b : Bool} {Q : SV → Prop} (q : Q (.fz (.str (PyData.bool b).shown))) : oRepr [.bl b] Q := oRepr_of (shw_bl b) fun p e => by
  cases e
  exact q
theorem mx1 {g : Int → Int → Int} {w : Str} {a d : Int} {Q : SV → Prop} : oMax1 g [.tup (DL.cutD [.str w, .int a, .int d] (some 1) none)] Q ↔ Q (.fz (.int (g a d))) := by
  have n1 : itemsOf (.tup (DL.cutD [.str w, .int a, .int d] (some 1) none)) = some (([a, d] : List Int).map .int) := rfl
  constructor
  · rintro ⟨x, n, ns, e, e2, q⟩
    cases e
    rw [n1] at e2
    injection e2 with e2
    cases ns with
    | nil => exact absurd e2 (by simp)
    | cons n' ns =>
      cases ns with
      | cons _ _ => exact absurd e2 (by simp)
      | nil =>
        simp at e2
        obtain ⟨rfl, rfl⟩ := e2
        exact q
  · exact fun q => ⟨_, a, [d], rfl, n1, q⟩
theorem p__law_is_map_right : Keeps P__law_is_map_right N__law_is_map_right s__law_is_map_right (w__law_is_map_right s_draw s_judge_map s_map_holds s_pick) := fun G ds Qd z => by
  obtain ⟨da, h, o, f, fs, rfl, dk, C, F, q⟩ := z
  refine ⟨rfl, ?_⟩
  obtain ⟨L, L', M, hn, on⟩ := C
  have hp := L.pos
  have gi : Good h o f ↔ fs = [] := by
    rw [good_iff L L' M]
    constructor
    · intro g
      refine List.eq_nil_iff_forall_not_mem.mpr fun c hc => ?_
      cases c with
      | good => exact F.g hc
      | flt b x y =>
        obtain ⟨h1, h2, h3⟩ := (F.m b x y).mp hc
        exact g b x y h1 h2 h3
    · intro e b x y h1 h2 h3
      have := (F.m b x y).mpr ⟨h1, h2, h3⟩
      rw [e] at this
      exact absurd this List.not_mem_nil
  have fi : ∀ {b x y}, x < h.n → y < h.n → (Flt h o f b x y ↔ Ct.flt b (min x y) (max x y) ∈ fs) := fun {b x y} hx hy => by
    rw [flt_mm L L' M hx hy, F.m]
    exact ⟨fun ⟨a, c⟩ => ⟨a, Nat.max_lt.mpr ⟨hx, hy⟩, c⟩, fun ⟨a, _, c⟩ => ⟨a, c⟩⟩
  simp only [N__law_is_map_right, w__law_is_map_right, startD]
  rw [s_seq, s_set]
  refine ⟨by simp, ?_⟩
  have told : ∀ Q : SV → Prop, (∀ c, inH h c → Rgt h o f c → Q (.fz (ctD c))) → (woIf (wtV (wOp oEq (wFz (woCall s_draw (waCons (wVar 0) (waCons (wC (.int 2)) (waNil))))) (wC (.int 0)))) (woCall s_judge_map (waCons (wVar 1) (waCons (wVar 2) (waCons (wVar 3) (waNil))))) (woCallK 3 [2, 1, 0] s_judge_map (waCons (wVar 3) (waCons (wVar 2) (waCons (wVar 1) (waNil))))))
      G [some (.fz (.ob da)), some (.fz (hD h)), some (.fz (hD o)), some (.fz (tL f)), some (.fz (.lst (fs.map ctD))), none, none, none, none, none] Q := fun Q hQ => by
    simp [dk]
    intro j hj0 hj1
    have t : s_judge_map G [hD h, hD o, tL f] Q := ⟨h, o, f, rfl, L, L', M, fun g => hQ .good trivial g, fun b x y hx hy fl => hQ (.flt b x y) ⟨hx, hy⟩ fl⟩
    split
    · exact t
    · exact t
  refine told _ fun c hc rc => ?_
  simp [imm_ct]
  refine ⟨h, o, f, c, rfl, L, L', M, hc, fun v hv => ?_⟩
  obtain rfl : v = true := hv.mpr rc
  simp
  by_cases e : fs = []
  rw [if_pos e]
  obtain rfl : c = .good := by
    cases c with
    | good => rfl
    | flt b x y =>
      have := (fi hc.1 hc.2).mp rc
      rw [e] at this
      exact absurd this List.not_mem_nil
  simp
  rotate_left
  rw [if_neg e]
  obtain ⟨b, x, y, rfl⟩ : ∃ b x y, c = .flt b x y := by
    cases c with
    | good => exact absurd (gi.mp rc) e
    | flt b x y => exact ⟨b, x, y, rfl⟩
  have mm := (fi hc.1 hc.2).mp rc
  have n1 : ∀ a d : Int, itemsOf (.tup (cutD [.str (wd b), .int a, .int d] (some 1) none)) = some (([a, d] : List Int).map .int) := fun a d => rfl
  simp [ctD]
  rw [mx1]
  simp
  rw [mx1]
  simp
  rw [show min (x : Int) (y : Int) = ((min x y : Nat) : Int) by omega, show max (x : Int) (y : Int) = ((max x y : Nat) : Int) by omega]
  rw [ct_nin, decide_eq_true mm]
  simp
  all_goals
    refine ⟨dk, fun w hw => ?_⟩
    obtain ⟨b', rfl⟩ : ∃ b', w = .str (wd b') := by
      simp only [List.mem_cons, List.not_mem_nil, or_false] at hw
      rcases hw with rfl | rfl
      · exact ⟨false, rfl⟩
      · exact ⟨true, rfl⟩
    intro G1 hG1
    refine ⟨dk.ext hG1, hp, by omega, fun i hi0 hi1 G2 hG2 => ⟨(dk.ext hG1).ext hG2, hp, by omega, fun j hj0 hj1 => ?_⟩⟩
    obtain ⟨i, rfl⟩ := Int.eq_ofNat_of_zero_le hi0
    obtain ⟨j, rfl⟩ := Int.eq_ofNat_of_zero_le hj0
    have hi : i < h.n := by omega
    have hj : j < h.n := by omega
    simp [imm_ct]
    rw [show min (i : Int) (j : Int) = ((min i j : Nat) : Int) by omega, show max (i : Int) (j : Int) = ((max i j : Nat) : Int) by omega]
    rw [ct_in]
    simp [imm_ct]
    refine ⟨h, o, f, .flt b' i j, rfl, L, L', M, ⟨hi, hj⟩, fun v hv => ?_⟩
    have ev : v = decide (Ct.flt b' (min i j) (max i j) ∈ fs) := by
      rw [Bool.eq_iff_iff, decide_eq_true_iff, hv]
      exact fi hi hj
    rw [← ev]
    simp
    refine rep_bl ?_
    simp
    refine rep_bl ?_
    simp
    refine ⟨h, o, f, .good, rfl, L, L', M, trivial, fun u hu => ?_⟩
    have eu : u = decide (fs = []) := by
      rw [Bool.eq_iff_iff, decide_eq_true_iff, hu]
      exact gi
    rw [eu]
    simp
    refine rep_bl ?_
    simp
    refine rep_bl ?_
    simpa using q
end K87
set_option maxHeartbeats 4000000
namespace K87
open PySem PySem.Spec PyProof.Rows L2 DL Hou

/-! ### what the law says of led rows -/
@[simp ↓] theorem s_catch {P : Addr} {q : Str} {Kc : Str → Prop} {w : WOX} {G : Gc} {ρ : En} {Q : SV → Prop} : woCatch P q Kc w G ρ Q ↔ IsTab G P q ∧ w G ρ (fun _ => Q (.fz .non)) fun n x => Kc n ∧ Q (.fz x) := Iff.rfl
abbrev lamQ : Str := "_law_is_led_right.<locals>." ++ "<lambda>"
def s_led_row : FS := fun G ds Q => sx_led_row G ds Q fun _ _ => False
def s__law_is_led_right (P : Addr) : FS := fun G ds Q => ∃ (da : Addr) (h o : Ho) (f : List Nat) (fs : List Ct), ds = [.ob da, hD h, hD o, tL f, .lst (fs.map ctD)] ∧ IsDeck G da ∧ IsTab G P lamQ ∧ CaseOk h o f ∧ FltsOk h o f fs ∧ Q (.fz (.bl true))
theorem flt_good {h o : Ho} {f : List Nat} {fs : List Ct} (L : Lat h) (L' : Lat o) (M : IsMap h o f) (F : FltsOk h o f fs) : Good h o f ↔ fs = [] := by
  rw [good_iff L L' M]
  constructor
  · intro g
    refine List.eq_nil_iff_forall_not_mem.mpr fun c hc => ?_
    cases c with
    | good => exact F.g hc
    | flt b x y =>
      obtain ⟨h1, h2, h3⟩ := (F.m b x y).mp hc
      exact g b x y h1 h2 h3
  · intro e b x y h1 h2 h3
    have := (F.m b x y).mpr ⟨h1, h2, h3⟩
    rw [e] at this
    exact absurd this List.not_mem_nil
abbrev planB : WS := wSeq (wSet 10 (woCall s_draw (waCons (wVar 0) (waCons (wVar 6) (waNil))))) (wSet 7 (wOpO oAdd (wVar 7) (wTup (waCons (wTup (waCons (wVar 10) (waCons (wOp (oI (fun _ j => 0 < j) fun i j => i % j) (wFz (woCB oInt (waCons (wFz (wOpO oAdd (wFz (wOpO oAdd (wVar 10) (wC (.int 1)))) (wFz (woCall s_draw (waCons (wVar 0) (waCons (wOp (oI0 fun i j => i - j) (wVar 6) (wC (.int 1))) (waNil))))))) (waNil)))) (wVar 6)) (waNil)))) (waNil)))))
theorem mod_ne {i d m : Nat} (hi : i < m) (hd : d + 1 < m) : (i + 1 + d) % m ≠ i := by
  by_cases h : i + 1 + d < m
  · rw [Nat.mod_eq_of_lt h]; omega
  · rw [Nat.mod_eq_sub_mod (by omega), Nat.mod_eq_of_lt (by omega)]; omega
theorem plan_loop {G : Gc} {E : EndsD} {da : Addr} (dk : IsDeck G da) {m n : Nat} (hm : 1 < m) (hm6 : m ≤ 6) (hn : n ≤ 13) {a1 a2 a3 a4 a5 a8 a9 a10 a11 a12 a13 a14 a15 a16 : Option SV} (q : ∀ ps : List (Nat × Nat), PlanOk m ps → ps.length ≤ 13 → ∀ b c, E.nx [some (.fz (.ob da)), a1, a2, a3, a4, a5, some (.fz (eI m)), some (.fz (plD ps)), a8, b, c, a11, a12, a13, a14, a15, a16]) :
    wForL (wgName 9) planB G E (tab n eI) [some (.fz (.ob da)), a1, a2, a3, a4, a5, some (.fz (eI m)), some (.fz (.tup [])), a8, a9, a10, a11, a12, a13, a14, a15, a16] := by
  refine wFor_tab (fun x ρ => ∃ ps : List (Nat × Nat), PlanOk m ps ∧ ps.length ≤ x ∧ ∃ b c, ρ = [some (.fz (.ob da)), a1, a2, a3, a4, a5, some (.fz (eI m)), some (.fz (plD ps)), a8, b, c, a11, a12, a13, a14, a15, a16]) ⟨[], fun p hp => absurd hp List.not_mem_nil, Nat.zero_le _, _, _, rfl⟩ (fun x hx ρ ⟨ps, P, hl, b, c, hρ⟩ N hN => ?_) fun ρ ⟨ps, P, hl, b, c, hρ⟩ => ?_
  · subst hρ
    simp [planB, dk]
    refine ⟨by omega, by omega, fun i hi0 hi1 => ?_⟩
    obtain ⟨i, rfl⟩ := Int.eq_ofNat_of_zero_le hi0
    have hi : i < m := by omega
    refine ⟨by omega, by omega, fun d hd0 hd1 => ?_⟩
    obtain ⟨d, rfl⟩ := Int.eq_ofNat_of_zero_le hd0
    have hd : d + 1 < m := by omega
    have im : immL (ps.map pN) = true := immL_all fun e he => by
      obtain ⟨p, _, rfl⟩ := List.mem_map.mp he
      rfl
    have e1 : (((i : Nat) : Int) + 1 + ((d : Nat) : Int)) % ((m : Nat) : Int) = (((i + 1 + d) % m : Nat) : Int) := by push_cast; rfl
    refine ⟨by omega, by rw [sizeLine_eq]; omega, ?_⟩
    rw [e1]
    have im2 : immL (ps.map pN ++ [D.tup [eI i, eI ((i + 1 + d) % m)]]) = true := immL_all fun e he => by
      rcases List.mem_append.mp he with he | he
      · obtain ⟨p, _, rfl⟩ := List.mem_map.mp he
        rfl
      · rw [List.mem_singleton.mp he]; rfl
    simp only [k_put, imm_tup, im2, immS]
    refine hN _ ⟨ps ++ [(i, (i + 1 + d) % m)], fun p hp => ?_, by simp; omega, some (.fz (eI x)), some (.fz (eI i)), ?_⟩
    · rcases List.mem_append.mp hp with hp | hp
      · exact P p hp
      · rw [List.mem_singleton.mp hp]
        exact ⟨hi, Nat.mod_lt _ (by omega), fun z => mod_ne hi hd z.symm⟩
    · rw [show plD (ps ++ [(i, (i + 1 + d) % m)]) = D.tup (ps.map pN ++ [D.tup [eI i, eI ((i + 1 + d) % m)]]) by show D.tup _ = D.tup _; rw [List.map_append]; rfl]
      rfl
  · subst hρ
    exact q ps P (by omega) b c
theorem p__law_is_led_right (P : Addr) : Keeps P__law_is_led_right N__law_is_led_right (s__law_is_led_right P) (w__law_is_led_right P kc s_pick s_draw s_led_row s_behind s__law_behind s__law_met s__law_faults s_judge_map sx_led_row) := fun G ds Qd z => by
  obtain ⟨da, h, o, f, fs, rfl, dk, tb, C, F, q⟩ := z
  refine ⟨rfl, ?_⟩
  obtain ⟨L, L', M, hn, on⟩ := C
  have hp := L.pos
  have op_ := L'.pos
  have gi := flt_good L L' M F
  have shf : Shw (tL f) := shw_tL (fun n hx => by have := M.2 n hx; omega) (by rw [M.1]; omega)
  simp only [N__law_is_led_right, w__law_is_led_right, startD]
  simp [dk]
  intro x hx
  obtain ⟨k, hk1, hk2, rfl⟩ : ∃ n : Nat, 1 ≤ n ∧ n ≤ 6 ∧ x = eI n := by
    simp only [List.mem_cons, List.not_mem_nil, or_false] at hx
    rcases hx with rfl | rfl | rfl | rfl | rfl
    · exact ⟨3, by decide, by decide, rfl⟩
    · exact ⟨2, by decide, by decide, rfl⟩
    · exact ⟨4, by decide, by decide, rfl⟩
    · exact ⟨6, by decide, by decide, rfl⟩
    · exact ⟨1, by decide, by decide, rfl⟩
  simp [range_tab]
  refine ⟨by omega, ?_⟩
  refine wcL_onA eI (fun x => x < h.n) _ [] _ (fun x hx G' hG Qy hy => ?_) (len_small (by simp; omega)) fun row hl R => ?_
  · have dk2 := dk.ext hG
    simp [wipeD, dk2]
    refine ⟨hp, by omega, fun k hk0 hk1 => ?_⟩
    obtain ⟨k, rfl⟩ := Int.eq_ofNat_of_zero_le hk0
    exact hy k (by omega)
  have hl : row.length = k := by simpa using hl
  rw [List.nil_append]
  simp [imm_eIs]
  by_cases e : fs = []
  rotate_left
  · rw [if_neg e]
    refine ⟨tb, ?_⟩
    refine ⟨h, o, f, row, rfl, L, L', M, R, by omega, by omega, fun g => absurd (gi.mp g) e, fun _ => ⟨rfl, ?_⟩⟩
    refine oRepr_of shf fun p ep => ?_
    simp
    refine oRepr_of shf fun p' ep' => ?_
    rw [ep] at ep'
    cases ep'
    simpa using q
  rw [if_pos e]
  have g := gi.mpr e
  intro G1 hG1 G2 hG2
  refine wcL_onM (fun x => eI (at_ f x)) _ _ (fun x hx G' hG Qy hy => ?_) (len_small (by omega)) ?_
  · have : x < f.length := by rw [M.1]; exact R x hx
    simp [wipeD, k_eI this, hy]
  rw [show row.map (fun x => eI (at_ f x)) = (row.map (at_ f)).map eI by rw [List.map_map]; rfl]
  obtain ⟨due, hdue⟩ : ∃ d, d = row.map (at_ f) := ⟨_, rfl⟩
  rw [← hdue]
  simp [imm_eIs]
  have dl : due.length = row.length := by rw [hdue, List.length_map]
  have RD : RowOk o due := fun x hx => by
    rw [hdue] at hx
    obtain ⟨y, hy, rfl⟩ := List.mem_map.mp hx
    exact at_lt M (R y hy)
  have shd : Shw (tL due) := shw_tL (fun n hx => by have := RD n hx; omega) (by omega)
  by_cases hk : 1 < row.length
  rw [if_pos (by omega)]
  refine ⟨dk, fun n hn0 hn1 => ⟨by omega, by omega, ?_⟩⟩
  rw [range_tab]
  refine plan_loop dk hk (by omega) (by omega) fun ps PO hps b c => ?_
  rotate_left
  rw [if_neg (by omega)]
  obtain ⟨ps, ep, PO, hps⟩ : ∃ ps, D.tup [] = plD ps ∧ PlanOk row.length ps ∧ ps.length ≤ 13 := ⟨[], rfl, fun p hp => absurd hp List.not_mem_nil, Nat.zero_le _⟩
  rw [ep]
  show EndsD.nx _ _
  all_goals dsimp only
  all_goals simp [dk]
  all_goals intro j hj0 hj1
  all_goals split
  all_goals refine ⟨h, o, f, row, rfl, L, L', M, R, by omega, by omega, fun _ => ?_, fun ng => absurd g ng⟩
  all_goals rw [← hdue]
  all_goals simp [imm_eIs]
  all_goals refine oRepr_of shd fun p ep => ?_
  all_goals simp
  all_goals refine oRepr_of shd fun p' ep' => ?_
  all_goals rw [ep] at ep'
  all_goals cases ep'
  all_goals simp
  all_goals refine ⟨h, row, ps, rfl, L, R, by omega, by omega, PO, by omega, ?_⟩
  all_goals simp
  all_goals refine wcL_onM (fun x => eI (at_ f x)) _ _ (fun x hx G' hG Qy hy => ?_) (len_small (by rw [(behR_ok L R PO).2]; omega)) ?_
  rotate_left
  rotate_left
  all_goals first
    | (have : x < f.length := by rw [M.1]; exact (behR_ok L R PO).1 x hx
       simp [wipeD, k_eI this, hy]
       done)
    | skip
  all_goals rw [show (behR h row ps).map (fun x => eI (at_ f x)) = (behR o due ps).map eI by rw [hdue, ← behR_led L g R PO, List.map_map]; rfl]
  all_goals have PD : PlanOk due.length ps := by rw [dl]; exact PO
  all_goals have fo := behR_ok L' RD PD
  all_goals obtain ⟨far, hfar⟩ : ∃ d, d = behR o due ps := ⟨_, rfl⟩
  all_goals rw [← hfar] at fo ⊢
  all_goals have shr : Shw (tL far) := shw_tL (fun n hx => by have := fo.1 n hx; omega) (by omega)
  all_goals simp [imm_eIs]
  all_goals refine ⟨o, due, ps, rfl, L', RD, by omega, by omega, PD, by omega, ?_⟩
  all_goals rw [← hfar]
  all_goals simp
  all_goals refine oRepr_of shr fun p ep => ?_
  all_goals simp
  all_goals refine oRepr_of shr fun p' ep' => ?_
  all_goals rw [ep] at ep'
  all_goals cases ep'
  all_goals simp
  all_goals refine oRepr_of shr fun p' ep' => ?_
  all_goals rw [ep] at ep'
  all_goals cases ep'
  all_goals simp
  all_goals refine ⟨o, due, ps, rfl, L', RD, PD, ?_⟩
  all_goals rw [← hfar]
  all_goals simp
  all_goals refine oRepr_of shr fun p' ep' => ?_
  all_goals rw [ep] at ep'
  all_goals cases ep'
  all_goals simp [dk]
  all_goals refine ⟨op_, by omega, fun l hl0 hl1 => ?_⟩
  all_goals obtain ⟨l, rfl⟩ := Int.eq_ofNat_of_zero_le hl0
  all_goals have hl : l < o.n := by omega
  all_goals refine ⟨by omega, ?_⟩
  all_goals rw [range_tab]
  all_goals refine wcL_onM (fun y => eI (op o false y l)) _ _ (fun y hy G' hG Qy hq => ?_) (len_small (by simp; omega)) ?_
  all_goals first
    | (have hy := List.mem_range.mp hy
       simp [wipeD]
       refine ⟨o, y, l, rfl, L', hy, hl, ?_⟩
       simp [hq]
       done)
    | skip
  all_goals obtain ⟨more, hmore⟩ : ∃ d, d = (List.range o.n).map fun y => op o false y l := ⟨_, rfl⟩
  all_goals rw [show (List.range o.n).map (fun y => eI (op o false y l)) = more.map eI by rw [hmore, List.map_map]; rfl]
  all_goals have MM : IsMap o o more := ⟨by rw [hmore]; simp, fun z hz => by
      rw [hmore] at hz
      obtain ⟨y, hy, rfl⟩ := List.mem_map.mp hz
      exact op_lt L' false (List.mem_range.mp hy) hl⟩
  all_goals simp [imm_eIs]
  all_goals refine ⟨o, o, more, rfl, L', L', MM, fun gs GF => ?_⟩
  all_goals simp
  all_goals by_cases eg : gs = []
  all_goals first
    | (rw [if_neg eg]
       exact q
       done)
    | (rw [if_pos eg])
  all_goals have gm : Good o o more := (flt_good L' L' MM GF).mpr eg
  all_goals refine wcL_onM (fun x => eI (at_ more x)) _ _ (fun x hx G' hG Qy hy => ?_) (len_small (by rw [M.1]; omega)) ?_
  all_goals first
    | (have : x < more.length := by rw [MM.1]; exact M.2 x hx
       simp [wipeD, k_eI this, hy]
       done)
    | skip
  all_goals rw [show f.map (fun x => eI (at_ more x)) = (f.map (at_ more)).map eI by rw [List.map_map]; rfl]
  all_goals have gc := good_comp L L' M MM g gm
  all_goals refine ⟨h, o, f.map (at_ more), rfl, L, L', map_comp M MM, fun _ => ?_, fun b x y hx hy fl => absurd fl (gc b x y hx hy)⟩
  all_goals simpa using q
end K87
set_option maxHeartbeats 4000000
namespace K87
open PySem PySem.Spec PyProof.Rows L2 DL Hou

/-! ### the law -/
def s_law (K : PySem.W.Frag) (P : Addr) : FS := fun G ds Q => ∃ (a : Addr) (ns : List Int), ds = [.ob a] ∧ ns.length ≤ 63 ∧ (∀ H, G.Wd H → SqL K H a (ns.map V.int)) ∧ IsTab G P lamQ ∧ Q (.fz (.bl true))
theorem p_law (K : PySem.W.Frag) (P : Addr) : Keeps P_law N_law (s_law K P) (w_law K s__law_case s__law_faults s__law_is_map_right (s__law_is_led_right P)) := fun G ds Qd hh => by
  obtain ⟨a, ns, rfl, hl, hs, tb, q⟩ := hh
  refine ⟨rfl, by show 1 < 7; decide, ?_, ⟨a, ns, rfl, hl, hs⟩, ?_⟩
  · intro k sv h
    obtain ⟨d, rfl, _⟩ := startD_get h
    rfl
  · intro da G' hG dk
    have tb := TabIn.ext tb hG
    simp [N_law, startD]
    refine wFor_inv (fun _ ρ => ∃ o2 o3 o4 o5 o6 : Option SV, ρ = [some (.fz (.ob a)), some (.fz (.ob da)), o2, o3, o4, o5, o6]) _ 0 _ ⟨_, _, _, _, _, rfl⟩ (fun i d ρ N _ ⟨o2, o3, o4, o5, o6, e⟩ hN => ?_) (fun ρ _ => q)
    subst e
    have done : ∀ o2 o3 o4 o5 o6 : Option SV, N [some (.fz (.ob a)), some (.fz (.ob da)), o2, o3, o4, o5, o6] := fun o2 o3 o4 o5 o6 => hN _ ⟨o2, o3, o4, o5, o6, rfl⟩
    simp
    refine ⟨da, rfl, dk, fun h o f C => ?_⟩
    simp [imm_eIs]
    refine ⟨h, o, f, rfl, C.L, C.L', C.M, fun fs F => ?_⟩
    have im : immL (fs.map ctD) = true := immL_all fun d hd => by
      obtain ⟨c, _, rfl⟩ := List.mem_map.mp hd
      exact imm_ct c
    simp [im]
    refine ⟨da, h, o, f, fs, rfl, dk, C, F, ?_⟩
    simp
    refine ⟨da, h, o, f, fs, rfl, dk, tb, C, F, ?_⟩
    simp
    exact done _ _ _ _ _
end K87
set_option maxHeartbeats 0
namespace K87
open PySem PySem.Spec PyProof.Rows L2
def dd (x : Str) (i : Nat) : He.DefD := ⟨(x, none), x, x, defArgs (top i), defBody (top i), defScope (top i), [], []⟩
def ddv (x : Str) (i : Nat) (v : List He.Dv) : He.DefD := ⟨(x, none), x, x, defArgs (top i), defBody (top i), defScope (top i), v, []⟩
def dde (x q : Str) (i : Nat) : He.DefD := ⟨(x, some "__init__"), "__init__", q, defArgs (DL.initOf (top i)), defBody (DL.initOf (top i)), defScope (DL.initOf (top i)), [], []⟩
def fn0 : List He.DefD := [dd "is_integer" 9, dd "is_between" 10, dd "are_between" 11, dd "is_word" 12, dd "is_exactly" 13, dd "is_meeting_value" 14, dd "are_meetings" 15, dd "is_plan_value" 16, ddv "is_table_value" 19 [.int 24], dd "mask_of" 20, dd "bits_of" 21, dd "ups_of" 22, dd "downs_of" 23, dd "order_fault" 24, dd "fault_of" 25, dd "is_house_value" 26, dd "boths_of" 27, dd "alls_of" 28, dd "need_house" 30, dd "is_row_value" 31]
def fn1 : List He.DefD := [dd "need_row" 32, dd "need_house_and_row" 33, dd "need_plan" 34, dd "check" 36, dd "is_led" 37, dd "judged_map" 38, dd "judge_map" 39, dd "map_holds" 40, dd "led_row" 41, dd "met_of" 43, dd "row_met" 44, dd "rows_along" 45, dd "row_behind" 46, dd "behind" 48, dd "_law_deck" 50, dd "_law_draw" 51, dd "_law_pick" 52, dd "_law_chains" 53, dd "_law_masks" 54, dd "_law_order" 55]
def fn2 : List He.DefD := [dd "_law_house" 56, dd "_law_met" 57, dd "_law_behind" 58, dd "_law_beside" 59, dd "_law_renamed" 60, dd "_law_case" 61, dd "_law_faults" 62, dd "_law_refused" 63, dd "_law_is_map_right" 64, dd "_law_is_led_right" 65, dd "law" 66, dde "BadMap" "BadMap.__init__" 3]
def fn : List He.DefD := fn0 ++ fn1 ++ fn2
def fa0 : List He.Fa := [.glo "is_integer", .glo "is_between", .glo "are_between", .glo "is_word", .glo "is_exactly", .glo "is_meeting_value", .glo "are_meetings", .glo "is_plan_value", .glo "is_table_value", .glo "mask_of", .glo "bits_of", .glo "ups_of", .glo "downs_of", .glo "order_fault", .glo "fault_of", .glo "is_house_value", .glo "boths_of", .glo "alls_of", .glo "need_house", .glo "is_row_value", .glo "need_row", .glo "need_house_and_row", .glo "need_plan", .glo "check", .glo "is_led", .glo "judged_map", .glo "judge_map", .glo "map_holds", .glo "led_row", .glo "met_of"]
def fa1 : List He.Fa := [.glo "row_met", .glo "rows_along", .glo "row_behind", .glo "behind", .glo "_law_deck", .glo "_law_draw", .glo "_law_pick", .glo "_law_chains", .glo "_law_masks", .glo "_law_order", .glo "_law_house", .glo "_law_met", .glo "_law_behind", .glo "_law_beside", .glo "_law_renamed", .glo "_law_case", .glo "_law_faults", .glo "_law_refused", .glo "_law_is_map_right", .glo "_law_is_led_right", .glo "law", .int "MOST_HANDS" 6, .int "MOST_MEETINGS" 20, .int "MOST_LOTS" 24, .free "all", .free "bool", .free "enumerate", .free "int", .free "isinstance", .free "len"]
def fa2 : List He.Fa := [.free "list", .free "max", .free "min", .free "range", .free "repr", .free "set", .free "sorted", .free "str", .free "sum", .free "tuple", .glo "BadMap", .glo "HouseError", .glo "BadHouse", .exm "BadMap" "BadMap" true]
def fa : List He.Fa := fa0 ++ fa1 ++ fa2
def loose0 : List Str := ["HouseError", "BadHouse", "BadMap", "BadRow", "BadPlan", "MOST_HANDS", "MOST_MEETINGS", "is_integer", "is_between", "are_between", "is_word", "is_exactly", "is_meeting_value", "are_meetings", "is_plan_value", "MOST_LOTS", "is_table_value", "mask_of", "bits_of", "ups_of", "downs_of", "order_fault", "fault_of", "is_house_value", "boths_of", "alls_of", "need_house", "is_row_value", "need_row", "need_house_and_row"]
def loose1 : List Str := ["need_plan", "check", "is_led", "judged_map", "judge_map", "map_holds", "led_row", "met_of", "row_met", "rows_along", "row_behind", "behind", "_law_deck", "_law_draw", "_law_pick", "_law_chains", "_law_masks", "_law_order", "_law_house", "_law_met", "_law_behind", "_law_beside", "_law_renamed", "_law_case", "_law_faults", "_law_refused", "_law_is_map_right", "_law_is_led_right"]
abbrev loose : List Str := loose0 ++ loose1
def ts : List He.Tab := []
def tf : List He.Defn := [("_law_is_led_right", none)]
def ex (K : PySem.W.Frag) : Bool := (DL.errB K (He.ga K "BadMap") (He.ma K (He.ga K "BadMap") "__init__")) && (decide (PySem.W.kitOne K (.ref (He.ga K "BadMap")) (.ref (He.ga K "HouseError")) = some true)) && (decide (PySem.W.kitOne K (.ref (He.ga K "BadMap")) (.ref (He.ga K "BadHouse")) = some false))
abbrev R : PySem.W.OpenRow := PySem.W.OpenLaw.row PySem.Challenge.rw_bothandall_k87_whole_maps_and_plans
abbrev hk : PySem.W.Hook := He.hookX 5 fa fn ts tf ex
def ob (s : PySem.W.SharedT) : He.AlX := He.obsX 5 fa fn ts tf ex (HandSHeadRun.getT s)
theorem ob_eq (s : PySem.W.SharedT) : ob s = hk.obs s.abs := He.obsX_eq (HandSHeadRun.getT_eq s)
theorem run (w : World) : HandSHeadRun.RunEq R (PySem.W.view R.prog [66]) hk ob 4000 loose w := by
  intro os
  kernel_rfl
end K87
set_option maxHeartbeats 4000000
namespace K87
open PySem PySem.Spec PyProof.Rows L2 DL Hou
abbrev Fact (B : Bs) (x : Str) (st : Stmt) (P : List Str) : Prop := ∃ f fd, FunD B.K x x (defArgs st) (defBody st) (defScope st) [] [] f fd ∧ B.mg x = some (.ref f) ∧ Binds B.K fd P []
abbrev FactD (B : Bs) (x : Str) (st : Stmt) (P : List Str) (dv : List Int) : Prop := ∃ f fd dus, FunD B.K x x (defArgs st) (defBody st) (defScope st) (dv.map V.int) [] f fd ∧ B.mg x = some (.ref f) ∧ Vals (dv.map V.int) dus ∧ Binds B.K fd P dus
abbrev FactC (B : Bs) (x : Str) (st : Stmt) (P : List Str) (c : Addr) : Prop := ∃ f fd, FunD B.K x x (defArgs st) (defBody st) (defScope st) [] [] f fd ∧ fd.code = .ref c ∧ B.mg x = some (.ref f) ∧ Binds B.K fd P []
theorem chain {B : Bs} (ff : FF B) {cL PL : Addr} (TB : LamX.TabB B.base B.mg cL PL) (RC : Catch B "_law_refused" kc) {aD : Addr} {fD : FuncData} (FD : FnG B.P B.w B.K B.mg B.base CX0 1 aD fD P__law_deck (spDeck B.K)) (hmD : B.mg "_law_deck" = some (.ref aD)) (hkD : PySem.W.keepIn B.K (.ref aD) = true) (hbD : Binds B.K fD P__law_deck [])
    (k__law_draw : Kn B 1 "_law_draw" t__law_draw P__law_draw s_draw)
    (h_is_integer : Fact B "is_integer" t_is_integer P_is_integer) (h_is_between : Fact B "is_between" t_is_between P_is_between) (h_are_between : Fact B "are_between" t_are_between P_are_between) (h_is_word : Fact B "is_word" t_is_word P_is_word) (h_is_exactly : Fact B "is_exactly" t_is_exactly P_is_exactly) (h_is_meeting_value : Fact B "is_meeting_value" t_is_meeting_value P_is_meeting_value) (h_are_meetings : Fact B "are_meetings" t_are_meetings P_are_meetings) (h_is_plan_value : Fact B "is_plan_value" t_is_plan_value P_is_plan_value) (h_is_table_value : FactD B "is_table_value" t_is_table_value P_is_table_value [24]) (h_mask_of : Fact B "mask_of" t_mask_of P_mask_of) (h_bits_of : Fact B "bits_of" t_bits_of P_bits_of) (h_ups_of : Fact B "ups_of" t_ups_of P_ups_of) (h_downs_of : Fact B "downs_of" t_downs_of P_downs_of) (h_order_fault : Fact B "order_fault" t_order_fault P_order_fault) (h_fault_of : Fact B "fault_of" t_fault_of P_fault_of) (h_is_house_value : Fact B "is_house_value" t_is_house_value P_is_house_value) (h_boths_of : Fact B "boths_of" t_boths_of P_boths_of) (h_alls_of : Fact B "alls_of" t_alls_of P_alls_of) (h_need_house : Fact B "need_house" t_need_house P_need_house) (h_is_row_value : Fact B "is_row_value" t_is_row_value P_is_row_value) (h_need_row : Fact B "need_row" t_need_row P_need_row) (h_need_house_and_row : Fact B "need_house_and_row" t_need_house_and_row P_need_house_and_row) (h_need_plan : Fact B "need_plan" t_need_plan P_need_plan) (h_check : Fact B "check" t_check P_check) (h_is_led : Fact B "is_led" t_is_led P_is_led) (h_judged_map : Fact B "judged_map" t_judged_map P_judged_map) (h_judge_map : Fact B "judge_map" t_judge_map P_judge_map) (h_map_holds : Fact B "map_holds" t_map_holds P_map_holds) (h_led_row : Fact B "led_row" t_led_row P_led_row) (h_met_of : Fact B "met_of" t_met_of P_met_of) (h_row_met : Fact B "row_met" t_row_met P_row_met) (h_rows_along : Fact B "rows_along" t_rows_along P_rows_along) (h_row_behind : Fact B "row_behind" t_row_behind P_row_behind) (h_behind : Fact B "behind" t_behind P_behind) (h__law_pick : Fact B "_law_pick" t__law_pick P__law_pick) (h__law_chains : Fact B "_law_chains" t__law_chains P__law_chains) (h__law_masks : Fact B "_law_masks" t__law_masks P__law_masks) (h__law_order : Fact B "_law_order" t__law_order P__law_order) (h__law_house : Fact B "_law_house" t__law_house P__law_house) (h__law_met : Fact B "_law_met" t__law_met P__law_met) (h__law_behind : Fact B "_law_behind" t__law_behind P__law_behind) (h__law_beside : Fact B "_law_beside" t__law_beside P__law_beside) (h__law_renamed : Fact B "_law_renamed" t__law_renamed P__law_renamed) (h__law_case : Fact B "_law_case" t__law_case P__law_case) (h__law_faults : Fact B "_law_faults" t__law_faults P__law_faults) (h__law_is_map_right : Fact B "_law_is_map_right" t__law_is_map_right P__law_is_map_right) (h__law_is_led_right : FactC B "_law_is_led_right" t__law_is_led_right P__law_is_led_right cL) (h_law : Fact B "law" t_law P_law) : Kn B 12 "law" t_law P_law (s_law B.K PL) := by
  have k_is_integer : Kn B 1 "is_integer" t_is_integer P_is_integer s_is_integer := by
    obtain ⟨f, fd, F, hm, hb⟩ := h_is_integer
    exact kn_of F sc_is_integer hm hb (d_is_integer ff) p_is_integer
  have k_is_between : Kn B 2 "is_between" t_is_between P_is_between s_is_between := by
    obtain ⟨f, fd, F, hm, hb⟩ := h_is_between
    exact kn_of F sc_is_between hm hb (d_is_between ff k_is_integer (by decide)) p_is_between
  have k_are_between : Kn B 3 "are_between" t_are_between P_are_between s_are_between := by
    obtain ⟨f, fd, F, hm, hb⟩ := h_are_between
    exact kn_of F sc_are_between hm hb (d_are_between ff k_is_between (by decide)) p_are_between
  have k_is_word : Kn B 1 "is_word" t_is_word P_is_word s_is_word := by
    obtain ⟨f, fd, F, hm, hb⟩ := h_is_word
    exact kn_of F sc_is_word hm hb (d_is_word ff) p_is_word
  have k_is_exactly : Kn B 1 "is_exactly" t_is_exactly P_is_exactly s_is_exactly := by
    obtain ⟨f, fd, F, hm, hb⟩ := h_is_exactly
    exact kn_of F sc_is_exactly hm hb (d_is_exactly ff) p_is_exactly
  have k_is_meeting_value : Kn B 4 "is_meeting_value" t_is_meeting_value P_is_meeting_value s_is_meeting_value := by
    obtain ⟨f, fd, F, hm, hb⟩ := h_is_meeting_value
    exact kn_of F sc_is_meeting_value hm hb (d_is_meeting_value ff k_are_between (by decide)) p_is_meeting_value
  have k_are_meetings : Kn B 5 "are_meetings" t_are_meetings P_are_meetings s_are_meetings := by
    obtain ⟨f, fd, F, hm, hb⟩ := h_are_meetings
    exact kn_of F sc_are_meetings hm hb (d_are_meetings ff k_is_meeting_value (by decide)) p_are_meetings
  have k_is_plan_value : Kn B 6 "is_plan_value" t_is_plan_value P_is_plan_value s_is_plan_value := by
    obtain ⟨f, fd, F, hm, hb⟩ := h_is_plan_value
    exact kn_of F sc_is_plan_value hm hb (d_is_plan_value ff k_are_meetings (by decide)) p_is_plan_value
  have k_is_table_value : KnD B 4 "is_table_value" t_is_table_value P_is_table_value [24] s_is_table_value := by
    obtain ⟨f, fd, dus, F, hm, hd, hb⟩ := h_is_table_value
    exact knd_of F sc_is_table_value hm hd hb (d_is_table_value ff k_are_between (by decide)) p_is_table_value
  have k_mask_of : Kn B 1 "mask_of" t_mask_of P_mask_of s_mask_of := by
    obtain ⟨f, fd, F, hm, hb⟩ := h_mask_of
    exact kn_of F sc_mask_of hm hb (d_mask_of ff) p_mask_of
  have k_bits_of : Kn B 1 "bits_of" t_bits_of P_bits_of s_bits_of := by
    obtain ⟨f, fd, F, hm, hb⟩ := h_bits_of
    exact kn_of F sc_bits_of hm hb (d_bits_of ff) p_bits_of
  have k_ups_of : Kn B 2 "ups_of" t_ups_of P_ups_of s_ups_of := by
    obtain ⟨f, fd, F, hm, hb⟩ := h_ups_of
    exact kn_of F sc_ups_of hm hb (d_ups_of ff k_mask_of (by decide)) p_ups_of
  have k_downs_of : Kn B 2 "downs_of" t_downs_of P_downs_of s_downs_of := by
    obtain ⟨f, fd, F, hm, hb⟩ := h_downs_of
    exact kn_of F sc_downs_of hm hb (d_downs_of ff k_mask_of (by decide)) p_downs_of
  have k_order_fault : Kn B 3 "order_fault" t_order_fault P_order_fault s_order_fault := by
    obtain ⟨f, fd, F, hm, hb⟩ := h_order_fault
    exact kn_of F sc_order_fault hm hb (d_order_fault ff k_ups_of (by decide) k_bits_of (by decide)) p_order_fault
  have k_fault_of : Kn B 4 "fault_of" t_fault_of P_fault_of s_fault_of := by
    obtain ⟨f, fd, F, hm, hb⟩ := h_fault_of
    exact kn_of F sc_fault_of hm hb (d_fault_of ff k_order_fault (by decide) k_ups_of (by decide) k_downs_of (by decide)) p_fault_of
  have k_is_house_value : Kn B 5 "is_house_value" t_is_house_value P_is_house_value s_is_house_value := by
    obtain ⟨f, fd, F, hm, hb⟩ := h_is_house_value
    exact kn_of F sc_is_house_value hm hb (d_is_house_value ff k_is_table_value (by decide) k_fault_of (by decide)) p_is_house_value
  have k_boths_of : Kn B 3 "boths_of" t_boths_of P_boths_of s_boths_of := by
    obtain ⟨f, fd, F, hm, hb⟩ := h_boths_of
    exact kn_of F sc_boths_of hm hb (d_boths_of ff k_downs_of (by decide)) p_boths_of
  have k_alls_of : Kn B 3 "alls_of" t_alls_of P_alls_of s_alls_of := by
    obtain ⟨f, fd, F, hm, hb⟩ := h_alls_of
    exact kn_of F sc_alls_of hm hb (d_alls_of ff k_ups_of (by decide)) p_alls_of
  have k_need_house : Kn B 6 "need_house" t_need_house P_need_house s_need_house := by
    obtain ⟨f, fd, F, hm, hb⟩ := h_need_house
    exact kn_of F sc_need_house hm hb (d_need_house ff k_is_house_value (by decide)) p_need_house
  have k_is_row_value : Kn B 4 "is_row_value" t_is_row_value P_is_row_value s_is_row_value := by
    obtain ⟨f, fd, F, hm, hb⟩ := h_is_row_value
    exact kn_of F sc_is_row_value hm hb (d_is_row_value ff k_are_between (by decide)) p_is_row_value
  have k_need_row : Kn B 5 "need_row" t_need_row P_need_row s_need_row := by
    obtain ⟨f, fd, F, hm, hb⟩ := h_need_row
    exact kn_of F sc_need_row hm hb (d_need_row ff k_is_row_value (by decide)) p_need_row
  have k_need_house_and_row : Kn B 7 "need_house_and_row" t_need_house_and_row P_need_house_and_row s_need_house_and_row := by
    obtain ⟨f, fd, F, hm, hb⟩ := h_need_house_and_row
    exact kn_of F sc_need_house_and_row hm hb (d_need_house_and_row ff k_need_house (by decide) k_need_row (by decide)) p_need_house_and_row
  have k_need_plan : Kn B 7 "need_plan" t_need_plan P_need_plan s_need_plan := by
    obtain ⟨f, fd, F, hm, hb⟩ := h_need_plan
    exact kn_of F sc_need_plan hm hb (d_need_plan ff k_is_plan_value (by decide)) p_need_plan
  have k_check : Kn B 7 "check" t_check P_check s_check := by
    obtain ⟨f, fd, F, hm, hb⟩ := h_check
    exact kn_of F sc_check hm hb (d_check ff k_need_house (by decide) k_are_between (by decide)) p_check
  have k_is_led : Kn B 1 "is_led" t_is_led P_is_led s_is_led := by
    obtain ⟨f, fd, F, hm, hb⟩ := h_is_led
    exact kn_of F sc_is_led hm hb (d_is_led ff) p_is_led
  have k_judged_map : Kn B 4 "judged_map" t_judged_map P_judged_map s_judged_map := by
    obtain ⟨f, fd, F, hm, hb⟩ := h_judged_map
    exact kn_of F sc_judged_map hm hb (d_judged_map ff k_alls_of (by decide) k_boths_of (by decide) k_is_led (by decide)) p_judged_map
  have k_judge_map : Kn B 8 "judge_map" t_judge_map P_judge_map s_judge_map := by
    obtain ⟨f, fd, F, hm, hb⟩ := h_judge_map
    exact kn_of F sc_judge_map hm hb (d_judge_map ff k_check (by decide) k_judged_map (by decide)) p_judge_map
  have k_map_holds : Kn B 8 "map_holds" t_map_holds P_map_holds s_map_holds := by
    obtain ⟨f, fd, F, hm, hb⟩ := h_map_holds
    exact kn_of F sc_map_holds hm hb (d_map_holds ff k_check (by decide) k_is_exactly (by decide) k_judged_map (by decide) k_is_word (by decide) k_is_between (by decide) k_is_led (by decide) k_boths_of (by decide) k_alls_of (by decide)) p_map_holds
  have kx_led_row : KnX B 8 "led_row" t_led_row P_led_row sx_led_row := by
    obtain ⟨f, fd, F, hm, hb⟩ := h_led_row
    exact knx_of F sc_led_row hm hb (dx_led_row ff (by decide) k_check (by decide) k_judged_map (by decide) k_need_row (by decide)) px_led_row
  have k_led_row : Kn B 8 "led_row" t_led_row P_led_row s_led_row := kx_led_row.kn
  have k_met_of : Kn B 4 "met_of" t_met_of P_met_of s_met_of := by
    obtain ⟨f, fd, F, hm, hb⟩ := h_met_of
    exact kn_of F sc_met_of hm hb (d_met_of ff k_alls_of (by decide) k_boths_of (by decide)) p_met_of
  have k_row_met : Kn B 1 "row_met" t_row_met P_row_met s_row_met := by
    obtain ⟨f, fd, F, hm, hb⟩ := h_row_met
    exact kn_of F sc_row_met hm hb (d_row_met ff) p_row_met
  have k_rows_along : Kn B 5 "rows_along" t_rows_along P_rows_along s_rows_along := by
    obtain ⟨f, fd, F, hm, hb⟩ := h_rows_along
    exact kn_of F sc_rows_along hm hb (d_rows_along ff k_met_of (by decide) k_row_met (by decide)) p_rows_along
  have k_row_behind : Kn B 6 "row_behind" t_row_behind P_row_behind s_row_behind := by
    obtain ⟨f, fd, F, hm, hb⟩ := h_row_behind
    exact kn_of F sc_row_behind hm hb (d_row_behind ff k_rows_along (by decide)) p_row_behind
  have k_behind : Kn B 8 "behind" t_behind P_behind s_behind := by
    obtain ⟨f, fd, F, hm, hb⟩ := h_behind
    exact kn_of F sc_behind hm hb (d_behind ff k_need_house_and_row (by decide) k_need_plan (by decide) k_row_behind (by decide)) p_behind
  have k__law_pick : Kn B 2 "_law_pick" t__law_pick P__law_pick s_pick := by
    obtain ⟨f, fd, F, hm, hb⟩ := h__law_pick
    exact kn_of F sc__law_pick hm hb (d__law_pick ff k__law_draw (by decide)) p__law_pick
  have k__law_chains : Kn B 1 "_law_chains" t__law_chains P__law_chains s__law_chains := by
    obtain ⟨f, fd, F, hm, hb⟩ := h__law_chains
    exact kn_of F sc__law_chains hm hb (d__law_chains ff) p__law_chains
  have k__law_masks : Kn B 3 "_law_masks" t__law_masks P__law_masks s__law_masks := by
    obtain ⟨f, fd, F, hm, hb⟩ := h__law_masks
    exact kn_of F sc__law_masks hm hb (d__law_masks ff k__law_draw (by decide) k__law_pick (by decide) k__law_chains (by decide)) p__law_masks
  have k__law_order : Kn B 2 "_law_order" t__law_order P__law_order s__law_order := by
    obtain ⟨f, fd, F, hm, hb⟩ := h__law_order
    exact kn_of F sc__law_order hm hb (d__law_order ff k__law_draw (by decide)) p__law_order
  have k__law_house : Kn B 4 "_law_house" t__law_house P__law_house s__law_house := by
    obtain ⟨f, fd, F, hm, hb⟩ := h__law_house
    exact kn_of F sc__law_house hm hb (d__law_house ff k__law_masks (by decide) k__law_order (by decide)) p__law_house
  have k__law_met : Kn B 1 "_law_met" t__law_met P__law_met s__law_met := by
    obtain ⟨f, fd, F, hm, hb⟩ := h__law_met
    exact kn_of F sc__law_met hm hb (d__law_met ff) p__law_met
  have k__law_behind : Kn B 2 "_law_behind" t__law_behind P__law_behind s__law_behind := by
    obtain ⟨f, fd, F, hm, hb⟩ := h__law_behind
    exact kn_of F sc__law_behind hm hb (d__law_behind ff k__law_met (by decide)) p__law_behind
  have k__law_beside : Kn B 1 "_law_beside" t__law_beside P__law_beside s__law_beside := by
    obtain ⟨f, fd, F, hm, hb⟩ := h__law_beside
    exact kn_of F sc__law_beside hm hb (d__law_beside ff) p__law_beside
  have k__law_renamed : Kn B 1 "_law_renamed" t__law_renamed P__law_renamed s__law_renamed := by
    obtain ⟨f, fd, F, hm, hb⟩ := h__law_renamed
    exact kn_of F sc__law_renamed hm hb (d__law_renamed ff) p__law_renamed
  have k__law_case : Kn B 5 "_law_case" t__law_case P__law_case s__law_case := by
    obtain ⟨f, fd, F, hm, hb⟩ := h__law_case
    exact (kn_of F sc__law_case hm hb (d__law_case ff k__law_house (by decide) k__law_pick (by decide) k__law_draw (by decide) k__law_order (by decide) k__law_renamed (by decide) k__law_beside (by decide) k__law_met (by decide)) p__law_case).wk i__law_case
  have k__law_faults : Kn B 2 "_law_faults" t__law_faults P__law_faults s__law_faults := by
    obtain ⟨f, fd, F, hm, hb⟩ := h__law_faults
    exact kn_of F sc__law_faults hm hb (d__law_faults ff k__law_met (by decide)) p__law_faults
  have k__law_is_map_right : Kn B 9 "_law_is_map_right" t__law_is_map_right P__law_is_map_right s__law_is_map_right := by
    obtain ⟨f, fd, F, hm, hb⟩ := h__law_is_map_right
    exact kn_of F sc__law_is_map_right hm hb (d__law_is_map_right ff k__law_draw (by decide) k_judge_map (by decide) k_map_holds (by decide) k__law_pick (by decide)) p__law_is_map_right
  have k__law_is_led_right : Kn B 11 "_law_is_led_right" t__law_is_led_right P__law_is_led_right (s__law_is_led_right PL) := by
    obtain ⟨f, fd, F, hc, hm, hb⟩ := h__law_is_led_right
    exact kn_ofC F sc__law_is_led_right hm hb hc (d__law_is_led_right ff TB RC k__law_pick (by decide) k__law_draw (by decide) k_led_row (by decide) k_behind (by decide) k__law_behind (by decide) k__law_met (by decide) k__law_faults (by decide) k_judge_map (by decide) kx_led_row (by decide)) (p__law_is_led_right PL)
  have k_law : Kn B 12 "law" t_law P_law (s_law B.K PL) := by
    obtain ⟨f, fd, F, hm, hb⟩ := h_law
    exact kn_of F sc_law hm hb (d_law ff FD hmD hkD hbD (by decide) k__law_case (by decide) k__law_faults (by decide) k__law_is_map_right (by decide) k__law_is_led_right (by decide)) (p_law B.K PL)
  exact k_law
end K87
set_option maxHeartbeats 4000000
namespace K87
open PySem PySem.Spec PyProof.Rows L2 DL Hou
theorem chained {P : Program} {w : World} {K : PySem.W.Frag} {h : Heap} {mg : Str → Option Value} {base : Heap} (X : K.In h) (G : h.Ns mainGlobals mg) (c : He.SaysX fa fn ts tf ex w h K) (TB : LamX.TabB base mg (He.cT K ("_law_is_led_right", none)).1 (He.cT K ("_law_is_led_right", none)).2) : Kn ⟨P, w, K, mg, base⟩ 12 "law" t_law P_law (s_law K (He.cT K ("_law_is_led_right", none)).2) := by
  obtain ⟨⟨eB, i1⟩, i2⟩ : (DL.errB K (He.ga K "BadMap") (He.ma K (He.ga K "BadMap") "__init__") = true ∧ PySem.W.kitOne K (.ref (He.ga K "BadMap")) (.ref (He.ga K "HouseError")) = some true) ∧ PySem.W.kitOne K (.ref (He.ga K "BadMap")) (.ref (He.ga K "BadHouse")) = some false := by
    have z := c.more
    unfold ex at z
    simp only [Bool.and_eq_true, decide_eq_true_eq] at z
    exact z
  have mM := He.glo_ok X G (c.t.d.fact 70 (f := .glo "BadMap") rfl)
  have mH := He.glo_ok X G (c.t.d.fact 71 (f := .glo "HouseError") rfl)
  have mB := He.glo_ok X G (c.t.d.fact 72 (f := .glo "BadHouse") rfl)
  obtain ⟨fd_BadMap, F_BadMap⟩ := c.t.d.def_ 51 (d := dde "BadMap" "BadMap.__init__" 3) rfl
  have ff : FF ⟨P, w, K, mg, base⟩ := ⟨⟨_, _, errTxt_of (st := top 3) mM eB F_BadMap rfl rfl rfl⟩, He.int_ok X G (c.t.d.fact 51 (f := .int "MOST_HANDS" 6) rfl), He.int_ok X G (c.t.d.fact 52 (f := .int "MOST_MEETINGS" 20) rfl), He.free_ok X G (c.t.d.fact 54 (f := .free "all") rfl), He.free_ok X G (c.t.d.fact 55 (f := .free "bool") rfl), He.free_ok X G (c.t.d.fact 56 (f := .free "enumerate") rfl), He.free_ok X G (c.t.d.fact 57 (f := .free "int") rfl), He.free_ok X G (c.t.d.fact 58 (f := .free "isinstance") rfl), He.free_ok X G (c.t.d.fact 59 (f := .free "len") rfl), He.free_ok X G (c.t.d.fact 60 (f := .free "list") rfl), He.free_ok X G (c.t.d.fact 61 (f := .free "max") rfl), He.free_ok X G (c.t.d.fact 62 (f := .free "min") rfl), He.free_ok X G (c.t.d.fact 63 (f := .free "range") rfl), He.free_ok X G (c.t.d.fact 64 (f := .free "repr") rfl), He.free_ok X G (c.t.d.fact 65 (f := .free "set") rfl), He.free_ok X G (c.t.d.fact 66 (f := .free "sorted") rfl), He.free_ok X G (c.t.d.fact 67 (f := .free "str") rfl), He.free_ok X G (c.t.d.fact 68 (f := .free "sum") rfl), He.free_ok X G (c.t.d.fact 69 (f := .free "tuple") rfl)⟩
  have h_is_integer : Fact ⟨P, w, K, mg, base⟩ "is_integer" t_is_integer P_is_integer := by
    obtain ⟨fd, F⟩ := c.t.d.def_ 0 (d := dd "is_integer" 9) rfl
    exact ⟨_, fd, F, He.glo_ok X G (c.t.d.fact 0 (f := .glo "is_integer") rfl), F.bindsN fun _ _ _ _ _ _ us hl => match us, hl with | [_], _ => rfl⟩
  have h_is_between : Fact ⟨P, w, K, mg, base⟩ "is_between" t_is_between P_is_between := by
    obtain ⟨fd, F⟩ := c.t.d.def_ 1 (d := dd "is_between" 10) rfl
    exact ⟨_, fd, F, He.glo_ok X G (c.t.d.fact 1 (f := .glo "is_between") rfl), F.bindsN fun _ _ _ _ _ _ us hl => match us, hl with | [_, _, _], _ => rfl⟩
  have h_are_between : Fact ⟨P, w, K, mg, base⟩ "are_between" t_are_between P_are_between := by
    obtain ⟨fd, F⟩ := c.t.d.def_ 2 (d := dd "are_between" 11) rfl
    exact ⟨_, fd, F, He.glo_ok X G (c.t.d.fact 2 (f := .glo "are_between") rfl), F.bindsN fun _ _ _ _ _ _ us hl => match us, hl with | [_, _, _], _ => rfl⟩
  have h_is_word : Fact ⟨P, w, K, mg, base⟩ "is_word" t_is_word P_is_word := by
    obtain ⟨fd, F⟩ := c.t.d.def_ 3 (d := dd "is_word" 12) rfl
    exact ⟨_, fd, F, He.glo_ok X G (c.t.d.fact 3 (f := .glo "is_word") rfl), F.bindsN fun _ _ _ _ _ _ us hl => match us, hl with | [_, _], _ => rfl⟩
  have h_is_exactly : Fact ⟨P, w, K, mg, base⟩ "is_exactly" t_is_exactly P_is_exactly := by
    obtain ⟨fd, F⟩ := c.t.d.def_ 4 (d := dd "is_exactly" 13) rfl
    exact ⟨_, fd, F, He.glo_ok X G (c.t.d.fact 4 (f := .glo "is_exactly") rfl), F.bindsN fun _ _ _ _ _ _ us hl => match us, hl with | [_, _], _ => rfl⟩
  have h_is_meeting_value : Fact ⟨P, w, K, mg, base⟩ "is_meeting_value" t_is_meeting_value P_is_meeting_value := by
    obtain ⟨fd, F⟩ := c.t.d.def_ 5 (d := dd "is_meeting_value" 14) rfl
    exact ⟨_, fd, F, He.glo_ok X G (c.t.d.fact 5 (f := .glo "is_meeting_value") rfl), F.bindsN fun _ _ _ _ _ _ us hl => match us, hl with | [_, _], _ => rfl⟩
  have h_are_meetings : Fact ⟨P, w, K, mg, base⟩ "are_meetings" t_are_meetings P_are_meetings := by
    obtain ⟨fd, F⟩ := c.t.d.def_ 6 (d := dd "are_meetings" 15) rfl
    exact ⟨_, fd, F, He.glo_ok X G (c.t.d.fact 6 (f := .glo "are_meetings") rfl), F.bindsN fun _ _ _ _ _ _ us hl => match us, hl with | [_, _], _ => rfl⟩
  have h_is_plan_value : Fact ⟨P, w, K, mg, base⟩ "is_plan_value" t_is_plan_value P_is_plan_value := by
    obtain ⟨fd, F⟩ := c.t.d.def_ 7 (d := dd "is_plan_value" 16) rfl
    exact ⟨_, fd, F, He.glo_ok X G (c.t.d.fact 7 (f := .glo "is_plan_value") rfl), F.bindsN fun _ _ _ _ _ _ us hl => match us, hl with | [_, _], _ => rfl⟩
  have h_is_table_value : FactD ⟨P, w, K, mg, base⟩ "is_table_value" t_is_table_value P_is_table_value [24] := by
    obtain ⟨fd, F⟩ := c.t.d.def_ 8 (d := ddv "is_table_value" 19 [.int 24]) rfl
    obtain ⟨dus, hv, hb⟩ := F.binds1 (ps := P_is_table_value) 1 0 (show [V.int 24] ≠ [] from fun z => nomatch z) rfl fun _ _ _ _ _ _ _ us its hl hi => match us, hl, its, hi with | [_], _, [_], _ => ⟨_, rfl, rfl⟩
    exact ⟨_, fd, dus, F, He.glo_ok X G (c.t.d.fact 8 (f := .glo "is_table_value") rfl), hv, hb⟩
  have h_mask_of : Fact ⟨P, w, K, mg, base⟩ "mask_of" t_mask_of P_mask_of := by
    obtain ⟨fd, F⟩ := c.t.d.def_ 9 (d := dd "mask_of" 20) rfl
    exact ⟨_, fd, F, He.glo_ok X G (c.t.d.fact 9 (f := .glo "mask_of") rfl), F.bindsN fun _ _ _ _ _ _ us hl => match us, hl with | [_], _ => rfl⟩
  have h_bits_of : Fact ⟨P, w, K, mg, base⟩ "bits_of" t_bits_of P_bits_of := by
    obtain ⟨fd, F⟩ := c.t.d.def_ 10 (d := dd "bits_of" 21) rfl
    exact ⟨_, fd, F, He.glo_ok X G (c.t.d.fact 10 (f := .glo "bits_of") rfl), F.bindsN fun _ _ _ _ _ _ us hl => match us, hl with | [_], _ => rfl⟩
  have h_ups_of : Fact ⟨P, w, K, mg, base⟩ "ups_of" t_ups_of P_ups_of := by
    obtain ⟨fd, F⟩ := c.t.d.def_ 11 (d := dd "ups_of" 22) rfl
    exact ⟨_, fd, F, He.glo_ok X G (c.t.d.fact 11 (f := .glo "ups_of") rfl), F.bindsN fun _ _ _ _ _ _ us hl => match us, hl with | [_], _ => rfl⟩
  have h_downs_of : Fact ⟨P, w, K, mg, base⟩ "downs_of" t_downs_of P_downs_of := by
    obtain ⟨fd, F⟩ := c.t.d.def_ 12 (d := dd "downs_of" 23) rfl
    exact ⟨_, fd, F, He.glo_ok X G (c.t.d.fact 12 (f := .glo "downs_of") rfl), F.bindsN fun _ _ _ _ _ _ us hl => match us, hl with | [_], _ => rfl⟩
  have h_order_fault : Fact ⟨P, w, K, mg, base⟩ "order_fault" t_order_fault P_order_fault := by
    obtain ⟨fd, F⟩ := c.t.d.def_ 13 (d := dd "order_fault" 24) rfl
    exact ⟨_, fd, F, He.glo_ok X G (c.t.d.fact 13 (f := .glo "order_fault") rfl), F.bindsN fun _ _ _ _ _ _ us hl => match us, hl with | [_], _ => rfl⟩
  have h_fault_of : Fact ⟨P, w, K, mg, base⟩ "fault_of" t_fault_of P_fault_of := by
    obtain ⟨fd, F⟩ := c.t.d.def_ 14 (d := dd "fault_of" 25) rfl
    exact ⟨_, fd, F, He.glo_ok X G (c.t.d.fact 14 (f := .glo "fault_of") rfl), F.bindsN fun _ _ _ _ _ _ us hl => match us, hl with | [_], _ => rfl⟩
  have h_is_house_value : Fact ⟨P, w, K, mg, base⟩ "is_house_value" t_is_house_value P_is_house_value := by
    obtain ⟨fd, F⟩ := c.t.d.def_ 15 (d := dd "is_house_value" 26) rfl
    exact ⟨_, fd, F, He.glo_ok X G (c.t.d.fact 15 (f := .glo "is_house_value") rfl), F.bindsN fun _ _ _ _ _ _ us hl => match us, hl with | [_], _ => rfl⟩
  have h_boths_of : Fact ⟨P, w, K, mg, base⟩ "boths_of" t_boths_of P_boths_of := by
    obtain ⟨fd, F⟩ := c.t.d.def_ 16 (d := dd "boths_of" 27) rfl
    exact ⟨_, fd, F, He.glo_ok X G (c.t.d.fact 16 (f := .glo "boths_of") rfl), F.bindsN fun _ _ _ _ _ _ us hl => match us, hl with | [_], _ => rfl⟩
  have h_alls_of : Fact ⟨P, w, K, mg, base⟩ "alls_of" t_alls_of P_alls_of := by
    obtain ⟨fd, F⟩ := c.t.d.def_ 17 (d := dd "alls_of" 28) rfl
    exact ⟨_, fd, F, He.glo_ok X G (c.t.d.fact 17 (f := .glo "alls_of") rfl), F.bindsN fun _ _ _ _ _ _ us hl => match us, hl with | [_], _ => rfl⟩
  have h_need_house : Fact ⟨P, w, K, mg, base⟩ "need_house" t_need_house P_need_house := by
    obtain ⟨fd, F⟩ := c.t.d.def_ 18 (d := dd "need_house" 30) rfl
    exact ⟨_, fd, F, He.glo_ok X G (c.t.d.fact 18 (f := .glo "need_house") rfl), F.bindsN fun _ _ _ _ _ _ us hl => match us, hl with | [_], _ => rfl⟩
  have h_is_row_value : Fact ⟨P, w, K, mg, base⟩ "is_row_value" t_is_row_value P_is_row_value := by
    obtain ⟨fd, F⟩ := c.t.d.def_ 19 (d := dd "is_row_value" 31) rfl
    exact ⟨_, fd, F, He.glo_ok X G (c.t.d.fact 19 (f := .glo "is_row_value") rfl), F.bindsN fun _ _ _ _ _ _ us hl => match us, hl with | [_, _], _ => rfl⟩
  have h_need_row : Fact ⟨P, w, K, mg, base⟩ "need_row" t_need_row P_need_row := by
    obtain ⟨fd, F⟩ := c.t.d.def_ 20 (d := dd "need_row" 32) rfl
    exact ⟨_, fd, F, He.glo_ok X G (c.t.d.fact 20 (f := .glo "need_row") rfl), F.bindsN fun _ _ _ _ _ _ us hl => match us, hl with | [_, _], _ => rfl⟩
  have h_need_house_and_row : Fact ⟨P, w, K, mg, base⟩ "need_house_and_row" t_need_house_and_row P_need_house_and_row := by
    obtain ⟨fd, F⟩ := c.t.d.def_ 21 (d := dd "need_house_and_row" 33) rfl
    exact ⟨_, fd, F, He.glo_ok X G (c.t.d.fact 21 (f := .glo "need_house_and_row") rfl), F.bindsN fun _ _ _ _ _ _ us hl => match us, hl with | [_, _], _ => rfl⟩
  have h_need_plan : Fact ⟨P, w, K, mg, base⟩ "need_plan" t_need_plan P_need_plan := by
    obtain ⟨fd, F⟩ := c.t.d.def_ 22 (d := dd "need_plan" 34) rfl
    exact ⟨_, fd, F, He.glo_ok X G (c.t.d.fact 22 (f := .glo "need_plan") rfl), F.bindsN fun _ _ _ _ _ _ us hl => match us, hl with | [_, _], _ => rfl⟩
  have h_check : Fact ⟨P, w, K, mg, base⟩ "check" t_check P_check := by
    obtain ⟨fd, F⟩ := c.t.d.def_ 23 (d := dd "check" 36) rfl
    exact ⟨_, fd, F, He.glo_ok X G (c.t.d.fact 23 (f := .glo "check") rfl), F.bindsN fun _ _ _ _ _ _ us hl => match us, hl with | [_, _, _], _ => rfl⟩
  have h_is_led : Fact ⟨P, w, K, mg, base⟩ "is_led" t_is_led P_is_led := by
    obtain ⟨fd, F⟩ := c.t.d.def_ 24 (d := dd "is_led" 37) rfl
    exact ⟨_, fd, F, He.glo_ok X G (c.t.d.fact 24 (f := .glo "is_led") rfl), F.bindsN fun _ _ _ _ _ _ us hl => match us, hl with | [_, _, _, _, _], _ => rfl⟩
  have h_judged_map : Fact ⟨P, w, K, mg, base⟩ "judged_map" t_judged_map P_judged_map := by
    obtain ⟨fd, F⟩ := c.t.d.def_ 25 (d := dd "judged_map" 38) rfl
    exact ⟨_, fd, F, He.glo_ok X G (c.t.d.fact 25 (f := .glo "judged_map") rfl), F.bindsN fun _ _ _ _ _ _ us hl => match us, hl with | [_, _, _], _ => rfl⟩
  have h_judge_map : Fact ⟨P, w, K, mg, base⟩ "judge_map" t_judge_map P_judge_map := by
    obtain ⟨fd, F⟩ := c.t.d.def_ 26 (d := dd "judge_map" 39) rfl
    exact ⟨_, fd, F, He.glo_ok X G (c.t.d.fact 26 (f := .glo "judge_map") rfl), F.bindsN fun _ _ _ _ _ _ us hl => match us, hl with | [_, _, _], _ => rfl⟩
  have h_map_holds : Fact ⟨P, w, K, mg, base⟩ "map_holds" t_map_holds P_map_holds := by
    obtain ⟨fd, F⟩ := c.t.d.def_ 27 (d := dd "map_holds" 40) rfl
    exact ⟨_, fd, F, He.glo_ok X G (c.t.d.fact 27 (f := .glo "map_holds") rfl), F.bindsN fun _ _ _ _ _ _ us hl => match us, hl with | [_, _, _, _], _ => rfl⟩
  have h_led_row : Fact ⟨P, w, K, mg, base⟩ "led_row" t_led_row P_led_row := by
    obtain ⟨fd, F⟩ := c.t.d.def_ 28 (d := dd "led_row" 41) rfl
    exact ⟨_, fd, F, He.glo_ok X G (c.t.d.fact 28 (f := .glo "led_row") rfl), F.bindsN fun _ _ _ _ _ _ us hl => match us, hl with | [_, _, _, _], _ => rfl⟩
  have h_met_of : Fact ⟨P, w, K, mg, base⟩ "met_of" t_met_of P_met_of := by
    obtain ⟨fd, F⟩ := c.t.d.def_ 29 (d := dd "met_of" 43) rfl
    exact ⟨_, fd, F, He.glo_ok X G (c.t.d.fact 29 (f := .glo "met_of") rfl), F.bindsN fun _ _ _ _ _ _ us hl => match us, hl with | [_], _ => rfl⟩
  have h_row_met : Fact ⟨P, w, K, mg, base⟩ "row_met" t_row_met P_row_met := by
    obtain ⟨fd, F⟩ := c.t.d.def_ 30 (d := dd "row_met" 44) rfl
    exact ⟨_, fd, F, He.glo_ok X G (c.t.d.fact 30 (f := .glo "row_met") rfl), F.bindsN fun _ _ _ _ _ _ us hl => match us, hl with | [_, _, _], _ => rfl⟩
  have h_rows_along : Fact ⟨P, w, K, mg, base⟩ "rows_along" t_rows_along P_rows_along := by
    obtain ⟨fd, F⟩ := c.t.d.def_ 31 (d := dd "rows_along" 45) rfl
    exact ⟨_, fd, F, He.glo_ok X G (c.t.d.fact 31 (f := .glo "rows_along") rfl), F.bindsN fun _ _ _ _ _ _ us hl => match us, hl with | [_, _, _], _ => rfl⟩
  have h_row_behind : Fact ⟨P, w, K, mg, base⟩ "row_behind" t_row_behind P_row_behind := by
    obtain ⟨fd, F⟩ := c.t.d.def_ 32 (d := dd "row_behind" 46) rfl
    exact ⟨_, fd, F, He.glo_ok X G (c.t.d.fact 32 (f := .glo "row_behind") rfl), F.bindsN fun _ _ _ _ _ _ us hl => match us, hl with | [_, _, _], _ => rfl⟩
  have h_behind : Fact ⟨P, w, K, mg, base⟩ "behind" t_behind P_behind := by
    obtain ⟨fd, F⟩ := c.t.d.def_ 33 (d := dd "behind" 48) rfl
    exact ⟨_, fd, F, He.glo_ok X G (c.t.d.fact 33 (f := .glo "behind") rfl), F.bindsN fun _ _ _ _ _ _ us hl => match us, hl with | [_, _, _], _ => rfl⟩
  have h__law_pick : Fact ⟨P, w, K, mg, base⟩ "_law_pick" t__law_pick P__law_pick := by
    obtain ⟨fd, F⟩ := c.t.d.def_ 36 (d := dd "_law_pick" 52) rfl
    exact ⟨_, fd, F, He.glo_ok X G (c.t.d.fact 36 (f := .glo "_law_pick") rfl), F.bindsN fun _ _ _ _ _ _ us hl => match us, hl with | [_, _], _ => rfl⟩
  have h__law_chains : Fact ⟨P, w, K, mg, base⟩ "_law_chains" t__law_chains P__law_chains := by
    obtain ⟨fd, F⟩ := c.t.d.def_ 37 (d := dd "_law_chains" 53) rfl
    exact ⟨_, fd, F, He.glo_ok X G (c.t.d.fact 37 (f := .glo "_law_chains") rfl), F.bindsN fun _ _ _ _ _ _ us hl => match us, hl with | [_, _], _ => rfl⟩
  have h__law_masks : Fact ⟨P, w, K, mg, base⟩ "_law_masks" t__law_masks P__law_masks := by
    obtain ⟨fd, F⟩ := c.t.d.def_ 38 (d := dd "_law_masks" 54) rfl
    exact ⟨_, fd, F, He.glo_ok X G (c.t.d.fact 38 (f := .glo "_law_masks") rfl), F.bindsN fun _ _ _ _ _ _ us hl => match us, hl with | [_, _], _ => rfl⟩
  have h__law_order : Fact ⟨P, w, K, mg, base⟩ "_law_order" t__law_order P__law_order := by
    obtain ⟨fd, F⟩ := c.t.d.def_ 39 (d := dd "_law_order" 55) rfl
    exact ⟨_, fd, F, He.glo_ok X G (c.t.d.fact 39 (f := .glo "_law_order") rfl), F.bindsN fun _ _ _ _ _ _ us hl => match us, hl with | [_, _], _ => rfl⟩
  have h__law_house : Fact ⟨P, w, K, mg, base⟩ "_law_house" t__law_house P__law_house := by
    obtain ⟨fd, F⟩ := c.t.d.def_ 40 (d := dd "_law_house" 56) rfl
    exact ⟨_, fd, F, He.glo_ok X G (c.t.d.fact 40 (f := .glo "_law_house") rfl), F.bindsN fun _ _ _ _ _ _ us hl => match us, hl with | [_, _], _ => rfl⟩
  have h__law_met : Fact ⟨P, w, K, mg, base⟩ "_law_met" t__law_met P__law_met := by
    obtain ⟨fd, F⟩ := c.t.d.def_ 41 (d := dd "_law_met" 57) rfl
    exact ⟨_, fd, F, He.glo_ok X G (c.t.d.fact 41 (f := .glo "_law_met") rfl), F.bindsN fun _ _ _ _ _ _ us hl => match us, hl with | [_, _, _], _ => rfl⟩
  have h__law_behind : Fact ⟨P, w, K, mg, base⟩ "_law_behind" t__law_behind P__law_behind := by
    obtain ⟨fd, F⟩ := c.t.d.def_ 42 (d := dd "_law_behind" 58) rfl
    exact ⟨_, fd, F, He.glo_ok X G (c.t.d.fact 42 (f := .glo "_law_behind") rfl), F.bindsN fun _ _ _ _ _ _ us hl => match us, hl with | [_, _, _], _ => rfl⟩
  have h__law_beside : Fact ⟨P, w, K, mg, base⟩ "_law_beside" t__law_beside P__law_beside := by
    obtain ⟨fd, F⟩ := c.t.d.def_ 43 (d := dd "_law_beside" 59) rfl
    exact ⟨_, fd, F, He.glo_ok X G (c.t.d.fact 43 (f := .glo "_law_beside") rfl), F.bindsN fun _ _ _ _ _ _ us hl => match us, hl with | [_, _], _ => rfl⟩
  have h__law_renamed : Fact ⟨P, w, K, mg, base⟩ "_law_renamed" t__law_renamed P__law_renamed := by
    obtain ⟨fd, F⟩ := c.t.d.def_ 44 (d := dd "_law_renamed" 60) rfl
    exact ⟨_, fd, F, He.glo_ok X G (c.t.d.fact 44 (f := .glo "_law_renamed") rfl), F.bindsN fun _ _ _ _ _ _ us hl => match us, hl with | [_, _], _ => rfl⟩
  have h__law_case : Fact ⟨P, w, K, mg, base⟩ "_law_case" t__law_case P__law_case := by
    obtain ⟨fd, F⟩ := c.t.d.def_ 45 (d := dd "_law_case" 61) rfl
    exact ⟨_, fd, F, He.glo_ok X G (c.t.d.fact 45 (f := .glo "_law_case") rfl), F.bindsN fun _ _ _ _ _ _ us hl => match us, hl with | [_], _ => rfl⟩
  have h__law_faults : Fact ⟨P, w, K, mg, base⟩ "_law_faults" t__law_faults P__law_faults := by
    obtain ⟨fd, F⟩ := c.t.d.def_ 46 (d := dd "_law_faults" 62) rfl
    exact ⟨_, fd, F, He.glo_ok X G (c.t.d.fact 46 (f := .glo "_law_faults") rfl), F.bindsN fun _ _ _ _ _ _ us hl => match us, hl with | [_, _, _], _ => rfl⟩
  have h__law_is_map_right : Fact ⟨P, w, K, mg, base⟩ "_law_is_map_right" t__law_is_map_right P__law_is_map_right := by
    obtain ⟨fd, F⟩ := c.t.d.def_ 48 (d := dd "_law_is_map_right" 64) rfl
    exact ⟨_, fd, F, He.glo_ok X G (c.t.d.fact 48 (f := .glo "_law_is_map_right") rfl), F.bindsN fun _ _ _ _ _ _ us hl => match us, hl with | [_, _, _, _, _], _ => rfl⟩
  have h__law_is_led_right : FactC ⟨P, w, K, mg, base⟩ "_law_is_led_right" t__law_is_led_right P__law_is_led_right (He.cT K ("_law_is_led_right", none)).1 := by
    obtain ⟨fd, F⟩ := c.t.d.def_ 49 (d := dd "_law_is_led_right" 65) rfl
    exact ⟨_, fd, F, code_at F, He.glo_ok X G (c.t.d.fact 49 (f := .glo "_law_is_led_right") rfl), F.bindsN fun _ _ _ _ _ _ us hl => match us, hl with | [_, _, _, _, _], _ => rfl⟩
  have h_law : Fact ⟨P, w, K, mg, base⟩ "law" t_law P_law := by
    obtain ⟨fd, F⟩ := c.t.d.def_ 50 (d := dd "law" 66) rfl
    exact ⟨_, fd, F, He.glo_ok X G (c.t.d.fact 50 (f := .glo "law") rfl), F.bindsN fun _ _ _ _ _ _ us hl => match us, hl with | [_], _ => rfl⟩
  obtain ⟨fd__law_draw, F__law_draw⟩ := c.t.d.def_ 35 (d := dd "_law_draw" 51) rfl
  have m__law_draw := He.glo_ok X G (c.t.d.fact 35 (f := .glo "_law_draw") rfl)
  have b__law_draw : Binds K fd__law_draw P__law_draw [] := F__law_draw.bindsN fun _ _ _ _ _ _ us hl => match us, hl with | [_, _], _ => rfl
  obtain ⟨fd__law_deck, F__law_deck⟩ := c.t.d.def_ 34 (d := dd "_law_deck" 50) rfl
  have m__law_deck := He.glo_ok X G (c.t.d.fact 34 (f := .glo "_law_deck") rfl)
  have b__law_deck : Binds K fd__law_deck P__law_deck [] := F__law_deck.bindsN fun _ _ _ _ _ _ us hl => match us, hl with | [_], _ => rfl
  obtain ⟨fd__law_refused, F__law_refused⟩ := c.t.d.def_ 47 (d := dd "_law_refused" 63) rfl
  have m__law_refused := He.glo_ok X G (c.t.d.fact 47 (f := .glo "_law_refused") rfl)
  have b__law_refused : Binds K fd__law_refused P__law_refused [] := F__law_refused.bindsN fun _ _ _ _ _ _ us hl => match us, hl with | [_], _ => rfl
  have k_dr := kn_draw (B := ⟨P, w, K, mg, base⟩) ff.f_max ff.f_int (k := 0) F__law_draw m__law_draw b__law_draw
  have k_de := kn_deck (B := ⟨P, w, K, mg, base⟩) ff.f_int (k := 0) F__law_deck
  have RC := catches (B := ⟨P, w, K, mg, base⟩) ff.f_isinstance mM mH mB (errB_is eB) (He.exm_ok (c.t.d.fact 73 (f := .exm "BadMap" "BadMap" true) rfl)) i1 i2 F__law_refused m__law_refused b__law_refused
  exact chain ff TB RC k_de m__law_deck F__law_deck.kp b__law_deck k_dr h_is_integer h_is_between h_are_between h_is_word h_is_exactly h_is_meeting_value h_are_meetings h_is_plan_value h_is_table_value h_mask_of h_bits_of h_ups_of h_downs_of h_order_fault h_fault_of h_is_house_value h_boths_of h_alls_of h_need_house h_is_row_value h_need_row h_need_house_and_row h_need_plan h_check h_is_led h_judged_map h_judge_map h_map_holds h_led_row h_met_of h_row_met h_rows_along h_row_behind h_behind h__law_pick h__law_chains h__law_masks h__law_order h__law_house h__law_met h__law_behind h__law_beside h__law_renamed h__law_case h__law_faults h__law_is_map_right h__law_is_led_right h_law
abbrev spL (K : PySem.W.Frag) : Sp := spV K (s_law K (He.cT K ("_law_is_led_right", none)).2)
theorem fd_eq {K : PySem.W.Frag} {x q : Str} {a : Arguments} {b : List Stmt} {s : Scope} {f : Addr} {fd fd' : FuncData} (F : FunD K x q a b s [] [] f fd) (F' : FunD K x q a b s [] [] f fd') : fd = fd' := by
  obtain ⟨_, _, _, _, _, _, _, _, _, _, _, lk, _⟩ := F.ex
  obtain ⟨_, _, _, _, _, _, _, _, _, _, _, lk', _⟩ := F'.ex
  have e := lk.symm.trans lk'
  injection e with e
  injection e with _ _ e _
  injection e
theorem facts {P : Program} {w : World} {K : PySem.W.Frag} {h : Heap} {mg : Str → Option Value} {f : Addr} (X : K.In h) (G : h.Ns mainGlobals mg) (hfa : mg ("law" : Str) = some (.ref f)) (c : He.SaysX fa fn ts tf ex w h K) :
    ∃ fd : FuncData, (∀ (s : Shared) (v : Value), BindsTo s fd ⟨[v], []⟩ [("_law_script", v)]) ∧ ∀ base : Heap, K.In base → base.Ns mainGlobals mg → (∀ p ∈ [(He.cT K ("_law_is_led_right", none))], LamX.TabB base mg p.1 p.2) → FnG P w K mg base CX0 12 f fd ["_law_script"] (spL K) := by
  obtain ⟨fd, F⟩ := c.t.d.def_ 50 (d := dd "law" 66) rfl
  have e := hfa.symm.trans (He.glo_ok X G (c.t.d.fact 50 (f := .glo "law") rfl))
  cases e
  have b := FunD.bindsA (ps := ["_law_script"]) F fun _ _ _ _ _ _ us hl => match us, hl with | [_], _ => rfl
  refine ⟨fd, fun s v => b s [v] rfl, fun base _ _ TB => ?_⟩
  obtain ⟨f0, fd0, F0, hm, FD, hb⟩ := (chained (P := P) (w := w) (base := base) X G c (TB _ List.mem_cons_self)).ex
  have e1 := hfa.symm.trans hm
  cases e1
  have e2 := fd_eq F FD
  subst e2
  exact F0
end K87
set_option maxHeartbeats 0
open PySem PySem.W PySem.Calls PyProof.Rows
theorem PySem.Challenge.cw_bothandall_k87_whole_maps_and_plans_holds : PySem.Challenge.rw_bothandall_k87_whole_maps_and_plans.Holds := by
  w_on; o_law
  refine HandSHeadRun.head_any (r := OpenLaw.row PySem.Challenge.rw_bothandall_k87_whole_maps_and_plans) (q := view (OpenLaw.row PySem.Challenge.rw_bothandall_k87_whole_maps_and_plans).prog [66]) (H := K87.hk) (ob := K87.ob) (M := 4000) (loose := K87.loose) (d := HandSHeadRun.topDef (OpenLaw.row PySem.Challenge.rw_bothandall_k87_whole_maps_and_plans).prog 66) (kwd := []) K87.ob_eq
    (by kernel_rfl) (fun s => by kernel_rfl) K87.run (by kernel_rfl) (by kernel_rfl) (by kernel_rfl) (by rfl) (by first | assumption | decide +kernel) (by decide +kernel) ⟨rfl, rfl, rfl, rfl, rfl, by decide +kernel⟩ ?hw ?hc
  case hw => w_witness2
  case hc =>
    refine DL.walk_ofTG (l := PySem.Challenge.rw_bothandall_k87_whole_maps_and_plans) (n := 63) (k := 12) (x := "_law_script") (CX := L2.CX0) rfl (by decide) (by kernel_rfl) ⟨rfl, by decide, by decide⟩ ?F (fun _ _ _ _ z => z)
    intro w mg fa h Y G hmg0
    obtain ⟨K, KX, c⟩ := Y
    have hmg : mg ("law" : PySem.Str) = some (.ref fa) := by
      have e : (HandSHeadRun.topDef (OpenLaw.row PySem.Challenge.rw_bothandall_k87_whole_maps_and_plans).prog 66).name = ("law" : PySem.Str) := by kernel_rfl
      rw [← e]
      exact hmg0
    obtain ⟨fd, hb, hF⟩ := K87.facts (P := (PySem.Challenge.rw_bothandall_k87_whole_maps_and_plans).prog) (w := w) KX G hmg c
    have m0 : (("_law_is_led_right", none) : He.Defn) ∈ K87.tf := List.mem_cons_self
    refine ⟨K, fd, [He.cT K ("_law_is_led_right", none)], K87.spL K, KX, fun p hp => by rw [List.mem_singleton.mp hp]; exact c.empty _ m0, fun p hp => by rw [List.mem_singleton.mp hp]; exact c.out _ m0, fun p hp => by rw [List.mem_singleton.mp hp]; exact codeHd_of_K KX (c.hd _ m0), hb, fun H a ns hl hO hA hS => ?_, hF⟩
    exact DL.start_tab (q := K87.lamQ) hl (hO _ List.mem_cons_self) (fun e => hA (by rw [e]; exact List.mem_cons_self)) hS fun G gs tb => ⟨a, ns, rfl, hl, gs, tb, rfl⟩
