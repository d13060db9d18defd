import PyProof.Rows.All
import Wide.All
import OpenK.AllK
import Wide.FinOn
import KE.KStateDown
import HandS.ForMost
import HandS.Zip
import HandS.Conv
import HandS.Strs
import HandS.IsInst
import HandS.Deep
import HandS.TupAny
import HandS.Style
import HandS.Flow
import HandS.Wide
import HandS.Defaults
import HandS.HeadEnd
import HandS.SetFor
import KE.SortData
import PyProof.Transfer
import PyProof.Rows.NestShow
import HandS.SortInts
import HandS.TupMul
import HandS.TupSets
import OpenK.KMore
import PyProof.ReprRoads
import HandS.Small
import KE.KRevSl
import KE.KDictZip
import HandS.Gcd
import HandS.DictComp
import HandS.TupLen
import HandS.WordsDict
import KE.DataMinMax
import PyProof.ListNew
import KE.GoesMore
import PySem.Challenge.RW_bothandall_k79_whole_partings_and_spaces
import HandS.Text
import HandS.Head0
import HandS.Head1
import HandS.Head2
import HandS.Head3
import HandS.HeadHook1
import HandS.HeadHook2
import HandS.HeadHook3
import HandS.HeadHook4
set_option Elab.async false
set_option linter.all false
set_option maxRecDepth 100000
set_option maxHeartbeats 4000000
namespace DL
open PySem PySem.Spec PyProof.Rows L2
abbrev St := L2.St

/-! ### data -/
inductive D where
  | non
  | bl (b : Bool)
  | int (i : Int)
  | str (s : Str)
  | tup (xs : List D)
  /-- a tuple whose object is known whole; one that is tracked (a key of a dict) -/
  | tix (xs : List D)
  | tky (xs : List D)
  | lst (xs : List D)
  | dic (t : Bool) (kvs : List (List Key × D))
  | ob (a : Addr)

/-- a dict: with keys that are tuples, with flat keys -/
def odO (t : Bool) (kvs : List (List Key × V)) : HO := match t with
  | true => .dT kvs
  | false => .dK (kvs.map fun kv => (kv.1.headD (.inl 0), kv.2))

mutual
inductive Rp (K : PySem.W.Frag) (F : Hp) : V → D → Prop
  | non : Rp K F .non .non
  | bl (b : Bool) : Rp K F (.bl b) (.bl b)
  | int (i : Int) : Rp K F (.int i) (.int i)
  | str (x : Str) : Rp K F (.str x) (.str x)
  | tup {a : Addr} {vs : List V} {ds : List D} : SqT K F a vs → RpL K F vs ds → Rp K F (.ref a) (.tup ds)
  | tix {a : Addr} {o : Obj} {vs : List V} {ds : List D} : F a = some (.frz o (.tup vs)) → o.dict = none → RpL K F vs ds → Rp K F (.ref a) (.tix ds)
  | tky {a : Addr} {vs : List V} {ds : List D} : F a = some (.tup vs) → RpL K F vs ds → Rp K F (.ref a) (.tky ds)
  | lst {a : Addr} {vs : List V} {ds : List D} : F a = some (.lst vs) → RpL K F vs ds → Rp K F (.ref a) (.lst ds)
  | dic {a : Addr} {t : Bool} {kvs : List (List Key × V)} {kds : List (List Key × D)} : F a = some (odO t kvs) → RpK K F kvs kds → Rp K F (.ref a) (.dic t kds)
  | ob (a : Addr) : Rp K F (.ref a) (.ob a)
inductive RpL (K : PySem.W.Frag) (F : Hp) : List V → List D → Prop
  | nil : RpL K F [] []
  | cons {v : V} {vs : List V} {d : D} {ds : List D} : Rp K F v d → RpL K F vs ds → RpL K F (v :: vs) (d :: ds)
inductive RpK (K : PySem.W.Frag) (F : Hp) : List (List Key × V) → List (List Key × D) → Prop
  | nil : RpK K F [] []
  | cons {k : List Key} {v : V} {vs : List (List Key × V)} {d : D} {ds : List (List Key × D)} : Rp K F v d → RpK K F vs ds → RpK K F ((k, v) :: vs) ((k, d) :: ds)
end

section
variable {K : PySem.W.Frag} {F F' : Hp}
theorem Same.sqt {a : Addr} {xs : List V} (e : Same F F') (h : SqT K F a xs) : SqT K F' a xs := by
  rcases h with (h | ⟨o, h⟩) | h
  · exact .inl (.inl (e _ _ h))
  · exact .inl (.inr ⟨o, e _ _ h⟩)
  · exact .inr h
mutual
theorem Rp.mono (e : Same F F') : ∀ {v : V} {d : D}, Rp K F v d → Rp K F' v d
  | _, _, .non => .non
  | _, _, .bl b => .bl b
  | _, _, .int i => .int i
  | _, _, .str x => .str x
  | _, _, .tup h r => .tup (Same.sqt e h) (RpL.mono e r)
  | _, _, .tix h n r => .tix (e _ _ h) n (RpL.mono e r)
  | _, _, .tky h r => .tky (e _ _ h) (RpL.mono e r)
  | _, _, .lst h r => .lst (e _ _ h) (RpL.mono e r)
  | _, _, .dic h r => .dic (e _ _ h) (RpK.mono e r)
  | _, _, .ob a => .ob a
theorem RpL.mono (e : Same F F') : ∀ {vs : List V} {ds : List D}, RpL K F vs ds → RpL K F' vs ds
  | _, _, .nil => .nil
  | _, _, .cons h r => .cons (Rp.mono e h) (RpL.mono e r)
theorem RpK.mono (e : Same F F') : ∀ {vs : List (List Key × V)} {ds : List (List Key × D)}, RpK K F vs ds → RpK K F' vs ds
  | _, _, .nil => .nil
  | _, _, .cons h r => .cons (Rp.mono e h) (RpK.mono e r)
end
theorem RpK.split : ∀ {vs : List (List Key × V)} {ds : List (List Key × D)}, RpK K F vs ds → vs.map (·.1) = ds.map (·.1) ∧ RpL K F (vs.map (·.2)) (ds.map (·.2))
  | _, _, .nil => ⟨rfl, .nil⟩
  | _, _, .cons h r => ⟨congrArg (_ :: ·) (RpK.split r).1, .cons h (RpK.split r).2⟩
theorem RpK.join : ∀ {vs : List (List Key × V)} {ds : List (List Key × D)}, vs.map (·.1) = ds.map (·.1) → RpL K F (vs.map (·.2)) (ds.map (·.2)) → RpK K F vs ds
  | [], [], _, _ => .nil
  | [], _ :: _, e, _ => by cases e
  | _ :: _, [], e, _ => by cases e
  | (k, v) :: vs, (k', d) :: ds, e, r => by
    rw [List.map_cons, List.map_cons] at e r
    cases r with
    | cons h r =>
      injection e with e1 e2
      have e1 : k = k' := e1
      subst e1
      exact .cons h (RpK.join e2 r)
theorem isMutO_od (t : Bool) (kvs : List (List Key × V)) : (match odO t kvs with | .tup _ => false | .frz _ _ => false | _ => true) = true := by cases t <;> rfl
theorem RpL.len : ∀ {vs : List V} {ds : List D}, RpL K F vs ds → vs.length = ds.length
  | _, _, .nil => rfl
  | _, _, .cons _ r => by rw [List.length_cons, List.length_cons, RpL.len r]
theorem RpL.append : ∀ {vs us : List V} {ds es : List D}, RpL K F vs ds → RpL K F us es → RpL K F (vs ++ us) (ds ++ es)
  | _, _, _, _, .nil, r => r
  | _, _, _, _, .cons h r, r' => .cons h (RpL.append r r')
theorem RpL.get : ∀ {vs : List V} {ds : List D} {i : Nat} {d : D}, RpL K F vs ds → ds[i]? = some d → ∃ v, vs[i]? = some v ∧ Rp K F v d
  | _, _, _, _, .nil, e => by simp at e
  | _, _, 0, _, .cons h _, e => by simp at e; subst e; exact ⟨_, rfl, h⟩
  | _, _, i + 1, d, .cons _ r, e => by
    obtain ⟨v, h1, h2⟩ := RpL.get (i := i) (d := d) r (by simpa using e)
    exact ⟨v, by simpa using h1, h2⟩
theorem RpL.getV : ∀ {vs : List V} {ds : List D} {i : Nat} {v : V}, RpL K F vs ds → vs[i]? = some v → ∃ d, ds[i]? = some d ∧ Rp K F v d
  | _, _, _, _, .nil, e => by simp at e
  | _, _, 0, _, .cons h _, e => by simp at e; subst e; exact ⟨_, rfl, h⟩
  | _, _, i + 1, v, .cons _ r, e => by
    obtain ⟨d, h1, h2⟩ := RpL.getV (i := i) (v := v) r (by simpa using e)
    exact ⟨d, by simpa using h1, h2⟩
theorem RpL.set {v : V} {d : D} (h : Rp K F v d) : ∀ {vs : List V} {ds : List D} (i : Nat), RpL K F vs ds → RpL K F (vs.set i v) (ds.set i d)
  | _, _, _, .nil => .nil
  | _, _, 0, .cons _ r => .cons h r
  | _, _, i + 1, .cons q r => .cons q (RpL.set h i r)
theorem RpL.take : ∀ {vs : List V} {ds : List D} (n : Nat), RpL K F vs ds → RpL K F (vs.take n) (ds.take n)
  | _, _, 0, _ => .nil
  | _, _, _ + 1, .nil => .nil
  | _, _, n + 1, .cons h r => .cons h (RpL.take n r)
theorem RpL.drop : ∀ {vs : List V} {ds : List D} (n : Nat), RpL K F vs ds → RpL K F (vs.drop n) (ds.drop n)
  | _, _, 0, r => r
  | _, _, _ + 1, .nil => .nil
  | _, _, n + 1, .cons _ r => RpL.drop n r
theorem RpL.dropLast : ∀ {vs : List V} {ds : List D}, RpL K F vs ds → RpL K F vs.dropLast ds.dropLast := fun {vs ds} r => by
  rw [List.dropLast_eq_take, List.dropLast_eq_take, r.len]
  exact r.take _
theorem RpL.eraseIdx : ∀ {vs : List V} {ds : List D} (i : Nat), RpL K F vs ds → RpL K F (vs.eraseIdx i) (ds.eraseIdx i)
  | _, _, _, .nil => .nil
  | _, _, 0, .cons _ r => r
  | _, _, i + 1, .cons h r => .cons h (RpL.eraseIdx i r)
theorem RpL.reverse : ∀ {vs : List V} {ds : List D}, RpL K F vs ds → RpL K F vs.reverse ds.reverse
  | _, _, .nil => .nil
  | _, _, .cons h r => by
    rw [List.reverse_cons, List.reverse_cons]
    exact RpL.append (RpL.reverse r) (.cons h .nil)
theorem RpL.rep {vs : List V} {ds : List D} (h : RpL K F vs ds) : ∀ k : Nat, RpL K F (List.replicate k vs).flatten (List.replicate k ds).flatten
  | 0 => .nil
  | k + 1 => by
    rw [List.replicate_succ, List.replicate_succ, List.flatten_cons, List.flatten_cons]
    exact h.append (RpL.rep h k)
theorem RpL.ints : ∀ {vs : List V} {ns : List Int}, RpL K F vs (ns.map D.int) → vs = ns.map V.int
  | vs, [], r => by cases r; rfl
  | vs, n :: ns, r => by
    cases r with
    | cons h r =>
      cases h
      rw [RpL.ints r]
      rfl
theorem RpL.of_ints : ∀ {ns : List Int}, RpL K F (ns.map V.int) (ns.map D.int)
  | [] => .nil
  | n :: ns => .cons (.int n) RpL.of_ints
theorem RpL.bls : ∀ {vs : List V} {bs : List Bool}, RpL K F vs (bs.map D.bl) → vs = bs.map V.bl
  | vs, [], r => by cases r; rfl
  | vs, n :: ns, r => by
    cases r with
    | cons h r =>
      cases h
      rw [RpL.bls r]
      rfl
end

/-! ### what a caller keeps for itself -/
def isMutO : HO → Bool
  | .tup _ => false
  | .frz _ _ => false
  | _ => true
structure Gc where
  R : Addr → Prop
  Wd : Hp → Prop
  live : ∀ H a, Wd H → R a → H a ≠ none
  nt : ∀ H a xs, Wd H → R a → H a ≠ some (.tup xs)
  st : ∀ H H', Wd H → (∀ a, R a → H' a = H a) → Wd H'

/-- what a name holds: a value that is never changed any more; a list of this frame's own, a dict of its own -/
inductive SV where
  | fz (d : D)
  | ow (xs : List D)
  | od (t : Bool) (kvs : List (List Key × D))
abbrev En := List (Option SV)

/-- all that stood and isn't the caller's own stands -/
def Fr (G : Gc) (H H' : Hp) : Prop := ∀ b o, H b = some o → ¬ G.R b → H' b = some o
theorem Fr.refl {G : Gc} {H : Hp} : Fr G H H := fun _ _ h _ => h
theorem Fr.trans {G : Gc} {H H1 H2 : Hp} (a : Fr G H H1) (b : Fr G H1 H2) : Fr G H H2 := fun c o h n => b c o (a c o h n) n
theorem Fr.free {G : Gc} {H H' : Hp} (e : Fr G H H') {a : Addr} (n : ¬ G.R a) (h : H' a = none) : H a = none := by
  cases q : H a with
  | none => rfl
  | some o =>
    rw [e a o q n] at h
    cases h
theorem Fr.upd {G : Gc} {H : Hp} {p : Addr} {o : HO} (h : H p = none) : Fr G H (upd H p o) := fun b x e _ => by
  rw [upd_ne (ne_of_none e h)]
  exact e
theorem same_upd {H : Hp} {p : Addr} {o : HO} (h : H p = none) : Same H (upd H p o) := fun b x e => by
  rw [upd_ne (ne_of_none e h)]
  exact e

section
variable (K : PySem.W.Frag) (G : Gc) (F H : Hp)
def RpS (v : V) : SV → Prop
  | .fz d => Rp K F v d
  | .ow xs => ∃ a vs, v = .ref a ∧ H a = some (.lst vs) ∧ RpL K F vs xs ∧ ¬ G.R a
  | .od t kds => ∃ a kvs, v = .ref a ∧ H a = some (odO t kvs) ∧ kvs.map (·.1) = kds.map (·.1) ∧ RpL K F (kvs.map (·.2)) (kds.map (·.2)) ∧ ¬ G.R a
structure EvR (σ : St) (ρ : En) : Prop where
  sub : Same F H
  res : ∀ a, G.R a → F a = none
  wd : G.Wd H
  slot : ∀ (i : Nat) (sv : SV), ρ[i]? = some (some sv) → ∃ v, σ[i]? = some (some v) ∧ RpS K G F H v sv
  len : σ.length = ρ.length
end

section
variable {K : PySem.W.Frag} {G : Gc} {F F' H H' : Hp} {σ : St} {ρ : En}
theorem RpS.go {v : V} {sv : SV} (h : RpS K G F H v sv) (s : Same F F') (fr : Fr G H H') : RpS K G F' H' v sv := by
  cases sv with
  | fz d => exact Rp.mono s h
  | ow xs =>
    obtain ⟨a, vs, e, h1, h2, h3⟩ := h
    exact ⟨a, vs, e, fr _ _ h1 h3, RpL.mono s h2, h3⟩
  | od t kds =>
    obtain ⟨a, vs, e, h1, h0, h2, h3⟩ := h
    exact ⟨a, vs, e, fr _ _ h1 h3, h0, RpL.mono s h2, h3⟩
/-- the state goes on: more is known for good, nothing of ours is touched -/
theorem EvR.go (e : EvR K G F H σ ρ) (s : Same F F') (s' : Same F' H') (fr : Fr G H H') (res : ∀ a, G.R a → F' a = none) (wd : G.Wd H') : EvR K G F' H' σ ρ :=
  ⟨s', res, wd, fun i sv h => let ⟨v, h1, h2⟩ := e.slot i sv h; ⟨v, h1, h2.go s fr⟩, e.len⟩
theorem EvR.nr (e : EvR K G F H σ ρ) {p : Addr} (h : H p = none) : ¬ G.R p := fun r => G.live _ _ e.wd r h
end
end DL
set_option maxHeartbeats 4000000
/-! Promises of defs that are called while no value is being shown: then a container can be shown. -/
namespace DL
open PySem PySem.Spec PyProof.Rows L2

def NoShow (A : Around) : Prop := A.guards = some []
theorem NoShow.deeper {A : Around} (h : NoShow A) (env : Env) : NoShow (A.deeper env) := h
/-- a def's promise where no value is being shown; E: what is wanted of an exception -/
structure FnG (P : Program) (w : World) (K : PySem.W.Frag) (mg : Str → Option Value) (base : Heap) (CX : CXT) (k : Nat) (f : Addr) (fd : FuncData) (ps : List Str) (sp : Sp) : Prop where
  many : ∀ {vs : List V} {H : Hp} {Q : VK} {E : XK}, sp vs H Q E → vs.length = ps.length
  goes : ∀ {A : Around} {outer : List Env} {s : Shared} {H : Hp} {args : Args} {us : List Value} {vs : List V} {Q : VK} {E : XK}, Room k A → NoShow A → Env0 P w K mg base A outer s H → BindsTo s fd args (ps.zip us) → Vals vs us → sp vs H Q E →
    codeAny (model P w) A (.call (.ref f) args) (CR CX outer P w H s Q E) s
section
variable {P : Program} {w : World} {K : PySem.W.Frag} {mg : Str → Option Value} {base : Heap} {CX : CXT} {k : Nat} {f : Addr} {fd : FuncData} {ps : List Str} {sp : Sp}
theorem FnG.up {j : Nat} (F : FnG P w K mg base CX j f fd ps sp) (h : j ≤ k) : FnG P w K mg base CX k f fd ps sp := ⟨F.many, fun hr => F.goes (hr.mono h)⟩
theorem FnG.of_ok (F : FnOk P w K mg base CX k f fd ps sp) : FnG P w K mg base CX k f fd ps sp := ⟨fun {vs H Q E} q => F.len vs H Q E q, fun {A outer s H args us vs Q E} hr _ e b r q => F.run A outer s H args us vs Q E hr e b r q⟩
/-- a def by its body -/
theorem _root_.L2.FunD.okG {x qual : Str} {params : Arguments} {body : List Stmt} {scope : Scope} {dvs : List V} {kws : List (Str × V)} {N : List Str} (F : FunD K x qual params body scope dvs kws f fd) (S : FnScope N ps scope) (len : ∀ vs H Q E, sp vs H Q E → vs.length = ps.length)
    (walk : ∀ (cdv : Value) (A : Around) (outer : List Env) (s : Shared) (H : Hp) (vs : List V) (Q : VK) (E : XK), Room k (A.deeper (envOfC qual scope s.heap.objs.size f cdv)) → NoShow A → sp vs H Q E →
      ∃ t, PSs (cxOf CX P w K mg base N qual scope f cdv A outer s H E) body t ∧ t { nx := fun _ H' => Q .non H', rt := Q } (L2.start N vs) H) : FnG P w K mg base CX (k + 1) f fd ps sp := by
  obtain ⟨oc, od, dV, kV, doc, pm, an, cdv, ct, osl, rfl, lk, hcd, _, _⟩ := F.ex
  refine ⟨fun {vs H Q E} q => len vs H Q E q, fun {A outer s H args us vs Q E} hr hn e0 hb r q => ?_⟩
  have hl := len vs H Q E q
  have kin : K.In s.heap := e0.mod.kin.keeps fun b o z => (e0.bs b o z).1
  have lim : s.heap.NoLimit := e0.mod.nolimit.keeps fun b o z => (e0.bs b o z).1
  have kinds : ∀ y ∈ ps.zip us, scope.names.lookup y.1 = some .local ∨ (scope.names.lookup y.1 = some .cell ∧ ((cellsFrom (s.heap.objs.size + 1) scope.names []).lookup y.1).isSome = true) := fun y hy => by
    obtain ⟨n, u⟩ := y
    rcases S.par n (List.of_mem_zip hy).1 with z | z
    · exact Or.inl z
    · exact Or.inr ⟨z, PySem.W.cellsFrom_some _ _ _ (Or.inl z)⟩
  refine codeAny_call_function hr.depth (kin _ _ lk) rfl S.co S.gen rfl (PySem.W.codeRec_of kin hcd) (hb _ _ _ _ ?_)
  refine wpAny_newFunctionEnv_cells S.kind kinds fun env he s1 x => ?_
  subst he
  refine ⟨lim.keeps x.toInCall.keep, codeAny_func ?_⟩
  obtain ⟨t, ht, hq⟩ := walk cdv A outer s H vs Q E (hr.deeper _) hn q
  have J : Inv (cxOf CX P w K mg base N qual scope f cdv A outer s H E) [] (L2.start N vs) H s1 := inv_start S hr.hd e0 hl r x
  refine wpAny_mono (ht.run [] s1 (L2.start N vs) H _ J hq) (fun fl s' hs => ?_) fun _ _ z => z
  cases fl with
  | ret u =>
    obtain ⟨v, σ', H', J, rv, z⟩ := hs
    exact ⟨v, H', J.os, J.bare, J.base, J.hok, rv, z⟩
  | next =>
    obtain ⟨σ', H', J, z⟩ := hs
    exact ⟨V.non, H', J.os, J.bare, J.base, J.hok, rfl, z⟩
  | brk =>
    obtain ⟨_, _, _, z⟩ := hs
    exact z.elim
  | cont =>
    obtain ⟨_, _, _, z⟩ := hs
    exact z.elim
end
section
variable {X : Cx} {CX : CXT} {k : Nat} {f : Addr} {fd : FuncData} {ps : List Str} {sp : Sp} {E : XK} {x : Str} {p pos : Pos} {e : Expr} {es : List Expr} {t : TA}
theorem callee {pins : List (Addr × Obj)} {σ : L2.St} {H : Hp} {s : Shared} {Q : VK} {args : Args} {us : List Value} {vs : List V} (F : FnG X.prog X.w X.K X.mg X.base CX k f fd ps sp) (hr : Room k X.A) (hn : NoShow X.A) (hb : BindsTo s fd args (ps.zip us)) (hx : Passes CX X E)
    (I : Inv X pins σ H s) (r : Vals vs us) (h : sp vs H Q E) : codeAny (model X.prog X.w) X.A (.call (.ref f) args) (fun r s' => match r with | .ok (.ret u) => EP X pins σ Q u s' | .ok _ => False | .error e => X.xe e s') s :=
  codeAny_mono (F.goes hr hn I.env0 hb r h) fun r s' hq => by
    cases r with
    | error e => exact hx pins σ H s e s' I hq
    | ok fl =>
      cases fl with
      | ret u => exact I.after hq
      | next => exact False.elim hq
      | brk => exact False.elim hq
      | cont => exact False.elim hq
theorem pe_callG (F : FnG X.prog X.w X.K X.mg X.base CX k f fd ps sp) (hr : Room k X.A) (hn : NoShow X.A) (hg : Gl X x) (hm : X.mg x = some (.ref f)) (hk : PySem.W.keepIn X.K (.ref f) = true) (hb : Binds X.K fd ps []) (hx : Passes CX X E)
    (ha : PA X (e :: es) t) (hdb : (x == ("__debug__" : Str)) = false) (he : starEach (e :: es) X.env = (false, eval e X.env) :: starEach es X.env) (hpl : (backTo pos (starEach es X.env)).any (·.1) = false) :
    PE X (.Call (.Name x p) (e :: es) [] pos) (fun σ H Q => t σ H fun vs H1 => sp vs H1 Q E) := by
  refine ⟨fun pins s σ H Q I h => wpAny_Call_Name_kw (ld_glob I hg hm ?_ hdb)⟩
  refine PySem.W.callWith_K (h₀ := X.base) I.ok.mod.kin hk (thn (ha.run pos pins s σ H _ I h) fun us s1 ⟨vs, H1, I1, r, q⟩ => ⟨I1.kIn, ?_⟩) he hpl
  have hl : us.length = ps.length := by rw [← r.length]; exact F.many q
  have b := hb s1 us I1.kIn (by rw [List.append_nil]; exact hl)
  rw [List.append_nil] at b
  exact wpAny_call (codeAny_mono (callee F hr hn b hx I1 r q) fun r s' z => by
    cases r with
    | error e => exact z
    | ok fl => cases fl <;> first | exact z | exact z.elim)
theorem pe_callG0 (F : FnG X.prog X.w X.K X.mg X.base CX k f fd ps sp) (hr : Room k X.A) (hn : NoShow X.A) (hg : Gl X x) (hm : X.mg x = some (.ref f)) (hk : PySem.W.keepIn X.K (.ref f) = true) (hb : Binds X.K fd ps []) (hx : Passes CX X E)
    (hdb : (x == ("__debug__" : Str)) = false) : PE X (.Call (.Name x p) [] [] pos) (fun σ H Q => sp [] H Q E) := by
  refine ⟨fun pins s σ H Q I h => wpAny_Call_Name_kw (ld_glob I hg hm ?_ hdb)⟩
  refine PySem.W.callWith_K0 I.kIn hk ?_
  have hl : ([] : List Value).length = ps.length := F.many h
  have b := hb s [] I.kIn (by rw [List.append_nil]; exact hl)
  rw [List.append_nil] at b
  exact wpAny_call (codeAny_mono (callee F hr hn b hx I .nil h) fun r s' z => by
    cases r with
    | error e => exact z
    | ok fl => cases fl <;> first | exact z | exact z.elim)
end
end DL
set_option maxHeartbeats 4000000
/-! keywords; the end of a law whose defs promise so -/
namespace DL
open PySem PySem.Spec PyProof.Rows L2
section
variable {X : Cx} {CX : CXT} {k : Nat} {f : Addr} {fd : FuncData} {ps ks : List Str} {sp : Sp} {E : XK} {x : Str} {p pos : Pos} {kws : List Keyword} {tk : TA} {g : List Value → List Value → List Value} {gV : List V → List V → List V}
theorem pe_callGK (F : FnG X.prog X.w X.K X.mg X.base CX k f fd ps sp) (hr : Room k X.A) (hn : NoShow X.A) (hg : Gl X x) (hm : X.mg x = some (.ref f)) (hk : PySem.W.keepIn X.K (.ref f) = true) (hb : KBinds X.K fd ps ks g gV) (hx : Passes CX X E)
    (hkw : PK X kws tk) (hall : (backToKw pos (keywordEach kws X.env)).all (·.1.isSome) = true) (hks : (backToKw pos (keywordEach kws X.env)).filterMap (·.1) = ks) (hdb : (x == ("__debug__" : Str)) = false) (hpl : ((backTo pos (starEach [] X.env)).any (·.1) || (backToKw pos (keywordEach kws X.env)).any (·.1.isNone)) = false) :
    PE X (.Call (.Name x p) [] kws pos) (fun σ H Q => tk σ H fun zs H2 => sp (gV [] zs) H2 Q E) := by
  refine ⟨fun pins s σ H Q I h => wpAny_Call_Name_kw (ld_glob I hg hm ?_ hdb)⟩
  refine PySem.W.callWith_KW0 (h₀ := X.base) I.ok.mod.kin hk hall (thn (hkw.run pos pins s σ H _ I h) fun ws s2 ⟨zs, H2, I2, rz, q2⟩ => ⟨I2.kIn, ?_⟩) hpl
  rw [hks]
  have r2 := hb.rel (vs := []) (us := []) .nil rz
  have hl : (g [] ws).length = ps.length := by rw [← r2.length]; exact F.many q2
  exact wpAny_call (codeAny_mono (callee F hr hn (hb.to s2 [] ws I2.kIn hl) hx I2 r2 q2) fun r s' z => by
    cases r with
    | error e => exact z
    | ok fl => cases fl <;> first | exact z | exact z.elim)
end

section
variable {P : Program} {w : World} {K : PySem.W.Frag} {mg mb : Str → Option Value} {CX : CXT} {k : Nat} {fa a : Addr} {fd : FuncData} {x : Str} {sp : Sp} {s : Shared} {vs : List Value} {ns : List Int}
abbrev Fine (s : Shared) : Result → Shared → Prop := fun r s' => r = .ok (.ret (.bool true)) ∧ OldK s.heap s'.heap ∧ s'.os = s.os ∧ AllBare s'.gens
/-- over an abstract heap that tracks at most the script -/
theorem law_runs (kin : K.In s.heap) (hns : s.heap.Ns mainGlobals mg) (hb : s.heap.Ns builtinsNs mb) (hbb : ∀ y : Str, y ≠ "__name__" → mb y = bootBuiltins y) (lim : s.heap.NoLimit) (hg : s.gens = #[])
    (ha : s.heap.get? a = some { cls := .type "list", data := .seq vs.toArray }) (hr : Room k callerA) (F : ∀ base : Heap, K.In base → base.Ns mainGlobals mg → FnG P w K mg base CX k fa fd [x] sp)
    (bind : ∀ (s : Shared) (u : Value), BindsTo s fd ⟨[u], []⟩ [(x, u)]) {H : Hp} (hO : Only H) (q : sp [.ref a] H (fun v _ => v = .bl true) fun _ _ _ => False) (hok : HOk P w H s.heap) (only : ∀ b, H b ≠ none → b = a) (apart : H a ≠ none → K.lookup a = none)
    (hCX : ∀ H e s', CX [] H s (fun _ _ _ => False) e s' → False) : codeAny (model P w) callerA (.call (.ref fa) ⟨[.ref a], []⟩) (Fine s) s := by
  have nodict : ∀ {b : Addr} {o : Obj} {es : Array DictEntry} {ep : Nat}, s.heap.get? b = some o → o.data = .dict es ep → H b = none := fun {b o es ep} e d => by
    by_cases z : H b = none
    · exact z
    · rw [only b z, ha] at e
      cases e
      exact nomatch (show Data.seq vs.toArray _ = Data.dict es ep from d)
  have ns' : ∀ {b : Addr} {m : Str → Option Value}, s.heap.Ns b m → (hidT s.heap H).Ns b m := fun ⟨o, es, ep, e, d, r⟩ => ⟨o, es, ep, hidT_get e (nodict e d), d, r⟩
  have kin' : K.In (hidT s.heap H) := fun b o e => hidT_get (kin b o e) (by
    by_cases z : H b = none
    · exact z
    · have eb := only b z
      rw [eb] at e z
      rw [apart z] at e
      cases e)
  obtain ⟨mc, c1, c2⟩ := lim
  have e0 : Env0 P w K mg (hidT s.heap H) callerA [] s H := ⟨rfl, ⟨kin', ns' hns, ⟨mb, ns' hb, hbb⟩, ⟨mc, ns' c1, c2⟩⟩, fun b o e => of_hidT e, Nat.le_of_eq (hidT_size _ _), trivial, fun b z => absurd z List.not_mem_nil, hok, .of_eq hg⟩
  refine codeAny_mono ((F _ kin' (ns' hns)).goes (us := [.ref a]) (vs := [.ref a]) hr rfl e0 (bind s (.ref a)) (.cons rfl .nil) q) fun r s' z => ?_
  match r, z with
  | .error e, z => exact (hCX H e s' z).elim
  | .ok .next, z => exact False.elim z
  | .ok .brk, z => exact False.elim z
  | .ok .cont, z => exact False.elim z
  | .ok (.ret u), ⟨v, H', os, bare, un, hok', rv, (ev : v = .bl true)⟩ =>
    rw [ev] at rv
    have eu : u = Value.bool true := rv
    rw [eu]
    refine ⟨rfl, OldK.of_keep fun b o e => ?_, os, bare⟩
    rcases hO b with z | ⟨ob, xs, z⟩
    · exact un.keep b o e z (fun i => absurd (show b ∈ ([] : List Addr) from i) List.not_mem_nil) List.not_mem_nil
    · have e1 := (hok b _ z).1
      have e2 := (hok' b _ (un.frzs b ob _ z)).1
      rw [e1] at e
      rw [e2, e]
theorem law_callG (kin : K.In s.heap) (hns : s.heap.Ns mainGlobals mg) (hb : s.heap.Ns builtinsNs mb) (hbb : ∀ y : Str, y ≠ "__name__" → mb y = bootBuiltins y) (lim : s.heap.NoLimit) (hg : s.gens = #[])
    (ha : s.heap.get? a = some { cls := .type "list", data := .seq vs.toArray }) (hi : IntsAre vs ns) (hl : ns.length ≤ sizeLine) (hr : Room k callerA) (F : ∀ base : Heap, K.In base → base.Ns mainGlobals mg → FnG P w K mg base CX k fa fd [x] sp)
    (bind : ∀ (s : Shared) (u : Value), BindsTo s fd ⟨[u], []⟩ [(x, u)]) (hsp : ∀ H : Hp, Only H → SqL K H a (ns.map V.int) → sp [.ref a] H (fun v _ => v = .bl true) fun _ _ _ => False)
    (hCX : ∀ H e s', CX [] H s (fun _ _ _ => False) e s' → False) : codeAny (model P w) callerA (.call (.ref fa) ⟨[.ref a], []⟩) (Fine s) s := by
  have rv := vals_ints hi
  cases hk : K.lookup a with
  | some o =>
    have e := kin a o hk
    rw [ha] at e
    cases e
    have hO : Only (fun _ => none) := fun _ => Or.inl rfl
    exact law_runs kin hns hb hbb lim hg ha hr F bind hO (hsp _ hO (Or.inr ⟨_, vs.toArray, _, hk, rfl, rfl, rfl, by rw [List.size_toArray, hi.length]; exact hl, by simpa using rv⟩)) (fun b u z => nomatch (show (none : Option HO) = some u from z)) (fun b z => absurd rfl z) (fun z => absurd rfl z) hCX
  | none =>
    let H : Hp := fun b => if b = a then some (.frz { cls := .type "list", data := .seq vs.toArray } (.lst (ns.map V.int))) else none
    have at_a : H a = some (.frz { cls := .type "list", data := .seq vs.toArray } (.lst (ns.map V.int))) := if_pos rfl
    have off : ∀ b, b ≠ a → H b = none := fun b n => if_neg n
    have hO : Only H := fun b => by
      by_cases z : b = a
      · rw [z]; exact Or.inr ⟨_, _, at_a⟩
      · exact Or.inl (off b z)
    refine law_runs kin hns hb hbb lim hg ha hr F bind hO (hsp _ hO (Or.inl (Or.inr ⟨_, at_a⟩))) (fun b u z => ?_) (fun b z => Classical.byContradiction fun n => z (off b n)) (fun _ => hk) hCX
    by_cases n : b = a
    · rw [n, at_a] at z
      cases z
      rw [n]
      exact ⟨ha, by rw [List.length_map]; exact hl, vs, _, rv, ha⟩
    · rw [off b n] at z
      cases z
end
/-- the end over a head by facts -/
theorem walk_ofG {l : PySem.W.OpenLaw} {n k : Nat} {q : Program} {loose : List Str} {XP : (Str → Option Value) → Heap → Prop} {YP : World → Heap → Prop} {d : DefRec} {CX : CXT} {x : Str} (hn : l.most = some n) (hn2 : n ≤ sizeLine) (hdf : d.params.defaults = []) (hr : Room k callerA)
    (F : ∀ (w : World) (mg : Str → Option Value) (fa : Addr) (h : Heap), YP w h → h.Ns mainGlobals mg → mg d.name = some (.ref fa) → ∃ (K : PySem.W.Frag) (fd : FuncData) (sp : Sp), K.In h ∧ (∀ (s : Shared) (u : Value), BindsTo s fd ⟨[u], []⟩ [(x, u)]) ∧
      (∀ (H : Hp) (a : Addr) (ns : List Int), ns.length ≤ n → Only H → SqL K H a (ns.map V.int) → sp [.ref a] H (fun v _ => v = .bl true) fun _ _ _ => False) ∧ ∀ base : Heap, K.In base → base.Ns mainGlobals mg → FnG l.prog w K mg base CX k fa fd [x] sp)
    (hCX : ∀ (H : Hp) (s : Shared) (e : Value) (s' : Shared), CX [] H s (fun _ _ _ => False) e s' → False) : PySem.W.WalkO q loose XP YP l.row.toRowW d [] (fun f vs => PySem.call f vs) := by
  refine Att.attach_call hn hdf fun w s₀ s₁ mg mb fa o pm cd doc a vs ns G Y ho hd hcd hmg hobj hints hlen hg => ?_
  obtain ⟨K, fd, sp, kin, hb, hsp, hF⟩ := F w mg fa _ Y G.T.g hmg
  exact law_callG kin G.T.g G.T.b G.T.builtins G.T.nolimit hg hobj hints (Nat.le_trans hlen hn2) hr hF hb (fun H hO hS => hsp H a ns hlen hO hS) fun H e s' => hCX H s₁ e s'
end DL
set_option maxHeartbeats 4000000
namespace DL
open PySem PySem.Spec PyProof.Rows L2

/-! ### what is written of a def: its names, what its module's names stand for -/
structure Bs where
  P : Program
  w : World
  K : PySem.W.Frag
  mg : Str → Option Value
  base : Heap
structure Sta extends Bs where
  N : List Str
  names : List (Str × NameKind)
  k : Nat
  fc : Str → Bool

structure Fam (S : Sta) (X : Cx) : Prop where
  P : X.prog = S.P
  w : X.w = S.w
  K : X.K = S.K
  mg : X.mg = S.mg
  base : X.base = S.base
  N : X.N = S.N
  look : X.env.scope.names = S.names
  calm : X.calm = true
  room : Room S.k X.A
  po : PassesOwn (model X.prog X.w) X.A X.env X.xe
  fn : ∀ x, S.fc x = true → X.fn x = true
  kind : X.env.scope.kind = .function
  ns : NoShow X.A

/-! ### the meanings -/
abbrev W := Gc → En → (D → Prop) → Prop
abbrev WO := Gc → En → (SV → Prop) → Prop
abbrev WT := Gc → En → (Bool → Prop) → Prop
abbrev WA := Gc → En → (List D → Prop) → Prop

/-- a value just made: a list of our own, at a new address -/
def RpO (K : PySem.W.Frag) (G : Gc) (F' H H' : Hp) (v : V) : SV → Prop
  | .fz d => Rp K F' v d
  | .ow xs => ∃ a vs, v = .ref a ∧ H' a = some (.lst vs) ∧ RpL K F' vs xs ∧ ¬ G.R a ∧ H a = none ∧ F' a = none
  | .od t kds => ∃ a kvs, v = .ref a ∧ H' a = some (odO t kvs) ∧ kvs.map (·.1) = kds.map (·.1) ∧ RpL K F' (kvs.map (·.2)) (kds.map (·.2)) ∧ ¬ G.R a ∧ H a = none ∧ F' a = none

section
variable (K : PySem.W.Frag)
def tD (w : W) : TE := fun σ H Q => ∃ G F ρ Qd, EvR K G F H σ ρ ∧ w G ρ Qd ∧ ∀ v H' F' d, Same F F' → EvR K G F' H' σ ρ → Fr G H H' → Rp K F' v d → Qd d → Q v H'
def tO (w : WO) : TE := fun σ H Q => ∃ G F ρ Qd, EvR K G F H σ ρ ∧ w G ρ Qd ∧ ∀ v H' F' sv, Same F F' → EvR K G F' H' σ ρ → Fr G H H' → RpO K G F' H H' v sv → Qd sv → Q v H'
def tT (w : WT) : TT := fun σ H Q => ∃ G F ρ Qd, EvR K G F H σ ρ ∧ w G ρ Qd ∧ ∀ b H' F', Same F F' → EvR K G F' H' σ ρ → Fr G H H' → Qd b → Q b H'
def tA (w : WA) : TA := fun σ H Q => ∃ G F ρ Qd, EvR K G F H σ ρ ∧ w G ρ Qd ∧ ∀ vs H' F' ds, Same F F' → EvR K G F' H' σ ρ → Fr G H H' → RpL K F' vs ds → Qd ds → Q vs H'
end
def DE (S : Sta) (e : Expr) (w : W) : Prop := ∀ X, Fam S X → PE X e (tD S.K w)
def DO (S : Sta) (e : Expr) (w : WO) : Prop := ∀ X, Fam S X → PE X e (tO S.K w)
def DT (S : Sta) (e : Expr) (w : WT) : Prop := ∀ X, Fam S X → PT X e (tT S.K w)
def DW (S : Sta) (e : Expr) (w : WT) : Prop := ∀ X, Fam S X → PW X e (tT S.K w)
def DA (S : Sta) (es : List Expr) (w : WA) : Prop := ∀ X, Fam S X → PA X es (tA S.K w)

theorem _root_.L2.PE.imp {X : Cx} {e : Expr} {t t' : TE} (h : PE X e t) (i : ∀ σ H Q, t' σ H Q → t σ H Q) : PE X e t' := ⟨fun pins s σ H Q I q => h.run pins s σ H Q I (i σ H Q q)⟩
theorem _root_.L2.PT.imp {X : Cx} {e : Expr} {t t' : TT} (h : PT X e t) (i : ∀ σ H Q, t' σ H Q → t σ H Q) : PT X e t' := ⟨fun pins s σ H Q I q => h.run pins s σ H Q I (i σ H Q q)⟩
theorem _root_.L2.PW.imp {X : Cx} {e : Expr} {t t' : TT} (h : PW X e t) (i : ∀ σ H Q, t' σ H Q → t σ H Q) : PW X e t' := ⟨fun wh pins s σ H Q I q => h.run wh pins s σ H Q I (i σ H Q q)⟩
theorem _root_.L2.PA.imp {X : Cx} {es : List Expr} {t t' : TA} (h : PA X es t) (i : ∀ σ H Q, t' σ H Q → t σ H Q) : PA X es t' := ⟨fun pos pins s σ H Q I q => h.run pos pins s σ H Q I (i σ H Q q)⟩
theorem _root_.L2.PS.imp {X : Cx} {e : Stmt} {t t' : TS} (h : PS X e t) (i : ∀ E σ H, t' E σ H → t E σ H) : PS X e t' := ⟨fun pins s σ H Q I q => h.run pins s σ H Q I (i Q σ H q)⟩
theorem _root_.L2.PSs.imp {X : Cx} {e : List Stmt} {t t' : TS} (h : PSs X e t) (i : ∀ E σ H, t' E σ H → t E σ H) : PSs X e t' := ⟨fun pins s σ H Q I q => h.run pins s σ H Q I (i Q σ H q)⟩

section
variable {K : PySem.W.Frag} {G : Gc} {F F' H H' : Hp} {σ : St} {ρ : En}
theorem EvR.live (e : EvR K G F H σ ρ) {p : Addr} {o : HO} (h : H p = none) : EvR K G (upd F p o) (upd H p o) σ ρ := by
  have nr := e.nr h
  have nf : F p = none := by
    cases q : F p with
    | none => rfl
    | some u => rw [e.sub _ _ q] at h; cases h
  refine e.go (same_upd nf) (fun b x q => ?_) (Fr.upd h) (fun a r => ?_) (G.st _ _ e.wd fun a r => upd_ne (by rintro rfl; exact nr r))
  · by_cases hb : b = p
    · subst hb; rw [upd_same] at q ⊢; exact q
    · rw [upd_ne hb] at q ⊢; exact e.sub _ _ q
  · rw [upd_ne (by rintro rfl; exact nr r)]; exact e.res a r
theorem EvR.fnone (e : EvR K G F H σ ρ) {p : Addr} (h : H p = none) : F p = none := by
  cases q : F p with
  | none => rfl
  | some u => rw [e.sub _ _ q] at h; cases h
/-- a new object that we keep to change it -/
theorem EvR.liveO (e : EvR K G F H σ ρ) {p : Addr} {o : HO} (h : H p = none) : EvR K G F (upd H p o) σ ρ := by
  have nr := e.nr h
  refine e.go (Same.refl _) (fun b x q => ?_) (Fr.upd h) e.res (G.st _ _ e.wd fun a r => upd_ne (by rintro rfl; exact nr r))
  rw [upd_ne (ne_of_none (e.sub _ _ q) h)]
  exact e.sub _ _ q
/-- a list that is ours is looked at -/
theorem EvR.see (e : EvR K G F H σ ρ) {p : Addr} {o : HO} (h : H p = some o) (n : ¬ G.R p) : EvR K G (upd F p o) H σ ρ ∧ Same F (upd F p o) := by
  have sf : Same F (upd F p o) := fun b x q => by
    by_cases hb : b = p
    · subst hb; rw [upd_same, ← h]; exact (e.sub _ _ q).symm ▸ rfl
    · rw [upd_ne hb]; exact q
  refine ⟨e.go sf (fun b x q => ?_) Fr.refl (fun a r => ?_) e.wd, sf⟩
  · by_cases hb : b = p
    · subst hb; rw [upd_same] at q; rw [h]; exact q
    · rw [upd_ne hb] at q; exact e.sub _ _ q
  · rw [upd_ne (by rintro rfl; exact n r)]; exact e.res a r
end

/-! ### names, constants -/
def wVar (i : Nat) : W := fun _ ρ Q => ∃ sv, ρ[i]? = some (some sv) ∧ match sv with
  | .fz d => Q d
  | .ow xs => Q (.lst xs)
  | .od t kds => Q (.dic t kds)
def wC (d : D) : W := fun _ _ Q => Q d
section
variable {S : Sta} {e : Expr} {pos : Pos}
theorem de_var {i : Nat} {x : Str} (hN : S.N[i]? = some x) (hv : S.names.lookup x = some .local ∨ S.names.lookup x = some .cell ∨ S.names.lookup x = some .free) (hd : (x == ("__debug__" : Str)) = false) (hcd : (x == ("__classdict__" : Str)) = false) : DE S (.Name x pos) (wVar i) := fun X f => by
  refine (pe_var (i := i) (x := x) (by rw [f.N]; exact hN) (by unfold Vis; rw [f.look]; exact hv) hd hcd).imp fun σ H Q ⟨G, F, ρ, Qd, ev, ⟨sv, e1, q⟩, hq⟩ => ?_
  obtain ⟨v, h1, h2⟩ := ev.slot i sv e1
  refine ⟨v, h1, ?_⟩
  cases sv with
  | fz d => exact hq v H F d (Same.refl _) ev Fr.refl h2 q
  | ow xs =>
    obtain ⟨a, vs, rfl, ha, hr, hn⟩ := h2
    obtain ⟨ev', sf⟩ := ev.see ha hn
    exact hq _ H _ _ sf ev' Fr.refl (.lst upd_same (hr.mono sf)) q
  | od t kds =>
    obtain ⟨a, vs, rfl, ha, h0, hr, hn⟩ := h2
    obtain ⟨ev', sf⟩ := ev.see ha hn
    exact hq _ H _ _ sf ev' Fr.refl (.dic upd_same (RpK.join h0 (hr.mono sf))) q
theorem de_int {i : Int} {j : Nat} : DE S (.Constant (.int i) j pos) (wC (.int i)) := fun X f => pe_int.imp fun σ H Q ⟨G, F, ρ, Qd, ev, q, hq⟩ => hq _ H F _ (Same.refl _) ev Fr.refl (.int i) q
theorem de_bl {i : Bool} {j : Nat} : DE S (.Constant (.bool i) j pos) (wC (.bl i)) := fun X f => pe_bl.imp fun σ H Q ⟨G, F, ρ, Qd, ev, q, hq⟩ => hq _ H F _ (Same.refl _) ev Fr.refl (.bl i) q
theorem de_non {j : Nat} : DE S (.Constant .none j pos) (wC .non) := fun X f => pe_non.imp fun σ H Q ⟨G, F, ρ, Qd, ev, q, hq⟩ => hq _ H F _ (Same.refl _) ev Fr.refl .non q
theorem de_str {x : Str} {j : Nat} : DE S (.Constant (.str x) j pos) (wC (.str x)) := fun X f => pe_str.imp fun σ H Q ⟨G, F, ρ, Qd, ev, q, hq⟩ => hq _ H F _ (Same.refl _) ev Fr.refl (.str x) q
/-- a module's int -/
theorem de_gint {x : Str} {i : Int} (hg : S.names.lookup x = some .globalImplicit) (hm : ∃ t, S.mg x = some (.int i t)) (hd : (x == ("__debug__" : Str)) = false) : DE S (.Name x pos) (wC (.int i)) := fun X f => by
  obtain ⟨t, hm⟩ := hm
  exact (pe_glob (v := .int i) (u := .int i t) (by unfold Gl Env.kindOf; rw [f.look]; exact hg) (by rw [f.mg]; exact hm) ⟨t, rfl⟩ hd).imp fun σ H Q ⟨G, F, ρ, Qd, ev, q, hq⟩ => hq _ H F _ (Same.refl _) ev Fr.refl (.int i) q
end

/-! ### two places -/
def OpD (K : PySem.W.Frag) (r : R2) (op : D → D → (D → Prop) → Prop) : Prop := ∀ G F σ H ρ v1 d1 v2 d2 (Qd : D → Prop) (Q : VK), EvR K G F H σ ρ → Rp K F v1 d1 → Rp K F v2 d2 → op d1 d2 Qd →
  (∀ v H' F' d, Same F F' → EvR K G F' H' σ ρ → Fr G H H' → Rp K F' v d → Qd d → Q v H') → r v1 v2 H Q
def OpO (K : PySem.W.Frag) (r : R2) (op : D → D → (SV → Prop) → Prop) : Prop := ∀ G F σ H ρ v1 d1 v2 d2 (Qd : SV → Prop) (Q : VK), EvR K G F H σ ρ → Rp K F v1 d1 → Rp K F v2 d2 → op d1 d2 Qd →
  (∀ v H' F' d, Same F F' → EvR K G F' H' σ ρ → Fr G H H' → RpO K G F' H H' v d → Qd d → Q v H') → r v1 v2 H Q
def wOp (op : D → D → (D → Prop) → Prop) (wa wb : W) : W := fun G ρ Q => wa G ρ fun x => wb G ρ fun y => op x y Q
def wOpO (op : D → D → (SV → Prop) → Prop) (wa wb : W) : WO := fun G ρ Q => wa G ρ fun x => wb G ρ fun y => op x y Q
theorem tD_op {K : PySem.W.Frag} {r : R2} {op : D → D → (D → Prop) → Prop} (h : OpD K r op) {wa wb : W} (σ : St) (H : Hp) (Q : VK) : tD K (wOp op wa wb) σ H Q → tOp r (tD K wa) (tD K wb) σ H Q := fun ⟨G, F, ρ, Qd, ev, hw, hq⟩ =>
  ⟨G, F, ρ, _, ev, hw, fun v1 H1 F1 d1 s1 e1 f1 r1 q1 => ⟨G, F1, ρ, _, e1, q1, fun v2 H2 F2 d2 s2 e2 f2 r2 q2 => h G F2 σ H2 ρ v1 d1 v2 d2 Qd Q e2 (r1.mono s2) r2 q2 fun v H' F' d s3 e3 f3 r3 q3 =>
    hq v H' F' d (s1.trans (s2.trans s3)) e3 (f1.trans (f2.trans f3)) r3 q3⟩⟩
theorem RpO.back {K : PySem.W.Frag} {G : Gc} {F' H H1 H' : Hp} {v : V} {sv : SV} (h : RpO K G F' H1 H' v sv) (f : Fr G H H1) : RpO K G F' H H' v sv := by
  cases sv with
  | fz d => exact h
  | ow xs =>
    obtain ⟨a, vs, e, h1, h2, h3, h4, h5⟩ := h
    exact ⟨a, vs, e, h1, h2, h3, f.free h3 h4, h5⟩
  | od t kds =>
    obtain ⟨a, vs, e, h1, h0, h2, h3, h4, h5⟩ := h
    exact ⟨a, vs, e, h1, h0, h2, h3, f.free h3 h4, h5⟩
theorem tO_op {K : PySem.W.Frag} {r : R2} {op : D → D → (SV → Prop) → Prop} (h : OpO K r op) {wa wb : W} (σ : St) (H : Hp) (Q : VK) : tO K (wOpO op wa wb) σ H Q → tOp r (tD K wa) (tD K wb) σ H Q := fun ⟨G, F, ρ, Qd, ev, hw, hq⟩ =>
  ⟨G, F, ρ, _, ev, hw, fun v1 H1 F1 d1 s1 e1 f1 r1 q1 => ⟨G, F1, ρ, _, e1, q1, fun v2 H2 F2 d2 s2 e2 f2 r2 q2 => h G F2 σ H2 ρ v1 d1 v2 d2 Qd Q e2 (r1.mono s2) r2 q2 fun v H' F' d s3 e3 f3 r3 q3 =>
    hq v H' F' d (s1.trans (s2.trans s3)) e3 (f1.trans (f2.trans f3)) (r3.back (f1.trans f2)) q3⟩⟩

/-! #### on ints -/
def oI (C : Int → Int → Prop) (g : Int → Int → Int) : D → D → (D → Prop) → Prop := fun x y Q => ∃ i j, x = .int i ∧ y = .int j ∧ C i j ∧ Q (.int (g i j))
def oI0 (g : Int → Int → Int) : D → D → (D → Prop) → Prop := fun x y Q => ∃ i j, x = .int i ∧ y = .int j ∧ Q (.int (g i j))
def oB0 (g : Int → Int → Bool) : D → D → (D → Prop) → Prop := fun x y Q => ∃ i j, x = .int i ∧ y = .int j ∧ Q (.bl (g i j))
theorem opd_I {K : PySem.W.Frag} {C : Int → Int → Prop} {g : Int → Int → Int} : OpD K (rI C fun i j => .int (g i j)) (oI C g) := fun G F σ H ρ v1 d1 v2 d2 Qd Q ev r1 r2 ⟨i, j, e1, e2, c, q⟩ hq => by
  subst e1 e2
  cases r1; cases r2
  exact ⟨i, j, rfl, rfl, c, hq _ H F _ (Same.refl _) ev Fr.refl (.int _) q⟩
theorem opd_I0 {K : PySem.W.Frag} {g : Int → Int → Int} : OpD K (rI0 fun i j => .int (g i j)) (oI0 g) := fun G F σ H ρ v1 d1 v2 d2 Qd Q ev r1 r2 ⟨i, j, e1, e2, q⟩ hq => by
  subst e1 e2
  cases r1; cases r2
  exact ⟨i, j, rfl, rfl, hq _ H F _ (Same.refl _) ev Fr.refl (.int _) q⟩
theorem opd_B0 {K : PySem.W.Frag} {g : Int → Int → Bool} : OpD K (rI0 fun i j => .bl (g i j)) (oB0 g) := fun G F σ H ρ v1 d1 v2 d2 Qd Q ev r1 r2 ⟨i, j, e1, e2, q⟩ hq => by
  subst e1 e2
  cases r1; cases r2
  exact ⟨i, j, rfl, rfl, hq _ H F _ (Same.refl _) ev Fr.refl (.bl _) q⟩
section
variable {S : Sta} {a b e : Expr} {pos : Pos} {wa wb : W}
theorem de_sub (ha : DE S a wa) (hb : DE S b wb) : DE S (.BinOp a .Sub b pos) (wOp (oI0 fun i j => i - j) wa wb) := fun X f => (pe_op op_sub (ha X f) (hb X f)).imp (tD_op opd_I0)
theorem de_mulI (ha : DE S a wa) (hb : DE S b wb) : DE S (.BinOp a .Mult b pos) (wOp (oI CMul fun i j => i * j) wa wb) := fun X f => (pe_op op_mul (ha X f) (hb X f)).imp (tD_op opd_I)
theorem de_fdiv (ha : DE S a wa) (hb : DE S b wb) : DE S (.BinOp a .FloorDiv b pos) (wOp (oI CDiv fun i j => i / j) wa wb) := fun X f => (pe_op op_fdiv (ha X f) (hb X f)).imp (tD_op opd_I)
theorem de_mod (ha : DE S a wa) (hb : DE S b wb) : DE S (.BinOp a .Mod b pos) (wOp (oI (fun _ j => 0 < j) fun i j => i % j) wa wb) := fun X f => (pe_op op_mod (ha X f) (hb X f)).imp (tD_op opd_I)
theorem de_pow (ha : DE S a wa) (hb : DE S b wb) : DE S (.BinOp a .Pow b pos) (wOp (oI CPow fun i j => i ^ j.toNat) wa wb) := fun X f => (pe_op op_pow (ha X f) (hb X f)).imp (tD_op opd_I)
theorem de_shl (ha : DE S a wa) (hb : DE S b wb) : DE S (.BinOp a .LShift b pos) (wOp (oI CPow fun i j => i * 2 ^ j.toNat) wa wb) := fun X f => (pe_op op_shl (ha X f) (hb X f)).imp (tD_op opd_I)
theorem de_shr (ha : DE S a wa) (hb : DE S b wb) : DE S (.BinOp a .RShift b pos) (wOp (oI (fun _ j => 0 ≤ j) fun i j => i / 2 ^ j.toNat) wa wb) := fun X f => (pe_op op_shr (ha X f) (hb X f)).imp (tD_op opd_I)
theorem de_and (ha : DE S a wa) (hb : DE S b wb) : DE S (.BinOp a .BitAnd b pos) (wOp (oI0 Builtin.bitAnd) wa wb) := fun X f => (pe_op op_and (ha X f) (hb X f)).imp (tD_op opd_I0)
theorem de_or (ha : DE S a wa) (hb : DE S b wb) : DE S (.BinOp a .BitOr b pos) (wOp (oI0 Builtin.bitOr) wa wb) := fun X f => (pe_op op_or (ha X f) (hb X f)).imp (tD_op opd_I0)
theorem de_xor (ha : DE S a wa) (hb : DE S b wb) : DE S (.BinOp a .BitXor b pos) (wOp (oI0 Builtin.bitXor) wa wb) := fun X f => (pe_op op_xor (ha X f) (hb X f)).imp (tD_op opd_I0)
end
end DL
set_option maxHeartbeats 4000000
namespace DL
open PySem PySem.Spec PyProof.Rows L2

/-! ### as the library reads it -/
mutual
def toPy : D → Option PyData
  | .non => some .none
  | .bl b => some (.bool b)
  | .int i => some (.int i)
  | .str x => some (.str x)
  | .tup xs => (toPyL xs).map .tuple
  | .tix xs => (toPyL xs).map .tuple
  | .tky xs => (toPyL xs).map .tuple
  | .lst xs => (toPyL xs).map .list
  | .dic _ _ => none
  | .ob _ => none
def toPyL : List D → Option (List PyData)
  | [] => some []
  | x :: xs => match toPy x with
    | some p => (toPyL xs).map (p :: ·)
    | none => none
end
section
variable {K : PySem.W.Frag} {F H : Hp}
mutual
theorem Rp.dp (s : Same F H) : ∀ {d : D} {v : V} {p : PyData}, Rp K F v d → toPy d = some p → Dp K H v p
  | .non, _, _, .non, e => by cases e; exact .non
  | .bl b, _, _, .bl _, e => by cases e; exact .bl b
  | .int i, _, _, .int _, e => by cases e; exact .int i
  | .str x, _, _, .str _, e => by cases e; exact .str x
  | .tup xs, _, p, .tup h r, e => by
    unfold toPy at e
    cases q : toPyL xs with
    | none => rw [q] at e; cases e
    | some ps => rw [q] at e; cases e; exact .tup (Same.sqt s h) (RpL.dp s r q)
  | .tix xs, _, p, .tix h _ r, e => by
    unfold toPy at e
    cases q : toPyL xs with
    | none => rw [q] at e; cases e
    | some ps => rw [q] at e; cases e; exact .tup ((.inl (.inr ⟨_, s _ _ h⟩))) (RpL.dp s r q)
  | .tky xs, _, p, .tky h r, e => by
    unfold toPy at e
    cases q : toPyL xs with
    | none => rw [q] at e; cases e
    | some ps => rw [q] at e; cases e; exact .tup (SqT.of (s _ _ h)) (RpL.dp s r q)
  | .lst xs, _, p, .lst h r, e => by
    unfold toPy at e
    cases q : toPyL xs with
    | none => rw [q] at e; cases e
    | some ps => rw [q] at e; cases e; exact .lst (SqL.of (s _ _ h)) (RpL.dp s r q)
  | .dic _ _, _, _, _, e => by cases e
  | .ob _, _, _, _, e => by cases e
theorem RpL.dp (s : Same F H) : ∀ {ds : List D} {vs : List V} {ps : List PyData}, RpL K F vs ds → toPyL ds = some ps → DpAll K H vs ps
  | [], _, _, .nil, e => by cases e; exact .nil
  | d :: ds, _, ps, .cons h r, e => by
    unfold toPyL at e
    cases q : toPy d with
    | none => rw [q] at e; cases e
    | some p =>
      rw [q] at e
      cases q2 : toPyL ds with
      | none => rw [q2] at e; cases e
      | some qs => rw [q2] at e; cases e; exact .cons (Rp.dp s h q) (RpL.dp s r q2)
end
end

/-! ### argument lists, displays -/
def waNil : WA := fun _ _ Q => Q []
def waCons (w : W) (r : WA) : WA := fun G ρ Q => w G ρ fun x => r G ρ fun xs => Q (x :: xs)
def wTup (w : WA) : W := fun G ρ Q => w G ρ fun xs => xs.length ≤ sizeLine ∧ Q (.tup xs)
def woLst (w : WA) : WO := fun G ρ Q => w G ρ fun xs => xs.length ≤ sizeLine ∧ Q (.ow xs)
/-- a list just made is kept for good -/
def wFz (w : WO) : W := fun G ρ Q => w G ρ fun sv => match sv with
  | .fz d => Q d
  | .ow xs => Q (.lst xs)
  | .od t kds => Q (.dic t kds)
def woFz (w : W) : WO := fun G ρ Q => w G ρ fun d => Q (.fz d)
section
variable {S : Sta} {a b c e : Expr} {es : List Expr} {pos : Pos} {w wa wb wc : W} {r : WA} {wo : WO}
theorem da_nil : DA S [] waNil := fun X f => pa_nil.imp fun σ H Q ⟨G, F, ρ, Qd, ev, q, hq⟩ => hq [] H F [] (Same.refl _) ev Fr.refl .nil q
theorem da_cons (ha : DE S e w) (hr : DA S es r) (hs : ∀ env, starEach (e :: es) env = (false, eval e env) :: starEach es env := by intro _; rfl) : DA S (e :: es) (waCons w r) := fun X f =>
  (pa_cons (ha X f) (hr X f) (hs _)).imp fun σ H Q ⟨G, F, ρ, Qd, ev, hw, hq⟩ =>
    ⟨G, F, ρ, _, ev, hw, fun v1 H1 F1 d1 s1 e1 f1 r1 q1 => ⟨G, F1, ρ, _, e1, q1, fun vs H2 F2 ds s2 e2 f2 r2 q2 => hq (v1 :: vs) H2 F2 (d1 :: ds) (s1.trans s2) e2 (f1.trans f2) (.cons (r1.mono s2) r2) q2⟩⟩
theorem de_tup {x1} (h : DA S es r) : DE S (.Tuple es x1 pos) (wTup r) := fun X f => (pe_tup (h X f)).imp fun σ H Q ⟨G, F, ρ, Qd, ev, hw, hq⟩ =>
  ⟨G, F, ρ, _, ev, hw, fun vs H1 F1 ds s1 e1 f1 r1 ⟨z, q1⟩ => ⟨by rw [r1.len]; exact z, fun p hp =>
    hq (.ref p) _ _ (.tup ds) (s1.trans (same_upd (e1.fnone hp))) (e1.live hp) (f1.trans (Fr.upd hp)) (.tup (SqT.of upd_same) (r1.mono (same_upd (e1.fnone hp)))) q1⟩⟩
theorem do_lst (h : DA S es r) : DO S (.List es pos) (woLst r) := fun X f => (pe_lst (h X f)).imp fun σ H Q ⟨G, F, ρ, Qd, ev, hw, hq⟩ =>
  ⟨G, F, ρ, _, ev, hw, fun vs H1 F1 ds s1 e1 f1 r1 ⟨z, q1⟩ => ⟨by rw [r1.len]; exact z, fun p hp =>
    hq (.ref p) _ _ (.ow ds) s1 (e1.liveO hp) (f1.trans (Fr.upd hp)) ⟨p, vs, rfl, upd_same, r1, e1.nr hp, f1.free (e1.nr hp) hp, e1.fnone hp⟩ q1⟩⟩
theorem de_fz (h : DO S e wo) : DE S e (wFz wo) := fun X f => (h X f).imp fun σ H Q ⟨G, F, ρ, Qd, ev, hw, hq⟩ =>
  ⟨G, F, ρ, _, ev, hw, fun v H1 F1 sv s1 e1 f1 r1 q1 => by
    cases sv with
    | fz d => exact hq v H1 F1 d s1 e1 f1 r1 q1
    | ow xs =>
      obtain ⟨a, vs, rfl, ha, hr, hn, _⟩ := r1
      obtain ⟨ev', sf⟩ := e1.see ha hn
      exact hq _ H1 _ _ (s1.trans sf) ev' f1 (.lst upd_same (hr.mono sf)) q1
    | od t kds =>
      obtain ⟨a, vs, rfl, ha, h0, hr, hn, _⟩ := r1
      obtain ⟨ev', sf⟩ := e1.see ha hn
      exact hq _ H1 _ _ (s1.trans sf) ev' f1 (.dic upd_same (RpK.join h0 (hr.mono sf))) q1⟩
theorem do_fz (h : DE S e w) : DO S e (woFz w) := fun X f => (h X f).imp fun σ H Q ⟨G, F, ρ, Qd, ev, hw, hq⟩ =>
  ⟨G, F, ρ, _, ev, hw, fun v H1 F1 d s1 e1 f1 r1 q1 => hq v H1 F1 (.fz d) s1 e1 f1 r1 q1⟩

/-! ### tests -/
def wtV (w : W) : WT := fun G ρ Q => w G ρ fun d => ∃ k, d = .bl k ∧ Q k
theorem dt_val (h : DE S e w) (he : ∀ env whole, isTrue e env whole = (do let v ← whole; standAt e.pos; holding [v] (truthy v)) := by intro _ _; rfl) : DT S e (wtV w) := fun X f =>
  (pt_val (h X f) (he _)).imp fun σ H Q ⟨G, F, ρ, Qd, ev, hw, hq⟩ => ⟨G, F, ρ, _, ev, hw, fun v H1 F1 d s1 e1 f1 r1 ⟨k, ek, q1⟩ => by
    subst ek
    cases r1
    exact ⟨k, rfl, hq k H1 F1 s1 e1 f1 q1⟩⟩
def wtAnd (a b : WT) : WT := fun G ρ Q => a G ρ fun k => if k = true then b G ρ Q else Q false
def wtOr (a b : WT) : WT := fun G ρ Q => a G ρ fun k => if k = true then Q true else b G ρ Q
def wtNot (a : WT) : WT := fun G ρ Q => a G ρ fun k => Q (!k)
variable {ta tb tc : WT} {rest : List Expr}
theorem dt_pw (h : DW S e ta) : DT S e ta := fun X f => (h X f).pt
theorem dw_and1 (h : DT S a ta) : DW S (.BoolOp .And [a] pos) ta := fun X f => pw_and1 (h X f)
theorem dw_or1 (h : DT S a ta) : DW S (.BoolOp .Or [a] pos) ta := fun X f => pw_or1 (h X f)
theorem dw_and (ha : DT S a ta) (hb : DW S (.BoolOp .And (b :: rest) pos) tb) : DW S (.BoolOp .And (a :: b :: rest) pos) (wtAnd ta tb) := fun X f => (pw_and (ha X f) (hb X f)).imp fun σ H Q ⟨G, F, ρ, Qd, ev, hw, hq⟩ =>
  ⟨G, F, ρ, _, ev, hw, fun k H1 F1 s1 e1 f1 q1 => by
    cases k with
    | true => exact iteT ⟨G, F1, ρ, _, e1, (by rw [if_pos rfl] at q1; exact q1), fun k H2 F2 s2 e2 f2 q2 => hq k H2 F2 (s1.trans s2) e2 (f1.trans f2) q2⟩
    | false => exact iteF (hq false H1 F1 s1 e1 f1 (by rw [if_neg Bool.false_ne_true] at q1; exact q1))⟩
theorem dw_or (ha : DT S a ta) (hb : DW S (.BoolOp .Or (b :: rest) pos) tb) : DW S (.BoolOp .Or (a :: b :: rest) pos) (wtOr ta tb) := fun X f => (pw_or (ha X f) (hb X f)).imp fun σ H Q ⟨G, F, ρ, Qd, ev, hw, hq⟩ =>
  ⟨G, F, ρ, _, ev, hw, fun k H1 F1 s1 e1 f1 q1 => by
    cases k with
    | false => exact iteF ⟨G, F1, ρ, _, e1, (by rw [if_neg Bool.false_ne_true] at q1; exact q1), fun k H2 F2 s2 e2 f2 q2 => hq k H2 F2 (s1.trans s2) e2 (f1.trans f2) q2⟩
    | true => exact iteT (hq true H1 F1 s1 e1 f1 (by rw [if_pos rfl] at q1; exact q1))⟩
theorem dt_not (ha : DT S a ta) : DT S (.UnaryOp .Not a pos) (wtNot ta) := fun X f => (pt_not (ha X f)).imp fun σ H Q ⟨G, F, ρ, Qd, ev, hw, hq⟩ => ⟨G, F, ρ, _, ev, hw, fun k H1 F1 s1 e1 f1 q1 => hq (!k) H1 F1 s1 e1 f1 q1⟩
/-! as values -/
def wAnd (a b : W) : W := fun G ρ Q => a G ρ fun d => ∃ k, d = .bl k ∧ if k = true then b G ρ Q else Q (.bl false)
def wOr (a b : W) : W := fun G ρ Q => a G ρ fun d => ∃ k, d = .bl k ∧ if k = true then Q (.bl true) else b G ρ Q
def wNot (a : W) : W := fun G ρ Q => a G ρ fun d => ∃ k, d = .bl k ∧ Q (.bl (!k))
def wIf (t : WT) (a b : W) : W := fun G ρ Q => t G ρ fun k => if k = true then a G ρ Q else b G ρ Q
def woIf (t : WT) (a b : WO) : WO := fun G ρ Q => t G ρ fun k => if k = true then a G ρ Q else b G ρ Q
theorem de_one {op} (h : DE S a wa) : DE S (.BoolOp op [a] pos) wa := fun X f => pe_one (h X f)
theorem de_andV (ha : DE S a wa) (hb : DE S (.BoolOp .And (b :: rest) pos) wb) : DE S (.BoolOp .And (a :: b :: rest) pos) (wAnd wa wb) := fun X f => (pe_and (ha X f) (hb X f)).imp fun σ H Q ⟨G, F, ρ, Qd, ev, hw, hq⟩ =>
  ⟨G, F, ρ, _, ev, hw, fun v H1 F1 d s1 e1 f1 r1 ⟨k, ek, q1⟩ => by
    subst ek
    cases r1
    refine ⟨k, rfl, ?_⟩
    cases k with
    | true => exact iteT ⟨G, F1, ρ, _, e1, (by rw [if_pos rfl] at q1; exact q1), fun v H2 F2 d s2 e2 f2 r2 q2 => hq v H2 F2 d (s1.trans s2) e2 (f1.trans f2) r2 q2⟩
    | false => exact iteF (hq _ H1 F1 _ s1 e1 f1 (.bl false) (by rw [if_neg Bool.false_ne_true] at q1; exact q1))⟩
theorem de_orV (ha : DE S a wa) (hb : DE S (.BoolOp .Or (b :: rest) pos) wb) : DE S (.BoolOp .Or (a :: b :: rest) pos) (wOr wa wb) := fun X f => (pe_or (ha X f) (hb X f)).imp fun σ H Q ⟨G, F, ρ, Qd, ev, hw, hq⟩ =>
  ⟨G, F, ρ, _, ev, hw, fun v H1 F1 d s1 e1 f1 r1 ⟨k, ek, q1⟩ => by
    subst ek
    cases r1
    refine ⟨k, rfl, ?_⟩
    cases k with
    | false => exact iteF ⟨G, F1, ρ, _, e1, (by rw [if_neg Bool.false_ne_true] at q1; exact q1), fun v H2 F2 d s2 e2 f2 r2 q2 => hq v H2 F2 d (s1.trans s2) e2 (f1.trans f2) r2 q2⟩
    | true => exact iteT (hq _ H1 F1 _ s1 e1 f1 (.bl true) (by rw [if_pos rfl] at q1; exact q1))⟩
theorem de_notV (ha : DE S a wa) : DE S (.UnaryOp .Not a pos) (wNot wa) := fun X f => (pe_not (ha X f)).imp fun σ H Q ⟨G, F, ρ, Qd, ev, hw, hq⟩ =>
  ⟨G, F, ρ, _, ev, hw, fun v H1 F1 d s1 e1 f1 r1 ⟨k, ek, q1⟩ => by
    subst ek
    cases r1
    exact ⟨k, rfl, hq _ H1 F1 _ s1 e1 f1 (.bl (!k)) q1⟩⟩
theorem de_if (hc : DT S c tc) (ha : DE S a wa) (hb : DE S b wb) : DE S (.IfExp c a b pos) (wIf tc wa wb) := fun X f => (pe_ifExp (hc X f) (ha X f) (hb X f)).imp fun σ H Q ⟨G, F, ρ, Qd, ev, hw, hq⟩ =>
  ⟨G, F, ρ, _, ev, hw, fun k H1 F1 s1 e1 f1 q1 => by
    cases k with
    | true => exact iteT ⟨G, F1, ρ, _, e1, (by rw [if_pos rfl] at q1; exact q1), fun v H2 F2 d s2 e2 f2 r2 q2 => hq v H2 F2 d (s1.trans s2) e2 (f1.trans f2) r2 q2⟩
    | false => exact iteF ⟨G, F1, ρ, _, e1, (by rw [if_neg Bool.false_ne_true] at q1; exact q1), fun v H2 F2 d s2 e2 f2 r2 q2 => hq v H2 F2 d (s1.trans s2) e2 (f1.trans f2) r2 q2⟩⟩
theorem do_if {oa ob : WO} (hc : DT S c tc) (ha : DO S a oa) (hb : DO S b ob) : DO S (.IfExp c a b pos) (woIf tc oa ob) := fun X f => (pe_ifExp (hc X f) (ha X f) (hb X f)).imp fun σ H Q ⟨G, F, ρ, Qd, ev, hw, hq⟩ =>
  ⟨G, F, ρ, _, ev, hw, fun k H1 F1 s1 e1 f1 q1 => by
    cases k with
    | true => exact iteT ⟨G, F1, ρ, _, e1, (by rw [if_pos rfl] at q1; exact q1), fun v H2 F2 d s2 e2 f2 r2 q2 => hq v H2 F2 d (s1.trans s2) e2 (f1.trans f2) (r2.back f1) q2⟩
    | false => exact iteF ⟨G, F1, ρ, _, e1, (by rw [if_neg Bool.false_ne_true] at q1; exact q1), fun v H2 F2 d s2 e2 f2 r2 q2 => hq v H2 F2 d (s1.trans s2) e2 (f1.trans f2) (r2.back f1) q2⟩⟩
end

/-! ### comparisons -/
/-- data at any depth -/
def oEq : D → D → (D → Prop) → Prop := fun x y Q => ∃ p q, toPy x = some p ∧ toPy y = some q ∧ SeqAt.shaped p = true ∧ SeqAt.shaped q = true ∧ Q (.bl (PyData.eqv p q))
def oNe : D → D → (D → Prop) → Prop := fun x y Q => ∃ p q, toPy x = some p ∧ toPy y = some q ∧ SeqAt.shaped p = true ∧ SeqAt.shaped q = true ∧ Q (.bl (!PyData.eqv p q))
def itemsOf : D → Option (List D)
  | .tup xs => some xs
  | .tix xs => some xs
  | .tky xs => some xs
  | .lst xs => some xs
  | _ => none
def oIn : D → D → (D → Prop) → Prop := fun x y Q => ∃ ys p q, itemsOf y = some ys ∧ toPy x = some p ∧ toPyL ys = some q ∧ SeqAt.shaped p = true ∧ SeqAt.shaped (.tuple q) = true ∧ Q (.bl (q.any fun z => PyData.eqv z p))
def oNotIn : D → D → (D → Prop) → Prop := fun x y Q => ∃ ys p q, itemsOf y = some ys ∧ toPy x = some p ∧ toPyL ys = some q ∧ SeqAt.shaped p = true ∧ SeqAt.shaped (.tuple q) = true ∧ Q (.bl (!q.any fun z => PyData.eqv z p))
def oIsNon : D → D → (D → Prop) → Prop := fun x y Q => y = .non ∧ Q (.bl (match x with | .non => true | _ => false))
def oNotNon : D → D → (D → Prop) → Prop := fun x y Q => y = .non ∧ Q (.bl (!match x with | .non => true | _ => false))
def oIsBl : D → D → (D → Prop) → Prop := fun x y Q => ∃ a b, x = .bl a ∧ y = .bl b ∧ Q (.bl (decide (a = b)))
def oNotBl : D → D → (D → Prop) → Prop := fun x y Q => ∃ a b, x = .bl a ∧ y = .bl b ∧ Q (.bl (!decide (a = b)))

def rIsN : R2 := fun x y H Q => y = .non ∧ Q (.bl (decide (x = .non))) H
def rNotN : R2 := fun x y H Q => y = .non ∧ Q (.bl (!decide (x = .non))) H
def rInS (K : PySem.W.Frag) : R2 := fun x y H Q => ∃ p q, Dp K H x p ∧ (Dp K H y (.list q) ∨ Dp K H y (.tuple q)) ∧ SeqAt.shaped p = true ∧ SeqAt.shaped (.tuple q) = true ∧ Q (.bl (q.any fun z => PyData.eqv z p)) H
def rNotInS (K : PySem.W.Frag) : R2 := fun x y H Q => ∃ p q, Dp K H x p ∧ (Dp K H y (.list q) ∨ Dp K H y (.tuple q)) ∧ SeqAt.shaped p = true ∧ SeqAt.shaped (.tuple q) = true ∧ Q (.bl (!q.any fun z => PyData.eqv z p)) H
section
variable {X : Cx}
theorem canLayL {q : List PyData} (h : SeqAt.shaped (.tuple q) = true) : PyData.canLayAll0 q = true := SeqAt.canLay_of_shaped h
theorem op_inS (hu : X.A.units + 65 < cLine) : OpR X (compareOp .In) (rInS X.K) := by
  intro pins s σ H x y v u Q I rx ry h
  obtain ⟨d, ds, hd, he, sd, se, q⟩ := h
  obtain ⟨as, r1⟩ := Dp.reads I d x v hd rx
  rcases he with he | he
  · obtain ⟨bs, r2⟩ := Dp.reads I (.list ds) y u he ry
    exact SeqAt.in_list_reads r2 r1 (canLayL se) (SeqAt.canLay_of_shaped sd) (room_in_shaped sd hu) ⟨.bl _, H, I, rfl, q⟩
  · obtain ⟨bs, r2⟩ := Dp.reads I (.tuple ds) y u he ry
    exact SeqAt.in_tuple_reads r2 r1 (canLayL se) (SeqAt.canLay_of_shaped sd) (room_in_shaped sd hu) ⟨.bl _, H, I, rfl, q⟩
theorem op_notInS (hu : X.A.units + 65 < cLine) : OpR X (compareOp .NotIn) (rNotInS X.K) := by
  intro pins s σ H x y v u Q I rx ry h
  obtain ⟨d, ds, hd, he, sd, se, q⟩ := h
  obtain ⟨as, r1⟩ := Dp.reads I d x v hd rx
  rcases he with he | he
  · obtain ⟨bs, r2⟩ := Dp.reads I (.list ds) y u he ry
    exact SeqAt.notIn_list_reads r2 r1 (canLayL se) (SeqAt.canLay_of_shaped sd) (room_in_shaped sd hu) ⟨.bl _, H, I, rfl, q⟩
  · obtain ⟨bs, r2⟩ := Dp.reads I (.tuple ds) y u he ry
    exact SeqAt.notIn_tuple_reads r2 r1 (canLayL se) (SeqAt.canLay_of_shaped sd) (room_in_shaped sd hu) ⟨.bl _, H, I, rfl, q⟩
end
theorem _root_.L2.Room.units65 {k : Nat} {A : Around} (r : Room k A) : A.units + 65 < cLine := by have := r.un; omega
theorem opd_eq {K : PySem.W.Frag} : OpD K (rEqD K) oEq := fun G F σ H ρ v1 d1 v2 d2 Qd Q ev r1 r2 ⟨p, q, e1, e2, s1, s2, hQ⟩ hq => ⟨p, q, r1.dp ev.sub e1, r2.dp ev.sub e2, s1, s2, hq _ H F _ (Same.refl _) ev Fr.refl (.bl _) hQ⟩
theorem opd_ne {K : PySem.W.Frag} : OpD K (rNeD K) oNe := fun G F σ H ρ v1 d1 v2 d2 Qd Q ev r1 r2 ⟨p, q, e1, e2, s1, s2, hQ⟩ hq => ⟨p, q, r1.dp ev.sub e1, r2.dp ev.sub e2, s1, s2, hq _ H F _ (Same.refl _) ev Fr.refl (.bl _) hQ⟩
theorem dp_items {K : PySem.W.Frag} {F H : Hp} {v : V} {y : D} {ys : List D} {q : List PyData} (s : Same F H) (r : Rp K F v y) (e : itemsOf y = some ys) (e2 : toPyL ys = some q) : Dp K H v (.list q) ∨ Dp K H v (.tuple q) := by
  cases y with
  | tup xs =>
    cases e
    exact .inr (r.dp s (by unfold toPy; rw [e2]; rfl))
  | tix xs =>
    cases e
    exact .inr (r.dp s (by unfold toPy; rw [e2]; rfl))
  | tky xs =>
    cases e
    exact .inr (r.dp s (by unfold toPy; rw [e2]; rfl))
  | lst xs =>
    cases e
    exact .inl (r.dp s (by unfold toPy; rw [e2]; rfl))
  | _ => cases e
theorem opd_in {K : PySem.W.Frag} : OpD K (rInS K) oIn := fun G F σ H ρ v1 d1 v2 d2 Qd Q ev r1 r2 ⟨ys, p, q, e0, e1, e2, s1, s2, hQ⟩ hq => ⟨p, q, r1.dp ev.sub e1, dp_items ev.sub r2 e0 e2, s1, s2, hq _ H F _ (Same.refl _) ev Fr.refl (.bl _) hQ⟩
theorem opd_notIn {K : PySem.W.Frag} : OpD K (rNotInS K) oNotIn := fun G F σ H ρ v1 d1 v2 d2 Qd Q ev r1 r2 ⟨ys, p, q, e0, e1, e2, s1, s2, hQ⟩ hq => ⟨p, q, r1.dp ev.sub e1, dp_items ev.sub r2 e0 e2, s1, s2, hq _ H F _ (Same.refl _) ev Fr.refl (.bl _) hQ⟩
theorem opd_isN {K : PySem.W.Frag} : OpD K rIsN oIsNon := fun G F σ H ρ v1 d1 v2 d2 Qd Q ev r1 r2 ⟨e1, hQ⟩ hq => by
  subst e1
  cases r2
  refine ⟨rfl, hq _ H F _ (Same.refl _) ev Fr.refl ?_ hQ⟩
  cases r1 <;> exact .bl _
theorem opd_notN {K : PySem.W.Frag} : OpD K rNotN oNotNon := fun G F σ H ρ v1 d1 v2 d2 Qd Q ev r1 r2 ⟨e1, hQ⟩ hq => by
  subst e1
  cases r2
  refine ⟨rfl, hq _ H F _ (Same.refl _) ev Fr.refl ?_ hQ⟩
  cases r1 <;> exact .bl _
theorem opd_isB {K : PySem.W.Frag} : OpD K rIsB oIsBl := fun G F σ H ρ v1 d1 v2 d2 Qd Q ev r1 r2 ⟨a, b, e1, e2, hQ⟩ hq => by
  subst e1 e2
  cases r1; cases r2
  exact ⟨a, b, rfl, rfl, hq _ H F _ (Same.refl _) ev Fr.refl (.bl _) hQ⟩
theorem opd_notB {K : PySem.W.Frag} : OpD K rNotB oNotBl := fun G F σ H ρ v1 d1 v2 d2 Qd Q ev r1 r2 ⟨a, b, e1, e2, hQ⟩ hq => by
  subst e1 e2
  cases r1; cases r2
  exact ⟨a, b, rfl, rfl, hq _ H F _ (Same.refl _) ev Fr.refl (.bl _) hQ⟩
/-- an operator of a comparison, over a def -/
def CmpR (S : Sta) (op : CmpOp) (r : R2) (o : D → D → (D → Prop) → Prop) : Prop := (∀ X, Fam S X → OpR X (compareOp op) r) ∧ OpD S.K r o
section
variable {S : Sta} {a b c e : Expr} {pos : Pos} {wa wb wc : W} {op op' : CmpOp} {r r' : R2} {o o' : D → D → (D → Prop) → Prop}
theorem cm_lt : CmpR S .Lt (rI0 fun i j => .bl (decide (i < j))) (oB0 fun i j => decide (i < j)) := ⟨fun X f => op_lt, opd_B0⟩
theorem cm_le : CmpR S .LtE (rI0 fun i j => .bl (decide (i ≤ j))) (oB0 fun i j => decide (i ≤ j)) := ⟨fun X f => op_le, opd_B0⟩
theorem cm_gt : CmpR S .Gt (rI0 fun i j => .bl (decide (j < i))) (oB0 fun i j => decide (j < i)) := ⟨fun X f => op_gt, opd_B0⟩
theorem cm_ge : CmpR S .GtE (rI0 fun i j => .bl (decide (j ≤ i))) (oB0 fun i j => decide (j ≤ i)) := ⟨fun X f => op_ge, opd_B0⟩
theorem cm_eq : CmpR S .Eq (rEqD S.K) oEq := ⟨fun X f => f.K ▸ op_eqD f.room.units, opd_eq⟩
theorem cm_ne : CmpR S .NotEq (rNeD S.K) oNe := ⟨fun X f => f.K ▸ op_neD f.room.units, opd_ne⟩
theorem cm_in : CmpR S .In (rInS S.K) oIn := ⟨fun X f => f.K ▸ op_inS f.room.units65, opd_in⟩
theorem cm_notIn : CmpR S .NotIn (rNotInS S.K) oNotIn := ⟨fun X f => f.K ▸ op_notInS f.room.units65, opd_notIn⟩
theorem cm_isN : CmpR S .Is rIsN oIsNon := ⟨fun X f => op_isN, opd_isN⟩
theorem cm_notN : CmpR S .IsNot rNotN oNotNon := ⟨fun X f => op_notN, opd_notN⟩
theorem cm_isB : CmpR S .Is rIsB oIsBl := ⟨fun X f => op_isBl, opd_isB⟩
theorem cm_notB : CmpR S .IsNot rNotB oNotBl := ⟨fun X f => op_notBl, opd_notB⟩
theorem de_cmp (h : CmpR S op r o) (ha : DE S a wa) (hb : DE S b wb) (hm : behindInMarks op b = false := by first | exact nomark _ | rfl) : DE S (.Compare a [op] [b] pos) (wOp o wa wb) := fun X f =>
  (pe_cmpR (h.1 X f) (ha X f) (hb X f) hm).imp (tD_op h.2)
theorem dt_cmp (h : CmpR S op r o) (ha : DE S a wa) (hb : DE S b wb) (hm : behindInMarks op b = false := by first | exact nomark _ | rfl) : DT S (.Compare a [op] [b] pos) (wtV (wOp o wa wb)) := fun X f =>
  (pt_cmpR (h.1 X f) (ha X f) (hb X f) hm).imp fun σ H Q ⟨G, F, ρ, Qd, ev, hw, hq⟩ => tD_op h.2 σ H _ ⟨G, F, ρ, _, ev, hw, fun v H1 F1 d s1 e1 f1 r1 ⟨k, ek, q1⟩ => by
    subst ek
    cases r1
    exact ⟨k, rfl, hq k H1 F1 s1 e1 f1 q1⟩⟩
def wChain (o o' : D → D → (D → Prop) → Prop) (wa wb wc : W) : W := fun G ρ Q => wa G ρ fun x => wb G ρ fun y => o x y fun z => ∃ k, z = .bl k ∧ if k = true then wc G ρ fun u => o' y u Q else Q (.bl false)
theorem chain_imp {K : PySem.W.Frag} (h : OpD K r o) (h' : OpD K r' o') (σ : St) (H : Hp) (Q : VK) : tD K (wChain o o' wa wb wc) σ H Q → tChain r r' (tD K wa) (tD K wb) (tD K wc) σ H Q := fun ⟨G, F, ρ, Qd, ev, hw, hq⟩ =>
  ⟨G, F, ρ, _, ev, hw, fun v1 H1 F1 d1 s1 e1 f1 r1 q1 => ⟨G, F1, ρ, _, e1, q1, fun v2 H2 F2 d2 s2 e2 f2 r2 q2 =>
    h G F2 σ H2 ρ v1 d1 v2 d2 _ _ e2 (r1.mono s2) r2 q2 fun v3 H3 F3 d3 s3 e3 f3 r3 ⟨k, ek, q3⟩ => by
      subst ek
      cases r3
      refine ⟨k, rfl, ?_⟩
      cases k with
      | true =>
        refine iteT ⟨G, F3, ρ, _, e3, (by rw [if_pos rfl] at q3; exact q3), fun v4 H4 F4 d4 s4 e4 f4 r4 q4 => ?_⟩
        exact h' G F4 σ H4 ρ v2 d2 v4 d4 Qd Q e4 (r2.mono (s3.trans s4)) r4 q4 fun v H' F' d s5 e5 f5 r5 q5 => hq v H' F' d (s1.trans (s2.trans (s3.trans (s4.trans s5)))) e5 (f1.trans (f2.trans (f3.trans (f4.trans f5)))) r5 q5
      | false => exact iteF (hq _ H3 F3 _ (s1.trans (s2.trans s3)) e3 (f1.trans (f2.trans f3)) (.bl false) (by rw [if_neg Bool.false_ne_true] at q3; exact q3))⟩⟩
theorem de_chain (h : CmpR S op r o) (h' : CmpR S op' r' o') (ha : DE S a wa) (hb : DE S b wb) (hc : DE S c wc) (hm : lastMarks [op, op'] [b, c] = false := by with_unfolding_all rfl) : DE S (.Compare a [op, op'] [b, c] pos) (wChain o o' wa wb wc) := fun X f =>
  (pe_chain (h.1 X f) (h'.1 X f) (ha X f) (hb X f) (hc X f) hm).imp (chain_imp h.2 h'.2)
theorem dt_chain (h : CmpR S op r o) (h' : CmpR S op' r' o') (ha : DE S a wa) (hb : DE S b wb) (hc : DE S c wc) (hm : lastMarks [op, op'] [b, c] = false := by with_unfolding_all rfl) : DT S (.Compare a [op, op'] [b, c] pos) (wtV (wChain o o' wa wb wc)) := fun X f =>
  (pt_chain (h.1 X f) (h'.1 X f) (ha X f) (hb X f) (hc X f) hm).imp fun σ H Q ⟨G, F, ρ, Qd, ev, hw, hq⟩ => chain_imp h.2 h'.2 σ H _ ⟨G, F, ρ, _, ev, hw, fun v H1 F1 d s1 e1 f1 r1 ⟨k, ek, q1⟩ => by
    subst ek
    cases r1
    exact ⟨k, rfl, hq k H1 F1 s1 e1 f1 q1⟩⟩
end
end DL
set_option maxHeartbeats 4000000
namespace DL
open PySem PySem.Spec PyProof.Rows L2

/-! ### what a def promises, in plain data -/
abbrev FS := Gc → List D → (SV → Prop) → Prop
def spV (K : PySem.W.Frag) (sp : FS) : Sp := fun vs H Q _ => ∃ G F ds Qd, Same F H ∧ (∀ a, G.R a → F a = none) ∧ G.Wd H ∧ RpL K F vs ds ∧ sp G ds Qd ∧
  ∀ v H' F' sv, Same F F' → Same F' H' → (∀ a, G.R a → F' a = none) → Fr G H H' → G.Wd H' → RpO K G F' H H' v sv → Qd sv → Q v H'
/-- a def that is known by its promise -/
structure Kn (B : Bs) (k : Nat) (x : Str) (st : Stmt) (ps : List Str) (sp : FS) : Prop where
  ex : ∃ f fd, FnG B.P B.w B.K B.mg B.base CX0 k f fd ps (spV B.K sp) ∧ B.mg x = some (.ref f) ∧ FunD B.K x x (defArgs st) (defBody st) (defScope st) [] [] f fd ∧ Binds B.K fd ps []
theorem Kn.mono {B : Bs} {j k : Nat} {x : Str} {st : Stmt} {ps : List Str} {sp : FS} (h : Kn B j x st ps sp) (hk : j ≤ k) : Kn B k x st ps sp := by
  obtain ⟨f, fd, F, hm, D, hb⟩ := h.ex
  exact ⟨f, fd, F.up hk, hm, D, hb⟩
def woCall (sp : FS) (r : WA) : WO := fun G ρ Q => r G ρ fun ds => sp G ds Q
theorem do_call {S : Sta} {j : Nat} {x : Str} {st : Stmt} {ps : List Str} {sp : FS} {e : Expr} {es : List Expr} {p pos : Pos} {r : WA} (h : Kn S.toBs j x st ps sp) (hj : j ≤ S.k) (hr : DA S (e :: es) r) (hg : (S.names.lookup x == some .globalImplicit) = true := by kernel_rfl)
    (hdb : (x == ("__debug__" : Str)) = false := by kernel_rfl) (he : ∀ env, starEach (e :: es) env = (false, eval e env) :: starEach es env := by intro _; rfl) (hpl : ∀ env, (backTo pos (starEach es env)).any (·.1) = false := by intro _; rfl) :
    DO S (.Call (.Name x p) (e :: es) [] pos) (woCall sp r) := fun X f => by
  obtain ⟨fa, fd, F, hm, FD, hb⟩ := h.ex
  have hkp := FD.kp
  rw [← f.P, ← f.w, ← f.K, ← f.mg, ← f.base] at F
  refine (pe_callG F (f.room.mono hj) f.ns (by unfold Gl Env.kindOf; rw [f.look]; exact beq_iff_eq.mp hg) (by rw [f.mg]; exact hm) (by rw [f.K]; exact hkp) (by rw [f.K]; exact hb) pass0 (hr X f) hdb (he _) (hpl _)).imp fun σ H Q ⟨G, F, ρ, Qd, ev, hw, hq⟩ =>
    ⟨G, F, ρ, _, ev, hw, fun vs H1 F1 ds s1 e1 f1 r1 q1 => ⟨G, F1, ds, Qd, e1.sub, e1.res, e1.wd, by rw [f.K]; exact r1, q1, fun v H' F' sv s2 s3 s4 f2 w2 r2 q2 =>
      hq v H' F' sv (s1.trans s2) (e1.go s2 s3 f2 s4 w2) (f1.trans f2) (by rw [f.K] at r2; exact r2.back f1) q2⟩⟩

/-! ### statements -/
mutual
def imm : D → Bool
  | .tup xs => immL xs
  | .tix xs => immL xs
  | .tky xs => immL xs
  | .lst _ => false
  | .dic _ _ => false
  | _ => true
def immL : List D → Bool
  | [] => true
  | x :: xs => imm x && immL xs
end
def immS : SV → Bool
  | .fz d => imm d
  | .ow xs => immL xs
  | .od _ kvs => immL (kvs.map (·.2))
def isOwn : SV → Bool
  | .fz _ => false
  | _ => true
/-- the tuples beside what was there -/
def tupOf (F F' : Hp) : Hp := fun a => match F a with
  | some o => some o
  | none => match F' a with
    | some (.tup xs) => some (.tup xs)
    | some (.frz o u) => some (.frz o u)
    | _ => none
section
variable {K : PySem.W.Frag} {F F' H : Hp}
theorem tupOf_same : Same F (tupOf F F') := fun a o h => by unfold tupOf; rw [h]
theorem tupOf_sub (s : Same F F') : Same (tupOf F F') F' := fun a o h => by
  unfold tupOf at h
  cases q : F a with
  | some u => rw [q] at h; cases h; exact s _ _ q
  | none =>
    rw [q] at h
    dsimp only at h
    split at h
    · rename_i xs e; cases h; exact e
    · rename_i o u e; cases h; exact e
    · cases h
theorem tupOf_none {a : Addr} (h : F' a = none) (s : Same F F') : tupOf F F' a = none := by
  cases q : tupOf F F' a with
  | none => rfl
  | some o => rw [tupOf_sub s _ _ q] at h; cases h
/-- no list of ours is among them -/
theorem tupOf_own {a : Addr} {o : HO} (h : F a = none) (s : Same F F') (s' : Same F' H) (ha : H a = some o) (ho : isMutO o = true) : tupOf F F' a = none := by
  cases q : F' a with
  | none => exact tupOf_none q s
  | some u =>
    have e := s' _ _ q
    rw [ha] at e
    cases e
    unfold tupOf
    rw [h, q]
    cases o <;> first | rfl | cases ho
theorem tupOf_tup {a : Addr} {vs : List V} (s : Same F F') (h : F' a = some (.tup vs)) : tupOf F F' a = some (.tup vs) := by
  unfold tupOf
  cases q : F a with
  | some u => have := s _ _ q; rw [h] at this; cases this; rfl
  | none => dsimp only; rw [h]
theorem tupOf_frz {a : Addr} {o : Obj} {u : HO} (s : Same F F') (h : F' a = some (.frz o u)) : tupOf F F' a = some (.frz o u) := by
  unfold tupOf
  cases q : F a with
  | some u => have := s _ _ q; rw [h] at this; cases this; rfl
  | none => dsimp only; rw [h]
theorem tupOf_sqt {a : Addr} {vs : List V} (s : Same F F') (h : SqT K F' a vs) : SqT K (tupOf F F') a vs := by
  rcases h with (h | ⟨o, h⟩) | h
  · exact .inl (.inl (tupOf_tup s h))
  · exact .inl (.inr ⟨o, tupOf_frz s h⟩)
  · exact .inr h
mutual
theorem Rp.tupOf (s : Same F F') : ∀ {d : D} {v : V}, Rp K F' v d → imm d = true → Rp K (tupOf F F') v d
  | _, _, .non, _ => .non
  | _, _, .bl b, _ => .bl b
  | _, _, .int i, _ => .int i
  | _, _, .str x, _ => .str x
  | _, _, .tup h r, e => .tup (tupOf_sqt s h) (RpL.tupOf s r (by unfold imm at e; exact e))
  | _, _, .tix h n r, e => .tix (tupOf_frz s h) n (RpL.tupOf s r (by unfold imm at e; exact e))
  | _, _, .tky h r, e => .tky (tupOf_tup s h) (RpL.tupOf s r (by unfold imm at e; exact e))
  | _, _, .lst _ _, e => by unfold imm at e; cases e
  | _, _, .dic _ _, e => by unfold imm at e; cases e
  | _, _, .ob a, _ => .ob a
theorem RpL.tupOf (s : Same F F') : ∀ {ds : List D} {vs : List V}, RpL K F' vs ds → immL ds = true → RpL K (tupOf F F') vs ds
  | _, _, .nil, _ => .nil
  | _, _, .cons h r, e => by
    unfold immL at e
    obtain ⟨e1, e2⟩ := Bool.and_eq_true_iff.mp e
    exact .cons (Rp.tupOf s h e1) (RpL.tupOf s r e2)
end
end

structure Ev (K : PySem.W.Frag) (G : Gc) (H0 F0 F H : Hp) (σ : St) (ρ : En) : Prop where
  r : EvR K G F H σ ρ
  f0 : Same F0 F
  fr : Fr G H0 H
  own : ∀ (i : Nat) (sv : SV) (a : Addr), ρ[i]? = some (some sv) → isOwn sv = true → σ[i]? = some (some (.ref a)) → F a = none ∧ H0 a = none
  apart : ∀ (i j : Nat) (sv sw : SV) (a : Addr), i ≠ j → ρ[i]? = some (some sv) → isOwn sv = true → ρ[j]? = some (some sw) → isOwn sw = true → σ[i]? = some (some (.ref a)) → σ[j]? = some (some (.ref a)) → False
theorem Ev.len {K : PySem.W.Frag} {G : Gc} {H0 F0 F H : Hp} {σ : St} {ρ : En} (e : Ev K G H0 F0 F H σ ρ) : σ.length = ρ.length := e.r.len

section
variable {K : PySem.W.Frag} {G : Gc} {H0 F0 F F' H H' : Hp} {σ : St} {ρ : En}
/-- an own slot's object -/
theorem EvR.ownAt (e : EvR K G F H σ ρ) {i : Nat} {sv : SV} {a : Addr} (h : ρ[i]? = some (some sv)) (ho : isOwn sv = true) (ha : σ[i]? = some (some (.ref a))) : ∃ o, H a = some o ∧ isMutO o = true ∧ ¬ G.R a := by
  obtain ⟨v, h1, h2⟩ := e.slot i sv h
  rw [ha] at h1
  cases h1
  cases sv with
  | fz d => cases ho
  | ow xs =>
    obtain ⟨b, vs, eb, q1, q2, q3⟩ := h2
    cases eb
    exact ⟨_, q1, rfl, q3⟩
  | od t kds =>
    obtain ⟨b, vs, eb, q1, q0, q2, q3⟩ := h2
    cases eb
    exact ⟨_, q1, isMutO_od t vs, q3⟩
theorem Ev.go (e : Ev K G H0 F0 F H σ ρ) (s : Same F F') (e' : EvR K G F' H' σ ρ) (fr : Fr G H H') : Ev K G H0 F0 F H' σ ρ :=
  ⟨e.r.go (Same.refl _) (s.trans e'.sub) fr e.r.res e'.wd, e.f0, e.fr.trans fr, e.own, e.apart⟩
/-- with the tuples that were made besides -/
theorem Ev.goT (e : Ev K G H0 F0 F H σ ρ) (s : Same F F') (e' : EvR K G F' H' σ ρ) (fr : Fr G H H') : Ev K G H0 F0 (tupOf F F') H' σ ρ where
  r := e.r.go tupOf_same ((tupOf_sub s).trans e'.sub) fr (fun a r => tupOf_none (e'.res a r) s) e'.wd
  f0 := e.f0.trans tupOf_same
  fr := e.fr.trans fr
  own := fun i sv a h ho ha => by
    obtain ⟨q1, q2⟩ := e.own i sv a h ho ha
    obtain ⟨o, q3, q4, _⟩ := e'.ownAt h ho ha
    exact ⟨tupOf_own q1 s e'.sub q3 q4, q2⟩
  apart := e.apart
/-- all that is ours is given up -/
def frzAll (ρ : En) : En := ρ.map fun o => match o with
  | some (.ow xs) => some (.fz (.lst xs))
  | some (.od t kds) => some (.fz (.dic t kds))
  | o => o
/-- what an own value is when it is given up -/
def asD : SV → D
  | .fz d => d
  | .ow xs => .lst xs
  | .od t kds => .dic t kds
theorem frzAll_get {ρ : En} {i : Nat} {sv : SV} (h : (frzAll ρ)[i]? = some (some sv)) : (∃ sw, sv = .fz (asD sw) ∧ isOwn sw = true ∧ ρ[i]? = some (some sw)) ∨ (isOwn sv = false ∧ ρ[i]? = some (some sv)) := by
  unfold frzAll at h
  rw [List.getElem?_map] at h
  cases q : ρ[i]? with
  | none => rw [q] at h; cases h
  | some o =>
    rw [q] at h
    cases o with
    | none => cases h
    | some sw =>
      cases sw with
      | fz d => cases h; exact .inr ⟨rfl, rfl⟩
      | ow xs => cases h; exact .inl ⟨.ow xs, rfl, rfl, rfl⟩
      | od t kds => cases h; exact .inl ⟨.od t kds, rfl, rfl, rfl⟩
open Classical in
/-- .. and stands for good -/
noncomputable def ownOf (F' H' : Hp) (σ : St) (ρ : En) : Hp := fun a => match F' a with
  | some o => some o
  | none => if ∃ (i : Nat) (sw : SV), ρ[i]? = some (some sw) ∧ isOwn sw = true ∧ σ[i]? = some (some (.ref a)) then H' a else none
theorem ownOf_same : Same F' (ownOf F' H' σ ρ) := fun a o h => by unfold ownOf; rw [h]
theorem ownOf_sub (s : Same F' H') : Same (ownOf F' H' σ ρ) H' := fun a o h => by
  unfold ownOf at h
  cases q : F' a with
  | some u => rw [q] at h; cases h; exact s _ _ q
  | none =>
    rw [q] at h
    dsimp only at h
    split at h
    · exact h
    · cases h
theorem ownOf_at {a : Addr} {o : HO} (s : Same F' H') {i : Nat} {sw : SV} (h : ρ[i]? = some (some sw)) (ho : isOwn sw = true) (ha : σ[i]? = some (some (.ref a))) (q : H' a = some o) : ownOf F' H' σ ρ a = some o := by
  unfold ownOf
  cases z : F' a with
  | some u => have := s _ _ z; rw [q] at this; cases this; rfl
  | none => dsimp only; rw [if_pos ⟨i, sw, h, ho, ha⟩]; exact q
theorem ownOf_none {a : Addr} (h : F' a = none) (n : ∀ (i : Nat) (sw : SV), ρ[i]? = some (some sw) → isOwn sw = true → σ[i]? ≠ some (some (.ref a))) : ownOf F' H' σ ρ a = none := by
  unfold ownOf
  rw [h]
  dsimp only
  rw [if_neg]
  rintro ⟨i, sw, h1, h2, h3⟩
  exact n i sw h1 h2 h3
theorem Ev.goA (e : Ev K G H0 F0 F H σ ρ) (s : Same F F') (e' : EvR K G F' H' σ ρ) (fr : Fr G H H') : Ev K G H0 F0 (ownOf F' H' σ ρ) H' σ (frzAll ρ) where
  r := by
    refine ⟨ownOf_sub e'.sub, fun a r => ?_, e'.wd, fun i sv h => ?_, by unfold frzAll; rw [List.length_map]; exact e.r.len⟩
    · refine ownOf_none (e'.res a r) fun i sw h1 ho h2 => ?_
      obtain ⟨o, _, _, n⟩ := e'.ownAt h1 ho h2
      exact n r
    · rcases frzAll_get h with ⟨sw, rfl, ho, q⟩ | ⟨ho, q⟩
      · cases sw with
        | fz d => cases ho
        | ow xs =>
          obtain ⟨v, h1, a, vs, rfl, h2, h3, h4⟩ := e'.slot i _ q
          exact ⟨_, h1, .lst (ownOf_at e'.sub q rfl h1 h2) (h3.mono ownOf_same)⟩
        | od t kds =>
          obtain ⟨v, h1, a, vs, rfl, h2, h0, h3, h4⟩ := e'.slot i _ q
          exact ⟨_, h1, .dic (ownOf_at e'.sub q rfl h1 h2) (RpK.join h0 (h3.mono ownOf_same))⟩
      · obtain ⟨v, h1, h2⟩ := e'.slot i _ q
        cases sv with
        | fz d => exact ⟨v, h1, Rp.mono ownOf_same h2⟩
        | _ => cases ho
  f0 := (e.f0.trans s).trans ownOf_same
  fr := e.fr.trans fr
  own := fun i sv a h ho ha => by
    rcases frzAll_get h with ⟨sw, rfl, _, q⟩ | ⟨ho', q⟩
    · cases ho
    · rw [ho] at ho'; cases ho'
  apart := fun i j sv sw a _ h ho _ _ _ _ => by
    rcases frzAll_get h with ⟨sw, rfl, _, q⟩ | ⟨ho', q⟩
    · cases ho
    · rw [ho] at ho'; cases ho'
end
end DL
set_option maxHeartbeats 4000000
namespace DL
open PySem PySem.Spec PyProof.Rows L2

/-- a name's new value; what may hold our lists gives all of them up -/
def put (ρ : En) (i : Nat) (sv : SV) : En := match immS sv with
  | true => ρ.set i (some sv)
  | false => (frzAll ρ).set i (some sv)
section
variable {K : PySem.W.Frag} {G : Gc} {H0 F0 F F' H H' : Hp} {σ : St} {ρ : En}
theorem set_get {α : Type} {l : List α} {i j : Nat} {x y : α} (h : (l.set i x)[j]? = some y) : (i = j ∧ x = y) ∨ (i ≠ j ∧ l[j]? = some y) := by
  by_cases e : i = j
  · subst e
    by_cases hl : i < l.length
    · rw [List.getElem?_set_self hl] at h; exact .inl ⟨rfl, Option.some.inj h⟩
    · rw [List.getElem?_eq_none (by simpa using hl)] at h; cases h
  · rw [List.getElem?_set_ne e] at h; exact .inr ⟨e, h⟩
/-- a slot gets a value: G1 what stands for good then -/
theorem Ev.set (e : Ev K G H0 F0 F H σ ρ) {i : Nat} {v : V} {sv : SV} (hi : i < ρ.length) (h : RpS K G F H v sv)
    (hn : isOwn sv = true → ∀ a, v = .ref a → F a = none ∧ H0 a = none ∧ ∀ (j : Nat) (sw : SV), j ≠ i → ρ[j]? = some (some sw) → isOwn sw = true → σ[j]? ≠ some (some (.ref a))) : Ev K G H0 F0 F H (σ.set i (some v)) (ρ.set i (some sv)) where
  r := ⟨e.r.sub, e.r.res, e.r.wd, fun j sw q => by
    rcases set_get q with ⟨rfl, z⟩ | ⟨ne, q⟩
    · cases z; exact ⟨v, List.getElem?_set_self (by rw [e.len]; exact hi), h⟩
    · obtain ⟨u, h1, h2⟩ := e.r.slot j sw q
      exact ⟨u, by rw [List.getElem?_set_ne ne]; exact h1, h2⟩, by rw [List.length_set, List.length_set]; exact e.len⟩
  f0 := e.f0
  fr := e.fr
  own := fun j sw a q ho ha => by
    rcases set_get q with ⟨rfl, z⟩ | ⟨ne, q⟩
    · cases z
      rw [List.getElem?_set_self (by rw [e.len]; exact hi)] at ha
      cases ha
      obtain ⟨h1, h2, _⟩ := hn ho a rfl
      exact ⟨h1, h2⟩
    · rw [List.getElem?_set_ne ne] at ha
      exact e.own j sw a q ho ha
  apart := fun j k sw sx a ne q1 o1 q2 o2 a1 a2 => by
    rcases set_get q1 with ⟨rfl, z⟩ | ⟨n1, q1⟩
    · rcases set_get q2 with ⟨rfl, z2⟩ | ⟨n2, q2⟩
      · exact ne rfl
      · cases z
        rw [List.getElem?_set_self (by rw [e.len]; exact hi)] at a1
        rw [List.getElem?_set_ne n2] at a2
        cases a1
        exact (hn o1 a rfl).2.2 k sx (Ne.symm n2) q2 o2 a2
    · rw [List.getElem?_set_ne n1] at a1
      rcases set_get q2 with ⟨rfl, z⟩ | ⟨n2, q2⟩
      · cases z
        rw [List.getElem?_set_self (by rw [e.len]; exact hi)] at a2
        cases a2
        exact (hn o2 a rfl).2.2 j sw (Ne.symm n1) q1 o1 a1
      · rw [List.getElem?_set_ne n2] at a2
        exact e.apart j k sw sx a ne q1 o1 q2 o2 a1 a2
/-- behind an expression, a name gets its value -/
theorem Ev.put (e : Ev K G H0 F0 F H σ ρ) (s : Same F F') (e' : EvR K G F' H' σ ρ) (fr : Fr G H H') {i : Nat} {v : V} {sv : SV} (hi : i < ρ.length) (h : RpO K G F' H H' v sv) :
    ∃ F2, Ev K G H0 F0 F2 H' (σ.set i (some v)) (put ρ i sv) ∧ Same F F2 := by
  have fresh : ∀ a, ¬ G.R a → H a = none → ∀ (j : Nat) (sw : SV), ρ[j]? = some (some sw) → isOwn sw = true → σ[j]? ≠ some (some (.ref a)) := fun a n hn j sw q ho z => by
    obtain ⟨o, q1, _, _⟩ := e.r.ownAt q ho z
    rw [hn] at q1; cases q1
  unfold DL.put
  cases hm : immS sv with
  | true =>
    refine ⟨tupOf F F', (e.goT s e' fr).set hi ?_ ?_, tupOf_same⟩
    · cases sv with
      | fz d => exact Rp.tupOf s h hm
      | ow xs =>
        obtain ⟨a, vs, rfl, h1, h2, h3, h4, h5⟩ := h
        exact ⟨a, vs, rfl, h1, RpL.tupOf s h2 hm, h3⟩
      | od t kds =>
        obtain ⟨a, vs, rfl, h1, h0, h2, h3, h4, h5⟩ := h
        exact ⟨a, vs, rfl, h1, h0, RpL.tupOf s h2 hm, h3⟩
    · intro ho a ea
      cases sv with
      | fz d => cases ho
      | ow xs =>
        obtain ⟨b, vs, rfl, h1, h2, h3, h4, h5⟩ := h
        cases ea
        exact ⟨tupOf_none h5 s, e.fr.free h3 h4, fun j sw _ q hq => fresh _ h3 h4 j sw q hq⟩
      | od t kds =>
        obtain ⟨b, vs, rfl, h1, h0, h2, h3, h4, h5⟩ := h
        cases ea
        exact ⟨tupOf_none h5 s, e.fr.free h3 h4, fun j sw _ q hq => fresh _ h3 h4 j sw q hq⟩
  | false =>
    have none_at : ∀ {a : Addr}, F' a = none → ¬ G.R a → H a = none → ownOf F' H' σ ρ a = none := fun {a} h5 h3 h4 => ownOf_none h5 fun j sw q ho z => fresh a h3 h4 j sw q ho z
    refine ⟨ownOf F' H' σ ρ, (e.goA s e' fr).set (by unfold frzAll; rw [List.length_map]; exact hi) ?_ ?_, s.trans ownOf_same⟩
    · cases sv with
      | fz d => exact Rp.mono ownOf_same h
      | ow xs =>
        obtain ⟨a, vs, rfl, h1, h2, h3, h4, h5⟩ := h
        exact ⟨a, vs, rfl, h1, h2.mono ownOf_same, h3⟩
      | od t kds =>
        obtain ⟨a, vs, rfl, h1, h0, h2, h3, h4, h5⟩ := h
        exact ⟨a, vs, rfl, h1, h0, h2.mono ownOf_same, h3⟩
    · intro ho a ea
      have apart : ∀ (j : Nat) (sw : SV), j ≠ i → (frzAll ρ)[j]? = some (some sw) → isOwn sw = true → σ[j]? ≠ some (some (.ref a)) := fun j sw _ q hq => by
        rcases frzAll_get q with ⟨_, rfl, _, _⟩ | ⟨ho', _⟩
        · cases hq
        · rw [hq] at ho'; cases ho'
      cases sv with
      | fz d => cases ho
      | ow xs =>
        obtain ⟨b, vs, rfl, h1, h2, h3, h4, h5⟩ := h
        cases ea
        exact ⟨none_at h5 h3 h4, e.fr.free h3 h4, apart⟩
      | od t kds =>
        obtain ⟨b, vs, rfl, h1, h0, h2, h3, h4, h5⟩ := h
        cases ea
        exact ⟨none_at h5 h3 h4, e.fr.free h3 h4, apart⟩
end

/-! ### the meaning of statements -/
structure EndsD where
  nx : En → Prop
  rt : SV → Prop
  bk : En → Prop := fun _ => False
  ct : En → Prop := fun _ => False
abbrev WS := Gc → EndsD → En → Prop
structure Goes (K : PySem.W.Frag) (G : Gc) (H0 F0 F : Hp) (E : EndsD) (D : Ends) : Prop where
  nx : ∀ σ' H' F' ρ', Ev K G H0 F0 F' H' σ' ρ' → Same F F' → E.nx ρ' → D.nx σ' H'
  bk : ∀ σ' H' F' ρ', Ev K G H0 F0 F' H' σ' ρ' → Same F F' → E.bk ρ' → D.bk σ' H'
  ct : ∀ σ' H' F' ρ', Ev K G H0 F0 F' H' σ' ρ' → Same F F' → E.ct ρ' → D.ct σ' H'
  rt : ∀ v H' F' sv, Same F0 F' → Same F' H' → (∀ a, G.R a → F' a = none) → Fr G H0 H' → G.Wd H' → RpO K G F' H0 H' v sv → E.rt sv → D.rt v H'
theorem Goes.mono {K : PySem.W.Frag} {G : Gc} {H0 F0 F F' : Hp} {E : EndsD} {D : Ends} (g : Goes K G H0 F0 F E D) (s : Same F F') : Goes K G H0 F0 F' E D :=
  ⟨fun σ' H' F2 ρ' e s2 q => g.nx σ' H' F2 ρ' e (s.trans s2) q, fun σ' H' F2 ρ' e s2 q => g.bk σ' H' F2 ρ' e (s.trans s2) q, fun σ' H' F2 ρ' e s2 q => g.ct σ' H' F2 ρ' e (s.trans s2) q, g.rt⟩
def tS (K : PySem.W.Frag) (w : WS) : TS := fun D σ H => ∃ G H0 F0 F ρ E, Ev K G H0 F0 F H σ ρ ∧ w G E ρ ∧ Goes K G H0 F0 F E D
def DS (S : Sta) (st : Stmt) (w : WS) : Prop := ∀ X, Fam S X → PS X st (tS S.K w)
def DSs (S : Sta) (st : List Stmt) (w : WS) : Prop := ∀ X, Fam S X → PSs X st (tS S.K w)
def wNext : WS := fun _ E ρ => E.nx ρ
def wSeq (a b : WS) : WS := fun G E ρ => a G { E with nx := fun ρ' => b G E ρ' } ρ
def wNever : WS := fun _ _ _ => False
def wRet (w : WO) : WS := fun G E ρ => w G ρ E.rt
def wRetN : WS := fun _ E _ => E.rt (.fz .non)
def wRetV (i : Nat) : WS := fun _ E ρ => ∃ sv, ρ[i]? = some (some sv) ∧ E.rt sv
def wIfS (t : WT) (a b : WS) : WS := fun G E ρ => t G ρ fun k => if k = true then a G E ρ else b G E ρ
def wSet (i : Nat) (w : WO) : WS := fun G E ρ => i < ρ.length ∧ w G ρ fun sv => E.nx (put ρ i sv)
def wSetV (i j : Nat) : WS := fun _ E ρ => i < ρ.length ∧ ∃ sv, ρ[j]? = some (some sv) ∧ match sv with
  | .fz d => E.nx (ρ.set i (some (.fz d)))
  | .ow xs => E.nx ((ρ.set j (some (.fz (.lst xs)))).set i (some (.fz (.lst xs))))
  | .od t kds => E.nx ((ρ.set j (some (.fz (.dic t kds)))).set i (some (.fz (.dic t kds))))
section
variable {S : Sta} {st : Stmt} {rest : List Stmt} {a b : WS} {e c : Expr} {pos : Pos} {w : W} {wo : WO} {t : WT}
theorem dss_nil : DSs S [] wNext := fun X f => pss_nil.imp fun D σ H ⟨G, H0, F0, F, ρ, E, ev, hw, g⟩ => g.nx σ H F ρ ev (Same.refl _) hw
theorem dss_cons (h1 : DS S st a) (h2 : DSs S rest b) : DSs S (st :: rest) (wSeq a b) := fun X f => (pss_cons (h1 X f) (h2 X f)).imp fun D σ H ⟨G, H0, F0, F, ρ, E, ev, hw, g⟩ =>
  ⟨G, H0, F0, F, ρ, _, ev, hw, ⟨fun σ' H' F' ρ' e' s q => ⟨G, H0, F0, F', ρ', E, e', q, g.mono s⟩, g.bk, g.ct, g.rt⟩⟩
theorem dss_one (h1 : DS S st a) : DSs S [st] a := fun X f => pss_one (h1 X f)
theorem dss_never {sts : List Stmt} : DSs S sts wNever := fun X f => pss_never.imp fun D σ H ⟨G, H0, F0, F, ρ, E, ev, hw, g⟩ => hw
theorem ds_never : DS S st wNever := fun X f => ps_never.imp fun D σ H ⟨G, H0, F0, F, ρ, E, ev, hw, g⟩ => hw
theorem ds_pass : DS S (.Pass pos) wNext := fun X f => ps_pass.imp fun D σ H ⟨G, H0, F0, F, ρ, E, ev, hw, g⟩ => g.nx σ H F ρ ev (Same.refl _) hw
def wBreak : WS := fun _ E ρ => E.bk ρ
def wCont : WS := fun _ E ρ => E.ct ρ
theorem ds_break : DS S (.Break pos) wBreak := fun X f => ps_break.imp fun D σ H ⟨G, H0, F0, F, ρ, E, ev, hw, g⟩ => g.bk σ H F ρ ev (Same.refl _) hw
theorem ds_continue : DS S (.Continue pos) wCont := fun X f => ps_continue.imp fun D σ H ⟨G, H0, F0, F, ρ, E, ev, hw, g⟩ => g.ct σ H F ρ ev (Same.refl _) hw
theorem ds_ret (h : DO S e wo) : DS S (.Return (some e) pos) (wRet wo) := fun X f => (ps_ret (h X f)).imp fun D σ H ⟨G, H0, F0, F, ρ, E, ev, hw, g⟩ =>
  ⟨G, F, ρ, _, ev.r, hw, fun v H' F' sv s e' fr r q => g.rt v H' F' sv (ev.f0.trans s) e'.sub e'.res (ev.fr.trans fr) e'.wd (r.back ev.fr) q⟩
theorem ds_retN : DS S (.Return none pos) wRetN := fun X f => ps_retN.imp fun D σ H ⟨G, H0, F0, F, ρ, E, ev, hw, g⟩ => g.rt .non H F (.fz .non) ev.f0 ev.r.sub ev.r.res ev.fr ev.r.wd Rp.non hw
theorem ds_retV {i : Nat} {x : Str} {p : Pos} (hN : (S.N[i]? == some x) = true := by kernel_rfl) (hv : (S.names.lookup x == some .local || S.names.lookup x == some .cell || S.names.lookup x == some .free) = true := by kernel_rfl)
    (hd : (x == ("__debug__" : Str)) = false := by kernel_rfl) (hcd : (x == ("__classdict__" : Str)) = false := by kernel_rfl) : DS S (.Return (some (.Name x p)) pos) (wRetV i) := fun X f => by
  refine (ps_ret (pe_var (i := i) (x := x) (by rw [f.N]; exact beq_iff_eq.mp hN) (by
    unfold Vis
    rw [f.look]
    rcases Bool.or_eq_true_iff.mp hv with h | h
    · rcases Bool.or_eq_true_iff.mp h with h | h
      · exact .inl (beq_iff_eq.mp h)
      · exact .inr (.inl (beq_iff_eq.mp h))
    · exact .inr (.inr (beq_iff_eq.mp h))) hd hcd)).imp fun D σ H ⟨G, H0, F0, F, ρ, E, ev, ⟨sv, q, hw⟩, g⟩ => ?_
  obtain ⟨v, h1, h2⟩ := ev.r.slot i sv q
  refine ⟨v, h1, g.rt v H F sv ev.f0 ev.r.sub ev.r.res ev.fr ev.r.wd ?_ hw⟩
  cases sv with
  | fz d => exact h2
  | ow xs =>
    obtain ⟨a, vs, rfl, q1, q2, q3⟩ := h2
    obtain ⟨z1, z2⟩ := ev.own i _ a q rfl h1
    exact ⟨a, vs, rfl, q1, q2, q3, z2, z1⟩
  | od t kds =>
    obtain ⟨a, vs, rfl, q1, q0, q2, q3⟩ := h2
    obtain ⟨z1, z2⟩ := ev.own i _ a q rfl h1
    exact ⟨a, vs, rfl, q1, q0, q2, q3, z2, z1⟩
theorem ds_if {p q : List Stmt} (hc : DT S c t) (ha : DSs S p a) (hb : DSs S q b) : DS S (.If c p q pos) (wIfS t a b) := fun X f => (ps_if (hc X f) (ha X f) (hb X f)).imp fun D σ H ⟨G, H0, F0, F, ρ, E, ev, hw, g⟩ =>
  ⟨G, F, ρ, _, ev.r, hw, fun k H' F' s e' fr z => by
    cases k with
    | true => exact iteT ⟨G, H0, F0, F, ρ, E, ev.go s e' fr, (by rw [if_pos rfl] at z; exact z), g⟩
    | false => exact iteF ⟨G, H0, F0, F, ρ, E, ev.go s e' fr, (by rw [if_neg Bool.false_ne_true] at z; exact z), g⟩⟩
theorem ds_expr (h : DE S e w) (hs : ∀ env, swapsWith e none pos.line env = pure false := by intro _; rfl) : DS S (.Expr e pos) (fun G E ρ => w G ρ fun _ => E.nx ρ) := fun X f => (ps_expr (h X f) (hs _)).imp fun D σ H ⟨G, H0, F0, F, ρ, E, ev, hw, g⟩ =>
  ⟨G, F, ρ, _, ev.r, hw, fun v H' F' d s e' fr r q => g.nx σ H' F ρ (ev.go s e' fr) (Same.refl _) q⟩
theorem locOf {X : Cx} (f : Fam S X) {x : Str} (hl : (S.names.lookup x == some .local || (S.names.lookup x == some .cell && S.fc x)) = true) : L2.Loc X.env.scope x ∧ (X.fn x = true ∨ X.env.scope.names.lookup x = some .local) := by
  unfold L2.Loc
  rw [f.look]
  rcases Bool.or_eq_true_iff.mp hl with h | h
  · exact ⟨.inl (beq_iff_eq.mp h), .inr (beq_iff_eq.mp h)⟩
  · obtain ⟨h1, h2⟩ := Bool.and_eq_true_iff.mp h
    exact ⟨.inr (beq_iff_eq.mp h1), .inl (f.fn x h2)⟩
theorem ds_set {i : Nat} {x : Str} {p : Pos} (he : DO S e wo) (nd : S.N.Nodup) (hN : (S.N[i]? == some x) = true := by kernel_rfl) (hl : (S.names.lookup x == some .local || (S.names.lookup x == some .cell && S.fc x)) = true := by kernel_rfl)
    (hs : ∀ env, swapsWith e (some (.Name x p)) pos.line env = pure false := by intro _; rfl) : DS S (.Assign [.Name x p] e pos) (wSet i wo) := fun X f => by
  obtain ⟨h1, h2⟩ := locOf f hl
  refine (ps_set (i := i) (by rw [f.N]; exact nd) (by rw [f.N]; exact beq_iff_eq.mp hN) h1 (he X f) (hs _) h2).imp fun D σ H ⟨G, H0, F0, F, ρ, E, ev, ⟨hi, hw⟩, g⟩ => ?_
  refine ⟨G, F, ρ, _, ev.r, hw, fun v H' F' sv s e' fr r q => ?_⟩
  obtain ⟨F2, ev2, s2⟩ := ev.put s e' fr hi r
  exact g.nx _ H' F2 _ ev2 s2 q
end
end DL
set_option maxHeartbeats 4000000
namespace DL
open PySem PySem.Spec PyProof.Rows L2

/-! ### a def keeps its promise -/
def startD (N : List Str) (ds : List D) : En := ds.map (fun d => some (SV.fz d)) ++ List.replicate (N.length - ds.length) none
theorem startD_get {N : List Str} {ds : List D} {i : Nat} {sv : SV} (h : (startD N ds)[i]? = some (some sv)) : ∃ d, sv = .fz d ∧ ds[i]? = some d := by
  unfold startD at h
  by_cases hi : i < ds.length
  · rw [List.getElem?_append_left (by simpa using hi), List.getElem?_map] at h
    cases e : ds[i]? with
    | none => rw [e] at h; cases h
    | some d => rw [e] at h; cases h; exact ⟨d, rfl, rfl⟩
  · rw [List.getElem?_append_right (by simpa using hi), List.getElem?_replicate] at h
    split at h <;> cases h
theorem start_get {N : List Str} {vs : List V} {i : Nat} {v : V} (h : vs[i]? = some v) : (L2.start N vs)[i]? = some (some v) := by
  unfold L2.start
  have hi : i < vs.length := (List.getElem?_eq_some_iff.mp h).1
  rw [List.getElem?_append_left (by simpa using hi), List.getElem?_map, h]
  rfl
theorem kn_of {B : Bs} {x : Str} {st : Stmt} {ps N : List Str} {sp : FS} {k : Nat} {f : Addr} {fd : FuncData} {ws : WS} (F : FunD B.K x x (defArgs st) (defBody st) (defScope st) [] [] f fd) (sc : FnScope N ps (defScope st)) (hm : B.mg x = some (.ref f)) (hb : Binds B.K fd ps [])
    (hB : DSs { B with N := N, names := (defScope st).names, k := k, fc := fun _ => true } (defBody st) ws)
    (law : ∀ G ds Qd, sp G ds Qd → ds.length = ps.length ∧ ws G { nx := fun _ => Qd (.fz .non), rt := Qd } (startD N ds)) : Kn B (k + 1) x st ps sp := by
  refine ⟨f, fd, F.okG sc (fun vs H Q E h => ?_) (fun cdv A outer s H vs Q E hr hn h => ?_), hm, F, hb⟩
  · obtain ⟨G, F, ds, Qd, s1, s2, s3, r, h, _⟩ := h
    rw [r.len]
    exact (law G ds Qd h).1
  · obtain ⟨G, F0, ds, Qd, s1, s2, s3, r, h, g⟩ := h
    obtain ⟨hl, hw⟩ := law G ds Qd h
    refine ⟨tS B.K ws, PSs.nox (hB _ ⟨rfl, rfl, rfl, rfl, rfl, rfl, rfl, rfl, hr, PassesOwn.never, fun _ _ => rfl, sc.kind, hn⟩), G, H, F0, F0, startD N ds, _, ⟨⟨s1, s2, s3, fun i sv q => ?_, ?_⟩, Same.refl _, Fr.refl, fun i sv a q ho _ => ?_, fun i j sv sw a _ q ho _ _ _ _ => ?_⟩, hw, ⟨fun σ' H' F' ρ' e s' q => ?_, fun _ _ _ _ _ _ q => q.elim, fun _ _ _ _ _ _ q => q.elim, fun v H' F' sv q1 q2 q3 q4 q5 q6 q7 => g v H' F' sv q1 q2 q3 q4 q5 q6 q7⟩⟩
    · obtain ⟨d, rfl, z⟩ := startD_get q
      obtain ⟨v, h1, h2⟩ := r.get z
      exact ⟨v, start_get h1, h2⟩
    · have := r.len
      unfold L2.start startD
      rw [List.length_append, List.length_append, List.length_map, List.length_map, List.length_replicate, List.length_replicate, this]
    · obtain ⟨d, rfl, _⟩ := startD_get q
      cases ho
    · obtain ⟨d, rfl, _⟩ := startD_get q
      cases ho
    · exact g .non H' F' (.fz .non) (e.f0) e.r.sub e.r.res e.fr e.r.wd Rp.non q
end DL
set_option maxHeartbeats 4000000
namespace DL
open PySem PySem.Spec PyProof.Rows L2

/-! ### what is walked -/
structure ItOk (K : PySem.W.Frag) (J : It) (F : Hp) (ds : List D) : Prop where
  go : ∀ i H F', Same F F' → Same F' H → i < ds.length → J.go i H ∧ ∀ x H', J.yld i H x H' → ∃ d, ds[i]? = some d ∧
    ((H' = H ∧ Rp K F' x d) ∨ ∃ T o, H T = none ∧ H' = upd H T o ∧ Rp K (upd F' T o) x d)
  stop : ∀ H F', Same F F' → Same F' H → J.stop ds.length H
theorem itok_list {K : PySem.W.Frag} {F : Hp} {a : Addr} {vs : List V} {ds : List D} (h : F a = some (.lst vs)) (r : RpL K F vs ds) : ItOk K (Itl K a) F ds where
  go := fun i H F' s s' hi => by
    have hv : i < vs.length := by rw [r.len]; exact hi
    have hH : SqL K H a vs := SqL.of (s' _ _ (s _ _ h))
    refine ⟨⟨vs, vs[i], hH, List.getElem?_eq_getElem hv⟩, fun x H' ⟨e, y⟩ => ?_⟩
    obtain ⟨d, h1, h2⟩ := r.getV (y vs hH)
    exact ⟨d, h1, .inl ⟨e, h2.mono s⟩⟩
  stop := fun H F' s s' => ⟨vs, SqL.of (s' _ _ (s _ _ h)), by rw [r.len]; exact Nat.le_refl _⟩
theorem itok_tup {K : PySem.W.Frag} {F : Hp} {a : Addr} {vs : List V} {ds : List D} (h : SqT K F a vs) (r : RpL K F vs ds) : ItOk K (Itt K a) F ds where
  go := fun i H F' s s' hi => by
    have hv : i < vs.length := by rw [r.len]; exact hi
    have hH : SqT K H a vs := Same.sqt (s.trans s') h
    refine ⟨⟨vs, vs[i], hH, List.getElem?_eq_getElem hv⟩, fun x H' ⟨e, y⟩ => ?_⟩
    obtain ⟨d, h1, h2⟩ := r.getV (y vs hH)
    exact ⟨d, h1, .inl ⟨e, h2.mono s⟩⟩
  stop := fun H F' s s' => ⟨vs, Same.sqt (s.trans s') h, by rw [r.len]; exact Nat.le_refl _⟩
def rangeD (lo : Int) (n : Nat) : List D := (List.range n).map fun (i : Nat) => D.int (lo + (i : Int))
theorem rangeD_len (lo : Int) (n : Nat) : (rangeD lo n).length = n := by unfold rangeD; rw [List.length_map, List.length_range]
theorem rangeD_get {lo : Int} {n i : Nat} (h : i < n) : (rangeD lo n)[i]? = some (.int (lo + (i : Int))) := by
  unfold rangeD
  rw [List.getElem?_map, List.getElem?_range h]
  rfl
theorem itok_range {K : PySem.W.Frag} {F : Hp} (lo : Int) (n : Nat) : ItOk K (Itr lo n) F (rangeD lo n) where
  go := fun i H F' s s' hi => by
    rw [rangeD_len] at hi
    exact ⟨hi, fun x H' ⟨e, y⟩ => ⟨_, rangeD_get hi, .inl ⟨e, by rw [y]; exact .int _⟩⟩⟩
  stop := fun H F' s s' => by rw [rangeD_len]; exact Nat.le_refl _
def zipD (xs ys : List D) : List D := List.zipWith (fun x y => D.tup [x, y]) xs ys
theorem zipD_get {xs ys : List D} {i : Nat} {x y : D} (h1 : xs[i]? = some x) (h2 : ys[i]? = some y) : (zipD xs ys)[i]? = some (.tup [x, y]) := by
  unfold zipD
  rw [List.getElem?_zipWith, h1, h2]
theorem Rp.pair {K : PySem.W.Frag} {F : Hp} {T : Addr} {x y : V} {d e : D} (hF : F T = none) (h1 : Rp K F x d) (h2 : Rp K F y e) : Rp K (upd F T (.tup [x, y])) (.ref T) (.tup [d, e]) :=
  .tup (SqT.of upd_same) (.cons (h1.mono (same_upd hF)) (.cons (h2.mono (same_upd hF)) .nil))
theorem none_sub {F H : Hp} {a : Addr} (s : Same F H) (h : H a = none) : F a = none := by
  cases q : F a with
  | none => rfl
  | some u => rw [s _ _ q] at h; cases h
theorem itok_zipL {K : PySem.W.Frag} {F : Hp} {a b : Addr} {vs us : List V} {ds es : List D} (h : F a = some (.lst vs)) (r : RpL K F vs ds) (h' : F b = some (.lst us)) (r' : RpL K F us es) : ItOk K (Itz K a b) F (zipD ds es) where
  go := fun i H F' s s' hi => by
    have l1 := r.len
    have l2 := r'.len
    have hi2 : i < ds.length ∧ i < es.length := by unfold zipD at hi; rw [List.length_zipWith] at hi; omega
    have hA : SqL K H a vs := SqL.of (s' _ _ (s _ _ h))
    have hB : SqL K H b us := SqL.of (s' _ _ (s _ _ h'))
    refine ⟨⟨vs, us, vs[i], us[i], hA, hB, List.getElem?_eq_getElem (by omega), List.getElem?_eq_getElem (by omega)⟩, fun x H' ⟨T, v1, v2, e1, nT, e2, y1, y2⟩ => ?_⟩
    obtain ⟨d1, q1, p1⟩ := r.getV (y1 vs hA)
    obtain ⟨d2, q2, p2⟩ := r'.getV (y2 us hB)
    subst e1
    exact ⟨_, zipD_get q1 q2, .inr ⟨T, _, nT, e2, .pair (none_sub s' nT) (p1.mono s) (p2.mono s)⟩⟩
  stop := fun H F' s s' => ⟨vs, us, SqL.of (s' _ _ (s _ _ h)), SqL.of (s' _ _ (s _ _ h')), by unfold zipD; rw [List.length_zipWith, r.len, r'.len]; omega⟩
theorem itok_zipT {K : PySem.W.Frag} {F : Hp} {a b : Addr} {vs us : List V} {ds es : List D} (h : SqT K F a vs) (r : RpL K F vs ds) (h' : SqT K F b us) (r' : RpL K F us es) : ItOk K (RZ.ItzT K a b) F (zipD ds es) where
  go := fun i H F' s s' hi => by
    have l1 := r.len
    have l2 := r'.len
    have hi2 : i < ds.length ∧ i < es.length := by unfold zipD at hi; rw [List.length_zipWith] at hi; omega
    have hA : SqT K H a vs := Same.sqt (s.trans s') h
    have hB : SqT K H b us := Same.sqt (s.trans s') h'
    refine ⟨⟨vs, us, vs[i], us[i], hA, hB, List.getElem?_eq_getElem (by omega), List.getElem?_eq_getElem (by omega)⟩, fun x H' ⟨T, v1, v2, e1, nT, e2, y1, y2⟩ => ?_⟩
    obtain ⟨d1, q1, p1⟩ := r.getV (y1 vs hA)
    obtain ⟨d2, q2, p2⟩ := r'.getV (y2 us hB)
    subst e1
    exact ⟨_, zipD_get q1 q2, .inr ⟨T, _, nT, e2, .pair (none_sub s' nT) (p1.mono s) (p2.mono s)⟩⟩
  stop := fun H F' s s' => ⟨vs, us, Same.sqt (s.trans s') h, Same.sqt (s.trans s') h', by unfold zipD; rw [List.length_zipWith, r.len, r'.len]; omega⟩
def enumD : Nat → List D → List D
  | _, [] => []
  | k, x :: xs => .tup [.int (k : Nat), x] :: enumD (k + 1) xs
theorem enumD_len : ∀ (k : Nat) (xs : List D), (enumD k xs).length = xs.length
  | _, [] => rfl
  | k, x :: xs => by unfold enumD; rw [List.length_cons, List.length_cons, enumD_len]
theorem enumD_get : ∀ {xs : List D} {k i : Nat} {x : D}, xs[i]? = some x → (enumD k xs)[i]? = some (.tup [.int ((k + i : Nat) : Int), x])
  | [], _, _, _, h => by simp at h
  | y :: ys, k, 0, x, h => by
    simp at h
    subst h
    rfl
  | y :: ys, k, i + 1, x, h => by
    have e := enumD_get (k := k + 1) (show ys[i]? = some x from by simpa using h)
    unfold enumD
    rw [List.getElem?_cons_succ, e, show k + 1 + i = k + (i + 1) by omega]
theorem itok_enum {K : PySem.W.Frag} {F : Hp} {a : Addr} {vs : List V} {ds : List D} (h : F a = some (.lst vs)) (r : RpL K F vs ds) : ItOk K (Ite K a) F (enumD 0 ds) where
  go := fun i H F' s s' hi => by
    rw [enumD_len] at hi
    have hv : i < vs.length := by rw [r.len]; exact hi
    have hH : SqL K H a vs := SqL.of (s' _ _ (s _ _ h))
    refine ⟨⟨vs, vs[i], hH, List.getElem?_eq_getElem hv⟩, fun x H' ⟨T, v1, e1, nT, e2, y⟩ => ?_⟩
    obtain ⟨d, h1, h2⟩ := r.getV (y vs hH)
    subst e1
    have e := enumD_get (k := 0) h1
    rw [Nat.zero_add] at e
    exact ⟨_, e, .inr ⟨T, _, nT, e2, .pair (none_sub s' nT) (.int _) (h2.mono s)⟩⟩
  stop := fun H F' s s' => ⟨vs, SqL.of (s' _ _ (s _ _ h)), by rw [enumD_len, r.len]; exact Nat.le_refl _⟩

/-! ### targets -/
def tupsOf : D → Option (List D)
  | .tup xs => some xs
  | .tix xs => some xs
  | .tky xs => some xs
  | _ => none
theorem rp_tups {K : PySem.W.Frag} {F : Hp} {v : V} {d : D} {ds : List D} (r : Rp K F v d) (e : tupsOf d = some ds) : ∃ a vs, v = .ref a ∧ SqT K F a vs ∧ RpL K F vs ds := by
  cases d with
  | tup xs => cases e; cases r with | tup h r => exact ⟨_, _, rfl, h, r⟩
  | tix xs => cases e; cases r with | tix h _ r => exact ⟨_, _, rfl, .inl (.inr ⟨_, h⟩), r⟩
  | tky xs => cases e; cases r with | tky h r => exact ⟨_, _, rfl, SqT.of h, r⟩
  | _ => cases e
abbrev WG := D → En → (En → Prop) → Prop
abbrev WGs := List D → En → (En → Prop) → Prop
/-- is: the slots that it stores -/
def GOk (K : PySem.W.Frag) (is : List Nat) (g : TG) (wg : WG) : Prop := ∀ (P : St → En → Prop) (F H : Hp) (σ : St) (ρ : En) (v : V) (d : D) (Qd : En → Prop) (Q : St → Hp → Prop),
  (∀ i v d σ ρ, i ∈ is → P σ ρ → i < ρ.length → Rp K F v d → P (σ.set i (some v)) (ρ.set i (some (.fz d)))) → Same F H → P σ ρ → Rp K F v d → wg d ρ Qd → (∀ σ' ρ', P σ' ρ' → Qd ρ' → Q σ' H) → g v σ H Q
def GsOk (K : PySem.W.Frag) (is : List Nat) (g : TGs) (wg : WGs) : Prop := ∀ (P : St → En → Prop) (F H : Hp) (σ : St) (ρ : En) (vs : List V) (ds : List D) (Qd : En → Prop) (Q : St → Hp → Prop),
  (∀ i v d σ ρ, i ∈ is → P σ ρ → i < ρ.length → Rp K F v d → P (σ.set i (some v)) (ρ.set i (some (.fz d)))) → Same F H → P σ ρ → RpL K F vs ds → wg ds ρ Qd → (∀ σ' ρ', P σ' ρ' → Qd ρ' → Q σ' H) → g vs σ H Q
def DG (S : Sta) (tg : Expr) (is : List Nat) (wg : WG) : Prop := ∃ g, (∀ X, Fam S X → PG X tg g) ∧ GOk S.K is g wg
def DGs (S : Sta) (tg : List Expr) (is : List Nat) (n : Nat) (wg : WGs) : Prop := ∃ g, (∀ X, Fam S X → PGs X tg g) ∧ GsOk S.K is g wg ∧ (∀ env, (assignEach tg env).length = n) ∧ (∀ env, (assignEach tg env).findIdx? (·.1) = none)
def wgName (i : Nat) : WG := fun d ρ Q => i < ρ.length ∧ Q (ρ.set i (some (.fz d)))
def wgTup (n : Nat) (gs : WGs) : WG := fun d ρ Q => ∃ ds, tupsOf d = some ds ∧ ds.length = n ∧ gs ds ρ Q
def wgNil : WGs := fun ds ρ Q => ds = [] ∧ Q ρ
def wgCons (g : WG) (gs : WGs) : WGs := fun ds ρ Q => ∃ d r, ds = d :: r ∧ g d ρ fun ρ' => gs r ρ' Q
section
variable {S : Sta} {e : Expr} {es : List Expr} {pos : Pos}
theorem dg_name {i : Nat} {x : Str} (nd : S.N.Nodup) (hN : (S.N[i]? == some x) = true := by kernel_rfl) (hl : (S.names.lookup x == some .local || (S.names.lookup x == some .cell && S.fc x)) = true := by kernel_rfl) : DG S (.Name x pos) [i] (wgName i) :=
  ⟨gName i, fun X f => pg_name (by rw [f.N]; exact nd) (by rw [f.N]; exact beq_iff_eq.mp hN) (locOf f hl).1 (locOf f hl).2, fun P F H σ ρ v d Qd Q hP sF p r ⟨hi, q⟩ hq => hq _ _ (hP i v d σ ρ (List.mem_singleton.mpr rfl) p hi r) q⟩
theorem dgs_nil : DGs S [] [] 0 wgNil := ⟨gNil, fun X f => pgs_nil, fun P F H σ ρ vs ds Qd Q hP sF p r ⟨e, q⟩ hq => by
  subst e
  cases r
  exact ⟨rfl, hq _ _ p q⟩, fun _ => rfl, fun _ => rfl⟩
theorem dgs_cons {is js : List Nat} {n : Nat} {wg : WG} {wgs : WGs} (h1 : DG S e is wg) (h2 : DGs S es js n wgs) (hs : ∀ env, assignEach (e :: es) env = (false, assign e env) :: assignEach es env := by intro _; rfl) : DGs S (e :: es) (is ++ js) (n + 1) (wgCons wg wgs) := by
  obtain ⟨g, pg, ok⟩ := h1
  obtain ⟨gs, pgs, oks, hl, hf⟩ := h2
  refine ⟨gCons g gs, fun X f => pgs_cons (pg X f) (pgs X f) (by rw [hs]; rfl), fun P F H σ ρ vs ds Qd Q hP sF p r ⟨d, rr, e, q⟩ hq => ?_, fun env => by rw [hs, List.length_cons, hl], fun env => by rw [hs, List.findIdx?_cons, hf]; rfl⟩
  subst e
  cases r with
  | cons rv rvs =>
    refine ⟨_, _, rfl, ok P F H σ ρ _ d _ _ (fun i v d σ ρ hi => hP i v d σ ρ (List.mem_append_left _ hi)) sF p rv q fun σ' ρ' p' q' => ?_⟩
    exact oks P F H σ' ρ' _ rr Qd Q (fun i v d σ ρ hi => hP i v d σ ρ (List.mem_append_right _ hi)) sF p' rvs q' hq
theorem dg_tup {is : List Nat} {n k : Nat} {wgs : WGs} (h : DGs S es is n wgs) : DG S (.Tuple es k pos) is (wgTup n wgs) := by
  obtain ⟨gs, pgs, oks, hl, hf⟩ := h
  refine ⟨gTup S.K n gs, fun X f => f.K ▸ pg_tup f.calm (pgs X f) (hl _) (hf _), fun P F H σ ρ v d Qd Q hP sF p r ⟨ds, e, e2, q⟩ hq => ?_⟩
  obtain ⟨a, vs, rfl, h, r⟩ := rp_tups r e
  exact ⟨_, _, rfl, Same.sqt sF h, by rw [r.len]; exact e2, oks P F H σ ρ _ ds Qd Q hP sF p r q hq⟩
end

/-! ### sources, within an expression -/
section
variable (K : PySem.W.Frag)
def tI (w : WA) : TI := fun σ H R => ∃ G F ρ Qd, EvR K G F H σ ρ ∧ w G ρ Qd ∧ ∀ J H' F' ds, Same F F' → EvR K G F' H' σ ρ → Fr G H H' → ItOk K J F' ds → Qd ds → R J H'
end
def DI (S : Sta) (tg e : Expr) (w : WA) : Prop := ∀ X, Fam S X → PI X tg e (tI S.K w)
theorem _root_.L2.PI.imp {X : Cx} {tg e : Expr} {t t' : TI} (h : PI X tg e t) (i : ∀ σ H R, t' σ H R → t σ H R) : PI X tg e t' := ⟨fun pins s σ H Q I q => h.run pins s σ H Q I (i σ H Q q)⟩
def iSeq (K : PySem.W.Frag) (tl : TE) : TI := fun σ H R => tl σ H fun x H1 => ∃ a, x = .ref a ∧ (((∃ xs, SqL K H1 a xs) ∧ R (Itl K a) H1) ∨ ((∃ xs, SqT K H1 a xs) ∧ R (Itt K a) H1))
theorem pi_seq {X : Cx} {tg l : Expr} {tl : TE} (hl : PE X l tl) : PI X tg l (iSeq X.K tl) := by
  refine ⟨fun pins s σ H R I h => ?_⟩
  refine thn (hl.run pins s σ H _ I h) fun v s1 ⟨x, H1, I1, r1, q1⟩ => ?_
  obtain ⟨a, e, q⟩ := q1
  subst e
  cases r1
  rcases q with ⟨⟨xs, hq⟩, q⟩ | ⟨⟨xs, hq⟩, q⟩
  · obtain ⟨its, rv, p, hz⟩ := I1.list hq
    refine wpAny_pyIter_list p.isList ?_
    refine ⟨s1.heap.objs.size, [s1.heap.objs.size], _, _, H1, rfl, I1.kept (t' := s1.toks) fun b o e => Heap.get?_push_of_some _ e, turn_list a _, ⟨_, Heap.get?_push_size _ rfl, rfl, rfl⟩, fun b hb => ?_, q⟩
    have e : b = s1.heap.objs.size := by simpa using hb
    subst e
    exact I1.fpOk (Nat.le_refl _) (I1.hok.fresh (Nat.le_refl _))
  · obtain ⟨its, rv, p, hz⟩ := I1.tuple hq
    refine wpAny_pyIter_tuple (show s1.heap.IsTuple a its.toArray from p) ?_
    refine ⟨s1.heap.objs.size, [s1.heap.objs.size], _, _, H1, rfl, I1.kept (t' := s1.toks) fun b o e => Heap.get?_push_of_some _ e, turn_tuple a _, ⟨_, Heap.get?_push_size _ rfl, rfl, rfl⟩, fun b hb => ?_, q⟩
    have e : b = s1.heap.objs.size := by simpa using hb
    subst e
    exact I1.fpOk (Nat.le_refl _) (I1.hok.fresh (Nat.le_refl _))
theorem rp_items {K : PySem.W.Frag} {F : Hp} {v : V} {d : D} {ds : List D} (r : Rp K F v d) (e : itemsOf d = some ds) : ∃ a vs, v = .ref a ∧ ((d = .lst ds ∧ F a = some (.lst vs)) ∨ (True ∧ SqT K F a vs)) ∧ RpL K F vs ds := by
  cases d with
  | tup xs => cases e; cases r with | tup h r => exact ⟨_, _, rfl, .inr ⟨True.intro, h⟩, r⟩
  | tix xs => cases e; cases r with | tix h _ r => exact ⟨_, _, rfl, .inr ⟨True.intro, .inl (.inr ⟨_, h⟩)⟩, r⟩
  | tky xs => cases e; cases r with | tky h r => exact ⟨_, _, rfl, .inr ⟨True.intro, SqT.of h⟩, r⟩
  | lst xs => cases e; cases r with | lst h r => exact ⟨_, _, rfl, .inl ⟨rfl, h⟩, r⟩
  | _ => cases e
def wiSeq (w : W) : WA := fun G ρ Q => w G ρ fun d => ∃ ds, itemsOf d = some ds ∧ Q ds
def wiRange1 (r : WA) : WA := fun G ρ Q => r G ρ fun ds => ∃ j : Int, ds = [.int j] ∧ -(2 ^ 62) ≤ j ∧ j < 2 ^ 62 ∧ Q (rangeD 0 j.toNat)
def wiRange2 (r : WA) : WA := fun G ρ Q => r G ρ fun ds => ∃ i j : Int, ds = [.int i, .int j] ∧ (-(2 ^ 62) ≤ i ∧ i < 2 ^ 62 ∧ -(2 ^ 62) ≤ j ∧ j < 2 ^ 62) ∧ Q (rangeD i (j - i).toNat)
/-- two of one kind -/
def wiZip (r : WA) : WA := fun G ρ Q => r G ρ fun ds => ∃ x y xs ys, ds = [x, y] ∧ ((tupsOf x = some xs ∧ tupsOf y = some ys) ∨ (x = .lst xs ∧ y = .lst ys)) ∧ Q (zipD xs ys)
def wiEnum (r : WA) : WA := fun G ρ Q => r G ρ fun ds => ∃ xs, ds = [.lst xs] ∧ Q (enumD 0 xs)
section
variable {S : Sta} {tg e a b : Expr} {es : List Expr} {p pos tpos : Pos} {w : W} {r : WA} {kk : Nat}
theorem di_seq (h : DE S e w) : DI S tg e (wiSeq w) := fun X f => (pi_seq (h X f)).imp fun σ H R ⟨G, F, ρ, Qd, ev, hw, hq⟩ =>
  ⟨G, F, ρ, _, ev, hw, fun v H1 F1 d s1 e1 f1 r1 ⟨ds, ed, q1⟩ => by
    rw [f.K]
    obtain ⟨a, vs, rfl, h, r⟩ := rp_items r1 ed
    rcases h with ⟨_, h⟩ | ⟨_, h⟩
    · exact ⟨a, rfl, .inl ⟨⟨vs, SqL.of (e1.sub _ _ h)⟩, hq _ H1 F1 ds s1 e1 f1 (itok_list h r) q1⟩⟩
    · exact ⟨a, rfl, .inr ⟨⟨vs, Same.sqt e1.sub h⟩, hq _ H1 F1 ds s1 e1 f1 (itok_tup h r) q1⟩⟩⟩
theorem glOf {X : Cx} (f : Fam S X) {x : Str} (h : (S.names.lookup x == some .globalImplicit) = true) : Gl X x := by unfold Gl Env.kindOf; rw [f.look]; exact beq_iff_eq.mp h
theorem di_range1 (hm : S.mg "range" = none) (h : DA S [a] r) (hg : (S.names.lookup ("range" : Str) == some .globalImplicit) = true := by kernel_rfl) (hs : ∀ env, starEach [a] env = [(false, eval a env)] := by intro _; rfl) : DI S tg (.Call (.Name "range" p) [a] [] pos) (wiRange1 r) := fun X f =>
  (pi_range1 (glOf f hg) (by rw [f.mg]; exact hm) (h X f) (hs _)).imp fun σ H R ⟨G, F, ρ, Qd, ev, hw, hq⟩ =>
  ⟨G, F, ρ, _, ev, hw, fun vs H1 F1 ds s1 e1 f1 r1 ⟨j, ed, z1, z2, q1⟩ => by
    subst ed
    cases r1 with
    | cons rv rr => cases rr; cases rv; exact ⟨j, rfl, z1, z2, hq _ H1 F1 _ s1 e1 f1 (itok_range _ _) q1⟩⟩
theorem di_range2 (hm : S.mg "range" = none) (h : DA S [a, b] r) (hg : (S.names.lookup ("range" : Str) == some .globalImplicit) = true := by kernel_rfl) (hs : ∀ env, starEach [a, b] env = [(false, eval a env), (false, eval b env)] := by intro _; rfl) (hs2 : ∀ env, starEach [b] env = [(false, eval b env)] := by intro _; rfl) :
    DI S tg (.Call (.Name "range" p) [a, b] [] pos) (wiRange2 r) := fun X f =>
  (pi_range2 (glOf f hg) (by rw [f.mg]; exact hm) (h X f) (hs _) (hs2 _)).imp fun σ H R ⟨G, F, ρ, Qd, ev, hw, hq⟩ =>
  ⟨G, F, ρ, _, ev, hw, fun vs H1 F1 ds s1 e1 f1 r1 ⟨i, j, ed, z, q1⟩ => by
    subst ed
    cases r1 with
    | cons rv rr =>
      cases rr with
      | cons rv2 rr => cases rr; cases rv; cases rv2; exact ⟨i, j, rfl, z, hq _ H1 F1 _ s1 e1 f1 (itok_range _ _) q1⟩⟩
theorem di_zip (hm : S.mg "zip" = none) (h : DA S [a, b] r) (hg : (S.names.lookup ("zip" : Str) == some .globalImplicit) = true := by kernel_rfl) (hs : ∀ env, starEach [a, b] env = (false, eval a env) :: starEach [b] env := by intro _; rfl) (hpl : ∀ env, (backTo pos (starEach [b] env)).any (·.1) = false := by intro _; rfl) :
    DI S (.Tuple es kk tpos) (.Call (.Name "zip" p) [a, b] [] pos) (wiZip r) := fun X f =>
  (RZ.pi_zipA (glOf f hg) (by rw [f.mg]; exact hm) (h X f) (hs _) (hpl _)).imp fun σ H R ⟨G, F, ρ, Qd, ev, hw, hq⟩ =>
  ⟨G, F, ρ, _, ev, hw, fun vs H1 F1 ds s1 e1 f1 r1 ⟨x, y, xs, ys, ed, z, q1⟩ => by
    subst ed
    rw [f.K]
    cases r1 with
    | cons rv rr =>
      cases rr with
      | cons rv2 rr =>
        cases rr
        rcases z with ⟨z1, z2⟩ | ⟨rfl, rfl⟩
        · obtain ⟨a, vs, rfl, h1, r1⟩ := rp_tups rv z1
          obtain ⟨b, us, rfl, h2, r2⟩ := rp_tups rv2 z2
          exact ⟨_, _, _, _, rfl, .inr ⟨Same.sqt e1.sub h1, Same.sqt e1.sub h2, hq _ H1 F1 _ s1 e1 f1 (itok_zipT h1 r1 h2 r2) q1⟩⟩
        · cases rv with
          | lst h1 r1 => cases rv2 with
            | lst h2 r2 => exact ⟨_, _, _, _, rfl, .inl ⟨SqL.of (e1.sub _ _ h1), SqL.of (e1.sub _ _ h2), hq _ H1 F1 _ s1 e1 f1 (itok_zipL h1 r1 h2 r2) q1⟩⟩⟩
theorem di_enum (hm : S.mg "enumerate" = none) (h : DA S [a] r) (hg : (S.names.lookup ("enumerate" : Str) == some .globalImplicit) = true := by kernel_rfl) (hs : ∀ env, starEach [a] env = [(false, eval a env)] := by intro _; rfl) :
    DI S (.Tuple es kk tpos) (.Call (.Name "enumerate" p) [a] [] pos) (wiEnum r) := fun X f =>
  (pi_enum (glOf f hg) (by rw [f.mg]; exact hm) (h X f) (hs _)).imp fun σ H R ⟨G, F, ρ, Qd, ev, hw, hq⟩ =>
  ⟨G, F, ρ, _, ev, hw, fun vs H1 F1 ds s1 e1 f1 r1 ⟨xs, ed, q1⟩ => by
    subst ed
    rw [f.K]
    cases r1 with
    | cons rv rr =>
      cases rr
      cases rv with
      | lst h1 r1 => exact ⟨_, _, rfl, SqL.of (e1.sub _ _ h1), hq _ H1 F1 _ s1 e1 f1 (itok_enum h1 r1) q1⟩⟩
end
end DL
set_option maxHeartbeats 4000000
namespace DL
open PySem PySem.Spec PyProof.Rows L2

/-! ### list comprehensions -/
/-- G' keeps what G keeps, and more -/
structure GExt (G G' : Gc) : Prop where
  R : ∀ a, G.R a → G'.R a
  wd : ∀ H, G'.Wd H → G.Wd H
  st : ∀ H H', G'.Wd H → G.Wd H' → (∀ a, G'.R a → ¬ G.R a → H' a = H a) → G'.Wd H'
theorem GExt.refl (G : Gc) : GExt G G := ⟨fun _ h => h, fun _ h => h, fun _ _ _ h _ => h⟩
theorem GExt.trans {G G1 G2 : Gc} (a : GExt G G1) (b : GExt G1 G2) : GExt G G2 := ⟨fun x h => b.R x (a.R x h), fun H h => a.wd H (b.wd H h), fun H H' h h' q => by
  have h1 : G1.Wd H' := a.st H H' (b.wd _ h) h' fun x r n => q x (b.R x r) n
  refine b.st H H' h h1 fun x r n => q x r fun z => n (a.R x z)⟩
/-- the list at D stays acc meanwhile -/
def Gc.more (G : Gc) (D : Addr) (o : HO) : Gc where
  R := fun a => G.R a ∨ a = D
  Wd := fun H => G.Wd H ∧ H D = some o ∧ isMutO o = true
  live := fun H a h r => by
    rcases r with r | r
    · exact G.live H a h.1 r
    · rw [r, h.2.1]; exact fun z => nomatch z
  nt := fun H A u h r e => by
    rcases r with r | r
    · exact G.nt H A u h.1 r e
    · rw [r, h.2.1] at e
      cases e
      cases h.2.2
  st := fun H H' h q => ⟨G.st H H' h.1 fun a r => q a (.inl r), by rw [q D (.inr rfl)]; exact h.2.1, h.2.2⟩
theorem Gc.more_ext (G : Gc) (D : Addr) (o : HO) (n : ¬ G.R D) : GExt G (G.more D o) := ⟨fun _ r => .inl r, fun _ h => h.1, fun H H' h h' q => ⟨h', by rw [q D (.inr rfl) n]; exact h.2.1, h.2.2⟩⟩
def wipeD (ρ : En) : List Nat → En
  | [] => ρ
  | v :: vs => (wipeD ρ vs).set v none
theorem wipeD_len (ρ : En) : ∀ vs : List Nat, (wipeD ρ vs).length = ρ.length
  | [] => rfl
  | v :: vs => by unfold wipeD; rw [List.length_set, wipeD_len ρ vs]
theorem wipeD_get {ρ : En} {i : Nat} {sv : SV} : ∀ {vs : List Nat}, (wipeD ρ vs)[i]? = some (some sv) → ρ[i]? = some (some sv) ∧ i ∉ vs
  | [], h => ⟨h, by simp⟩
  | v :: vs, h => by
    unfold wipeD at h
    rcases set_get h with ⟨_, e⟩ | ⟨ne, h⟩
    · cases e
    · obtain ⟨h1, h2⟩ := wipeD_get h
      exact ⟨h1, by simp only [List.mem_cons, not_or]; exact ⟨fun e => ne e.symm, h2⟩⟩
theorem wipe_get {σ : St} {i : Nat} {v : Option V} : ∀ {vs : List Nat}, σ[i]? = some v → i ∉ vs → (wipe σ vs)[i]? = some v
  | [], h, _ => h
  | w :: vs, h, n => by
    unfold wipe
    simp only [List.mem_cons, not_or] at n
    rw [List.getElem?_set_ne (Ne.symm n.1)]
    exact wipe_get h n.2
theorem wipe_set {σ : St} {i : Nat} {v : Option V} : ∀ {vs : List Nat}, i ∈ vs → wipe (σ.set i v) vs = wipe σ vs
  | w :: vs, h => by
    unfold wipe
    by_cases e : i = w
    · subst e
      by_cases h2 : i ∈ vs
      · rw [wipe_set h2]
      · have : wipe (σ.set i v) vs = (wipe σ vs).set i v := by
          clear h
          induction vs with
          | nil => rfl
          | cons u us ih =>
            simp only [List.mem_cons, not_or] at h2
            show (wipe (σ.set i v) us).set u none = ((wipe σ us).set u none).set i v
            rw [ih h2.2, List.set_comm _ _ h2.1]
        rw [this, List.set_set]
    · rcases List.mem_cons.mp h with h | h
      · exact absurd h e
      · rw [wipe_set h]
def relN (a b : List (Str × NameKind)) : List (Str × NameKind) := a.map fun (n, k) => if (k == .free && b.lookup n == some .cell) then (n, .cell) else (n, k)
/-- a comprehension's block of a def -/
def Sta.blk (S : Sta) (scope : Scope) : Sta := { S with names := relN scope.names S.names, fc := fun x => scope.names.lookup x == some .cell }
theorem fam_blk {S : Sta} {X : Cx} (f : Fam S X) {scope : Scope} (hk : scope.kind = .function) (s : Shared) (H : Hp) (C : Addr) (cl : List (Str × Addr)) (fp : List Addr) : Fam (S.blk scope) (X.blk s H scope (compEnvC scope cl C X.env) fp) where
  P := f.P
  w := f.w
  K := f.K
  mg := f.mg
  base := f.base
  N := f.N
  look := by
    show (relS scope X.env.scope).names = relN scope.names S.names
    unfold relS relN
    rw [f.kind, f.look]
    simp
  calm := f.calm
  room := f.room
  po := PassesOwn.never
  fn := fun x h => h
  kind := hk
  ns := f.ns
def DTs (S : Sta) (ifs : List Expr) (w : WT) : Prop := ∀ X, Fam S X → PTs X ifs (tT S.K w)
def wtTrue : WT := fun _ _ Q => Q true
theorem _root_.L2.PTs.imp {X : Cx} {es : List Expr} {t t' : TT} (h : PTs X es t) (i : ∀ σ H Q, t' σ H Q → t σ H Q) : PTs X es t' := ⟨fun pins s σ H Q I q => h.run pins s σ H Q I (i σ H Q q)⟩
theorem dts_nil {S : Sta} : DTs S [] wtTrue := fun X f => pts_nil.imp fun σ H Q ⟨G, F, ρ, Qd, ev, hw, hq⟩ => hq true H F (Same.refl _) ev Fr.refl hw
theorem dts_one {S : Sta} {c : Expr} {t : WT} (h : DT S c t) : DTs S [c] t := fun X f => pts_one (h X f)
/-- the turns over ds, acc made so far -/
def wcL (wg : WG) (wt : WT) (we : W) (vs : List Nat) (G : Gc) (ρ : En) : List D → List D → (List D → Prop) → Prop
  | [], acc, Q => Q acc
  | d :: r, acc, Q => ∀ G', GExt G G' → wg d (wipeD ρ vs) fun ρ2 => wt G' ρ2 fun b => if b = true then we G' ρ2 fun y => acc.length < sizeLine ∧ wcL wg wt we vs G ρ r (acc ++ [y]) Q else wcL wg wt we vs G ρ r acc Q
def wComp (wi : WA) (wg : WG) (wt : WT) (we : W) (vs : List Nat) : WO := fun G ρ Q => wi G ρ fun ds => wcL wg wt we vs G ρ ds [] fun acc => Q (.ow acc)
theorem wipe_at {σ : St} {i : Nat} : ∀ {vs : List Nat}, i ∈ vs → i < σ.length → (wipe σ vs)[i]? = some none
  | w :: vs, h, hl => by
    unfold wipe
    by_cases e : w = i
    · subst e; exact List.getElem?_set_self (by rw [wipe_length]; exact hl)
    · rw [List.getElem?_set_ne e]
      rcases List.mem_cons.mp h with h | h
      · exact absurd h.symm e
      · exact wipe_at h hl
theorem wipe_out2 {σ : St} {i : Nat} : ∀ {vs : List Nat}, i ∉ vs → (wipe σ vs)[i]? = σ[i]?
  | [], _ => rfl
  | w :: vs, n => by
    unfold wipe
    simp only [List.mem_cons, not_or] at n
    rw [List.getElem?_set_ne (Ne.symm n.1)]
    exact wipe_out2 n.2
theorem wipe_wipe (σ : St) (vs : List Nat) : wipe (wipe σ vs) vs = wipe σ vs := by
  apply List.ext_getElem?
  intro i
  by_cases h : i ∈ vs
  · by_cases hl : i < σ.length
    · rw [wipe_at h (by rw [wipe_length]; exact hl), wipe_at h hl]
    · rw [List.getElem?_eq_none (by rw [wipe_length, wipe_length]; omega), List.getElem?_eq_none (by rw [wipe_length]; omega)]
  · rw [wipe_out2 h]
theorem evr_wipe {K : PySem.W.Frag} {G : Gc} {F H : Hp} {σ : St} {ρ : En} (e : EvR K G F H σ ρ) (vs : List Nat) : EvR K G F H (wipe σ vs) (wipeD ρ vs) :=
  ⟨e.sub, e.res, e.wd, fun i sv h => by
    obtain ⟨h1, h2⟩ := wipeD_get h
    obtain ⟨v, q1, q2⟩ := e.slot i sv h1
    exact ⟨v, wipe_get q1 h2, q2⟩, by rw [wipe_length, wipeD_len]; exact e.len⟩
theorem evr_set {K : PySem.W.Frag} {G : Gc} {F H : Hp} {σ : St} {ρ : En} (e : EvR K G F H σ ρ) {i : Nat} {v : V} {d : D} (hi : i < ρ.length) (r : Rp K F v d) : EvR K G F H (σ.set i (some v)) (ρ.set i (some (.fz d))) :=
  ⟨e.sub, e.res, e.wd, fun j sv h => by
    rcases set_get h with ⟨rfl, z⟩ | ⟨ne, h⟩
    · cases z; exact ⟨v, List.getElem?_set_self (by rw [e.len]; exact hi), r⟩
    · obtain ⟨u, h1, h2⟩ := e.slot j sv h
      exact ⟨u, by rw [List.getElem?_set_ne ne]; exact h1, h2⟩, by rw [List.length_set, List.length_set]; exact e.len⟩
/-- .. while the list at D is kept -/
theorem evr_more {K : PySem.W.Frag} {G : Gc} {F H : Hp} {σ : St} {ρ : En} (e : EvR K G F H σ ρ) {D : Addr} {o : HO} (hD : H D = some o) (hm : isMutO o = true) (nF : F D = none) (nS : ∀ (i : Nat) (sv : SV), ρ[i]? = some (some sv) → isOwn sv = true → σ[i]? ≠ some (some (.ref D))) : EvR K (G.more D o) F H σ ρ where
  sub := e.sub
  res := fun a r => by
    rcases r with r | r
    · exact e.res a r
    · rw [r]; exact nF
  wd := ⟨e.wd, hD, hm⟩
  slot := fun i sv h => by
    obtain ⟨v, q1, q2⟩ := e.slot i sv h
    refine ⟨v, q1, ?_⟩
    cases sv with
    | fz d => exact q2
    | ow xs =>
      obtain ⟨a, vs, rfl, z1, z2, z3⟩ := q2
      exact ⟨a, vs, rfl, z1, z2, fun r => r.elim z3 fun e => nS i _ h rfl (by rw [q1, e])⟩
    | od t kds =>
      obtain ⟨a, vs, rfl, z1, z0, z2, z3⟩ := q2
      exact ⟨a, vs, rfl, z1, z0, z2, fun r => r.elim z3 fun e => nS i _ h rfl (by rw [q1, e])⟩
  len := e.len
theorem evr_less {K : PySem.W.Frag} {G : Gc} {F H : Hp} {σ : St} {ρ : En} {D : Addr} {o : HO} (e : EvR K (G.more D o) F H σ ρ) : EvR K G F H σ ρ where
  sub := e.sub
  res := fun a r => e.res a (.inl r)
  wd := e.wd.1
  slot := fun i sv h => by
    obtain ⟨v, q1, q2⟩ := e.slot i sv h
    refine ⟨v, q1, ?_⟩
    cases sv with
    | fz d => exact q2
    | ow xs =>
      obtain ⟨a, vs, rfl, z1, z2, z3⟩ := q2
      exact ⟨a, vs, rfl, z1, z2, fun r => z3 (.inl r)⟩
    | od t kds =>
      obtain ⟨a, vs, rfl, z1, z0, z2, z3⟩ := q2
      exact ⟨a, vs, rfl, z1, z0, z2, fun r => z3 (.inl r)⟩
  len := e.len
theorem lc_imp {K : PySem.W.Frag} {wi : WA} {g : TG} {wg : WG} {wt : WT} {we : W} {vs is : List Nat} (hg : GOk K is g wg) (hsub : ∀ i ∈ is, i ∈ vs) (σ : St) (H : Hp) (Q : VK) :
    tO K (wComp wi wg wt we vs) σ H Q → tLc (tI K wi) g (tT K wt) (tD K we) vs σ H Q := fun ⟨G, F, ρ, Qd, ev, hw, hq⟩ => by
  refine ⟨G, F, ρ, _, ev, hw, fun J H1 F1 ds s1 e1 f1 it q1 D hD => ?_⟩
  have nR : ¬ G.R D := e1.nr hD
  -- what holds ahead of turn i
  let I : Nat → Hp → Prop := fun i H2 => ∃ F2 acc accd, Same F1 F2 ∧ Same F2 H2 ∧ H2 D = some (.lst acc) ∧ RpL K F2 acc accd ∧ F2 D = none ∧ (∀ a, G.R a → F2 a = none) ∧ G.Wd H2 ∧ Fr G H1 H2 ∧ wcL wg wt we vs G ρ (ds.drop i) accd fun acc => Qd (.ow acc)
  refine ⟨fun i m H2 => m = ds.length - i ∧ i ≤ ds.length ∧ I i H2, ⟨ds.length, by omega, Nat.zero_le _, F1, [], [], Same.refl _, fun b x h => ?_, upd_same, .nil, e1.fnone hD, e1.res, ?_, Fr.upd hD, q1⟩, ?_⟩
  · rw [upd_ne (ne_of_none (e1.sub _ _ h) hD)]; exact e1.sub _ _ h
  · exact G.st _ _ e1.wd fun a r => upd_ne (by rintro rfl; exact nR r)
  rintro i m H2 ⟨rfl, hi, F2, acc, accd, s2, s2', hDl, rl, nF, res, wd, fr, hwl⟩
  have e2 : EvR K G F2 H2 σ ρ := e1.go s2 s2' fr res wd
  by_cases hlt : i < ds.length
  · obtain ⟨hgo, hy⟩ := it.go i H2 F2 s2 s2' hlt
    refine .inr ⟨hgo, I (i + 1), fun H' h => ⟨ds.length - (i + 1), by omega, rfl, hlt, h⟩, fun x H3 y => ?_⟩
    obtain ⟨d, hd, hx⟩ := hy x H3 y
    rw [List.drop_eq_getElem_cons hlt] at hwl
    rw [List.getElem?_eq_getElem hlt] at hd
    cases hd
    -- the state with the item
    obtain ⟨F3, s3, s3', nF3, res3, wd3, fr3, hD3, rx⟩ : ∃ F3, Same F2 F3 ∧ Same F3 H3 ∧ F3 D = none ∧ (∀ a, G.R a → F3 a = none) ∧ G.Wd H3 ∧ Fr G H2 H3 ∧ H3 D = some (.lst acc) ∧ Rp K F3 x ds[i] := by
      rcases hx with ⟨rfl, rx⟩ | ⟨T, o, nT, rfl, rx⟩
      · exact ⟨F2, Same.refl _, s2', nF, res, wd, Fr.refl, hDl, rx⟩
      · have ne : D ≠ T := ne_of_none hDl nT
        have e3 := e2.live (o := o) nT
        exact ⟨upd F2 T o, same_upd (none_sub s2' nT), e3.sub, by rw [upd_ne ne]; exact nF, e3.res, e3.wd, Fr.upd nT, by rw [upd_ne ne]; exact hDl, rx⟩
    have e3 : EvR K G F3 H3 σ ρ := e2.go s3 s3' fr3 res3 wd3
    have nS : ∀ (j : Nat) (sv : SV), ρ[j]? = some (some sv) → isOwn sv = true → σ[j]? ≠ some (some (.ref D)) := fun j sv h ho z => by
      obtain ⟨o, q, _, _⟩ := e1.ownAt h ho z
      rw [hD] at q; cases q
    have e4 := evr_wipe (evr_more e3 hD3 rfl nF3 nS) vs
    have step := hwl (G.more D (.lst acc)) (G.more_ext D _ nR)
    refine hg (fun σ' ρ' => EvR K (G.more D (.lst acc)) F3 H3 σ' ρ' ∧ wipe σ' vs = wipe σ vs) F3 H3 (wipe σ vs) (wipeD ρ vs) x ds[i] _ _ (fun j v d σ' ρ' hj ⟨p1, p2⟩ hl r => ⟨evr_set p1 hl r, by rw [wipe_set (hsub j hj)]; exact p2⟩) s3' ⟨e4, ?_⟩ rx step fun σ' ρ' ⟨p1, p2⟩ q => ?_
    · exact wipe_wipe σ vs
    · refine ⟨p2, G.more D (.lst acc), F3, ρ', _, p1, q, fun b H4 F4 s4 e4 f4 q4 => ?_⟩
      have hD4 : H4 D = some (.lst acc) := e4.wd.2.1
      have nF4 : F4 D = none := e4.res D (.inr rfl)
      have fr4 : Fr G H1 H4 := fun c o hc nr => by
        have ne : c ≠ D := ne_of_none hc hD
        exact f4 c o (fr3 c o (fr c o hc nr) nr) fun r => r.elim nr ne
      cases b with
      | false =>
        rw [if_neg Bool.false_ne_true] at q4
        refine iteF ?_
        exact ⟨F4, acc, accd, s2.trans (s3.trans s4), e4.sub, hD4, rl.mono (s3.trans s4), nF4, fun a r => e4.res a (.inl r), e4.wd.1, fr4, q4⟩
      | true =>
        rw [if_pos rfl] at q4
        refine iteT ?_
        refine ⟨G.more D (.lst acc), F4, ρ', _, e4, q4, fun v H5 F5 d5 s5 e5 f5 r5 ⟨hz, q5⟩ => ?_⟩
        have hD5 : H5 D = some (.lst acc) := e5.wd.2.1
        have nF5 : F5 D = none := e5.res D (.inr rfl)
        refine ⟨acc, hD5, by rw [rl.len]; exact hz, F5, acc ++ [v], accd ++ [d5], s2.trans (s3.trans (s4.trans s5)), fun c o hc => ?_, upd_same, (rl.mono (s3.trans (s4.trans s5))).append (.cons r5 .nil), nF5, fun a r => e5.res a (.inl r), ?_, fun c o hc nr => ?_, q5⟩
        · have ne : c ≠ D := by rintro rfl; rw [nF5] at hc; cases hc
          rw [upd_ne ne]; exact e5.sub _ _ hc
        · exact G.st _ _ e5.wd.1 fun a r => upd_ne (by rintro rfl; exact nR r)
        · have ne : c ≠ D := ne_of_none hc hD
          rw [upd_ne ne]
          exact f5 c o (fr4 c o hc nr) fun r => r.elim nr ne
  · have ei : i = ds.length := by omega
    subst ei
    rw [List.drop_length] at hwl
    exact .inl ⟨it.stop H2 F2 s2 s2', hq _ H2 F2 (.ow accd) (s1.trans s2) e2 (f1.trans fr) ⟨D, acc, rfl, hDl, rl, nR, f1.free nR hD, nF⟩ hwl⟩
section
variable {S : Sta} {elt tg iter : Expr} {ifs : List Expr} {scope : Scope} {own : List (Str × Nat)} {pos : Pos} {wi : WA} {wg : WG} {wt : WT} {we : W} {is : List Nat}
theorem blkOf {X : Cx} (f : Fam S X) (h : blkC S.N ⟨.function, S.names, false, false, []⟩ scope own = true) : BlkOk X.N X.env.scope scope own := by
  have ok := blkOk_by h
  exact ⟨ok.kind, ok.uniq, by rw [f.N]; exact ok.ix, fun y hy e => by rw [f.look]; exact ok.free y hy e, by rw [f.N]; exact ok.own⟩
theorem do_lc (hi : DI S tg iter wi) (nd : S.N.Nodup) (hk : blkC S.N ⟨.function, S.names, false, false, []⟩ scope own = true) (hg : DG (S.blk scope) tg is wg) (hsub : ∀ i ∈ is, i ∈ own.map (·.2)) (ht : DTs (S.blk scope) ifs wt) (he : DE (S.blk scope) elt we)
    (hs : ∀ env x, foldedSetIterable iter env x = pure x := by intro _ _; rfl) : DO S (.ListComp elt [⟨tg, iter, ifs, 0⟩] scope pos) (wComp wi wg wt we (own.map (·.2))) := fun X f => by
  obtain ⟨g, pg, ok⟩ := hg
  have bk := blkOf f hk
  exact (pe_lc f.calm (by rw [f.N]; exact nd) (hi X f) bk (fun s H C cl fp => pg _ (fam_blk f bk.kind s H C cl fp)) (fun s H C cl fp => ht _ (fam_blk f bk.kind s H C cl fp)) (fun s H C cl fp => he _ (fam_blk f bk.kind s H C cl fp)) (hs _)).imp fun σ H Q h => lc_imp ok hsub σ H Q h
theorem ds_setLc {i : Nat} {y : Str} {py spos : Pos} (hi : DI S tg iter wi) (nd : S.N.Nodup) (hk : blkC S.N ⟨.function, S.names, false, false, []⟩ scope own = true) (hg : DG (S.blk scope) tg is wg) (hsub : ∀ i ∈ is, i ∈ own.map (·.2)) (ht : DTs (S.blk scope) ifs wt) (he : DE (S.blk scope) elt we)
    (hN : (S.N[i]? == some y) = true := by kernel_rfl) (hl : (S.names.lookup y == some .local) = true := by kernel_rfl) (hln : (py.line == pos.line) = true := by kernel_rfl) (ha : (scope.names.any fun (n, k) => n == y && (k == .local || k == .cell)) = false := by kernel_rfl)
    (hs : ∀ env x, foldedSetIterable iter env x = pure x := by intro _ _; rfl) : DS S (.Assign [.Name y py] (.ListComp elt [⟨tg, iter, ifs, 0⟩] scope pos) spos) (wSet i (wComp wi wg wt we (own.map (·.2)))) := fun X f => by
  obtain ⟨g, pg, ok⟩ := hg
  have bk := blkOf f hk
  have hy : X.env.scope.names.lookup y = some .local := by rw [f.look]; exact beq_iff_eq.mp hl
  refine (ps_setLc (i := i) f.calm (by rw [f.N]; exact nd) (by rw [f.N]; exact beq_iff_eq.mp hN) hy (sw_true f.kind hy hln ha) (hi X f) bk (fun s H C cl fp => pg _ (fam_blk f bk.kind s H C cl fp)) (fun s H C cl fp => ht _ (fam_blk f bk.kind s H C cl fp)) (fun s H C cl fp => he _ (fam_blk f bk.kind s H C cl fp)) (hs _)).imp fun D σ H ⟨G, H0, F0, F, ρ, E, ev, ⟨hi, hw⟩, gg⟩ => ?_
  refine lc_imp ok hsub σ H _ ⟨G, F, ρ, _, ev.r, hw, fun v H' F' sv s e' fr r q => ?_⟩
  obtain ⟨F2, ev2, s2⟩ := ev.put s e' fr hi r
  exact gg.nx _ H' F2 _ ev2 s2 q
end
end DL
set_option maxHeartbeats 4000000
namespace DL
open PySem PySem.Spec PyProof.Rows L2

/-! ### values that are handed on for good -/
abbrev WV := Gc → En → (D → En → Prop) → Prop
def tG (K : PySem.W.Frag) (w : WV) : TE := fun σ H Q => ∃ G H0 F0 F ρ Qd, Ev K G H0 F0 F H σ ρ ∧ w G ρ Qd ∧ ∀ v H' F' d ρ', Ev K G H0 F0 F' H' σ ρ' → Same F F' → Rp K F' v d → Qd d ρ' → Q v H'
def DV (S : Sta) (e : Expr) (w : WV) : Prop := ∀ X, Fam S X → PE X e (tG S.K w)
def wvO (wo : WO) : WV := fun G ρ Q => wo G ρ fun sv => match sv with
  | .fz d => Q d (if imm d = true then ρ else frzAll ρ)
  | .ow xs => Q (.lst xs) (if immL xs = true then ρ else frzAll ρ)
  | .od t kds => Q (.dic t kds) (if immL (kds.map (·.2)) = true then ρ else frzAll ρ)
def wvVar (i : Nat) : WV := fun _ ρ Q => ∃ sv, ρ[i]? = some (some sv) ∧ match sv with
  | .fz d => Q d ρ
  | .ow xs => Q (.lst xs) (ρ.set i (some (.fz (.lst xs))))
  | .od t kds => Q (.dic t kds) (ρ.set i (some (.fz (.dic t kds))))
section
variable {K : PySem.W.Frag} {G : Gc} {H0 F0 F H : Hp} {σ : St} {ρ : En}
/-- an object that is no slot's own is kept for good -/
theorem Ev.see (e : Ev K G H0 F0 F H σ ρ) {a : Addr} {o : HO} (h : H a = some o) (n : ¬ G.R a) (ns : ∀ (j : Nat) (sw : SV), ρ[j]? = some (some sw) → isOwn sw = true → σ[j]? ≠ some (some (.ref a))) : Ev K G H0 F0 (upd F a o) H σ ρ ∧ Same F (upd F a o) := by
  obtain ⟨e1, s⟩ := e.r.see h n
  exact ⟨⟨e1, e.f0.trans s, e.fr, fun i sv b q ho hb => by
    obtain ⟨q1, q2⟩ := e.own i sv b q ho hb
    have ne : b ≠ a := by rintro rfl; exact ns i sv q ho hb
    exact ⟨by rw [upd_ne ne]; exact q1, q2⟩, e.apart⟩, s⟩
theorem Ev.ne (e : Ev K G H0 F0 F H σ ρ) {a : Addr} (h : H a = none) : ∀ (j : Nat) (sw : SV), ρ[j]? = some (some sw) → isOwn sw = true → σ[j]? ≠ some (some (.ref a)) := fun j sw q ho z => by
  obtain ⟨o, q1, _, _⟩ := e.r.ownAt q ho z
  rw [h] at q1; cases q1
/-- a slot's own object is kept for good -/
theorem Ev.frzS (e : Ev K G H0 F0 F H σ ρ) {i : Nat} {sw : SV} {a : Addr} {o : HO} (q : ρ[i]? = some (some sw)) (ow : isOwn sw = true) (ha : σ[i]? = some (some (.ref a))) (h : H a = some o) (r : Rp K (upd F a o) (.ref a) (asD sw)) (n : ¬ G.R a) :
    Ev K G H0 F0 (upd F a o) H σ (ρ.set i (some (.fz (asD sw)))) ∧ Same F (upd F a o) := by
  obtain ⟨e1, s⟩ := e.r.see h n
  have hi : i < ρ.length := (List.getElem?_eq_some_iff.mp q).1
  have hs : σ.set i (some (.ref a)) = σ := by
    apply List.ext_getElem?
    intro j
    by_cases hj : i = j
    · subst hj; rw [List.getElem?_set_self (by rw [e.len]; exact hi), ha]
    · rw [List.getElem?_set_ne hj]
  refine ⟨⟨⟨e1.sub, e1.res, e1.wd, fun j sv z => ?_, by rw [List.length_set]; exact e1.len⟩, e.f0.trans s, e.fr, fun j sv b z ho hb => ?_, fun j k sv sw b ne z1 o1 z2 o2 b1 b2 => ?_⟩, s⟩
  · rcases set_get z with ⟨rfl, zz⟩ | ⟨ne, z⟩
    · cases zz; exact ⟨_, ha, r⟩
    · exact e1.slot j sv z
  · rcases set_get z with ⟨rfl, zz⟩ | ⟨ne, z⟩
    · cases zz; cases ho
    · obtain ⟨q1, q2⟩ := e.own j sv b z ho hb
      have nb : b ≠ a := by rintro rfl; exact e.apart i j _ sv _ ne q ow z ho ha hb
      exact ⟨by rw [upd_ne nb]; exact q1, q2⟩
  · rcases set_get z1 with ⟨rfl, zz⟩ | ⟨n1, z1⟩
    · cases zz; cases o1
    · rcases set_get z2 with ⟨rfl, zz⟩ | ⟨n2, z2⟩
      · cases zz; cases o2
      · exact e.apart j k sv sw b ne z1 o1 z2 o2 b1 b2
/-- a slot's own list is kept for good -/
theorem Ev.frz (e : Ev K G H0 F0 F H σ ρ) {i : Nat} {xs : List D} {a : Addr} {vs : List V} (q : ρ[i]? = some (some (.ow xs))) (ha : σ[i]? = some (some (.ref a))) (h : H a = some (.lst vs)) (r : RpL K F vs xs) (n : ¬ G.R a) :
    Ev K G H0 F0 (upd F a (.lst vs)) H σ (ρ.set i (some (.fz (.lst xs)))) ∧ Same F (upd F a (.lst vs)) :=
  e.frzS (sw := .ow xs) q rfl ha h (.lst upd_same (r.mono (e.r.see h n).2)) n
theorem frzAll_own {ρ : En} {j : Nat} {sw : SV} (h : (frzAll ρ)[j]? = some (some sw)) : isOwn sw = false := by
  rcases frzAll_get h with ⟨xs, rfl, _, _⟩ | ⟨h, _⟩
  · rfl
  · exact h
end
section
variable {S : Sta} {e a b : Expr} {es : List Expr} {pos p : Pos} {wo : WO} {w : W} {wv wv2 : WV}
theorem dv_do (h : DO S e wo) : DV S e (wvO wo) := fun X f => (h X f).imp fun σ H Q ⟨G, H0, F0, F, ρ, Qd, ev, hw, hq⟩ => ⟨G, F, ρ, _, ev.r, hw, fun v H' F' sv s e' fr r q => by
  cases sv with
  | fz d =>
    dsimp only at q
    by_cases hi : imm d = true
    · rw [if_pos hi] at q
      exact hq v H' _ d ρ (ev.goT s e' fr) tupOf_same (Rp.tupOf s r hi) q
    · rw [if_neg hi] at q
      exact hq v H' _ d _ (ev.goA s e' fr) (s.trans ownOf_same) (r.mono ownOf_same) q
  | ow xs =>
    obtain ⟨a, vs, rfl, h1, h2, h3, h4, h5⟩ := r
    dsimp only at q
    by_cases hi : immL xs = true
    · rw [if_pos hi] at q
      obtain ⟨ev2, s2⟩ := (ev.goT s e' fr).see h1 h3 (ev.ne h4)
      exact hq _ H' _ _ ρ ev2 (tupOf_same.trans s2) (.lst upd_same ((RpL.tupOf s h2 hi).mono s2)) q
    · rw [if_neg hi] at q
      obtain ⟨ev2, s2⟩ := (ev.goA s e' fr).see h1 h3 fun j sw z ho => by rw [frzAll_own z] at ho; cases ho
      exact hq _ H' _ _ _ ev2 ((s.trans ownOf_same).trans s2) (.lst upd_same ((h2.mono ownOf_same).mono s2)) q
  | od t kds =>
    obtain ⟨a, vs, rfl, h1, h0, h2, h3, h4, h5⟩ := r
    dsimp only at q
    by_cases hi : immL (kds.map (·.2)) = true
    · rw [if_pos hi] at q
      obtain ⟨ev2, s2⟩ := (ev.goT s e' fr).see h1 h3 (ev.ne h4)
      exact hq _ H' _ _ ρ ev2 (tupOf_same.trans s2) (.dic upd_same (RpK.join h0 ((RpL.tupOf s h2 hi).mono s2))) q
    · rw [if_neg hi] at q
      obtain ⟨ev2, s2⟩ := (ev.goA s e' fr).see h1 h3 fun j sw z ho => by rw [frzAll_own z] at ho; cases ho
      exact hq _ H' _ _ _ ev2 ((s.trans ownOf_same).trans s2) (.dic upd_same (RpK.join h0 ((h2.mono ownOf_same).mono s2))) q⟩
theorem visOf {X : Cx} (f : Fam S X) {x : Str} (hv : (S.names.lookup x == some .local || S.names.lookup x == some .cell || S.names.lookup x == some .free) = true) : Vis X.env.scope x := by
  unfold Vis
  rw [f.look]
  rcases Bool.or_eq_true_iff.mp hv with h | h
  · rcases Bool.or_eq_true_iff.mp h with h | h
    · exact .inl (beq_iff_eq.mp h)
    · exact .inr (.inl (beq_iff_eq.mp h))
  · exact .inr (.inr (beq_iff_eq.mp h))
theorem pvN {X : Cx} (f : Fam S X) {i : Nat} {x : Str} (hN : (S.N[i]? == some x) = true) (hv : (S.names.lookup x == some .local || S.names.lookup x == some .cell || S.names.lookup x == some .free) = true)
    (hd : (x == ("__debug__" : Str)) = false) (hcd : (x == ("__classdict__" : Str)) = false) : PE X (.Name x p) (tVar i) := pe_var (by rw [f.N]; exact beq_iff_eq.mp hN) (visOf f hv) hd hcd
theorem dv_var {i : Nat} {x : Str} (hN : (S.N[i]? == some x) = true := by kernel_rfl) (hv : (S.names.lookup x == some .local || S.names.lookup x == some .cell || S.names.lookup x == some .free) = true := by kernel_rfl)
    (hd : (x == ("__debug__" : Str)) = false := by kernel_rfl) (hcd : (x == ("__classdict__" : Str)) = false := by kernel_rfl) : DV S (.Name x p) (wvVar i) := fun X f => (pvN f hN hv hd hcd).imp fun σ H Q ⟨G, H0, F0, F, ρ, Qd, ev, ⟨sv, q, hw⟩, hq⟩ => by
  obtain ⟨v, h1, h2⟩ := ev.r.slot i sv q
  refine ⟨v, h1, ?_⟩
  cases sv with
  | fz d => exact hq v H F d ρ ev (Same.refl _) h2 hw
  | ow xs =>
    obtain ⟨a, vs, rfl, z1, z2, z3⟩ := h2
    obtain ⟨ev2, s2⟩ := ev.frz q h1 z1 z2 z3
    exact hq _ H _ _ _ ev2 s2 (.lst upd_same (z2.mono s2)) hw
  | od t kds =>
    obtain ⟨a, vs, rfl, z1, z0, z2, z3⟩ := h2
    obtain ⟨ev2, s2⟩ := ev.frzS (sw := .od t kds) q rfl h1 z1 (.dic upd_same (RpK.join z0 (z2.mono (ev.r.see z1 z3).2))) z3
    exact hq _ H _ _ _ ev2 s2 (.dic upd_same (RpK.join z0 (z2.mono s2))) hw
end

/-! ### stores into what is ours -/
section
variable {K : PySem.W.Frag} {G : Gc} {H0 F0 F H : Hp} {σ : St} {ρ : En}
/-- a slot's own list is changed -/
theorem Ev.chg (e : Ev K G H0 F0 F H σ ρ) {i : Nat} {xs ys : List D} {a : Addr} {us : List V} (q : ρ[i]? = some (some (.ow xs))) (ha : σ[i]? = some (some (.ref a))) (r : RpL K F us ys) (n : ¬ G.R a) :
    Ev K G H0 F0 F (upd H a (.lst us)) σ (ρ.set i (some (.ow ys))) := by
  have hi : i < ρ.length := (List.getElem?_eq_some_iff.mp q).1
  obtain ⟨nF, n0⟩ := e.own i _ a q rfl ha
  have fr : ∀ b o, H b = some o → b ≠ a → (upd H a (.lst us)) b = some o := fun b o h ne => by rw [upd_ne ne]; exact h
  refine ⟨⟨fun b o h => fr b o (e.r.sub _ _ h) (by rintro rfl; rw [nF] at h; cases h), e.r.res, G.st _ _ e.r.wd fun b rb => upd_ne (by rintro rfl; exact n rb), fun j sv z => ?_, by rw [List.length_set]; exact e.len⟩, e.f0, fun b o h nb => fr b o (e.fr b o h nb) (by rintro rfl; rw [n0] at h; cases h), fun j sv b z ho hb => ?_, fun j k sv sw b ne z1 o1 z2 o2 b1 b2 => ?_⟩
  · rcases set_get z with ⟨rfl, zz⟩ | ⟨ne, z⟩
    · cases zz; exact ⟨_, ha, a, us, rfl, upd_same, r, n⟩
    · obtain ⟨v, h1, h2⟩ := e.r.slot j sv z
      refine ⟨v, h1, ?_⟩
      cases sv with
      | fz d => exact h2
      | ow zs =>
        obtain ⟨b, vs, rfl, z1, z2, z3⟩ := h2
        exact ⟨b, vs, rfl, fr b _ z1 (by rintro rfl; exact e.apart i j _ _ _ ne q rfl z rfl ha h1), z2, z3⟩
      | od t kds =>
        obtain ⟨b, vs, rfl, z1, z0, z2, z3⟩ := h2
        exact ⟨b, vs, rfl, fr b _ z1 (by rintro rfl; exact e.apart i j _ _ _ ne q rfl z rfl ha h1), z0, z2, z3⟩
  · rcases set_get z with ⟨rfl, zz⟩ | ⟨ne, z⟩
    · cases zz
      rw [ha] at hb
      cases hb
      exact ⟨nF, n0⟩
    · exact e.own j sv b z ho hb
  · have back : ∀ {j sv}, (ρ.set i (some (.ow ys)))[j]? = some (some sv) → isOwn sv = true → ∃ sv', ρ[j]? = some (some sv') ∧ isOwn sv' = true := fun {j sv} z ho => by
      rcases set_get z with ⟨rfl, z⟩ | ⟨ne, z⟩
      · exact ⟨_, q, rfl⟩
      · exact ⟨_, z, ho⟩
    obtain ⟨sv', z1', o1'⟩ := back z1 o1
    obtain ⟨sw', z2', o2'⟩ := back z2 o2
    exact e.apart j k sv' sw' b ne z1' o1' z2' o2' b1 b2
end
def wApp (i : Nat) (wv : WV) : WS := fun G E ρ => (∃ xs, ρ[i]? = some (some (.ow xs))) ∧ wv G ρ fun d ρ' => ∃ xs, ρ'[i]? = some (some (.ow xs)) ∧ xs.length < sizeLine ∧ E.nx (ρ'.set i (some (.ow (xs ++ [d]))))
def wExt (i : Nat) (wv : WV) : WS := fun G E ρ => (∃ xs, ρ[i]? = some (some (.ow xs))) ∧ wv G ρ fun d ρ' => ∃ xs ys, ρ'[i]? = some (some (.ow xs)) ∧ d = .lst ys ∧ xs.length + ys.length ≤ sizeLine ∧ E.nx (ρ'.set i (some (.ow (xs ++ ys))))
def wStoreIx (i : Nat) (wk : W) (wv : WV) : WS := fun G E ρ => wv G ρ fun d ρ' => (∃ xs, ρ'[i]? = some (some (.ow xs))) ∧ wk G ρ' fun kd => ∃ k j xs, kd = .int k ∧ ρ'[i]? = some (some (.ow xs)) ∧ ixN xs.length k = some j ∧ E.nx (ρ'.set i (some (.ow (xs.set j d))))
def wRemove (i : Nat) (wk : W) : WS := fun G E ρ => (∃ xs, ρ[i]? = some (some (.ow xs))) ∧ wk G ρ fun kd => ∃ (k : Int) (ns : List Int), kd = .int k ∧ ρ[i]? = some (some (.ow (ns.map D.int))) ∧ k ∈ ns ∧ E.nx (ρ.set i (some (.ow ((ns.erase k).map D.int))))
def wvPopAt (i : Nat) (wk : W) : WV := fun G ρ Q => (∃ xs, ρ[i]? = some (some (.ow xs))) ∧ wk G ρ fun kd => ∃ k j xs d, kd = .int k ∧ ρ[i]? = some (some (.ow xs)) ∧ -(2 ^ 63) ≤ k ∧ k < 2 ^ 63 ∧ seqIndex? k xs.length = some j ∧ xs[j]? = some d ∧ Q d (ρ.set i (some (.ow (xs.eraseIdx j))))
def wvPop (i : Nat) : WV := fun G ρ Q => ∃ xs d, ρ[i]? = some (some (.ow xs)) ∧ xs[xs.length - 1]? = some d ∧ Q d (ρ.set i (some (.ow xs.dropLast)))
def wSetG (i : Nat) (wv : WV) : WS := fun G E ρ => wv G ρ fun d ρ' => i < ρ'.length ∧ E.nx (ρ'.set i (some (.fz d)))
/-- any target -/
def wSetT (wg : WG) (wv : WV) : WS := fun G E ρ => wv G ρ fun d ρ' => wg d ρ' E.nx
section
variable {S : Sta} {e a b k : Expr} {es : List Expr} {pos spos p apos cpos : Pos} {wo : WO} {w wk : W} {wv wv2 : WV} {i : Nat} {x : Str}
theorem ownList {K : PySem.W.Frag} {G : Gc} {H0 F0 F H : Hp} {σ : St} {ρ : En} (ev : Ev K G H0 F0 F H σ ρ) {xs : List D} (q : ρ[i]? = some (some (.ow xs))) : ∃ a vs, σ[i]? = some (some (.ref a)) ∧ H a = some (.lst vs) ∧ RpL K F vs xs ∧ ¬ G.R a := by
  obtain ⟨v, h1, a, vs, rfl, h2, h3, h4⟩ := ev.r.slot i _ q
  exact ⟨a, vs, h1, h2, h3, h4⟩
theorem ds_app (hv : DV S e wv) (hN : (S.N[i]? == some x) = true := by kernel_rfl) (hx : (S.names.lookup x == some .local || S.names.lookup x == some .cell || S.names.lookup x == some .free) = true := by kernel_rfl) (hd : (x == ("__debug__" : Str)) = false := by kernel_rfl) (hcd : (x == ("__classdict__" : Str)) = false := by kernel_rfl)
    (hbase : ∀ env, attributeBase (.Name x p) "append" env (eval (.Name x p) env) = eval (.Name x p) env := by intro _; rfl)
    (hfew : ∀ env, ((backTo cpos (starEach [e] env)).all (fun x => !x.1) && (backToKw cpos (keywordEach [] env)).all (fun x => x.1.isSome) && decide ([e].length + ([] : List Keyword).length + (if ([] : List Keyword).isEmpty then 0 else 1) < 30)) = true := by intro _; rfl)
    (hline : (apos.endLine == cpos.line) = true := by kernel_rfl) (hs : ∀ env, starEach [e] env = (false, eval e env) :: starEach [] env := by intro _; rfl)
    (hsw : ∀ env, swapsWith (.Call (.Attribute (.Name x p) "append" apos) [e] [] cpos) none spos.line env = pure false := by intro _; rfl) :
    DS S (.Expr (.Call (.Attribute (.Name x p) "append" apos) [e] [] cpos) spos) (wApp i wv) := fun X f => by
  have pa := pa_cons (hv X f) pa_nil (hs _)
  refine (ps_expr (pe_bm PySem.F.plainAttrs_list PySem.F.slot_list_append PySem.F.type_list_append mt_append (pvN f hN hx hd hcd) pa (hbase _) (hfew _) hline (hs _) rfl) (hsw _)).imp fun D σ H ⟨G, H0, F0, F, ρ, E, ev, ⟨⟨xs0, q0⟩, hw⟩, g⟩ => ?_
  obtain ⟨a, vs0, h1, h2, _, _⟩ := ownList ev q0
  refine ⟨.ref a, h1, .inl ⟨rfl, _, .inl (.inl h2)⟩, G, H0, F0, F, ρ, _, ev, hw, fun v H' F' d ρ' ev' s r ⟨xs, q, hz, z⟩ => ?_⟩
  obtain ⟨a', vs, h1', h3, h4, h5⟩ := ownList ev' q
  rw [h1] at h1'
  cases h1'
  exact ⟨a, vs, v, rfl, rfl, h3, by rw [h4.len]; exact hz, g.nx _ _ F' _ (ev'.chg q h1 (h4.append (.cons r .nil)) h5) s z⟩
theorem ds_ext (hv : DV S e wv) (hN : (S.N[i]? == some x) = true := by kernel_rfl) (hx : (S.names.lookup x == some .local || S.names.lookup x == some .cell || S.names.lookup x == some .free) = true := by kernel_rfl) (hd : (x == ("__debug__" : Str)) = false := by kernel_rfl) (hcd : (x == ("__classdict__" : Str)) = false := by kernel_rfl)
    (hbase : ∀ env, attributeBase (.Name x p) "extend" env (eval (.Name x p) env) = eval (.Name x p) env := by intro _; rfl)
    (hfew : ∀ env, ((backTo cpos (starEach [e] env)).all (fun x => !x.1) && (backToKw cpos (keywordEach [] env)).all (fun x => x.1.isSome) && decide ([e].length + ([] : List Keyword).length + (if ([] : List Keyword).isEmpty then 0 else 1) < 30)) = true := by intro _; rfl)
    (hline : (apos.endLine == cpos.line) = true := by kernel_rfl) (hs : ∀ env, starEach [e] env = (false, eval e env) :: starEach [] env := by intro _; rfl)
    (hsw : ∀ env, swapsWith (.Call (.Attribute (.Name x p) "extend" apos) [e] [] cpos) none spos.line env = pure false := by intro _; rfl) :
    DS S (.Expr (.Call (.Attribute (.Name x p) "extend" apos) [e] [] cpos) spos) (wExt i wv) := fun X f => by
  have pa := pa_cons (hv X f) pa_nil (hs _)
  refine (ps_expr (pe_bm PySem.F.plainAttrs_list PySem.F.slot_list_extend PySem.F.type_list_extend mt_extend (pvN f hN hx hd hcd) pa (hbase _) (hfew _) hline (hs _) rfl) (hsw _)).imp fun D σ H ⟨G, H0, F0, F, ρ, E, ev, ⟨⟨xs0, q0⟩, hw⟩, g⟩ => ?_
  obtain ⟨a, vs0, h1, h2, _, _⟩ := ownList ev q0
  refine ⟨.ref a, h1, .inl ⟨rfl, _, .inl (.inl h2)⟩, G, H0, F0, F, ρ, _, ev, hw, fun v H' F' d ρ' ev' s r ⟨xs, ys, q, ed, hz, z⟩ => ?_⟩
  obtain ⟨a', vs, h1', h3, h4, h5⟩ := ownList ev' q
  rw [h1] at h1'
  cases h1'
  subst ed
  cases r with
  | lst hb rb => exact ⟨a, _, vs, _, rfl, rfl, h3, ev'.r.sub _ _ hb, by rw [h4.len, rb.len]; exact hz, g.nx _ _ F' _ (ev'.chg q h1 (h4.append rb) h5) s z⟩
theorem dv_popAt (hk : DE S k wk) (hN : (S.N[i]? == some x) = true := by kernel_rfl) (hx : (S.names.lookup x == some .local || S.names.lookup x == some .cell || S.names.lookup x == some .free) = true := by kernel_rfl) (hd : (x == ("__debug__" : Str)) = false := by kernel_rfl) (hcd : (x == ("__classdict__" : Str)) = false := by kernel_rfl)
    (hbase : ∀ env, attributeBase (.Name x p) "pop" env (eval (.Name x p) env) = eval (.Name x p) env := by intro _; rfl)
    (hfew : ∀ env, ((backTo cpos (starEach [k] env)).all (fun x => !x.1) && (backToKw cpos (keywordEach [] env)).all (fun x => x.1.isSome) && decide ([k].length + ([] : List Keyword).length + (if ([] : List Keyword).isEmpty then 0 else 1) < 30)) = true := by intro _; rfl)
    (hline : (apos.endLine == cpos.line) = true := by kernel_rfl) (hs : ∀ env, starEach [k] env = (false, eval k env) :: starEach [] env := by intro _; rfl) :
    DV S (.Call (.Attribute (.Name x p) "pop" apos) [k] [] cpos) (wvPopAt i wk) := fun X f => by
  have pa := pa_cons (hk X f) pa_nil (hs _)
  refine (pe_bm PySem.F.plainAttrs_list PySem.F.slot_list_pop PySem.F.type_list_pop mt_popAt (pvN f hN hx hd hcd) pa (hbase _) (hfew _) hline (hs _) rfl).imp fun σ H Q ⟨G, H0, F0, F, ρ, Qd, ev, ⟨⟨xs0, q0⟩, hw⟩, hq⟩ => ?_
  obtain ⟨a, vs0, h1, h2, _, _⟩ := ownList ev q0
  refine ⟨.ref a, h1, .inl ⟨rfl, _, .inl (.inl h2)⟩, G, F, ρ, _, ev.r, hw, fun v H' F' kd s e' fr r ⟨kk, j, xs, d, ek, q, b1, b2, hj, hd, z⟩ => ?_⟩
  have ev' := ev.go s e' fr
  obtain ⟨a', vs, h1', h3, h4, h5⟩ := ownList ev' q
  rw [h1] at h1'
  cases h1'
  subst ek
  cases r
  obtain ⟨y, hy, ry⟩ := h4.get hd
  exact ⟨a, vs, kk, j, y, rfl, rfl, h3, b1, b2, by rw [h4.len]; exact hj, hy, hq _ _ F d _ (ev'.chg q h1 (h4.eraseIdx j) h5) (Same.refl _) ry z⟩
theorem dv_pop (hN : (S.N[i]? == some x) = true := by kernel_rfl) (hx : (S.names.lookup x == some .local || S.names.lookup x == some .cell || S.names.lookup x == some .free) = true := by kernel_rfl) (hd : (x == ("__debug__" : Str)) = false := by kernel_rfl) (hcd : (x == ("__classdict__" : Str)) = false := by kernel_rfl)
    (hbase : ∀ env, attributeBase (.Name x p) "pop" env (eval (.Name x p) env) = eval (.Name x p) env := by intro _; rfl) (hline : (apos.endLine == cpos.line) = true := by kernel_rfl) :
    DV S (.Call (.Attribute (.Name x p) "pop" apos) [] [] cpos) (wvPop i) := fun X f => by
  refine (pe_bm0 PySem.F.plainAttrs_list PySem.F.slot_list_pop PySem.F.type_list_pop mt_pop (pvN f hN hx hd hcd) (hbase _) hline).imp fun σ H Q ⟨G, H0, F0, F, ρ, Qd, ev, ⟨xs, d, q, hd, z⟩, hq⟩ => ?_
  obtain ⟨a, vs, h1, h2, h4, h5⟩ := ownList ev q
  obtain ⟨y, hy, ry⟩ := h4.get hd
  exact ⟨.ref a, h1, .inl ⟨rfl, _, .inl (.inl h2)⟩, a, vs, y, rfl, rfl, h2, by rw [h4.len]; exact hy, hq _ _ F d _ (ev.chg q h1 h4.dropLast h5) (Same.refl _) ry z⟩
theorem ds_storeIx {tpos : Pos} (hv : DV S e wv) (hk : DE S k wk) (hN : (S.N[i]? == some x) = true := by kernel_rfl) (hx : (S.names.lookup x == some .local || S.names.lookup x == some .cell || S.names.lookup x == some .free) = true := by kernel_rfl) (hd : (x == ("__debug__" : Str)) = false := by kernel_rfl) (hcd : (x == ("__classdict__" : Str)) = false := by kernel_rfl)
    (ha : ∀ env v, assign (.Subscript (.Name x p) k tpos) env v = (do
      let ov ← holding [v] (eval (.Name x p) env)
      let iv ← holding [v, ov] (eval k env)
      standAt tpos
      holding [v, ov, iv] (setItem ov iv v)
      release [v, ov, iv] []) := by intro _ _; rfl)
    (hs : ∀ env, swapsWithSole [.Subscript (.Name x p) k tpos] e pos.line env = pure false := by intro _; rfl) (hw : ∀ env, swappedStores [.Subscript (.Name x p) k tpos] e env = pure none := by intro _; rfl) (h1 : ∀ env, (assignEach [.Subscript (.Name x p) k tpos] env).map (·.2) = [assign (.Subscript (.Name x p) k tpos) env] := by intro _; rfl) :
    DS S (.Assign [.Subscript (.Name x p) k tpos] e pos) (wStoreIx i wk wv) := fun X f => by
  refine (ps_asg (hv X f) (pg_sub (pvN f hN hx hd hcd) (hk X f) set_list (ha _)) (hs _) (hw _) (h1 _)).imp fun D σ H ⟨G, H0, F0, F, ρ, E, ev, hw, g⟩ => ?_
  refine ⟨G, H0, F0, F, ρ, _, ev, hw, fun v H1 F1 d ρ1 ev1 s1 r1 ⟨⟨xs0, q0⟩, hw2⟩ => ?_⟩
  obtain ⟨a, vs0, hu, h2, _, _⟩ := ownList ev1 q0
  refine ⟨.ref a, hu, G, F1, ρ1, _, ev1.r, hw2, fun kv H2 F2 kd s2 e2 fr2 rk ⟨kk, j, xs, ek, q, hj, z⟩ => ?_⟩
  have ev2 := ev1.go s2 e2 fr2
  obtain ⟨a', vs, h1', h3, h4, h5⟩ := ownList ev2 q
  rw [hu] at h1'
  cases h1'
  subst ek
  cases rk
  exact ⟨a, vs, kk, j, rfl, rfl, h3, by rw [h4.len]; exact hj, g.nx _ _ F1 _ (ev2.chg q hu (h4.set r1 j) h5) s1 z⟩
end
end DL
set_option maxHeartbeats 4000000
namespace DL
open PySem PySem.Spec PyProof.Rows L2

/-! ### stores of names, once more -/
section
variable {S : Sta} {e a b c : Expr} {es : List Expr} {pos p : Pos} {wo wo1 wo2 wo3 : WO} {wv : WV} {i j l : Nat} {x y z : Str}
theorem ds_setG (hv : DV S e wv) (nd : S.N.Nodup) (hN : (S.N[i]? == some x) = true := by kernel_rfl) (hl : (S.names.lookup x == some .local || (S.names.lookup x == some .cell && S.fc x)) = true := by kernel_rfl)
    (hs : ∀ env, swapsWith e (some (.Name x p)) pos.line env = pure false := by intro _; rfl) : DS S (.Assign [.Name x p] e pos) (wSetG i wv) := fun X f => by
  obtain ⟨h1, h2⟩ := locOf f hl
  refine (ps_set (i := i) (by rw [f.N]; exact nd) (by rw [f.N]; exact beq_iff_eq.mp hN) h1 (hv X f) (hs _) h2).imp fun D σ H ⟨G, H0, F0, F, ρ, E, ev, hw, g⟩ => ?_
  exact ⟨G, H0, F0, F, ρ, _, ev, hw, fun v H' F' d ρ' ev' s r ⟨hi, q⟩ => g.nx _ H' F' _ (ev'.set (sv := .fz d) hi r fun h => by cases h) s q⟩
theorem Ev.setP {K : PySem.W.Frag} {G : Gc} {H0 F0 F H : Hp} {is : List Nat} : ∀ i v d σ ρ, i ∈ is → Ev K G H0 F0 F H σ ρ → i < ρ.length → Rp K F v d → Ev K G H0 F0 F H (σ.set i (some v)) (ρ.set i (some (.fz d))) :=
  fun i v d σ ρ _ ev hi r => ev.set (sv := .fz d) hi r fun h => by cases h
theorem ds_asgT {tg : Expr} {is : List Nat} {wg : WG} (hv : DV S e wv) (hg : DG S tg is wg) (hs : ∀ env, swapsWithSole [tg] e pos.line env = pure false := by intro _; rfl) (hw : ∀ env, swappedStores [tg] e env = pure none := by intro _; rfl)
    (h1 : ∀ env, (assignEach [tg] env).map (·.2) = [assign tg env] := by intro _; rfl) : DS S (.Assign [tg] e pos) (wSetT wg wv) := fun X f => by
  obtain ⟨g0, pg, ok⟩ := hg
  refine (ps_asg (hv X f) (pg X f) (hs _) (hw _) (h1 _)).imp fun D σ H ⟨G, H0, F0, F, ρ, E, ev, hw, g⟩ => ?_
  exact ⟨G, H0, F0, F, ρ, _, ev, hw, fun v H' F' d ρ' ev' s r q => ok (fun σ ρ => Ev S.K G H0 F0 F' H' σ ρ) F' H' σ ρ' v d _ _ Ev.setP ev'.r.sub ev' r q fun σ2 ρ2 p2 q2 => g.nx σ2 H' F' ρ2 p2 s q2⟩
/-- two values side by side -/
def put2 (ρ : En) (i : Nat) (sv : SV) (j : Nat) (sw : SV) : En := match immS sv && immS sw with
  | true => (ρ.set i (some sv)).set j (some sw)
  | false => ((frzAll ρ).set i (some sv)).set j (some sw)
theorem rpo_keep {K : PySem.W.Frag} {G : Gc} {F1 F2 H H1 H2 : Hp} {v : V} {sv : SV} (h : RpO K G F1 H H1 v sv) (s : Same F1 F2) (fr : Fr G H1 H2) (nF : isOwn sv = true → ∀ a, v = .ref a → F2 a = none) : RpO K G F2 H H2 v sv := by
  cases sv with
  | fz d => exact Rp.mono s h
  | ow xs =>
    obtain ⟨a, vs, rfl, h1, h2, h3, h4, h5⟩ := h
    exact ⟨a, vs, rfl, fr _ _ h1 h3, h2.mono s, h3, h4, nF rfl a rfl⟩
  | od t kds =>
    obtain ⟨a, vs, rfl, h1, h0, h2, h3, h4, h5⟩ := h
    exact ⟨a, vs, rfl, fr _ _ h1 h3, h0, h2.mono s, h3, h4, nF rfl a rfl⟩
/-- what a value just made pins -/
def pinO (G : Gc) (H : Hp) (v : V) (sv : SV) : Gc := match isOwn sv, v with
  | true, .ref a => match H a with
    | some o => G.more a o
    | none => G
  | _, _ => G
theorem rpo_ref {K : PySem.W.Frag} {G : Gc} {F1 H H1 : Hp} {v : V} {sv : SV} (h : RpO K G F1 H H1 v sv) (ho : isOwn sv = true) : ∃ a o, v = .ref a ∧ H1 a = some o ∧ ¬ G.R a ∧ H a = none ∧ F1 a = none := by
  cases sv with
  | fz d => cases ho
  | ow xs => obtain ⟨a, vs, rfl, h1, h2, h3, h4, h5⟩ := h; exact ⟨a, _, rfl, h1, h3, h4, h5⟩
  | od t kds => obtain ⟨a, vs, rfl, h1, h0, h2, h3, h4, h5⟩ := h; exact ⟨a, _, rfl, h1, h3, h4, h5⟩
theorem rpo_mut {K : PySem.W.Frag} {G : Gc} {F1 H H1 : Hp} {a : Addr} {o : HO} {sv : SV} (h : RpO K G F1 H H1 (.ref a) sv) (ho : isOwn sv = true) (e : H1 a = some o) : isMutO o = true := by
  cases sv with
  | fz d => cases ho
  | ow xs => obtain ⟨b, vs, eb, h1, _⟩ := h; cases eb; rw [e] at h1; cases h1; rfl
  | od t kds => obtain ⟨b, vs, eb, h1, _⟩ := h; cases eb; rw [e] at h1; cases h1; exact isMutO_od t vs
theorem pin_ext {K : PySem.W.Frag} {G : Gc} {F1 H H1 : Hp} {v : V} {sv : SV} (h : RpO K G F1 H H1 v sv) : GExt G (pinO G H1 v sv) := by
  unfold pinO
  cases ho : isOwn sv with
  | false => exact GExt.refl G
  | true =>
    obtain ⟨a, o, rfl, h1, h2, _, _⟩ := rpo_ref h ho
    dsimp only
    rw [h1]
    exact G.more_ext a o h2
theorem pin_evr {K : PySem.W.Frag} {G : Gc} {F1 H H1 : Hp} {v : V} {sv : SV} {σ : St} {ρ : En} (h : RpO K G F1 H H1 v sv) (e0 : ∀ (j : Nat) (sw : SV), ρ[j]? = some (some sw) → isOwn sw = true → ∀ a, H a = none → σ[j]? ≠ some (some (.ref a))) (e : EvR K G F1 H1 σ ρ) : EvR K (pinO G H1 v sv) F1 H1 σ ρ := by
  unfold pinO
  cases ho : isOwn sv with
  | false => exact e
  | true =>
    obtain ⟨a, o, rfl, h1, h2, h3, h4⟩ := rpo_ref h ho
    dsimp only
    rw [h1]
    exact evr_more e h1 (rpo_mut h ho h1) h4 fun j sw q ho => e0 j sw q ho a h3
theorem pin_less {K : PySem.W.Frag} {G : Gc} {F1 F2 H H1 H2 : Hp} {v : V} {sv : SV} {σ : St} {ρ : En} (h : RpO K G F1 H H1 v sv) (e : EvR K (pinO G H1 v sv) F2 H2 σ ρ) (fr : Fr (pinO G H1 v sv) H1 H2) : EvR K G F2 H2 σ ρ ∧ Fr G H1 H2 ∧ (isOwn sv = true → ∀ a, v = .ref a → F2 a = none) := by
  unfold pinO at e fr
  cases ho : isOwn sv with
  | false => rw [ho] at e fr; exact ⟨e, fr, fun z => by cases z⟩
  | true =>
    obtain ⟨a, o, rfl, h1, h2, h3, h4⟩ := rpo_ref h ho
    rw [ho] at e fr
    dsimp only at e fr
    rw [h1] at e fr
    refine ⟨evr_less e, fun b u hb nb => ?_, fun _ b eb => by cases eb; exact e.res a (.inr rfl)⟩
    by_cases hba : b = a
    · subst hba; rw [h1] at hb; cases hb; exact e.wd.2.1
    · exact fr b u hb fun r => r.elim nb hba
theorem rpo_unpin {K : PySem.W.Frag} {G G' : Gc} {F2 H2 H3 : Hp} {u : V} {sw : SV} (hx : GExt G G') (h : RpO K G' F2 H2 H3 u sw) : RpO K G F2 H2 H3 u sw := by
  cases sw with
  | fz d => exact h
  | ow xs =>
    obtain ⟨a, vs, rfl, h1, h2, h3, h4, h5⟩ := h
    exact ⟨a, vs, rfl, h1, h2, fun r => h3 (hx.R a r), h4, h5⟩
  | od t kds =>
    obtain ⟨a, vs, rfl, h1, h0, h2, h3, h4, h5⟩ := h
    exact ⟨a, vs, rfl, h1, h0, h2, fun r => h3 (hx.R a r), h4, h5⟩
def wPar2 (i j : Nat) (w1 w2 : WO) : WS := fun G E ρ => i < ρ.length ∧ j < ρ.length ∧ w1 G ρ fun sv => ∀ G', GExt G G' → w2 G' ρ fun sw => E.nx (put2 ρ i sv j sw)
theorem rps_of {K : PySem.W.Frag} {G : Gc} {F H H' : Hp} {v : V} {sv : SV} (h : RpO K G F H H' v sv) : RpS K G F H' v sv := by
  cases sv with
  | fz d => exact h
  | ow xs => obtain ⟨a, vs, rfl, h1, h2, h3, _⟩ := h; exact ⟨a, vs, rfl, h1, h2, h3⟩
  | od t kds => obtain ⟨a, vs, rfl, h1, h0, h2, h3, _⟩ := h; exact ⟨a, vs, rfl, h1, h0, h2, h3⟩
/-- what stands for good behind new values: F2 -/
theorem rpo_base {K : PySem.W.Frag} {G : Gc} {F F' H H' : Hp} {v : V} {sv : SV} (h : RpO K G F' H H' v sv) (s : Same F F') (hm : immS sv = true) : RpO K G (tupOf F F') H H' v sv := by
  cases sv with
  | fz d => exact Rp.tupOf s h hm
  | ow xs => obtain ⟨a, vs, rfl, h1, h2, h3, h4, h5⟩ := h; exact ⟨a, vs, rfl, h1, RpL.tupOf s h2 hm, h3, h4, tupOf_none h5 s⟩
  | od t kds => obtain ⟨a, vs, rfl, h1, h0, h2, h3, h4, h5⟩ := h; exact ⟨a, vs, rfl, h1, h0, RpL.tupOf s h2 hm, h3, h4, tupOf_none h5 s⟩
theorem rpo_baseA {K : PySem.W.Frag} {G : Gc} {H0 F0 F F' H H' : Hp} {v : V} {sv : SV} {σ : St} {ρ : En} (ev : Ev K G H0 F0 F H σ ρ) (h : RpO K G F' H H' v sv) : RpO K G (ownOf F' H' σ ρ) H H' v sv := by
  refine rpo_keep h ownOf_same Fr.refl fun ho a ea => ?_
  obtain ⟨b, o, eb, _, _, h3, h4⟩ := rpo_ref h ho
  rw [ea] at eb
  cases eb
  exact ownOf_none h4 fun j sw q ho z => ev.ne h3 j sw q ho z
theorem Ev.put2 {K : PySem.W.Frag} {G : Gc} {H0 F0 F F' H H' : Hp} {σ : St} {ρ : En} (e : Ev K G H0 F0 F H σ ρ) (s : Same F F') (e' : EvR K G F' H' σ ρ) (fr : Fr G H H') {i j : Nat} {v u : V} {sv sw : SV} (hi : i < ρ.length) (hj : j < ρ.length) (hij : i ≠ j)
    (h1 : RpO K G F' H H' v sv) (h2 : RpO K G F' H H' u sw) (hne : isOwn sv = true → isOwn sw = true → v ≠ u) : ∃ F2, Ev K G H0 F0 F2 H' ((σ.set i (some v)).set j (some u)) (DL.put2 ρ i sv j sw) ∧ Same F F2 := by
  have go : ∀ (F2 : Hp) (ρ2 : En), ρ2.length = ρ.length → Ev K G H0 F0 F2 H' σ ρ2 → RpO K G F2 H H' v sv → RpO K G F2 H H' u sw → (∀ (k : Nat) (sx : SV), ρ2[k]? = some (some sx) → isOwn sx = true → ∀ a, H a = none → σ[k]? ≠ some (some (.ref a))) → Ev K G H0 F0 F2 H' ((σ.set i (some v)).set j (some u)) ((ρ2.set i (some sv)).set j (some sw)) := fun F2 ρ2 hl ev r1 r2 ns => by
    have ev1 : Ev K G H0 F0 F2 H' (σ.set i (some v)) (ρ2.set i (some sv)) := ev.set (by rw [hl]; exact hi) (rps_of r1) fun ho a ea => by
      obtain ⟨b, o, eb, _, q2, q3, q4⟩ := rpo_ref r1 ho
      rw [ea] at eb; cases eb
      exact ⟨q4, e.fr.free q2 q3, fun k sx _ q ho => ns k sx q ho a q3⟩
    refine ev1.set (by rw [List.length_set, hl]; exact hj) (rps_of r2) fun ho a ea => ?_
    obtain ⟨b, o, eb, _, q2, q3, q4⟩ := rpo_ref r2 ho
    rw [ea] at eb; cases eb
    refine ⟨q4, e.fr.free q2 q3, fun k sx nk q hok z => ?_⟩
    rcases set_get q with ⟨rfl, zz⟩ | ⟨ne, q⟩
    · cases zz
      rw [List.getElem?_set_self (by rw [e.len]; exact hi)] at z
      cases z
      exact hne hok ho ea.symm
    · rw [List.getElem?_set_ne ne] at z
      exact ns k sx q hok a q3 z
  unfold DL.put2
  cases hm : (immS sv && immS sw) with
  | true =>
    obtain ⟨m1, m2⟩ := Bool.and_eq_true_iff.mp hm
    exact ⟨tupOf F F', go _ ρ rfl (e.goT s e' fr) (rpo_base h1 s m1) (rpo_base h2 s m2) fun k sx q ho a ha => e.ne ha k sx q ho, tupOf_same⟩
  | false =>
    exact ⟨ownOf F' H' σ ρ, go _ (frzAll ρ) (by unfold frzAll; rw [List.length_map]) (e.goA s e' fr) (rpo_baseA e h1) (rpo_baseA e h2) (fun k sx q ho => by rw [frzAll_own q] at ho; cases ho), s.trans ownOf_same⟩
theorem swap2 {a b : Expr} {x y : Str} {px py pt pt2 : Pos} {kt k2 : Nat} (hne : (x == y) = false) (hl : (py.line == px.line) = true) (sa : (match a with | .Starred .. => true | _ => false) = false) (sb : (match b with | .Starred .. => true | _ => false) = false)
    (hf : (foldedForSure 8 a && foldedForSure 8 b) = false) (hc : (constantsAlone 8 a && constantsAlone 8 b) = false) (env : Env) (hk : env.scope.kind = .function) (hx : env.scope.names.lookup x = some .local) (hy : env.scope.names.lookup y = some .local) :
    swappedStores [.Tuple [.Name x px, .Name y py] kt pt] (.Tuple [a, b] k2 pt2) env = pure (some [x, y]) := by
  have hb : env.blockKind = .function := by unfold Env.blockKind; rw [hk]; rfl
  have kx : env.kindOf x = some .local := hx
  have ky : env.kindOf y = some .local := hy
  have hne' : (y == x) = false := by
    cases h : y == x with
    | false => rfl
    | true => rw [beq_iff_eq.mp h] at hne; simp at hne
  unfold swappedStores
  simp only [hb, kx, ky, List.length_cons, List.length_nil, List.any_cons, List.any_nil, sa, sb, List.filterMap_cons, List.filterMap_nil, Expr.pos, List.head?_cons, Option.map_some, Option.getD_some, hl, List.all_cons, List.all_nil, Bool.and_true, hf, hc, beq_self_eq_true, Bool.and_self, if_true, List.eraseDups_cons, hne, hne']
  simp [hne, hne']
  rw [if_neg, if_pos (by simp [List.eraseDups_cons])]
  rintro (h | h)
  · cases a <;> first | exact Bool.noConfusion h | exact Bool.noConfusion sa
  · cases b <;> first | exact Bool.noConfusion h | exact Bool.noConfusion sb
theorem ds_par2 {px py pt : Pos} {kt k2 pt2} (h1 : DO S a wo1) (h2 : DO S b wo2) (nd : S.N.Nodup) (hi : (S.N[i]? == some x) = true := by kernel_rfl) (hj : (S.N[j]? == some y) = true := by kernel_rfl) (hij : (i == j) = false := by kernel_rfl)
    (hx : (S.names.lookup x == some .local) = true := by kernel_rfl) (hy : (S.names.lookup y == some .local) = true := by kernel_rfl)
    (hs : ∀ env, starEach (a :: [b]) env = (false, eval a env) :: starEach [b] env := by intro _; rfl) (hs2 : ∀ env, starEach (b :: []) env = (false, eval b env) :: starEach [] env := by intro _; rfl)
    (hw : ∀ env : Env, env.scope.kind = .function → env.scope.names.lookup x = some .local → env.scope.names.lookup y = some .local → swappedStores [.Tuple [.Name x px, .Name y py] kt pt] (.Tuple [a, b] k2 pt2) env = pure (some [x, y]))
    (hsw : ∀ env, swapsWithSole [.Tuple [.Name x px, .Name y py] kt pt] (.Tuple [a, b] k2 pt2) pos.line env = pure false := by intro _; rfl) :
    DS S (.Assign [.Tuple [.Name x px, .Name y py] kt pt] (.Tuple [a, b] k2 pt2) pos) (wPar2 i j wo1 wo2) := fun X f => by
  have lx : X.env.scope.names.lookup x = some .local := by rw [f.look]; exact beq_iff_eq.mp hx
  have ly : X.env.scope.names.lookup y = some .local := by rw [f.look]; exact beq_iff_eq.mp hy
  have nij : i ≠ j := fun z => by subst z; simp at hij
  refine (ps_par (i := i) (j := j) f.calm (by rw [f.N]; exact nd) (by rw [f.N]; exact beq_iff_eq.mp hi) (by rw [f.N]; exact beq_iff_eq.mp hj) nij lx ly (pa_cons (h1 X f) (pa_cons (h2 X f) pa_nil (hs2 _)) (hs _)) (hw _ f.kind lx ly) (hsw _)).imp fun D σ H ⟨G, H0, F0, F, ρ, E, ev, ⟨li, lj, hw⟩, g⟩ => ?_
  refine ⟨G, F, ρ, _, ev.r, hw, fun v H1 F1 sv s1 e1 f1 r1 q1 => ?_⟩
  have ns : ∀ (k : Nat) (sx : SV), ρ[k]? = some (some sx) → isOwn sx = true → ∀ a, H a = none → σ[k]? ≠ some (some (.ref a)) := fun k sx q ho a ha => ev.ne ha k sx q ho
  refine ⟨pinO G H1 v sv, F1, ρ, _, pin_evr r1 ns e1, q1 _ (pin_ext r1), fun u H2 F2 sw s2 e2 f2 r2 q2 => ?_⟩
  obtain ⟨e2', f2', nF⟩ := pin_less r1 e2 f2
  have r2' : RpO S.K G F2 H1 H2 u sw := rpo_unpin (pin_ext r1) r2
  obtain ⟨F3, ev3, s3⟩ := ev.put2 (s1.trans s2) e2' (f1.trans f2') li lj nij (rpo_keep r1 s2 f2' nF) (r2'.back f1) (fun o1 o2 z => by
    obtain ⟨b1, o1', eb1, q1, _, _, _⟩ := rpo_ref r1 o1
    obtain ⟨b2, o2', eb2, _, _, q3, _⟩ := rpo_ref r2' o2
    rw [z, eb2] at eb1
    cases eb1
    rw [q1] at q3; cases q3)
  exact ⟨v, u, rfl, g.nx _ H2 F3 _ ev3 s3 q2⟩
end
end DL
set_option maxHeartbeats 4000000
namespace DL
open PySem PySem.Spec PyProof.Rows L2

/-! ### loops -/
abbrev WIS := Gc → En → (List D → En → Prop) → Prop
def tGI (K : PySem.W.Frag) (w : WIS) : TI := fun σ H R => ∃ G H0 F0 F ρ Qd, Ev K G H0 F0 F H σ ρ ∧ w G ρ Qd ∧ ∀ J H' F' ds ρ', Ev K G H0 F0 F' H' σ ρ' → Same F F' → ItOk K J F' ds → Qd ds ρ' → R J H'
def DJ (S : Sta) (tg e : Expr) (w : WIS) : Prop := ∀ X, Fam S X → PI X tg e (tGI S.K w)
def wjSeq (w : WV) : WIS := fun G ρ Q => w G ρ fun d ρ' => ∃ ds, itemsOf d = some ds ∧ Q ds ρ'
def wjRange1 (r : WA) : WIS := fun G ρ Q => r G ρ fun ds => ∃ j : Int, ds = [.int j] ∧ -(2 ^ 62) ≤ j ∧ j < 2 ^ 62 ∧ Q (rangeD 0 j.toNat) ρ
def wjRange2 (r : WA) : WIS := fun G ρ Q => r G ρ fun ds => ∃ i j : Int, ds = [.int i, .int j] ∧ (-(2 ^ 62) ≤ i ∧ i < 2 ^ 62 ∧ -(2 ^ 62) ≤ j ∧ j < 2 ^ 62) ∧ Q (rangeD i (j - i).toNat) ρ
def wjZip (w1 w2 : WV) : WIS := fun G ρ Q => w1 G ρ fun x ρ1 => w2 G ρ1 fun y ρ2 => ∃ xs ys, ((tupsOf x = some xs ∧ tupsOf y = some ys) ∨ (x = .lst xs ∧ y = .lst ys)) ∧ Q (zipD xs ys) ρ2
def wjEnum (w : WV) : WIS := fun G ρ Q => w G ρ fun d ρ' => ∃ xs, d = .lst xs ∧ Q (enumD 0 xs) ρ'
section
variable {S : Sta} {tg e a b : Expr} {es : List Expr} {p pos tpos : Pos} {w w1 w2 : WV} {r : WA} {kk : Nat}
theorem dj_seq (h : DV S e w) : DJ S tg e (wjSeq w) := fun X f => (pi_seq (h X f)).imp fun σ H R ⟨G, H0, F0, F, ρ, Qd, ev, hw, hq⟩ =>
  ⟨G, H0, F0, F, ρ, _, ev, hw, fun v H1 F1 d ρ1 ev1 s1 r1 ⟨ds, ed, q1⟩ => by
    rw [f.K]
    obtain ⟨a, vs, rfl, h, r⟩ := rp_items r1 ed
    rcases h with ⟨_, h⟩ | ⟨_, h⟩
    · exact ⟨a, rfl, .inl ⟨⟨vs, SqL.of (ev1.r.sub _ _ h)⟩, hq _ H1 F1 ds ρ1 ev1 s1 (itok_list h r) q1⟩⟩
    · exact ⟨a, rfl, .inr ⟨⟨vs, Same.sqt ev1.r.sub h⟩, hq _ H1 F1 ds ρ1 ev1 s1 (itok_tup h r) q1⟩⟩⟩
theorem dj_range1 (hm : S.mg "range" = none) (h : DA S [a] r) (hg : (S.names.lookup ("range" : Str) == some .globalImplicit) = true := by kernel_rfl) (hs : ∀ env, starEach [a] env = [(false, eval a env)] := by intro _; rfl) : DJ S tg (.Call (.Name "range" p) [a] [] pos) (wjRange1 r) := fun X f =>
  (pi_range1 (glOf f hg) (by rw [f.mg]; exact hm) (h X f) (hs _)).imp fun σ H R ⟨G, H0, F0, F, ρ, Qd, ev, hw, hq⟩ =>
  ⟨G, F, ρ, _, ev.r, hw, fun vs H1 F1 ds s1 e1 f1 r1 ⟨j, ed, z1, z2, q1⟩ => by
    subst ed
    cases r1 with
    | cons rv rr => cases rr; cases rv; exact ⟨j, rfl, z1, z2, hq _ H1 F _ ρ (ev.go s1 e1 f1) (Same.refl _) (itok_range _ _) q1⟩⟩
theorem dj_range2 (hm : S.mg "range" = none) (h : DA S [a, b] r) (hg : (S.names.lookup ("range" : Str) == some .globalImplicit) = true := by kernel_rfl) (hs : ∀ env, starEach [a, b] env = [(false, eval a env), (false, eval b env)] := by intro _; rfl) (hs2 : ∀ env, starEach [b] env = [(false, eval b env)] := by intro _; rfl) :
    DJ S tg (.Call (.Name "range" p) [a, b] [] pos) (wjRange2 r) := fun X f =>
  (pi_range2 (glOf f hg) (by rw [f.mg]; exact hm) (h X f) (hs _) (hs2 _)).imp fun σ H R ⟨G, H0, F0, F, ρ, Qd, ev, hw, hq⟩ =>
  ⟨G, F, ρ, _, ev.r, hw, fun vs H1 F1 ds s1 e1 f1 r1 ⟨i, j, ed, z, q1⟩ => by
    subst ed
    cases r1 with
    | cons rv rr =>
      cases rr with
      | cons rv2 rr => cases rr; cases rv; cases rv2; exact ⟨i, j, rfl, z, hq _ H1 F _ ρ (ev.go s1 e1 f1) (Same.refl _) (itok_range _ _) q1⟩⟩
theorem dj_zip (hm : S.mg "zip" = none) (h1 : DV S a w1) (h2 : DV S b w2) (hg : (S.names.lookup ("zip" : Str) == some .globalImplicit) = true := by kernel_rfl) (hs : ∀ env, starEach [a, b] env = (false, eval a env) :: starEach [b] env := by intro _; rfl) (hs2 : ∀ env, starEach [b] env = (false, eval b env) :: starEach [] env := by intro _; rfl) (hpl : ∀ env, (backTo pos (starEach [b] env)).any (·.1) = false := by intro _; rfl) :
    DJ S (.Tuple es kk tpos) (.Call (.Name "zip" p) [a, b] [] pos) (wjZip w1 w2) := fun X f =>
  (RZ.pi_zipA (glOf f hg) (by rw [f.mg]; exact hm) (pa_cons (h1 X f) (pa_cons (h2 X f) pa_nil (hs2 _)) (hs _)) (hs _) (hpl _)).imp fun σ H R ⟨G, H0, F0, F, ρ, Qd, ev, hw, hq⟩ =>
  ⟨G, H0, F0, F, ρ, _, ev, hw, fun v H1 F1 x ρ1 ev1 s1 r1 q1 => ⟨G, H0, F0, F1, ρ1, _, ev1, q1, fun u H2 F2 y ρ2 ev2 s2 r2 ⟨xs, ys, z, q2⟩ => by
    rw [f.K]
    have r1' := r1.mono s2
    rcases z with ⟨z1, z2⟩ | ⟨rfl, rfl⟩
    · obtain ⟨a, vs, rfl, h1, r1⟩ := rp_tups r1' z1
      obtain ⟨b, us, rfl, h2, r2⟩ := rp_tups r2 z2
      exact ⟨_, _, _, _, rfl, .inr ⟨Same.sqt ev2.r.sub h1, Same.sqt ev2.r.sub h2, hq _ H2 F2 _ ρ2 ev2 (s1.trans s2) (itok_zipT h1 r1 h2 r2) q2⟩⟩
    · cases r1' with
      | lst h1 r1 => cases r2 with
        | lst h2 r2 => exact ⟨_, _, _, _, rfl, .inl ⟨SqL.of (ev2.r.sub _ _ h1), SqL.of (ev2.r.sub _ _ h2), hq _ H2 F2 _ ρ2 ev2 (s1.trans s2) (itok_zipL h1 r1 h2 r2) q2⟩⟩⟩⟩
theorem dj_enum (hm : S.mg "enumerate" = none) (h : DV S a w) (hg : (S.names.lookup ("enumerate" : Str) == some .globalImplicit) = true := by kernel_rfl) (hs : ∀ env, starEach [a] env = [(false, eval a env)] := by intro _; rfl) (hs2 : ∀ env, starEach [a] env = (false, eval a env) :: starEach [] env := by intro _; rfl) :
    DJ S (.Tuple es kk tpos) (.Call (.Name "enumerate" p) [a] [] pos) (wjEnum w) := fun X f =>
  (pi_enum (glOf f hg) (by rw [f.mg]; exact hm) (pa_cons (h X f) pa_nil (hs2 _)) (hs _)).imp fun σ H R ⟨G, H0, F0, F, ρ, Qd, ev, hw, hq⟩ =>
  ⟨G, H0, F0, F, ρ, _, ev, hw, fun v H1 F1 d ρ1 ev1 s1 r1 ⟨xs, ed, q1⟩ => by
    subst ed
    rw [f.K]
    cases r1 with
    | lst h1 r1 => exact ⟨_, _, rfl, SqL.of (ev1.r.sub _ _ h1), hq _ H1 F1 _ ρ1 ev1 s1 (itok_enum h1 r1) q1⟩⟩
end
def wForL (wg : WG) (wb : WS) (G : Gc) (E : EndsD) : List D → En → Prop
  | [], ρ => E.nx ρ
  | d :: r, ρ => wg d ρ fun ρ2 => wb G { nx := wForL wg wb G E r, rt := E.rt, bk := E.nx, ct := wForL wg wb G E r } ρ2
def wFor (wi : WIS) (wg : WG) (wb : WS) : WS := fun G E ρ => wi G ρ fun ds ρ' => wForL wg wb G E ds ρ'
def wWhileN (t : WT) (b : WS) (G : Gc) (E : EndsD) : Nat → En → Prop
  | 0, _ => False
  | n + 1, ρ => t G ρ fun k => if k = true then b G { nx := wWhileN t b G E n, rt := E.rt, bk := E.nx, ct := wWhileN t b G E n } ρ else E.nx ρ
def wWhile (t : WT) (b : WS) : WS := fun G E ρ => ∃ n, wWhileN t b G E n ρ
section
variable {K : PySem.W.Frag} {G : Gc} {H0 F0 F H : Hp} {σ : St} {ρ : En}
theorem Ev.live (e : Ev K G H0 F0 F H σ ρ) {p : Addr} {o : HO} (h : H p = none) : Ev K G H0 F0 (upd F p o) (upd H p o) σ ρ := by
  have nF := none_sub e.r.sub h
  refine ⟨e.r.live h, e.f0.trans (same_upd nF), e.fr.trans (Fr.upd h), fun i sv a q ho ha => ?_, e.apart⟩
  obtain ⟨q1, q2⟩ := e.own i sv a q ho ha
  have ne : a ≠ p := by rintro rfl; exact e.ne h i sv q ho ha
  exact ⟨by rw [upd_ne ne]; exact q1, q2⟩
end
section
variable {S : Sta} {tg iter c : Expr} {body : List Stmt} {pos : Pos} {wi : WIS} {wg : WG} {wb : WS} {is : List Nat} {t : WT}
theorem ds_for (hi : DJ S tg iter wi) (hg : DG S tg is wg) (hb : DSs S body wb) (hs : ∀ env x, foldedSetIterable iter env x = pure x := by intro _ _; rfl) : DS S (.For tg iter body [] pos) (wFor wi wg wb) := fun X f => by
  obtain ⟨g0, pg, ok⟩ := hg
  refine (ps_for f.po f.calm (hi X f) (pg X f) (hb X f) (hs _)).imp fun D σ H ⟨G, H0, F0, F, ρ, E, ev, hw, g⟩ => ?_
  refine ⟨G, H0, F0, F, ρ, _, ev, hw, fun J H1 F1 ds ρ1 ev1 s1 it q1 => ?_⟩
  let I : Nat → St → Hp → Prop := fun i σ H2 => ∃ F2 ρ2, Same F1 F2 ∧ Ev S.K G H0 F0 F2 H2 σ ρ2 ∧ wForL wg wb G E (ds.drop i) ρ2
  refine ⟨fun i m σ H2 => m = ds.length - i ∧ i ≤ ds.length ∧ I i σ H2, ⟨ds.length, by omega, Nat.zero_le _, F1, ρ1, Same.refl _, ev1, q1⟩, ?_⟩
  rintro i m σ2 H2 ⟨rfl, hi, F2, ρ2, s2, ev2, hwl⟩
  by_cases hlt : i < ds.length
  · obtain ⟨hgo, hy⟩ := it.go i H2 F2 s2 ev2.r.sub hlt
    refine .inr ⟨hgo, I (i + 1), fun σ' H' h => ⟨ds.length - (i + 1), by omega, rfl, hlt, h⟩, fun x H3 y => ?_⟩
    obtain ⟨d, hd, hx⟩ := hy x H3 y
    rw [List.drop_eq_getElem_cons hlt] at hwl
    rw [List.getElem?_eq_getElem hlt] at hd
    cases hd
    obtain ⟨F3, s3, ev3, rx⟩ : ∃ F3, Same F2 F3 ∧ Ev S.K G H0 F0 F3 H3 σ2 ρ2 ∧ Rp S.K F3 x ds[i] := by
      rcases hx with ⟨rfl, rx⟩ | ⟨T, o, nT, rfl, rx⟩
      · exact ⟨F2, Same.refl _, ev2, rx⟩
      · exact ⟨upd F2 T o, same_upd (none_sub ev2.r.sub nT), ev2.live nT, rx⟩
    refine ok (fun σ ρ => Ev S.K G H0 F0 F3 H3 σ ρ) F3 H3 σ2 ρ2 x ds[i] _ _ Ev.setP ev3.r.sub ev3 rx hwl fun σ4 ρ4 ev4 q4 => ?_
    refine ⟨G, H0, F0, F3, ρ4, _, ev4, q4, ⟨fun σ' H' F' ρ' e' s' q => ?_, fun σ' H' F' ρ' e' s' q => ?_, fun σ' H' F' ρ' e' s' q => ?_, g.rt⟩⟩
    · exact ⟨F', ρ', s2.trans (s3.trans s'), e', q⟩
    · exact g.nx σ' H' F' ρ' e' (s1.trans (s2.trans (s3.trans s'))) q
    · exact ⟨F', ρ', s2.trans (s3.trans s'), e', q⟩
  · have ei : i = ds.length := by omega
    subst ei
    rw [List.drop_length] at hwl
    exact .inl ⟨it.stop H2 F2 s2 ev2.r.sub, g.nx σ2 H2 F2 ρ2 ev2 (s1.trans s2) hwl⟩
theorem ds_while (hc : DT S c t) (hb : DSs S body wb) : DS S (.While c body [] pos) (wWhile t wb) := fun X f => by
  refine (ps_while f.po (hc X f) (hb X f)).imp fun D σ H ⟨G, H0, F0, F, ρ, E, ev, ⟨n, hw⟩, g⟩ => ?_
  refine ⟨fun m σ H2 => ∃ F2 ρ2, Same F F2 ∧ Ev S.K G H0 F0 F2 H2 σ ρ2 ∧ wWhileN t wb G E m ρ2, ⟨n, F, ρ, Same.refl _, ev, hw⟩, ?_⟩
  rintro m σ2 H2 ⟨F2, ρ2, s2, ev2, hwl⟩
  cases m with
  | zero => exact hwl.elim
  | succ m =>
    refine ⟨G, F2, ρ2, _, ev2.r, hwl, fun k H3 F3 s3 e3 f3 q3 => ?_⟩
    have ev3 := ev2.go s3 e3 f3
    cases k with
    | false =>
      rw [if_neg Bool.false_ne_true] at q3
      exact iteF (g.nx σ2 H3 F2 ρ2 ev3 s2 q3)
    | true =>
      rw [if_pos rfl] at q3
      refine iteT ⟨fun σ H => ∃ F' ρ', Same F F' ∧ Ev S.K G H0 F0 F' H σ ρ' ∧ wWhileN t wb G E m ρ', fun σ' H' h => ⟨m, Nat.lt_succ_self m, h⟩, G, H0, F0, F2, ρ2, _, ev3, q3, ⟨fun σ' H' F' ρ' e' s' q => ?_, fun σ' H' F' ρ' e' s' q => ?_, fun σ' H' F' ρ' e' s' q => ?_, g.rt⟩⟩
      · exact ⟨F', ρ', s2.trans s', e', q⟩
      · exact g.nx σ' H' F' ρ' e' (s2.trans s') q
      · exact ⟨F', ρ', s2.trans s', e', q⟩
end
end DL
set_option maxHeartbeats 4000000
namespace DL
open PySem PySem.Spec PyProof.Rows L2

/-! ### sorted(xs): a list's or a tuple's items, as data -/
section
open PySem.W PySem.Calls
variable {prog : Program} {w : World} {A : Around} {E : Value → Shared → Prop} {s : Shared}
theorem sorted_seq {β : Type} {bs : List β} {enc : β → PyData} {R : Value → β → Prop} {T : String} {it : Addr} {ob : Obj} {items : Array Value} {n : Nat} {Q : Value → Shared → Prop} (hT : T = "list" ∨ T = "tuple")
    (ho : s.heap.get? it = some ob) (hc : ob.cls = .type T) (hd : ob.data = .seq items n) (e : EachIs R items.toList bs) (er : EachIs (fun v b => ∃ as, Reads s.heap v (enc b) as) items.toList bs)
    (hal : AllAlike (bs.map enc)) (hk : Sortable (bs.map enc)) (hL : bs.length ≤ sizeLine) (hu : ∀ b, b ∈ bs → A.units + 2 + (enc b).depth < cLine)
    (h : ∀ (h1 h' : Heap) (p : Addr) (out : List Value) (c : Nat), (∀ b o, s.heap.get? b = some o → h1.get? b = some o) → (∀ b o, h1.get? b = some o → h'.get? b = some o) → h1.objs.size ≤ p → h'.get? p = some (seqObj "list" out.toArray c) → out.length = bs.length → EachIs R out (bs.mergeSort (dataLe false enc)) → Q (.ref p) { s with heap := h' }) :
    wpAny (model prog w) A (call (.builtin "sorted") [.ref it]) Q E s := by
  have hsz : items.size ≤ sizeLine := by rw [← Array.length_toList, e.length]; exact hL
  refine call_function_entry kind_sorted plain_sorted entry_sorted (args_sorted1 _) ?_
  unfold Builtin.«sorted»
  refine wpAny_bind (m := checkCount "sorted" 1 1 _) (wpAny_pure ?_)
  refine wpAny_bind (wpAny_collect_seq it hT ho hc hd (fun h1 k1 => ?_) hsz)
  refine wpAny_bind (wpAny_newList ?_ (by rw [e.length]; exact hL))
  have hp : (h1.push (seqObj "list" items.toList.toArray 0)).get? h1.objs.size = some (seqObj "list" items.toList.toArray 0) := Heap.get?_push_size _ rfl
  have kp : ∀ b o, s.heap.get? b = some o → (h1.push (seqObj "list" items.toList.toArray 0)).get? b = some o := fun b o q => Heap.get?_push_of_some _ (k1 b o q)
  have out1 : ∀ v d as, Reads s.heap v d as → h1.objs.size ∉ as := fun v d as r hm => by
    obtain ⟨o, q⟩ := PyProof.On.reads_mem_get r _ hm
    exact Nat.lt_irrefl _ (Heap.lt_size (k1 _ _ q))
  show wpAny _ _ _ _ _ { s with heap := h1.push (seqObj "list" items.toList.toArray 0) }
  refine wpAny_bind (wpAny_holding (list_sort_data (s := { s with heap := h1.push (seqObj "list" items.toList.toArray 0) }) (R := R) (bs := bs) (enc := enc) hp e (er.mono fun v b ⟨as, r⟩ => ⟨as, Reads.keeps kp r, out1 _ _ _ r⟩) hal hk hL (fun b hb => hu b hb) fun out hl hs => ?_))
  obtain ⟨c, hc'⟩ := sortedHeap_at (vs := items.toList) (out := out.toArray) hp
  refine wpAny_pure ⟨_, rfl, h h1 _ _ out c k1 (fun b o q => ?_) (Nat.le_refl _) hc' hl hs⟩
  exact sortedHeap_old (Nat.ne_of_lt (Heap.lt_size q)) (Heap.lt_size (Heap.get?_push_of_some _ q)) ▸ Heap.get?_push_of_some _ q
end

/-! ### built-in functions, over data -/
def rD (K : PySem.W.Frag) (o : List D → (SV → Prop) → Prop) : List V → Hp → VK → Prop := fun vs H Q => ∃ G F σ ρ ds Qd, EvR K G F H σ ρ ∧ RpL K F vs ds ∧ o ds Qd ∧
  ∀ v H' F' sv, Same F F' → EvR K G F' H' σ ρ → Fr G H H' → RpO K G F' H H' v sv → Qd sv → Q v H'
def CD (S : Sta) (f : Value) (o : List D → (SV → Prop) → Prop) : Prop := ∀ X, Fam S X → CallR X f (rD S.K o)
theorem _root_.L2.CallR.imp {X : Cx} {f : Value} {r r' : List V → Hp → VK → Prop} (h : CallR X f r) (i : ∀ vs H Q, r' vs H Q → r vs H Q) : CallR X f r' := fun pins s σ H xs us Q I rv q => h pins s σ H xs us Q I rv (i xs H Q q)
section
variable {K : PySem.W.Frag} {G : Gc} {F H : Hp} {σ : St} {ρ : En}
theorem EvR.newL (e : EvR K G F H σ ρ) {p : Addr} {vs : List V} {ds : List D} (h : H p = none) (r : RpL K F vs ds) {Q : V → Hp → Prop} {Qd : SV → Prop} (q : Qd (.ow ds)) (hq : ∀ v H' F' sv, Same F F' → EvR K G F' H' σ ρ → Fr G H H' → RpO K G F' H H' v sv → Qd sv → Q v H') : Q (.ref p) (upd H p (.lst vs)) :=
  hq _ _ F (.ow ds) (Same.refl _) (e.liveO h) (Fr.upd h) ⟨p, vs, rfl, upd_same, r, e.nr h, h, e.fnone h⟩ q
theorem EvR.newT (e : EvR K G F H σ ρ) {p : Addr} {vs : List V} {ds : List D} (h : H p = none) (r : RpL K F vs ds) {Q : V → Hp → Prop} {Qd : SV → Prop} (q : Qd (.fz (.tup ds))) (hq : ∀ v H' F' sv, Same F F' → EvR K G F' H' σ ρ → Fr G H H' → RpO K G F' H H' v sv → Qd sv → Q v H') : Q (.ref p) (upd H p (.tup vs)) :=
  hq _ _ _ (.fz (.tup ds)) (same_upd (e.fnone h)) (e.live h) (Fr.upd h) (Rp.tup (SqT.of upd_same) (r.mono (same_upd (e.fnone h)))) q
theorem EvR.giv (e : EvR K G F H σ ρ) {v : V} {d : D} (r : Rp K F v d) {Q : V → Hp → Prop} {Qd : SV → Prop} (q : Qd (.fz d)) (hq : ∀ v H' F' sv, Same F F' → EvR K G F' H' σ ρ → Fr G H H' → RpO K G F' H H' v sv → Qd sv → Q v H') : Q v H :=
  hq _ _ F (.fz d) (Same.refl _) e Fr.refl r q
theorem RpL.one {v : List V} {d : D} (r : RpL K F v [d]) : ∃ u, v = [u] ∧ Rp K F u d := by
  cases r with
  | cons h t => cases t; exact ⟨_, rfl, h⟩
theorem RpL.two {v : List V} {d e : D} (r : RpL K F v [d, e]) : ∃ u w, v = [u, w] ∧ Rp K F u d ∧ Rp K F w e := by
  cases r with
  | cons h t =>
    obtain ⟨w, rfl, h2⟩ := t.one
    exact ⟨_, _, rfl, h, h2⟩
theorem Rp.intI {v : V} {i : Int} (r : Rp K F v (.int i)) : v = .int i := by cases r; rfl
theorem Rp.blI {v : V} {i : Bool} (r : Rp K F v (.bl i)) : v = .bl i := by cases r; rfl
theorem Rp.strI {v : V} {i : Str} (r : Rp K F v (.str i)) : v = .str i := by cases r; rfl
theorem rp_sq {v : V} {d : D} {ds : List D} (s : Same F H) (r : Rp K F v d) (e : itemsOf d = some ds) : ∃ a vs, v = .ref a ∧ (SqL K H a vs ∨ SqT K H a vs) ∧ RpL K F vs ds := by
  obtain ⟨a, vs, rfl, h, r⟩ := rp_items r e
  rcases h with ⟨_, h⟩ | ⟨_, h⟩
  · exact ⟨a, vs, rfl, .inl (SqL.of (s _ _ h)), r⟩
  · exact ⟨a, vs, rfl, .inr (Same.sqt s h), r⟩
end
def oLen : List D → (SV → Prop) → Prop := fun ds Q => ∃ x, ds = [x] ∧ ((∃ xs, itemsOf x = some xs ∧ Q (.fz (.int xs.length))) ∨ ∃ z, x = .str z ∧ z.length ≤ sizeLine ∧ Q (.fz (.int z.length)))
def oList : List D → (SV → Prop) → Prop := fun ds Q => ∃ x xs, ds = [x] ∧ itemsOf x = some xs ∧ Q (.ow xs)
def oTuple : List D → (SV → Prop) → Prop := fun ds Q => ∃ x xs, ds = [x] ∧ itemsOf x = some xs ∧ Q (.fz (.tup xs))
def oInt : List D → (SV → Prop) → Prop := fun ds Q => ∃ i, ds = [.int i] ∧ Q (.fz (.int i))
def oMax : List D → (SV → Prop) → Prop := fun ds Q => ∃ i j : Int, ds = [.int i, .int j] ∧ Q (.fz (.int (if j > i then j else i)))
def oMin : List D → (SV → Prop) → Prop := fun ds Q => ∃ i j : Int, ds = [.int i, .int j] ∧ Q (.fz (.int (if j < i then j else i)))
def oAny : List D → (SV → Prop) → Prop := fun ds Q => ∃ bs : List Bool, ds = [.lst (bs.map .bl)] ∧ Q (.fz (.bl (bs.any id)))
def oAll : List D → (SV → Prop) → Prop := fun ds Q => ∃ bs : List Bool, ds = [.lst (bs.map .bl)] ∧ Q (.fz (.bl (bs.all id)))
def oSum : List D → (SV → Prop) → Prop := fun ds Q => ∃ ns : List Int, ds = [.lst (ns.map .int)] ∧ Q (.fz (.int ns.sum))
def oStrI : List D → (SV → Prop) → Prop := fun ds Q => ∃ i : Int, ds = [.int i] ∧ i.natAbs.log2 < 1920 ∧ Q (.fz (.str (toString i)))
def keyD (d : D) : PyData := (toPy d).getD .none
def oSorted : List D → (SV → Prop) → Prop := fun ds Q => ∃ x xs, ds = [x] ∧ itemsOf x = some xs ∧ (∀ d ∈ xs, (toPy d).isSome = true) ∧ PySem.W.AllAlike (xs.map keyD) ∧ PySem.W.Sortable (xs.map keyD) ∧ (∀ d ∈ xs, (keyD d).depth ≤ 100) ∧
  Q (.ow (xs.mergeSort (PySem.W.dataLe false keyD)))
def oRepr : List D → (SV → Prop) → Prop := fun ds Q => ∃ x p, ds = [x] ∧ toPy x = some p ∧ p.showable = true ∧ p.depth ≤ 60 ∧ p.shown.length ≤ sizeLine ∧ Q (.fz (.str p.shown))
section
variable {S : Sta}
theorem cd_len : CD S (.builtin "len") oLen := fun X f => (call_len_seq.or call_len_str).imp fun vs H Q ⟨G, F, σ, ρ, ds, Qd, ev, rl, ⟨x, e, h⟩, hq⟩ => by
  subst e
  obtain ⟨u, rfl, r⟩ := rl.one
  rcases h with ⟨xs, e2, q⟩ | ⟨z, rfl, hz, q⟩
  · obtain ⟨a, ws, rfl, h, rr⟩ := rp_sq ev.sub r e2
    rw [f.K]
    exact .inl ⟨a, ws, rfl, h, by rw [rr.len]; exact ev.giv (.int _) q hq⟩
  · rw [r.strI]
    exact .inr ⟨z, rfl, hz, ev.giv (.int _) q hq⟩
theorem cd_list : CD S (.type "list") oList := fun X f => call_list_of.imp fun vs H Q ⟨G, F, σ, ρ, ds, Qd, ev, rl, ⟨x, xs, e, e2, q⟩, hq⟩ => by
  subst e
  obtain ⟨u, rfl, r⟩ := rl.one
  obtain ⟨a, ws, rfl, h, rr⟩ := rp_sq ev.sub r e2
  rw [f.K]
  exact ⟨a, ws, rfl, h, fun l hl => ev.newL hl rr q hq⟩
theorem cd_tuple : CD S (.type "tuple") oTuple := fun X f => call_tuple_of.imp fun vs H Q ⟨G, F, σ, ρ, ds, Qd, ev, rl, ⟨x, xs, e, e2, q⟩, hq⟩ => by
  subst e
  obtain ⟨u, rfl, r⟩ := rl.one
  rw [f.K]
  obtain ⟨a, ws, rfl, h, rr⟩ := rp_items r e2
  rcases h with ⟨_, h⟩ | ⟨_, h⟩
  · exact ⟨a, ws, rfl, .inl ⟨SqL.of (ev.sub _ _ h), fun l hl => ev.newT hl rr q hq⟩⟩
  · exact ⟨a, ws, rfl, .inr ⟨Same.sqt ev.sub h, ev.giv (Rp.tup h rr) q hq⟩⟩
theorem cd_int : CD S (.type "int") oInt := fun X f => call_int1.imp fun vs H Q ⟨G, F, σ, ρ, ds, Qd, ev, rl, ⟨i, e, q⟩, hq⟩ => by
  subst e
  obtain ⟨u, rfl, r⟩ := rl.one
  rw [r.intI]
  exact .inl ⟨i, rfl, ev.giv (.int i) q hq⟩
theorem cd_max : CD S (.builtin "max") oMax := fun X f => (call_max2 f.calm).imp fun vs H Q ⟨G, F, σ, ρ, ds, Qd, ev, rl, ⟨i, j, e, q⟩, hq⟩ => by
  subst e
  obtain ⟨u, w, rfl, r1, r2⟩ := rl.two
  rw [r1.intI, r2.intI]
  exact ⟨i, j, rfl, ev.giv (.int _) q hq⟩
theorem cd_min : CD S (.builtin "min") oMin := fun X f => (call_min2 f.calm).imp fun vs H Q ⟨G, F, σ, ρ, ds, Qd, ev, rl, ⟨i, j, e, q⟩, hq⟩ => by
  subst e
  obtain ⟨u, w, rfl, r1, r2⟩ := rl.two
  rw [r1.intI, r2.intI]
  exact ⟨i, j, rfl, ev.giv (.int _) q hq⟩
theorem rp_lstI {K : PySem.W.Frag} {F H : Hp} {v : V} {ds : List D} (s : Same F H) (r : Rp K F v (.lst ds)) : ∃ a vs, v = .ref a ∧ SqL K H a vs ∧ RpL K F vs ds := by
  cases r with
  | lst h r => exact ⟨_, _, rfl, SqL.of (s _ _ h), r⟩
theorem cd_any : CD S (.builtin "any") oAny := fun X f => (cr_any f.calm).imp fun vs H Q ⟨G, F, σ, ρ, ds, Qd, ev, rl, ⟨bs, e, q⟩, hq⟩ => by
  subst e
  obtain ⟨u, rfl, r⟩ := rl.one
  obtain ⟨a, ws, rfl, h, rr⟩ := rp_lstI ev.sub r
  rw [f.K]
  exact ⟨a, bs, rfl, rr.bls ▸ h, ev.giv (.bl _) q hq⟩
theorem cd_all : CD S (.builtin "all") oAll := fun X f => (cr_all f.calm).imp fun vs H Q ⟨G, F, σ, ρ, ds, Qd, ev, rl, ⟨bs, e, q⟩, hq⟩ => by
  subst e
  obtain ⟨u, rfl, r⟩ := rl.one
  obtain ⟨a, ws, rfl, h, rr⟩ := rp_lstI ev.sub r
  rw [f.K]
  exact ⟨a, bs, rfl, rr.bls ▸ h, ev.giv (.bl _) q hq⟩
theorem cd_sum : CD S (.builtin "sum") oSum := fun X f => (cr_sum f.calm).imp fun vs H Q ⟨G, F, σ, ρ, ds, Qd, ev, rl, ⟨bs, e, q⟩, hq⟩ => by
  subst e
  obtain ⟨u, rfl, r⟩ := rl.one
  obtain ⟨a, ws, rfl, h, rr⟩ := rp_lstI ev.sub r
  rw [f.K]
  exact ⟨a, bs, rfl, rr.ints ▸ h, ev.giv (.int _) q hq⟩
theorem cd_str : CD S (.type "str") oStrI := fun X f => call_str_int.imp fun vs H Q ⟨G, F, σ, ρ, ds, Qd, ev, rl, ⟨i, e, hi, q⟩, hq⟩ => by
  subst e
  obtain ⟨u, rfl, r⟩ := rl.one
  rw [r.intI]
  exact ⟨i, rfl, hi, ev.giv (.str _) q hq⟩
open PySem.W in
/-- two lists side by side -/
theorem each_zip {X : Cx} {pins : List (Addr × Obj)} {σ : St} {H F : Hp} {s : Shared} (I : Inv X pins σ H s) (sub : Same F H) : ∀ {vs : List V} {us : List Value} {ds : List D}, Vals vs us → RpL X.K F vs ds → (∀ d ∈ ds, (toPy d).isSome = true) →
    EachIs (fun u (b : V × D) => RelV b.1 u) us (vs.zip ds) ∧ EachIs (fun u (b : V × D) => ∃ as, Reads s.heap u (keyD b.2) as) us (vs.zip ds)
  | _, _, _, .nil, .nil, _ => ⟨.nil, .nil⟩
  | _, _, _, .cons r t, .cons p q, h => by
    obtain ⟨h1, h2⟩ := each_zip I sub t q fun d hd => h d (List.mem_cons_of_mem _ hd)
    have hs := h _ List.mem_cons_self
    refine ⟨.cons r h1, .cons ?_ h2⟩
    obtain ⟨y, hy⟩ := Option.isSome_iff_exists.mp hs
    obtain ⟨as, ra⟩ := Dp.reads I y _ _ (p.dp sub hy) r
    exact ⟨as, by show Reads s.heap _ ((toPy _).getD .none) as; rw [hy]; exact ra⟩
theorem vals_each : ∀ {us : List Value} {bs : List (V × D)}, PySem.W.EachIs (fun u b => RelV b.1 u) us bs → Vals (bs.map (·.1)) us
  | _, _, .nil => .nil
  | _, _, .cons r t => .cons r (vals_each t)
theorem rpl_zip {K : PySem.W.Frag} {F : Hp} : ∀ {vs : List V} {ds : List D}, RpL K F vs ds → ∀ b ∈ vs.zip ds, Rp K F b.1 b.2
  | _, _, .nil, _, h => by simp at h
  | _, _, .cons r t, b, h => by
    rw [List.zip_cons_cons] at h
    rcases List.mem_cons.mp h with e | h
    · rw [e]; exact r
    · exact rpl_zip t b h
theorem rpl_of {K : PySem.W.Frag} {F : Hp} : ∀ (bs : List (V × D)), (∀ b ∈ bs, Rp K F b.1 b.2) → RpL K F (bs.map (·.1)) (bs.map (·.2))
  | [], _ => .nil
  | b :: bs, h => .cons (h _ List.mem_cons_self) (rpl_of bs fun c hc => h c (List.mem_cons_of_mem _ hc))
open PySem.W in
theorem cd_sorted : CD S (.builtin "sorted") oSorted := fun X f => by
  intro pins s σ0 H vs us Q I rv ⟨G, F, σ, ρ, ds, Qd, ev, rl, ⟨x, xs, e, e2, hs, hal, hk, hdp, q⟩, hq⟩
  subst e
  obtain ⟨u, rfl, r⟩ := rl.one
  obtain ⟨a, ws, rfl, h, rr⟩ := rp_sq ev.sub r e2
  rw [← f.K] at h rr
  rw [Vals.ref1 rv]
  obtain ⟨T, hT, its, rv2, ob, ho, hc, n, hd, hz⟩ : ∃ T, (T = "list" ∨ T = "tuple") ∧ ∃ its : List Value, Vals ws its ∧ ∃ ob, s.heap.get? a = some ob ∧ ob.cls = .type T ∧ ∃ n, ob.data = .seq its.toArray n ∧ ws.length ≤ sizeLine := by
    rcases h with h | h
    · obtain ⟨its, rv2, pl, hz⟩ := I.list h
      obtain ⟨o, ho, hc, n, hd⟩ := pl.isList
      exact ⟨_, .inl rfl, its, rv2, o, ho, hc, n, hd, hz⟩
    · obtain ⟨its, rv2, pl, hz⟩ := I.tuple h
      obtain ⟨o, ho, hc, n, hd⟩ := pl
      exact ⟨_, .inr rfl, its, rv2, o, ho, hc, n, hd, hz⟩
  obtain ⟨z1, z2⟩ := each_zip I ev.sub rv2 rr hs
  have em : (ws.zip xs).map (fun b => keyD b.2) = xs.map keyD := by
    rw [show (fun b : V × D => keyD b.2) = keyD ∘ (·.2) from rfl, ← List.map_map, List.map_snd_zip (Nat.le_of_eq rr.len.symm)]
  have hlen : (ws.zip xs).length = ws.length := by rw [List.length_zip, rr.len, Nat.min_self]
  refine sorted_seq (bs := ws.zip xs) (enc := fun b => keyD b.2) (R := fun u b => RelV b.1 u) hT ho hc hd z1 z2 (by rw [em]; exact hal) (by rw [em]; exact hk) (by rw [hlen]; exact hz) (fun b hb => ?_) fun h1 h' p out c k1 k2 hp hg hol hos => ?_
  · have := hdp b.2 (List.of_mem_zip hb).2
    have := f.room.un
    show X.A.units + 2 + (keyD b.2).depth < cLine
    omega
  · have hval := vals_each hos
    have I1 : Inv X pins σ0 H { s with heap := h1 } := I.kept (t' := s.toks) k1
    have hlz : (((ws.zip xs).mergeSort (dataLe false fun b => keyD b.2)).map (·.1)).length ≤ sizeLine := by
      rw [List.length_map, List.length_mergeSort, hlen]; exact hz
    have hn : H p = none := I1.hok.fresh hp
    have I2 : Inv X pins σ0 (upd H p (.lst (((ws.zip xs).mergeSort (dataLe false fun b => keyD b.2)).map (·.1)))) { s with heap := h' } :=
      I1.laid (t' := s.toks) k2 hp (show ObjOk X.prog X.w _ _ _ (.lst _) from ⟨hlz, out, c, hval, hg⟩)
    refine ⟨.ref p, _, I2, rfl, ?_⟩
    refine ev.newL (ds := xs.mergeSort (dataLe false keyD)) hn ?_ q hq
    have e3 : ((ws.zip xs).mergeSort (dataLe false fun b => keyD b.2)).map (·.2) = xs.mergeSort (dataLe false keyD) := by
      rw [List.map_mergeSort (r := dataLe false fun b : V × D => keyD b.2) (s := dataLe false keyD) (f := fun b => b.2) (fun _ _ _ _ => rfl), List.map_snd_zip (Nat.le_of_eq rr.len.symm)]
    rw [← e3, ← f.K]
    refine rpl_of _ fun b hb => rpl_zip rr b ?_
    exact (List.mergeSort_perm _ _).mem_iff.mp hb
end
end DL
set_option maxHeartbeats 4000000
namespace DL
open PySem PySem.Spec PyProof.Rows L2

/-! ### calls of built-ins -/
def woCB (o : List D → (SV → Prop) → Prop) (r : WA) : WO := fun G ρ Q => r G ρ fun ds => o ds Q
theorem cb_imp {K : PySem.W.Frag} {o : List D → (SV → Prop) → Prop} {r : WA} (σ : St) (H : Hp) (Q : VK) : tO K (woCB o r) σ H Q → tCB (rD K o) (tA K r) σ H Q := fun ⟨G, F, ρ, Qd, ev, hw, hq⟩ =>
  ⟨G, F, ρ, _, ev, hw, fun vs H1 F1 ds s1 e1 f1 r1 q1 => ⟨G, F1, σ, ρ, ds, Qd, e1, r1, q1, fun v H' F' sv s2 e2 f2 r2 q2 => hq v H' F' sv (s1.trans s2) e2 (f1.trans f2) (r2.back f1) q2⟩⟩
section
variable {S : Sta} {x : Str} {e : Expr} {es : List Expr} {p pos : Pos} {id T : String} {o : List D → (SV → Prop) → Prop} {r : WA}
theorem do_callB (h : CD S (.builtin id) o) (hm : S.mg x = none) (hv : bootBuiltins x = some (.builtin id)) (ha : DA S (e :: es) r) (hg : (S.names.lookup x == some .globalImplicit) = true := by kernel_rfl) (hn : x ≠ "__name__" := by decide) (hdb : (x == ("__debug__" : Str)) = false := by decide)
    (he : ∀ env, starEach (e :: es) env = (false, eval e env) :: starEach es env := by intro _; rfl) (hpl : ∀ env, (backTo pos (starEach es env)).any (·.1) = false := by intro _; rfl) : DO S (.Call (.Name x p) (e :: es) [] pos) (woCB o r) := fun X f =>
  (pe_callB (h X f) (glOf f hg) (by rw [f.mg]; exact hm) hv (ha X f) hn hdb (he _) (hpl _)).imp fun σ H Q h => cb_imp σ H Q h
theorem do_callTy (h : CD S (.type T) o) (hm : S.mg x = none) (hv : bootBuiltins x = some (.type T)) (ha : DA S (e :: es) r) (hg : (S.names.lookup x == some .globalImplicit) = true := by kernel_rfl) (hn : x ≠ "__name__" := by decide) (hdb : (x == ("__debug__" : Str)) = false := by decide)
    (he : ∀ env, starEach (e :: es) env = (false, eval e env) :: starEach es env := by intro _; rfl) (hpl : ∀ env, (backTo pos (starEach es env)).any (·.1) = false := by intro _; rfl) : DO S (.Call (.Name x p) (e :: es) [] pos) (woCB o r) := fun X f =>
  (pe_callTy (h X f) (glOf f hg) (by rw [f.mg]; exact hm) hv (ha X f) hn hdb (he _) (hpl _)).imp fun σ H Q h => cb_imp σ H Q h
end
/-! ### isinstance -/
def tyD : D → String
  | .non => "NoneType"
  | .bl _ => "bool"
  | .int _ => "int"
  | .str _ => "str"
  | .tup _ => "tuple"
  | .tix _ => "tuple"
  | .tky _ => "tuple"
  | .lst _ => "list"
  | .dic _ _ => "dict"
  | .ob _ => ""
def isD (T : String) (d : D) : Bool := tyD d == T || (tyD d == "bool" && T == "int")
def wIsi (T : String) (w : W) : W := fun G ρ Q => w G ρ fun d => (∀ a, d ≠ .ob a) ∧ Q (.bl (isD T d))
theorem tyx_of {K : PySem.W.Frag} {F H : Hp} {v : V} {d : D} (s : Same F H) (r : Rp K F v d) (n : ∀ a, d ≠ .ob a) : TyX K H v (.type (tyD d)) := by
  cases r with
  | non => exact .base .non
  | bl b => exact .base (.bl b)
  | int i => exact .base (.int i)
  | str x => exact .base (.str x)
  | tup h r =>
    rcases h with (h | ⟨o, h⟩) | ⟨o, us, n, h1, h2, h3, h4⟩
    · exact .base (.tup (s _ _ h))
    · exact .fTuple (s _ _ h)
    · exact .kTuple h1 h2
  | tix h _ r => exact .fTuple (s _ _ h)
  | tky h r => exact .base (.tup (s _ _ h))
  | lst h r => exact .base (.lst (s _ _ h))
  | @dic a t kvs kds h r =>
    cases t with
    | true => exact .base (.dT (s _ _ h))
    | false => exact .base (.dK (s _ _ h))
  | ob a => exact absurd rfl (n a)
theorem kit_one {K : PySem.W.Frag} {T : String} (hT : T ∈ ["int", "bool", "str", "tuple", "list", "dict"]) : ∀ d : D, (∀ a, d ≠ .ob a) → PySem.W.kitOne K (.type (tyD d)) (.type T) = some (isD T d) := by
  have hk : ∀ t ∈ ["NoneType", "bool", "int", "str", "tuple", "list", "dict"], ∀ T ∈ ["int", "bool", "str", "tuple", "list", "dict"], kitB t T = some (t == T || (t == "bool" && T == "int")) := by decide +kernel
  intro d n
  have hd : tyD d ∈ ["NoneType", "bool", "int", "str", "tuple", "list", "dict"] := by
    cases d with
    | ob a => exact absurd rfl (n a)
    | _ => simp [tyD]
  exact kit_ty (hk _ hd _ hT)
section
variable {S : Sta} {e : Expr} {p p2 pos : Pos} {T : String} {x : Str} {w : W}
theorem de_isi (hm : S.mg "isinstance" = none) (hmx : S.mg x = none) (hx : bootBuiltins x = some (.type T)) (hT : T ∈ ["int", "bool", "str", "tuple", "list", "dict"]) (h : DE S e w) (hg : (S.names.lookup ("isinstance" : Str) == some .globalImplicit) = true := by kernel_rfl) (hgx : (S.names.lookup x == some .globalImplicit) = true := by kernel_rfl)
    (hn : x ≠ "__name__" := by decide) (hd : (x == ("__debug__" : Str)) = false := by decide)
    (hs : ∀ env, starEach [e, .Name x p2] env = (false, eval e env) :: starEach [.Name x p2] env := by intro _; rfl) (hpl : ∀ env, (backTo pos (starEach [.Name x p2] env)).any (·.1) = false := by intro _; rfl) : DE S (.Call (.Name "isinstance" p) [e, .Name x p2] [] pos) (wIsi T w) := fun X f => by
  have ga : PE X (.Name x p2) (tC (.ty T)) := pe_bltn (glOf f hgx) (by rw [f.mg]; exact hmx) hx rfl hn hd
  refine (pe_callB call_isi (glOf f hg) (by rw [f.mg]; exact hm) (by decide +kernel) (pa_cons (h X f) (pa_cons ga pa_nil (by rfl)) (hs _)) (by decide) (by decide) (hs _) (hpl _)).imp fun σ H Q ⟨G, F, ρ, Qd, ev, hw, hq⟩ => ?_
  refine ⟨G, F, ρ, _, ev, hw, fun v H1 F1 d s1 e1 f1 r1 ⟨n, q1⟩ => ?_⟩
  exact ⟨v, .ty T, .type (tyD d), .type T, isD T d, rfl, .ty T, tyx_of e1.sub (by rw [f.K]; exact r1) n, kit_one hT d n, hq _ H1 F1 _ s1 e1 f1 (.bl _) q1⟩
end

/-! ### operators over data -/
def r2D (K : PySem.W.Frag) (o : D → D → (SV → Prop) → Prop) : R2 := fun x y H Q => ∃ G F σ ρ d e Qd, EvR K G F H σ ρ ∧ Rp K F x d ∧ Rp K F y e ∧ o d e Qd ∧
  ∀ v H' F' sv, Same F F' → EvR K G F' H' σ ρ → Fr G H H' → RpO K G F' H H' v sv → Qd sv → Q v H'
def OD (S : Sta) (f : Value → Value → Sem Value) (o : D → D → (SV → Prop) → Prop) : Prop := ∀ X, Fam S X → OpR X f (r2D S.K o)
theorem opo {K : PySem.W.Frag} {o : D → D → (SV → Prop) → Prop} : OpO K (r2D K o) o := fun G F σ H ρ v1 d1 v2 d2 Qd Q ev r1 r2 h hq => ⟨G, F, σ, ρ, d1, d2, Qd, ev, r1, r2, h, hq⟩
theorem _root_.L2.OpR.imp {X : Cx} {f : Value → Value → Sem Value} {r r' : R2} (h : OpR X f r) (i : ∀ x y H Q, r' x y H Q → r x y H Q) : OpR X f r' := fun pins s σ H x y v u Q I rx ry q => h pins s σ H x y v u Q I rx ry (i x y H Q q)
def oAdd : D → D → (SV → Prop) → Prop := fun x y Q => (∃ i j, x = .int i ∧ y = .int j ∧ Q (.fz (.int (i + j)))) ∨ (∃ a b, x = .str a ∧ y = .str b ∧ a.length + b.length ≤ sizeLine ∧ Q (.fz (.str (a ++ b)))) ∨
  (∃ a b, x = .lst a ∧ y = .lst b ∧ a.length + b.length ≤ sizeLine ∧ Q (.ow (a ++ b))) ∨ (∃ a b, tupsOf x = some a ∧ tupsOf y = some b ∧ a.length + b.length ≤ sizeLine ∧ Q (.fz (.tup (a ++ b))))
def oMul : D → D → (SV → Prop) → Prop := fun x y Q => (∃ i j, x = .int i ∧ y = .int j ∧ CMul i j ∧ Q (.fz (.int (i * j)))) ∨
  (∃ a k, x = .lst a ∧ y = .int k ∧ (-(2 ^ 63) ≤ k ∧ k < 2 ^ 63 ∧ a.length * k.toNat ≤ sizeLine) ∧ Q (.ow (List.replicate k.toNat a).flatten)) ∨
  (∃ a k, tupsOf x = some a ∧ y = .int k ∧ (a ≠ [] ∧ 2 ≤ k ∧ k ≤ 1000 ∧ a.length ≤ 1000) ∧ Q (.fz (.tup (List.replicate k.toNat a).flatten)))
theorem rp_lstH {K : PySem.W.Frag} {F H : Hp} {v : V} {ds : List D} (s : Same F H) (r : Rp K F v (.lst ds)) : ∃ a vs, v = .ref a ∧ H a = some (.lst vs) ∧ RpL K F vs ds := by
  cases r with
  | lst h r => exact ⟨_, _, rfl, s _ _ h, r⟩
theorem rp_tupsH {K : PySem.W.Frag} {F H : Hp} {v : V} {d : D} {ds : List D} (s : Same F H) (r : Rp K F v d) (e : tupsOf d = some ds) : ∃ a vs, v = .ref a ∧ SqT K H a vs ∧ RpL K F vs ds ∧ Rp K F v (.tup ds) := by
  obtain ⟨a, vs, rfl, h, rr⟩ := rp_tups r e
  exact ⟨a, vs, rfl, Same.sqt s h, rr, .tup h rr⟩
theorem rp_tupH {K : PySem.W.Frag} {F H : Hp} {v : V} {ds : List D} (s : Same F H) (r : Rp K F v (.tup ds)) : ∃ a vs, v = .ref a ∧ SqT K H a vs ∧ RpL K F vs ds := by
  cases r with
  | tup h r => exact ⟨_, _, rfl, Same.sqt s h, r⟩
section
variable {S : Sta} {a b e : Expr} {pos : Pos} {wa wb w : W} {op : Operator} {o : D → D → (SV → Prop) → Prop}
theorem od_add : OD S (binaryOp .Add) oAdd := fun X f => (op_add.or (op_add_str.or (op_cat.or op_catA))).imp fun x y H Q ⟨G, F, σ, ρ, d, e, Qd, ev, r1, r2, h, hq⟩ => by
  rw [f.K]
  rcases h with ⟨i, j, rfl, rfl, q⟩ | ⟨i, j, rfl, rfl, z, q⟩ | ⟨i, j, rfl, rfl, z, q⟩ | ⟨i, j, g1, g2, z, q⟩
  · rw [r1.intI, r2.intI]
    exact .inl ⟨i, j, rfl, rfl, ev.giv (.int _) q hq⟩
  · rw [r1.strI, r2.strI]
    exact .inr (.inl ⟨i, j, rfl, rfl, z, ev.giv (.str _) q hq⟩)
  · obtain ⟨a, vs, rfl, h1, l1⟩ := rp_lstH ev.sub r1
    obtain ⟨b, us, rfl, h2, l2⟩ := rp_lstH ev.sub r2
    exact .inr (.inr (.inl ⟨a, b, vs, us, rfl, rfl, h1, h2, by rw [l1.len, l2.len]; exact z, fun p hp => ev.newL hp (l1.append l2) q hq⟩))
  · obtain ⟨a, vs, rfl, h1, l1, r1⟩ := rp_tupsH ev.sub r1 g1
    obtain ⟨b, us, rfl, h2, l2, r2⟩ := rp_tupsH ev.sub r2 g2
    refine .inr (.inr (.inr ⟨a, b, vs, us, rfl, rfl, h1, h2, by rw [l1.len, l2.len]; exact z, fun e0 => ?_, fun _ e0 => ?_, fun _ _ p hp => ev.newT hp (l1.append l2) q hq⟩))
    · subst e0
      cases l1
      exact ev.giv r2 q hq
    · subst e0
      cases l2
      rw [List.append_nil] at q
      exact ev.giv r1 q hq
theorem od_mul : OD S (binaryOp .Mult) oMul := fun X f => (op_mul.or (op_rep.or op_repT)).imp fun x y H Q ⟨G, F, σ, ρ, d, e, Qd, ev, r1, r2, h, hq⟩ => by
  rw [f.K]
  rcases h with ⟨i, j, rfl, rfl, z, q⟩ | ⟨i, j, rfl, rfl, z, q⟩ | ⟨i, j, g1, rfl, z, q⟩
  · rw [r1.intI, r2.intI]
    exact .inl ⟨i, j, rfl, rfl, z, ev.giv (.int _) q hq⟩
  · obtain ⟨a, vs, rfl, h1, l1⟩ := rp_lstH ev.sub r1
    rw [r2.intI]
    exact .inr (.inl ⟨a, j, vs, rfl, rfl, h1, z.1, z.2.1, by rw [l1.len]; exact z.2.2, fun p hp => ev.newL hp (l1.rep _) q hq⟩)
  · obtain ⟨a, vs, rfl, h1, l1, _⟩ := rp_tupsH ev.sub r1 g1
    rw [r2.intI]
    exact .inr (.inr ⟨a, j, vs, rfl, rfl, h1, fun e0 => z.1 (by subst e0; cases l1; rfl), z.2.1, z.2.2.1, by rw [l1.len]; exact z.2.2.2, fun p hp => ev.newT hp (l1.rep _) q hq⟩)
theorem do_op (h : OD S (binaryOp op) o) (ha : DE S a wa) (hb : DE S b wb) : DO S (.BinOp a op b pos) (wOpO o wa wb) := fun X f => (pe_op (h X f) (ha X f) (hb X f)).imp (tO_op opo)
def oNeg : D → (D → Prop) → Prop := fun x Q => ∃ i, x = .int i ∧ Q (.int (-i))
def wNeg (w : W) : W := fun G ρ Q => w G ρ fun d => ∃ i, d = .int i ∧ Q (.int (-i))
theorem de_neg (ha : DE S a w) : DE S (.UnaryOp .USub a pos) (wNeg w) := fun X f => (pe_un un_neg (ha X f)).imp fun σ H Q ⟨G, F, ρ, Qd, ev, hw, hq⟩ =>
  ⟨G, F, ρ, _, ev, hw, fun v H1 F1 d s1 e1 f1 r1 ⟨i, ei, q1⟩ => by
    subst ei
    rw [r1.intI]
    exact ⟨i, rfl, hq _ H1 F1 _ s1 e1 f1 (.int _) q1⟩⟩

/-! ### subscripts, slices -/
theorem rpl_at {K : PySem.W.Frag} {F : Hp} {vs : List V} {ds : List D} {i : Int} {d : D} (r : RpL K F vs ds) (h : atI ds i = some d) : ∃ v, atI vs i = some v ∧ Rp K F v d := by
  unfold atI at h ⊢
  rw [r.len]
  cases q : ixN ds.length i with
  | none => rw [q] at h; cases h
  | some j => rw [q] at h; exact r.get h
def oIx : D → D → (D → Prop) → Prop := fun x y Q => ∃ i, y = .int i ∧ ((∃ xs d, itemsOf x = some xs ∧ atI xs i = some d ∧ Q d) ∨ ∃ z c, x = .str z ∧ z.length ≤ sizeLine ∧ atI z.cps.toList i = some c ∧ Q (.str ⟨#[c]⟩))
theorem de_ix (ha : DE S a wa) (hb : DE S b wb) (hs : PlainIx b := by intro _ _; rfl) : DE S (.Subscript a b pos) (wOp oIx wa wb) := fun X f => by
  refine (pe_ix (ix_list.or (ix_tup.or ix_str)) (ha X f) (hb X f) hs).imp (tD_op (K := S.K) fun G F σ H ρ v1 d1 v2 d2 Qd Q ev r1 r2 ⟨i, e2, h⟩ hq => ?_)
  subst e2
  rw [r2.intI, f.K]
  rcases h with ⟨xs, d, e1, e3, q⟩ | ⟨z, c, rfl, hz, e3, q⟩
  · obtain ⟨p, ws, rfl, h, rr⟩ := rp_sq ev.sub r1 e1
    obtain ⟨v, e4, r4⟩ := rpl_at rr e3
    rcases h with h | h
    · exact .inl ⟨p, ws, i, v, rfl, rfl, h, e4, hq v H F d (Same.refl _) ev Fr.refl r4 q⟩
    · exact .inr (.inl ⟨p, ws, i, v, rfl, rfl, h, e4, hq v H F d (Same.refl _) ev Fr.refl r4 q⟩)
  · rw [r1.strI]
    exact .inr (.inr ⟨z, i, c, rfl, rfl, hz, e3, hq _ H F _ (Same.refl _) ev Fr.refl (.str _) q⟩)
abbrev WP := Gc → En → (Option Int → Prop) → Prop
def tP (K : PySem.W.Frag) (w : WP) : TO := fun σ H Q => ∃ G F ρ Qd, EvR K G F H σ ρ ∧ w G ρ Qd ∧ ∀ o H' F', Same F F' → EvR K G F' H' σ ρ → Fr G H H' → Qd o → Q o H'
def DP (S : Sta) (e : Option Expr) (w : WP) : Prop := ∀ X, Fam S X → PO X e (tP S.K w)
theorem _root_.L2.PO.imp {X : Cx} {e : Option Expr} {t t' : TO} (h : PO X e t) (i : ∀ σ H Q, t' σ H Q → t σ H Q) : PO X e t' := ⟨fun pins s σ H Q I q => h.run pins s σ H Q I (i σ H Q q)⟩
def wpNone : WP := fun _ _ Q => Q none
def wpSome (w : W) : WP := fun G ρ Q => w G ρ fun d => ∃ i, d = .int i ∧ Q (some i)
theorem dp_none : DP S none wpNone := fun X f => po_none.imp fun σ H Q ⟨G, F, ρ, Qd, ev, hw, hq⟩ => hq none H F (Same.refl _) ev Fr.refl hw
theorem dp_some (h : DE S e w) : DP S (some e) (wpSome w) := fun X f => (po_some (h X f)).imp fun σ H Q ⟨G, F, ρ, Qd, ev, hw, hq⟩ =>
  ⟨G, F, ρ, _, ev, hw, fun v H1 F1 d s1 e1 f1 r1 ⟨i, ei, q1⟩ => by
    subst ei
    rw [r1.intI]
    exact ⟨i, rfl, hq _ H1 F1 s1 e1 f1 q1⟩⟩
def cutD (xs : List D) (lo hi : Option Int) : List D := (xs.drop (HT.sIx xs.length 0 lo)).take (HT.sIx xs.length xs.length hi - HT.sIx xs.length 0 lo)
def oSl : D → Option Int → Option Int → (SV → Prop) → Prop := fun x lo hi Q => (∃ xs, x = .lst xs ∧ Q (.ow (cutD xs lo hi))) ∨ ∃ xs, tupsOf x = some xs ∧ Q (.fz (.tup (cutD xs lo hi)))
def woSl (w : W) (l h : WP) : WO := fun G ρ Q => w G ρ fun d => l G ρ fun lo => h G ρ fun hi => oSl d lo hi Q
theorem rpl_cut {K : PySem.W.Frag} {F : Hp} {vs : List V} {ds : List D} (r : RpL K F vs ds) (lo hi : Option Int) : RpL K F (cutV vs lo hi) (cutD ds lo hi) := by
  unfold cutV cutD
  rw [r.len]
  exact (r.drop _).take _
theorem cutD_all {xs : List D} {lo hi : Option Int} (h : HT.sIx xs.length 0 lo = 0 ∧ HT.sIx xs.length xs.length hi = xs.length) : cutD xs lo hi = xs := by
  unfold cutD
  rw [h.1, h.2]
  simp
theorem do_slice {lo hi : Option Expr} {l u : WP} {p2 : Pos} (ha : DE S a wa) (hl : DP S lo l) (hu : DP S hi u) : DO S (.Subscript a (.Slice lo hi none p2) pos) (woSl wa l u) := fun X f => (pe_slice (sl_list.or sl_tupA) (ha X f) (hl X f) (hu X f)).imp fun σ H Q ⟨G, F, ρ, Qd, ev, hw, hq⟩ =>
  ⟨G, F, ρ, _, ev, hw, fun v H1 F1 d s1 e1 f1 r1 q1 => ⟨G, F1, ρ, _, e1, q1, fun lo H2 F2 s2 e2 f2 q2 => ⟨G, F2, ρ, _, e2, q2, fun hi H3 F3 s3 e3 f3 q3 => by
    rw [f.K]
    have r3 := r1.mono (s2.trans s3)
    have s4 := s1.trans (s2.trans s3)
    have f4 := f1.trans (f2.trans f3)
    have hq4 : ∀ v H' F' sv, Same F3 F' → EvR S.K G F' H' σ ρ → Fr G H3 H' → RpO S.K G F' H3 H' v sv → Qd sv → Q v H' := fun v H' F' sv s5 e5 f5 r5 q5 => hq v H' F' sv (s4.trans s5) e5 (f4.trans f5) (r5.back f4) q5
    rcases q3 with ⟨xs, rfl, q⟩ | ⟨xs, g1, q⟩
    · obtain ⟨p, vs, rfl, h, rr⟩ := rp_lstI e3.sub r3
      exact .inl ⟨p, vs, rfl, h, fun p hp => e3.newL hp (rpl_cut rr _ _) q hq4⟩
    · obtain ⟨p, vs, rfl, h, rr, r3⟩ := rp_tupsH e3.sub r3 g1
      refine .inr ⟨p, vs, rfl, h, fun hw => ?_, fun _ p hp => e3.newT hp (rpl_cut rr _ _) q hq4⟩
      rw [rr.len] at hw
      rw [cutD_all hw] at q
      exact e3.giv r3 q hq4⟩⟩⟩
def woRev (w : W) : WO := fun G ρ Q => w G ρ fun d => ∃ xs, d = .lst xs ∧ Q (.ow xs.reverse)
theorem do_rev {k : Nat} {p1 p2 p3 : Pos} (ha : DE S a wa) : DO S (.Subscript a (.Slice none none (some (.UnaryOp .USub (.Constant (.int 1) k p1) p2)) p3) pos) (woRev wa) := fun X f => (pe_revL (ha X f)).imp fun σ H Q ⟨G, F, ρ, Qd, ev, hw, hq⟩ =>
  ⟨G, F, ρ, _, ev, hw, fun v H1 F1 d s1 e1 f1 r1 ⟨xs, ed, q1⟩ => by
    subst ed
    obtain ⟨p, vs, rfl, h, rr⟩ := rp_lstI e1.sub r1
    rw [f.K]
    exact ⟨p, vs, rfl, h, fun p hp => e1.newL hp rr.reverse q1 fun v H' F' sv s2 e2 f2 r2 q2 => hq v H' F' sv (s1.trans s2) e2 (f1.trans f2) (r2.back f1) q2⟩⟩
/-! ### list(range(..)) -/
end
end DL
set_option maxHeartbeats 4000000
namespace DL
open PySem PySem.Spec PyProof.Rows L2

/-! ### set(xs) of a list of ints (the kit has it of tuples) -/
section
variable {P : Program} {w : World} {A : Around} {E : Value → Shared → Prop} {s : Shared}
abbrev setNew (w : World) : Obj := { cls := .type "set", dict := none, data := .set #[] 0 (.fresh 0 0 (!w.params.followText "set-order")) }
/-- what set.__init__ leaves -/
def SetDone (w : World) (s : Shared) (ns : List Int) (s2 : Shared) : Prop := ∃ h' tk c, s2 = { s with heap := h', toks := tk } ∧ SetR w h' s.heap.objs.size (fun j => decide (j ∈ ns)) c ∧ c ≤ ns.length ∧ ∀ b o, s.heap.get? b = some o → h'.get? b = some o
theorem set_done {l : Addr} {s' : Shared} {ns : List Int} {c : Nat} {it : Obj} {wr : List Addr} {G : Array GenState → Array GenState → Prop} (hG : ∀ a b, G a b → b = a) (hw : ∀ b ∈ wr, b = (s.heap.push (setNew w)).objs.size)
    (m : Moved (s.heap.objs.size :: wr) G { s with heap := (s.heap.push (setNew w)).push it } s') (hc : c ≤ ns.length) (R : SetR w s'.heap s.heap.objs.size (fun j => decide (j ∈ ns)) c) : SetDone w s ns s' := by
  obtain ⟨h', g, d, tk, os⟩ := s'
  obtain rfl : g = s.gens := hG _ _ m.gens
  obtain rfl : d = s.drawn := m.drawn
  obtain rfl : os = s.os := m.os
  refine ⟨h', tk, c, rfl, R, hc, fun b o e => ?_⟩
  have lt := Heap.lt_size e
  refine m.heap b o (fun hb => ?_) (Heap.get?_push_of_some _ (Heap.get?_push_of_some _ e))
  rcases List.mem_cons.mp hb with z | z
  · exact Nat.lt_irrefl _ (z ▸ lt)
  · have z := hw b z
    rw [Heap.size_push] at z
    rw [z] at lt
    exact Nat.not_lt_of_le (Nat.le_succ _) lt
set_option maxHeartbeats 8000000 in
theorem call_set_ints {l : Addr} {items : Array Value} (ns : List Int) {Q : Value → Shared → Prop} (hh : A.handled = none) (hl : s.heap.IsList l items) (hit : IntsAre items.toList ns) (hb : ns.length + 1 < scanBound) (h : ∀ s', SetDone w s ns s' → Q (.ref s.heap.objs.size) s') :
    wpAny (model P w) A (call (.type "set") [.ref l]) Q E s := by
  have hn : items.size = ns.length := by simpa using IntsAre.length hit
  obtain ⟨c0, t0, m0⟩ := F.called_set.mro
  have m1 := F.called_set.made
  have m2 := F.called_set.sub
  have m3 := F.called_set.notType
  have m4 := F.called_set.canCreate
  have m5 := F.typeCall_set_1 (.ref l)
  apply wpAny_call
  apply codeAny_of_tree
  show wpAny _ _ (callAny (.type "set") _) _ _ _
  apply wpAny_pure
  refine ⟨Code.quiet_builtin _ (by decide +kernel), codeAny_builtin F.entry_type_call ?_⟩
  rw [Around.under_plain (weight_type_call_type "set" [.ref l] []) rfl]
  repeat (any_goals (first | assumption | wp_step))
  refine codeAny_mono (code_set_led1 (.ref l) (E := E) (Q₁ := fun v t => v = .ref s.heap.objs.size ∧ t = { s with heap := s.heap.push (setNew w) }) ⟨rfl, rfl⟩) fun r t ht => ?_
  rcases r with e | fl
  · exact ht
  cases fl with
  | ret v =>
    obtain ⟨rfl, rfl⟩ := ht
    have at0 : (s.heap.push (setNew w)).get? s.heap.objs.size = some (setNew w) := Heap.get?_push_size _ rfl
    have ty0 : Shared.TypeIs { s with heap := s.heap.push (setNew w) } (.ref s.heap.objs.size) "set" := ⟨_, at0, rfl⟩
    have m6 := F.called_set.init.lookup
    have m7 := F.called_set.init.bind (.ref s.heap.objs.size)
    repeat (any_goals (first | assumption | wp_step))
    refine codeAny_mono (codeAny_call_builtin (R := wants (fun r t => r = .none ∧ SetDone w s ns t) E) F.called_set.init.plain F.entry_set_init (check_set_init_1 ty0 ?_)) fun r t ht => ?_
    · have hl1 : (s.heap.push (setNew w)).IsList l items := hl.push _
      obtain ⟨⟨oc, od, da, sl⟩, ho, hc, k, hd⟩ := id hl1
      obtain rfl : oc = _ := hc
      obtain rfl : da = _ := hd
      have lt := Heap.lt_size (show s.heap.get? l = some hl.choose from hl.choose_spec.1)
      have n1 := F.sub_list_set
      have n2 := F.sub_list_frozenset
      have n3 : (Value.type "list" == Value.type "dict") = false := by decide
      unfold Builtin.«set.__init__» noKeywords Builtin.Frozenset.updateFrom
      generalize hI : pyIter = J
      wp_walk
      subst hI
      refine wpAny_pyIter_list hl1 (wpAny_bind (wpAny_runValue ?_))
      have sz : (s.heap.push (setNew w)).objs.size = s.heap.objs.size + 1 := Heap.size_push ..
      have ne : l ≠ (s.heap.push (setNew w)).objs.size := fun z => by
        rw [z, sz] at lt
        exact Nat.not_lt_of_le (Nat.le_succ _) lt
      refine set_update_ints ((Walks.list (by simp [hh]) _ l ne items).toS) s.heap.objs.size (fun q => ?_) ns hn hb (fun i v q => ?_) (items.size - 0) 0 _ (by omega) (Nat.zero_le _) ⟨⟨_, Heap.get?_push_size _ rfl, rfl, rfl⟩, hl1.push _⟩ ⟨0, Nat.le_refl 0, setR_new_at (Heap.get?_push_of_some _ at0)⟩ fun s' c m hc R => ?_
      · simp only [List.mem_cons, List.not_mem_nil, or_false] at q
        rcases q with z | z
        · rw [sz] at z
          exact Nat.ne_of_lt (Nat.lt_succ_self _) z
        · rw [← z] at lt
          exact Nat.lt_irrefl _ lt
      · have q' : items.toList[i]? = some v := by simpa using q
        have hi : i < ns.length := by rw [← hn]; exact (Array.getElem?_eq_some_iff.mp q).1
        obtain ⟨t, e⟩ := PyProof.Rows.IntsAre.int_at hit i v q'
        exact ⟨ns[i], t, List.getElem?_eq_getElem hi, by rw [e, List.getD_eq_getElem?_getD, List.getElem?_eq_getElem hi]; rfl⟩
      · show wpAny _ _ _ _ _ _
        apply wpAny_pure
        show wpAny _ _ (ret Value.none) _ _ _
        exact wpAny_pure ⟨rfl, set_done (l := l) (fun _ _ z => z) (fun b z => List.mem_singleton.mp z) m (by rw [← hn]; exact hc) R⟩
    · rcases r with e | fl
      · exact ht
      cases fl with
      | ret v =>
        obtain ⟨rfl, k, tk, c, rfl, R⟩ := ht
        repeat (any_goals (first | assumption | wp_step))
        exact h _ ⟨k, tk, c, rfl, R⟩
      | _ => exact ht.elim
  | _ => exact ht.elim
end
end DL
set_option maxHeartbeats 4000000
namespace DL
open PySem PySem.Spec PyProof.Rows L2

/-! ### sorted(set(xs)) -/
def rSetL (K : PySem.W.Frag) (w : World) : List V → Hp → VK → Prop := fun xs H Q => ∃ (a : Addr) (ns : List Int), xs = [.ref a] ∧ SqL K H a (ns.map V.int) ∧ ns.length + 1 < scanBound ∧ ∀ p n, H p = none → n ≤ ns.length → Q (.ref p) (upd H p (SetO w p (fun j => decide (j ∈ ns)) n))
theorem cr_setL {X : Cx} (hc : X.calm = true) : CallR X (.type "set") (rSetL X.K X.w) := by
  intro pins s σ H xs us Q I rv ⟨a, ns, e, hs, hb, q⟩
  subst e
  rw [Vals.ref1 rv]
  obtain ⟨its, rr, pl, hz⟩ := I.list hs
  refine call_set_ints ns (I.ok.hd hc) pl.isList rr.ints hb fun s' ⟨h', tk, c, e, R, hcn, kp⟩ => ?_
  subst e
  exact ⟨.ref _, _, I.laid (t' := tk) kp (Nat.le_refl _) (setO_new R), rfl, q _ c (I.hok.fresh (Nat.le_refl _)) hcn⟩
/-- what stands in the heap besides -/
theorem EvR.ext {K : PySem.W.Frag} {G : Gc} {F H : Hp} {σ : St} {ρ : En} (e : EvR K G F H σ ρ) {p : Addr} {o : HO} (h : H p = none) : EvR K G F (upd H p o) σ ρ := e.liveO h
def woSortSet (w : W) : WO := fun G ρ Q => w G ρ fun d => ∃ ns : List Int, d = .lst (ns.map .int) ∧ ns.length < 64 ∧ ∀ ms : List Int, ms.Pairwise (· < ·) → (∀ k, k ∈ ms ↔ k ∈ ns) → Q (.ow (ms.map .int))
section
variable {S : Sta} {a b e : Expr} {es : List Expr} {p p2 pos pos2 : Pos} {w : W} {x : Str}
theorem do_sortSet (hm : S.mg "sorted" = none) (hm2 : S.mg "set" = none) (h : DE S e w) (hg : (S.names.lookup ("sorted" : Str) == some .globalImplicit) = true := by kernel_rfl) (hg2 : (S.names.lookup ("set" : Str) == some .globalImplicit) = true := by kernel_rfl)
    (he : ∀ env, starEach [.Call (.Name "set" p2) [e] [] pos2] env = (false, eval (.Call (.Name "set" p2) [e] [] pos2) env) :: starEach [] env := by intro _; rfl) (he2 : ∀ env, starEach [e] env = (false, eval e env) :: starEach [] env := by intro _; rfl) :
    DO S (.Call (.Name "sorted" p) [.Call (.Name "set" p2) [e] [] pos2] [] pos) (woSortSet w) := fun X f => by
  have h1 : PE X (.Call (.Name "set" p2) [e] [] pos2) _ := pe_callTy (cr_setL f.calm) (glOf f hg2) (by rw [f.mg]; exact hm2) (by decide +kernel) (pa_cons (h X f) pa_nil (he2 _)) (by decide) (by decide) (he2 _) rfl
  refine (pe_callB (cr_sortedSet f.calm) (glOf f hg) (by rw [f.mg]; exact hm) (by decide +kernel) (pa_cons h1 pa_nil (he _)) (by decide) (by decide) (he _) rfl).imp fun σ H Q ⟨G, F, ρ, Qd, ev, hw, hq⟩ => ?_
  refine ⟨G, F, ρ, _, ev, hw, fun v H1 F1 d s1 e1 f1 r1 ⟨ns, ed, hn, q1⟩ => ?_⟩
  subst ed
  obtain ⟨q, vs, rfl, hs, rr⟩ := rp_lstI e1.sub r1
  rw [f.K]
  refine ⟨q, ns, rfl, rr.ints ▸ hs, by have : scanBound > 65 := by decide
                                       omega, fun t n ht hle => ?_⟩
  refine ⟨t, _, n, rfl, upd_same, by omega, fun ms p2 hp hm _ hp2 => ?_⟩
  have e2 := e1.ext (o := SetO X.w t (fun j => decide (j ∈ ns)) n) ht
  exact e2.newL hp2 RpL.of_ints (q1 ms hp fun k => by rw [hm]; exact decide_eq_true_iff) fun v H' F' sv s2 e3 f2 r2 q2 => hq v H' F' sv (s1.trans s2) e3 (f1.trans ((Fr.upd ht).trans f2)) (r2.back (f1.trans (Fr.upd ht))) q2

/-! ### list(range(..)) -/
def woListRg1 (w : W) : WO := fun G ρ Q => w G ρ fun d => ∃ n : Int, d = .int n ∧ -(2 ^ 62) ≤ n ∧ n ≤ 2 ^ 24 ∧ Q (.ow (rangeD 0 n.toNat))
def woListRg2 (w w2 : W) : WO := fun G ρ Q => w G ρ fun d => w2 G ρ fun e => ∃ m n : Int, d = .int m ∧ e = .int n ∧ RgOk m n ∧ Q (.ow (rangeD m (n - m).toNat))
theorem rg_rp {K : PySem.W.Frag} {F : Hp} (m n : Int) : RpL K F (rgV m n) (rangeD m (n - m).toNat) := by
  have h : ∀ l : List Nat, RpL K F (l.map fun i : Nat => V.int (m + (i : Nat))) (l.map fun i : Nat => D.int (m + (i : Nat))) := fun l => by
    induction l with
    | nil => exact .nil
    | cons i l ih => exact .cons (.int _) ih
  exact h _
theorem do_listRg1 (hm : S.mg "list" = none) (hm2 : S.mg "range" = none) (h : DE S e w) (hg : (S.names.lookup ("list" : Str) == some .globalImplicit) = true := by kernel_rfl) (hg2 : (S.names.lookup ("range" : Str) == some .globalImplicit) = true := by kernel_rfl)
    (he : ∀ env, starEach [.Call (.Name "range" p2) [e] [] pos2] env = (false, eval (.Call (.Name "range" p2) [e] [] pos2) env) :: starEach [] env := by intro _; rfl) (he2 : ∀ env, starEach [e] env = (false, eval e env) :: starEach [] env := by intro _; rfl) :
    DO S (.Call (.Name "list" p) [.Call (.Name "range" p2) [e] [] pos2] [] pos) (woListRg1 w) := fun X f =>
  (pe_listRg f.calm (glOf f hg) (by rw [f.mg]; exact hm) (prg_1 (glOf f hg2) (by rw [f.mg]; exact hm2) (h X f) (he2 _)) (he _)).imp fun σ H Q ⟨G, F, ρ, Qd, ev, hw, hq⟩ =>
    ⟨G, F, ρ, _, ev, hw, fun v H1 F1 d s1 e1 f1 r1 ⟨n, ed, h1, h2, q1⟩ => by
      subst ed
      rw [r1.intI]
      refine ⟨n, rfl, ⟨by omega, by omega, by omega, by omega, by omega⟩, fun q hq2 => ?_⟩
      have e3 := rg_rp (K := S.K) (F := F1) 0 n
      rw [Int.sub_zero] at e3
      exact e1.newL hq2 e3 q1 fun v H' F' sv s2 e2 f2 r2 q2 => hq v H' F' sv (s1.trans s2) e2 (f1.trans f2) (r2.back f1) q2⟩

/-! ### repr(x) -/
mutual
theorem toPy_nodict : ∀ {d : D} {p : PyData}, toPy d = some p → p.hasDict = false
  | .non, _, e => by cases e; rfl
  | .bl _, _, e => by cases e; rfl
  | .int _, _, e => by cases e; rfl
  | .str _, _, e => by cases e; rfl
  | .tup xs, p, e => by
    unfold toPy at e
    cases q : toPyL xs with
    | none => rw [q] at e; cases e
    | some ps => rw [q] at e; cases e; show PyData.hasDictAll ps = false; exact toPyL_nodict q
  | .tix xs, p, e => by
    unfold toPy at e
    cases q : toPyL xs with
    | none => rw [q] at e; cases e
    | some ps => rw [q] at e; cases e; show PyData.hasDictAll ps = false; exact toPyL_nodict q
  | .tky xs, p, e => by
    unfold toPy at e
    cases q : toPyL xs with
    | none => rw [q] at e; cases e
    | some ps => rw [q] at e; cases e; show PyData.hasDictAll ps = false; exact toPyL_nodict q
  | .lst xs, p, e => by
    unfold toPy at e
    cases q : toPyL xs with
    | none => rw [q] at e; cases e
    | some ps => rw [q] at e; cases e; show PyData.hasDictAll ps = false; exact toPyL_nodict q
  | .dic _ _, _, e => by cases e
  | .ob _, _, e => by cases e
theorem toPyL_nodict : ∀ {ds : List D} {ps : List PyData}, toPyL ds = some ps → PyData.hasDictAll ps = false
  | [], _, e => by cases e; rfl
  | d :: ds, ps, e => by
    unfold toPyL at e
    cases q : toPy d with
    | none => rw [q] at e; cases e
    | some p =>
      rw [q] at e
      cases q2 : toPyL ds with
      | none => rw [q2] at e; cases e
      | some r => rw [q2] at e; cases e; show (p.hasDict || PyData.hasDictAll r) = false; rw [toPy_nodict q, toPyL_nodict q2]; rfl
end
theorem cd_repr : CD S (.builtin "repr") oRepr := fun X f => by
  intro pins s σ0 H vs us Q I rv ⟨G, F, σ, ρ, ds, Qd, ev, rl, ⟨x, pd, e, e2, hs, hd, hsz, q⟩, hq⟩
  subst e
  obtain ⟨u, rfl, r⟩ := rl.one
  obtain ⟨u1, rfl, r1⟩ := vals1 rv
  have nd := toPy_nodict e2
  have dp := r.dp ev.sub e2
  rw [← f.K] at dp
  obtain ⟨as, ra⟩ := Dp.reads I pd u u1 dp r1
  have fin : ∀ {h' : Heap} {tk : Nat} {t : Tok}, (∀ b o, s.heap.get? b = some o → h'.get? b = some o) → EP X pins σ0 Q (.str pd.shown t) { s with heap := h', toks := tk } := fun {h' tk t} k =>
    ⟨.str pd.shown, H, I.kept (t' := tk) k, ⟨t, rfl⟩, ev.giv (.str _) q hq⟩
  have un : X.A.units + (pd.depth + 1) < cLine := by have := f.room.un; omega
  have box : isDisplay pd = true → wpAny (model X.prog X.w) X.A (call (.builtin "repr") [u1]) (EP X pins σ0 Q) X.xe s := fun hb => by
    obtain ⟨a, rfl⟩ := isRef_of_reads ra hb
    exact repr_of_reads' ra hs (PyData.noDict_hsm nd) f.ns un (fun _ _ z => z) (fun h' u tk hk => fin hk) hsz
  cases pd with
  | none => cases dp; cases r1; exact PySem.P.repr_of_none (fin fun _ _ e => e)
  | bool b => cases dp; cases r1; exact PySem.P.repr_of_bool (fin fun _ _ e => e)
  | int i => cases dp; obtain ⟨t, rfl⟩ := r1; exact PySem.P.repr_of_int (by simpa [PyData.showable] using hs) (fin fun _ _ e => e)
  | str z => cases dp; obtain ⟨t, rfl⟩ := r1; exact PySem.P.repr_of_str (fin fun _ _ e => e) hsz
  | list l => exact box rfl
  | tuple l => exact box rfl
  | dict l => cases dp
end
end DL
set_option maxHeartbeats 4000000
namespace DL
open PySem PySem.Spec PyProof.Rows L2

/-! ### f(k = v, ..), all by name -/
def permL {α : Type} (is : List Nat) (zs : List α) : List α := is.filterMap fun i => zs[i]?
theorem permL_cons {α : Type} (i : Nat) (is : List Nat) (zs : List α) : permL (i :: is) zs = (match zs[i]? with | some z => z :: permL is zs | none => permL is zs) := by
  unfold permL
  rw [List.filterMap_cons]
  cases zs[i]? <;> rfl
theorem vals_at {vs : List V} {us : List Value} (r : Vals vs us) (i : Nat) : (vs[i]? = none ∧ us[i]? = none) ∨ ∃ v u, vs[i]? = some v ∧ us[i]? = some u ∧ RelV v u := by
  induction r generalizing i with
  | nil => exact .inl ⟨by simp, by simp⟩
  | cons h t ih =>
    cases i with
    | zero => exact .inr ⟨_, _, by simp, by simp, h⟩
    | succ i => simpa using ih i
theorem permL_vals {vs : List V} {us : List Value} (r : Vals vs us) : ∀ is : List Nat, Vals (permL is vs) (permL is us)
  | [] => .nil
  | i :: is => by
    rw [permL_cons, permL_cons]
    rcases vals_at r i with ⟨h1, h2⟩ | ⟨v, u, h1, h2, h3⟩
    · rw [h1, h2]; exact permL_vals r is
    · rw [h1, h2]; exact .cons h3 (permL_vals r is)
theorem permL_rpl {K : PySem.W.Frag} {F : Hp} {vs : List V} {ds : List D} (r : RpL K F vs ds) : ∀ is : List Nat, RpL K F (permL is vs) (permL is ds)
  | [] => .nil
  | i :: is => by
    rw [permL_cons, permL_cons]
    cases h : ds[i]? with
    | some d =>
      obtain ⟨v, h1, h2⟩ := r.get h
      rw [h1]; exact .cons h2 (permL_rpl r is)
    | none =>
      have h1 : vs[i]? = none := by
        rw [List.getElem?_eq_none_iff] at h ⊢
        rw [r.len]; exact h
      rw [h1]; exact permL_rpl r is
def kwG {α : Type} (n : Nat) (is : List Nat) (us ws : List α) : List α := match us with
  | [] => if ws.length = n then permL is ws else []
  | _ => []
theorem kwG_nil {α : Type} {n : Nat} {is : List Nat} {ws : List α} (h : ws.length = n) : kwG n is [] ws = permL is ws := by unfold kwG; rw [if_pos h]
def DK (S : Sta) (kws : List Keyword) (r : WA) : Prop := ∀ X, Fam S X → PK X kws (tA S.K r)
theorem _root_.L2.PK.imp {X : Cx} {es : List Keyword} {t t' : TA} (h : PK X es t) (i : ∀ σ H Q, t' σ H Q → t σ H Q) : PK X es t' := ⟨fun pos pins s σ H Q I q => h.run pos pins s σ H Q I (i σ H Q q)⟩
def woCallK (n : Nat) (is : List Nat) (sp : FS) (r : WA) : WO := fun G ρ Q => r G ρ fun ds => ds.length = n ∧ sp G (permL is ds) Q
section
variable {S : Sta} {a b c e : Expr} {es : List Expr} {p p2 pos kpos : Pos} {w : W} {x : Str} {r : WA} {kws : List Keyword} {nm : Option Str}
theorem dk_nil : DK S [] waNil := fun X f => pk_nil.imp fun σ H Q ⟨G, F, ρ, Qd, ev, q, hq⟩ => hq [] H F [] (Same.refl _) ev Fr.refl .nil q
theorem dk_cons (ha : DE S e w) (hr : DK S kws r) : DK S (⟨nm, e, kpos⟩ :: kws) (waCons w r) := fun X f =>
  (pk_cons (ha X f) (hr X f)).imp fun σ H Q ⟨G, F, ρ, Qd, ev, hw, hq⟩ =>
    ⟨G, F, ρ, _, ev, hw, fun v1 H1 F1 d1 s1 e1 f1 r1 q1 => ⟨G, F1, ρ, _, e1, q1, fun vs H2 F2 ds s2 e2 f2 r2 q2 => hq (v1 :: vs) H2 F2 (d1 :: ds) (s1.trans s2) e2 (f1.trans f2) (.cons (r1.mono s2) r2) q2⟩⟩
theorem do_callK {j : Nat} {st : Stmt} {ps ks : List Str} {sp : FS} {is : List Nat} (h : Kn S.toBs j x st ps sp) (hj : j ≤ S.k) (hr : DK S kws r) (hp : ps ≠ [])
    (hb : ∀ (kV doc pm : Value) (an : Option Addr) (cdv ct : Value) (ws : List Value), ws.length = ks.length → bindArgs (PySem.W.fnOf x x (defArgs st) (defBody st) (defScope st) .none kV doc pm an cdv ct) ⟨[], ks.zip ws⟩ = pure (ps.zip (permL is ws)))
    (hall : ∀ env, (backToKw pos (keywordEach kws env)).all (·.1.isSome) = true := by intro _; rfl) (hks : ∀ env, (backToKw pos (keywordEach kws env)).filterMap (·.1) = ks := by intro _; rfl)
    (hpl : ∀ env, ((backTo pos (starEach [] env)).any (·.1) || (backToKw pos (keywordEach kws env)).any (·.1.isNone)) = false := by intro _; rfl)
    (hg : (S.names.lookup x == some .globalImplicit) = true := by kernel_rfl) (hdb : (x == ("__debug__" : Str)) = false := by kernel_rfl) :
    DO S (.Call (.Name x p) [] kws pos) (woCallK ks.length is sp r) := fun X f => by
  obtain ⟨fa, fd, F, hm, FD, _⟩ := h.ex
  have hkp := FD.kp
  have kb : KBinds S.K fd ps ks (kwG ks.length is) (kwG ks.length is) := by
    obtain ⟨oc, od, dV, kV, doc, pm, an, cdv, ct, osl, rfl, lk, hcd, hD, hK⟩ := FD.ex
    rcases hD with ⟨_, rfl⟩ | ⟨e, _⟩
    · refine ⟨fun s us ws X hl => ?_, fun {vs us zs ws} r1 r2 => ?_⟩
      · cases us with
        | cons u us => cases ps with
          | nil => exact absurd rfl hp
          | cons _ _ => simp [kwG] at hl
        | nil =>
          by_cases hw : ws.length = ks.length
          · rw [kwG_nil hw]; exact .of_eq (hb kV doc pm an cdv ct ws hw)
          · cases ps with
            | nil => exact absurd rfl hp
            | cons _ _ => simp [kwG, hw] at hl
      · cases r1 with
        | cons _ _ => exact .nil
        | nil =>
          unfold kwG
          rw [r2.length]
          by_cases hw : ws.length = ks.length
          · rw [if_pos hw, if_pos hw]; exact permL_vals r2 is
          · rw [if_neg hw, if_neg hw]; exact .nil
    · exact absurd rfl e
  rw [← f.P, ← f.w, ← f.K, ← f.mg, ← f.base] at F
  refine (pe_callGK F (f.room.mono hj) f.ns (glOf f hg) (by rw [f.mg]; exact hm) (by rw [f.K]; exact hkp) (by rw [f.K]; exact kb) pass0 (hr X f) (hall _) (hks _) hdb (hpl _)).imp fun σ H Q ⟨G, F, ρ, Qd, ev, hw, hq⟩ =>
    ⟨G, F, ρ, _, ev, hw, fun vs H1 F1 ds s1 e1 f1 r1 ⟨hl, q1⟩ => ⟨G, F1, permL is ds, Qd, e1.sub, e1.res, e1.wd, by rw [kwG_nil (by rw [r1.len]; exact hl), f.K]; exact permL_rpl r1 is, q1, fun v H' F' sv s2 s3 s4 f2 w2 r2 q2 =>
      hq v H' F' sv (s1.trans s2) (e1.go s2 s3 f2 s4 w2) (f1.trans f2) (by rw [f.K] at r2; exact r2.back f1) q2⟩⟩
end
end DL
set_option maxHeartbeats 4000000
namespace DL
open PySem PySem.Spec PyProof.Rows L2

/-! ### a, b, c = e1, e2, e3 -/
section
variable {K : PySem.W.Frag} {G : Gc} {H0 F0 F F' F1 F2 F3 H H1 H2 H3 H' : Hp} {σ : St} {ρ : En}
theorem pin_fr {v : V} {sv : SV} (h : RpO K G F1 H H1 v sv) (e2 : EvR K (pinO G H1 v sv) F2 H2 σ ρ) (e3 : EvR K (pinO G H1 v sv) F3 H3 σ ρ) (fr : Fr (pinO G H1 v sv) H2 H3) : Fr G H2 H3 := by
  unfold pinO at e2 e3 fr
  cases ho : isOwn sv with
  | false => rw [ho] at fr; exact fr
  | true =>
    obtain ⟨a, o, rfl, h1, h2, h3, h4⟩ := rpo_ref h ho
    rw [ho] at e2 e3 fr
    dsimp only at e2 e3 fr
    rw [h1] at e2 e3 fr
    intro b u hb nb
    by_cases hba : b = a
    · subst hba
      have := e2.wd.2.1
      rw [this] at hb; cases hb
      exact e3.wd.2.1
    · exact fr b u hb fun r => r.elim nb hba
def usedAt : Bool → V → List Addr → List Addr
  | true, .ref a, l => a :: l
  | _, _, l => l
theorem usedAt_sub {b : Bool} {v : V} {l : List Addr} {a : Addr} (h : a ∈ l) : a ∈ usedAt b v l := by
  unfold usedAt
  split
  · exact List.mem_cons_of_mem _ h
  · exact h
theorem usedAt_inv {b : Bool} {v : V} {l : List Addr} {a : Addr} (h : a ∈ usedAt b v l) : a ∈ l ∨ (b = true ∧ v = .ref a) := by
  unfold usedAt at h
  split at h
  · rcases List.mem_cons.mp h with e | h
    · exact .inr ⟨rfl, by rw [e]⟩
    · exact .inl h
  · exact .inl h
theorem Ev.puts (frH : Fr G H0 H) : ∀ (l : List (Nat × V × SV)) (σ1 : St) (ρ1 : En) (used : List Addr), Ev K G H0 F0 F2 H' σ1 ρ1 → (∀ p ∈ l, p.1 < ρ1.length ∧ RpO K G F2 H H' p.2.1 p.2.2) →
    (∀ (k : Nat) (sx : SV) (a : Addr), ρ1[k]? = some (some sx) → isOwn sx = true → σ1[k]? = some (some (.ref a)) → H a ≠ none ∨ a ∈ used) → (l.Pairwise fun p q => isOwn p.2.2 = true → isOwn q.2.2 = true → p.2.1 ≠ q.2.1) →
    (∀ p ∈ l, isOwn p.2.2 = true → ∀ a, p.2.1 = .ref a → a ∉ used) → Ev K G H0 F0 F2 H' (l.foldl (fun s p => s.set p.1 (some p.2.1)) σ1) (l.foldl (fun r p => r.set p.1 (some p.2.2)) ρ1)
  | [], _, _, _, e, _, _, _, _ => e
  | (i, v, sv) :: l, σ1, ρ1, used, e, hl, hu, hp, hn => by
    obtain ⟨hi, r⟩ := hl _ List.mem_cons_self
    have hn0 := hn _ List.mem_cons_self
    obtain ⟨hp1, hp2⟩ := List.pairwise_cons.mp hp
    have ev1 : Ev K G H0 F0 F2 H' (σ1.set i (some v)) (ρ1.set i (some sv)) := e.set hi (rps_of r) fun ho a ea => by
      obtain ⟨b, o, eb, _, q2, q3, q4⟩ := rpo_ref r ho
      rw [ea] at eb; cases eb
      exact ⟨q4, frH.free q2 q3, fun k sx _ q hok z => (hu k sx a q hok z).elim (fun n => n q3) (hn0 ho a ea)⟩
    refine Ev.puts frH l _ _ (usedAt (isOwn sv) v used) ev1 (fun p hp => ⟨by rw [List.length_set]; exact (hl p (List.mem_cons_of_mem _ hp)).1, (hl p (List.mem_cons_of_mem _ hp)).2⟩) (fun k sx a q hok z => ?_) hp2 (fun p hm ho a ea hin => ?_)
    · rcases set_get q with ⟨rfl, zz⟩ | ⟨ne, q⟩
      · cases zz
        rw [List.getElem?_set_self (by rw [e.len]; exact hi)] at z
        cases z
        rw [hok]
        exact .inr List.mem_cons_self
      · rw [List.getElem?_set_ne ne] at z
        exact (hu k sx a q hok z).imp id usedAt_sub
    · rcases usedAt_inv hin with h | ⟨hb, ev'⟩
      · exact hn p (List.mem_cons_of_mem _ hm) ho a ea h
      · exact hp1 p hm hb ho (by rw [ea]; exact ev')
def put3 (ρ : En) (i : Nat) (sv : SV) (j : Nat) (sw : SV) (l : Nat) (sx : SV) : En := match immS sv && immS sw && immS sx with
  | true => ((ρ.set i (some sv)).set j (some sw)).set l (some sx)
  | false => (((frzAll ρ).set i (some sv)).set j (some sw)).set l (some sx)
theorem Ev.put3 (e : Ev K G H0 F0 F H σ ρ) (s : Same F F') (e' : EvR K G F' H' σ ρ) (fr : Fr G H H') {i j l : Nat} {v u t : V} {sv sw sx : SV} (hi : i < ρ.length) (hj : j < ρ.length) (hl : l < ρ.length)
    (h1 : RpO K G F' H H' v sv) (h2 : RpO K G F' H H' u sw) (h3 : RpO K G F' H H' t sx) (n12 : isOwn sv = true → isOwn sw = true → v ≠ u) (n13 : isOwn sv = true → isOwn sx = true → v ≠ t) (n23 : isOwn sw = true → isOwn sx = true → u ≠ t) :
    ∃ F2, Ev K G H0 F0 F2 H' (((σ.set i (some v)).set j (some u)).set l (some t)) (DL.put3 ρ i sv j sw l sx) ∧ Same F F2 := by
  have go : ∀ (F2 : Hp) (ρ2 : En), ρ2.length = ρ.length → Ev K G H0 F0 F2 H' σ ρ2 → RpO K G F2 H H' v sv → RpO K G F2 H H' u sw → RpO K G F2 H H' t sx → (∀ (k : Nat) (sx : SV), ρ2[k]? = some (some sx) → isOwn sx = true → ∀ a, H a = none → σ[k]? ≠ some (some (.ref a))) →
      Ev K G H0 F0 F2 H' (((σ.set i (some v)).set j (some u)).set l (some t)) (((ρ2.set i (some sv)).set j (some sw)).set l (some sx)) := fun F2 ρ2 hlen ev r1 r2 r3 ns => by
    refine Ev.puts e.fr [(i, v, sv), (j, u, sw), (l, t, sx)] σ ρ2 [] ev (fun p hp => ?_) (fun k sy a q ho z => .inl fun hn => ns k sy q ho a hn z) ?_ (fun _ _ _ _ _ h => by cases h)
    · simp only [List.mem_cons, List.not_mem_nil, or_false] at hp
      rw [hlen]
      rcases hp with rfl | rfl | rfl
      · exact ⟨hi, r1⟩
      · exact ⟨hj, r2⟩
      · exact ⟨hl, r3⟩
    · simp only [List.pairwise_cons, List.mem_cons, List.not_mem_nil, or_false, forall_eq_or_imp, forall_eq, List.Pairwise.nil, and_true, false_implies, implies_true]
      exact ⟨⟨n12, n13⟩, n23⟩
  unfold DL.put3
  cases hm : (immS sv && immS sw && immS sx) with
  | true =>
    obtain ⟨m12, m3⟩ := Bool.and_eq_true_iff.mp hm
    obtain ⟨m1, m2⟩ := Bool.and_eq_true_iff.mp m12
    exact ⟨tupOf F F', go _ ρ rfl (e.goT s e' fr) (rpo_base h1 s m1) (rpo_base h2 s m2) (rpo_base h3 s m3) fun k sx q ho a ha => e.ne ha k sx q ho, tupOf_same⟩
  | false =>
    exact ⟨ownOf F' H' σ ρ, go _ (frzAll ρ) (by unfold frzAll; rw [List.length_map]) (e.goA s e' fr) (rpo_baseA e h1) (rpo_baseA e h2) (rpo_baseA e h3) (fun k sx q ho => by rw [frzAll_own q] at ho; cases ho), s.trans ownOf_same⟩
end
def wPar3 (i j l : Nat) (w1 w2 w3 : WO) : WS := fun G E ρ => i < ρ.length ∧ j < ρ.length ∧ l < ρ.length ∧ w1 G ρ fun sv => ∀ G', GExt G G' → w2 G' ρ fun sw => ∀ G2, GExt G' G2 → w3 G2 ρ fun sx => E.nx (put3 ρ i sv j sw l sx)
theorem swap3 {a b c : Expr} {x y z : Str} {px py pz pt pt2 : Pos} {kt k2 : Nat} (hne : (x == y) = false) (hne2 : (x == z) = false) (hne3 : (y == z) = false) (hl : (py.line == px.line) = true) (hl2 : (pz.line == px.line) = true) (sa : (match a with | .Starred .. => true | _ => false) = false) (sb : (match b with | .Starred .. => true | _ => false) = false) (sc : (match c with | .Starred .. => true | _ => false) = false)
    (hf : (foldedForSure 8 a && (foldedForSure 8 b && foldedForSure 8 c)) = false) (hc : (constantsAlone 8 a && (constantsAlone 8 b && constantsAlone 8 c)) = false) (env : Env) (hk : env.scope.kind = .function) (hx : env.scope.names.lookup x = some .local) (hy : env.scope.names.lookup y = some .local) (hz : env.scope.names.lookup z = some .local) :
    swappedStores [.Tuple [.Name x px, .Name y py, .Name z pz] kt pt] (.Tuple [a, b, c] k2 pt2) env = pure (some [x, y, z]) := by
  have hb : env.blockKind = .function := by unfold Env.blockKind; rw [hk]; rfl
  have kx : env.kindOf x = some .local := hx
  have ky : env.kindOf y = some .local := hy
  have kz : env.kindOf z = some .local := hz
  have sym : ∀ {u v : Str}, (u == v) = false → (v == u) = false := fun {u v} e => by
    cases h : v == u with
    | false => rfl
    | true => rw [beq_iff_eq.mp h] at e; simp at e
  have e1 := sym hne
  have e2 := sym hne2
  have e3 := sym hne3
  unfold swappedStores
  simp only [hb, kx, ky, kz, List.length_cons, List.length_nil, List.any_cons, List.any_nil, sa, sb, sc, List.filterMap_cons, List.filterMap_nil, Expr.pos, List.head?_cons, Option.map_some, Option.getD_some, hl, hl2, List.all_cons, List.all_nil, Bool.and_true, hf, hc, beq_self_eq_true, Bool.and_self, if_true, List.eraseDups_cons, hne, hne2, hne3, e1, e2, e3]
  simp [hne, hne2, hne3, e1, e2, e3]
  rw [if_neg, if_pos (by simp [List.eraseDups_cons, hne, hne2, hne3, e1, e2, e3])]
  rintro (h | h | h)
  · cases a <;> first | exact Bool.noConfusion h | exact Bool.noConfusion sa
  · cases b <;> first | exact Bool.noConfusion h | exact Bool.noConfusion sb
  · cases c <;> first | exact Bool.noConfusion h | exact Bool.noConfusion sc
section
variable {S : Sta} {a b c : Expr} {pos : Pos} {wo1 wo2 wo3 : WO} {i j l : Nat} {x y z : Str}
theorem ds_par3 {px py pz pt : Pos} {kt k2 pt2} (h1 : DO S a wo1) (h2 : DO S b wo2) (h3 : DO S c wo3) (nd : S.N.Nodup) (hi : (S.N[i]? == some x) = true := by kernel_rfl) (hj : (S.N[j]? == some y) = true := by kernel_rfl) (hl : (S.N[l]? == some z) = true := by kernel_rfl) (hij : (i == j || i == l || j == l) = false := by kernel_rfl)
    (hx : (S.names.lookup x == some .local) = true := by kernel_rfl) (hy : (S.names.lookup y == some .local) = true := by kernel_rfl) (hz : (S.names.lookup z == some .local) = true := by kernel_rfl)
    (hs : ∀ env, starEach (a :: [b, c]) env = (false, eval a env) :: starEach [b, c] env := by intro _; rfl) (hs2 : ∀ env, starEach (b :: [c]) env = (false, eval b env) :: starEach [c] env := by intro _; rfl) (hs3 : ∀ env, starEach (c :: []) env = (false, eval c env) :: starEach [] env := by intro _; rfl)
    (hw : ∀ env : Env, env.scope.kind = .function → env.scope.names.lookup x = some .local → env.scope.names.lookup y = some .local → env.scope.names.lookup z = some .local → swappedStores [.Tuple [.Name x px, .Name y py, .Name z pz] kt pt] (.Tuple [a, b, c] k2 pt2) env = pure (some [x, y, z]))
    (hsw : ∀ env, swapsWithSole [.Tuple [.Name x px, .Name y py, .Name z pz] kt pt] (.Tuple [a, b, c] k2 pt2) pos.line env = pure false := by intro _; rfl) :
    DS S (.Assign [.Tuple [.Name x px, .Name y py, .Name z pz] kt pt] (.Tuple [a, b, c] k2 pt2) pos) (wPar3 i j l wo1 wo2 wo3) := fun X f => by
  have lx : X.env.scope.names.lookup x = some .local := by rw [f.look]; exact beq_iff_eq.mp hx
  have ly : X.env.scope.names.lookup y = some .local := by rw [f.look]; exact beq_iff_eq.mp hy
  have lz : X.env.scope.names.lookup z = some .local := by rw [f.look]; exact beq_iff_eq.mp hz
  have nij : i ≠ j := fun q => by subst q; simp at hij
  have nil' : i ≠ l := fun q => by subst q; simp at hij
  have njl : j ≠ l := fun q => by subst q; simp at hij
  refine (ps_par3 (i := i) (j := j) (l := l) f.calm (by rw [f.N]; exact nd) (by rw [f.N]; exact beq_iff_eq.mp hi) (by rw [f.N]; exact beq_iff_eq.mp hj) (by rw [f.N]; exact beq_iff_eq.mp hl) nij nil' njl lx ly lz (pa_cons (h1 X f) (pa_cons (h2 X f) (pa_cons (h3 X f) pa_nil (hs3 _)) (hs2 _)) (hs _)) (hw _ f.kind lx ly lz) (hsw _)).imp fun D σ H ⟨G, H0, F0, F, ρ, E, ev, ⟨li, lj, ll, hw⟩, g⟩ => ?_
  refine ⟨G, F, ρ, _, ev.r, hw, fun v H1 F1 sv s1 e1 f1 r1 q1 => ?_⟩
  have ns : ∀ (k : Nat) (sx : SV), ρ[k]? = some (some sx) → isOwn sx = true → ∀ a, H a = none → σ[k]? ≠ some (some (.ref a)) := fun k sx q ho a ha => ev.ne ha k sx q ho
  have p1 := pin_evr r1 ns e1
  have ns1 : ∀ (k : Nat) (sx : SV), ρ[k]? = some (some sx) → isOwn sx = true → ∀ a, H1 a = none → σ[k]? ≠ some (some (.ref a)) := fun k sx q ho a ha hz => by
    obtain ⟨o, q1, _⟩ := e1.ownAt q ho hz
    rw [ha] at q1; cases q1
  refine ⟨pinO G H1 v sv, F1, ρ, _, p1, q1 _ (pin_ext r1), fun u H2 F2 sw s2 e2 f2 r2 q2 => ?_⟩
  have p2 := pin_evr r2 ns1 e2
  refine ⟨pinO (pinO G H1 v sv) H2 u sw, F2, ρ, _, p2, q2 _ (pin_ext r2), fun t H3 F3 sx s3 e3 f3 r3 q3 => ?_⟩
  -- back to the first pin, then to G
  obtain ⟨e3', f3', nF2⟩ := pin_less r2 e3 f3
  have r3' : RpO S.K (pinO G H1 v sv) F3 H2 H3 t sx := rpo_unpin (pin_ext r2) r3
  obtain ⟨e3g, f13, nF1⟩ := pin_less r1 e3' (f2.trans f3')
  obtain ⟨e2g, f12, _⟩ := pin_less r1 e2 f2
  have f23 : Fr G H2 H3 := pin_fr r1 e2 e3' f3'
  have R1 : RpO S.K G F3 H H3 v sv := rpo_keep r1 (s2.trans s3) f13 nF1
  have R2 : RpO S.K G F3 H1 H3 u sw := rpo_keep (rpo_unpin (pin_ext r1) r2) s3 f23 nF2
  have R3 : RpO S.K G F3 H2 H3 t sx := rpo_unpin (pin_ext r1) r3'
  have n12 : isOwn sv = true → isOwn sw = true → v ≠ u := fun o1 o2 z => by
    obtain ⟨b1, o1', eb1, q1, _, _, _⟩ := rpo_ref r1 o1
    obtain ⟨b2, o2', eb2, _, _, q3, _⟩ := rpo_ref R2 o2
    rw [z, eb2] at eb1
    cases eb1
    rw [q1] at q3; cases q3
  have n13 : isOwn sv = true → isOwn sx = true → v ≠ t := fun o1 o2 z => by
    obtain ⟨b1, o1', eb1, q1, n1, _, _⟩ := rpo_ref r1 o1
    obtain ⟨b2, o2', eb2, _, _, q3, _⟩ := rpo_ref R3 o2
    rw [z, eb2] at eb1
    cases eb1
    have := f12 _ _ q1 n1
    rw [this] at q3; cases q3
  have n23 : isOwn sw = true → isOwn sx = true → u ≠ t := fun o1 o2 z => by
    obtain ⟨b1, o1', eb1, q1, n1, _, _⟩ := rpo_ref r2 o1
    obtain ⟨b2, o2', eb2, _, _, q3, _⟩ := rpo_ref R3 o2
    rw [z, eb2] at eb1
    cases eb1
    rw [q1] at q3; cases q3
  obtain ⟨F4, ev4, s4⟩ := ev.put3 (s1.trans (s2.trans s3)) e3g (f1.trans (f12.trans f23)) li lj ll R1 (R2.back f1) (R3.back (f1.trans f12)) n12 n13 n23
  exact ⟨v, u, t, rfl, g.nx _ H3 F4 _ ev4 s4 q3⟩
end
end DL
set_option maxHeartbeats 4000000
namespace DL
open PySem PySem.Spec PyProof.Rows L2

section
variable {K : PySem.W.Frag} {G : Gc} {H0 F0 F H : Hp} {σ : St} {ρ : En}
/-- a slot's own object is changed -/
theorem Ev.chgS (e : Ev K G H0 F0 F H σ ρ) {i : Nat} {sv sv' : SV} {a : Addr} {o : HO} (q : ρ[i]? = some (some sv)) (hw : isOwn sv = true) (ha : σ[i]? = some (some (.ref a))) (r : RpS K G F (upd H a o) (.ref a) sv') (n : ¬ G.R a) :
    Ev K G H0 F0 F (upd H a o) σ (ρ.set i (some sv')) := by
  have hi : i < ρ.length := (List.getElem?_eq_some_iff.mp q).1
  obtain ⟨nF, n0⟩ := e.own i _ a q hw ha
  have fr : ∀ b u, H b = some u → b ≠ a → (upd H a o) b = some u := fun b u h ne => by rw [upd_ne ne]; exact h
  refine ⟨⟨fun b u h => fr b u (e.r.sub _ _ h) (fun z => by rw [z, nF] at h; cases h), e.r.res, G.st _ _ e.r.wd fun b rb => upd_ne (fun z => n (z ▸ rb)), fun j sw z => ?_, by rw [List.length_set]; exact e.len⟩, e.f0, fun b u h nb => fr b u (e.fr b u h nb) (fun z => by rw [z, n0] at h; cases h), fun j sw b z ho hb => ?_, fun j k s1 s2 b ne z1 o1 z2 o2 b1 b2 => ?_⟩
  · rcases set_get z with ⟨rfl, zz⟩ | ⟨ne, z⟩
    · cases zz; exact ⟨_, ha, r⟩
    · obtain ⟨v, h1, h2⟩ := e.r.slot j sw z
      refine ⟨v, h1, ?_⟩
      cases sw with
      | fz d => exact h2
      | ow zs =>
        obtain ⟨b, vs, rfl, z1, z2, z3⟩ := h2
        exact ⟨b, vs, rfl, fr b _ z1 (fun z' => e.apart i j _ _ _ ne q hw z rfl ha (z' ▸ h1)), z2, z3⟩
      | od t kds =>
        obtain ⟨b, vs, rfl, z1, z0, z2, z3⟩ := h2
        exact ⟨b, vs, rfl, fr b _ z1 (fun z' => e.apart i j _ _ _ ne q hw z rfl ha (z' ▸ h1)), z0, z2, z3⟩
  · rcases set_get z with ⟨rfl, zz⟩ | ⟨ne, z⟩
    · rw [ha] at hb
      cases hb
      exact ⟨nF, n0⟩
    · exact e.own j sw b z ho hb
  · have back : ∀ {j s}, (ρ.set i (some sv'))[j]? = some (some s) → isOwn s = true → ∃ s', ρ[j]? = some (some s') ∧ isOwn s' = true := fun {j s} z ho => by
      rcases set_get z with ⟨rfl, z⟩ | ⟨ne, z⟩
      · exact ⟨_, q, hw⟩
      · exact ⟨_, z, ho⟩
    obtain ⟨s1', z1', o1'⟩ := back z1 o1
    obtain ⟨s2', z2', o2'⟩ := back z2 o2
    exact e.apart j k s1' s2' b ne z1' o1' z2' o2' b1 b2
end
/-! ### xs.remove(k) -/
theorem erase_first : ∀ {ns : List Int} {k : Int}, k ∈ ns → ∃ j, ns[j]? = some k ∧ (∀ m : Nat, m < j → ns[m]? ≠ some k) ∧ ns.eraseIdx j = ns.erase k
  | n :: ns, k, h => by
    by_cases e : n = k
    · subst e
      exact ⟨0, rfl, fun m hm => by omega, by simp⟩
    · obtain ⟨j, h1, h2, h3⟩ := erase_first (ns := ns) (k := k) ((List.mem_cons.mp h).resolve_left (Ne.symm e))
      refine ⟨j + 1, by simpa using h1, fun m hm => ?_, ?_⟩
      · cases m with
        | zero => simp [e]
        | succ m => simpa using h2 m (by omega)
      · rw [List.eraseIdx_cons_succ, h3, List.erase_cons_tail (by simpa using e)]
section
variable {S : Sta} {e a b k : Expr} {es : List Expr} {pos spos p apos cpos : Pos} {wo : WO} {w wk : W} {wv wv2 : WV} {i : Nat} {x : Str} {r : WA}
theorem ds_remove (hk : DE S e wk) (hN : (S.N[i]? == some x) = true := by kernel_rfl) (hx : (S.names.lookup x == some .local || S.names.lookup x == some .cell || S.names.lookup x == some .free) = true := by kernel_rfl) (hd : (x == ("__debug__" : Str)) = false := by kernel_rfl) (hcd : (x == ("__classdict__" : Str)) = false := by kernel_rfl)
    (hbase : ∀ env, attributeBase (.Name x p) "remove" env (eval (.Name x p) env) = eval (.Name x p) env := by intro _; rfl)
    (hfew : ∀ env, ((backTo cpos (starEach [e] env)).all (fun x => !x.1) && (backToKw cpos (keywordEach [] env)).all (fun x => x.1.isSome) && decide ([e].length + ([] : List Keyword).length + (if ([] : List Keyword).isEmpty then 0 else 1) < 30)) = true := by intro _; rfl)
    (hline : (apos.endLine == cpos.line) = true := by kernel_rfl) (hs : ∀ env, starEach [e] env = (false, eval e env) :: starEach [] env := by intro _; rfl)
    (hsw : ∀ env, swapsWith (.Call (.Attribute (.Name x p) "remove" apos) [e] [] cpos) none spos.line env = pure false := by intro _; rfl) :
    DS S (.Expr (.Call (.Attribute (.Name x p) "remove" apos) [e] [] cpos) spos) (wRemove i wk) := fun X f => by
  have pa := pa_cons (hk X f) pa_nil (hs _)
  refine (ps_expr (pe_bm PySem.F.plainAttrs_list PySem.F.slot_list_remove PySem.F.type_list_remove mt_remove (pvN f hN hx hd hcd) pa (hbase _) (hfew _) hline (hs _) rfl) (hsw _)).imp fun D σ H ⟨G, H0, F0, F, ρ, E, ev, ⟨⟨xs0, q0⟩, hw⟩, g⟩ => ?_
  obtain ⟨a, vs0, h1, h2, _, _⟩ := ownList ev q0
  refine ⟨.ref a, h1, .inl ⟨rfl, _, .inl (.inl h2)⟩, G, F, ρ, _, ev.r, hw, fun v H' F' kd s e' fr r ⟨kk, ns, ek, q, hin, z⟩ => ?_⟩
  have ev' := ev.go s e' fr
  obtain ⟨a', vs, h1', h3, h4, h5⟩ := ownList ev' q
  rw [h1] at h1'
  cases h1'
  subst ek
  cases r
  obtain ⟨j, j1, j2, j3⟩ := erase_first hin
  refine ⟨a, ns, kk, j, rfl, rfl, by rw [h3, h4.ints], j1, j2, ?_⟩
  rw [j3]
  exact g.nx _ _ F _ (ev'.chg q h1 RpL.of_ints h5) (Same.refl _) z

/-! ### dicts -/
def kD : Key → D
  | .inl i => .int i
  | .inr x => .str x
theorem kD_rp {K : PySem.W.Frag} {F : Hp} (k : Key) : Rp K F (kV k) (kD k) := by
  cases k with
  | inl i => exact .int i
  | inr x => exact .str x
theorem kD_of {K : PySem.W.Frag} {F : Hp} {v : V} {k : Key} (r : Rp K F v (kD k)) : v = kV k := by
  cases k with
  | inl i => exact r.intI
  | inr x => exact r.strI
theorem kDs_of {K : PySem.W.Frag} {F : Hp} : ∀ {ks : List Key} {vs : List V}, RpL K F vs (ks.map kD) → vs = ks.map kV
  | [], vs, r => by cases r; rfl
  | k :: ks, vs, r => by
    cases r with
    | cons h t => rw [kD_of h, kDs_of t]; rfl
theorem kDs_rp {K : PySem.W.Frag} {F : Hp} : ∀ (ks : List Key), RpL K F (ks.map kV) (ks.map kD)
  | [] => .nil
  | k :: ks => .cons (kD_rp k) (kDs_rp ks)
def woDnew : WO := fun _ _ Q => Q (.od true [])
def wDnew : W := fun _ _ Q => Q (.dic false [])
theorem do_dnew : DO S (.Dict [] [] pos) woDnew := fun X f => pe_dnewT.imp fun σ H Q ⟨G, F, ρ, Qd, ev, hw, hq⟩ p hp =>
  hq _ _ F (.od true []) (Same.refl _) (ev.liveO hp) (Fr.upd hp) ⟨p, [], rfl, upd_same, rfl, .nil, ev.nr hp, hp, ev.fnone hp⟩ hw
theorem de_dnew : DE S (.Dict [] [] pos) wDnew := fun X f => pe_dnewK.imp fun σ H Q ⟨G, F, ρ, Qd, ev, hw, hq⟩ p hp =>
  hq _ _ _ (.dic false []) (same_upd (ev.fnone hp)) (ev.live hp) (Fr.upd hp) (.dic upd_same .nil) hw
def putD {κ : Type} [DecidableEq κ] (kds : List (κ × D)) (k : κ) (d : D) : List (κ × D) := if (kds.any fun kv => decide (kv.1 = k)) = true then kds.map (fun kv => if kv.1 = k then (kv.1, d) else kv) else kds ++ [(k, d)]
theorem putD_rp {κ : Type} [DecidableEq κ] {K : PySem.W.Frag} {F : Hp} {k : κ} {v : V} {d : D} (r : Rp K F v d) {kvs : List (κ × V)} {kds : List (κ × D)} (h1 : kvs.map (·.1) = kds.map (·.1)) (h2 : RpL K F (kvs.map (·.2)) (kds.map (·.2))) :
    (putK kvs k v).map (·.1) = (putD kds k d).map (·.1) ∧ RpL K F ((putK kvs k v).map (·.2)) ((putD kds k d).map (·.2)) := by
  have ha : ∀ (kvs : List (κ × V)) (kds : List (κ × D)), kvs.map (·.1) = kds.map (·.1) → (kvs.any fun kv => decide (kv.1 = k)) = kds.any fun kv => decide (kv.1 = k) := fun kvs kds e => by
    have e1 : (kvs.any fun kv => decide (kv.1 = k)) = (kvs.map (·.1)).any fun z => decide (z = k) := by rw [List.any_map]; rfl
    have e2 : (kds.any fun kv => decide (kv.1 = k)) = (kds.map (·.1)).any fun z => decide (z = k) := by rw [List.any_map]; rfl
    rw [e1, e2, e]
  have hm : ∀ (kvs : List (κ × V)) (kds : List (κ × D)), kvs.map (·.1) = kds.map (·.1) → RpL K F (kvs.map (·.2)) (kds.map (·.2)) →
      (kvs.map (fun kv => if kv.1 = k then (kv.1, v) else kv)).map (·.1) = (kds.map (fun kv => if kv.1 = k then (kv.1, d) else kv)).map (·.1) ∧ RpL K F ((kvs.map (fun kv => if kv.1 = k then (kv.1, v) else kv)).map (·.2)) ((kds.map (fun kv => if kv.1 = k then (kv.1, d) else kv)).map (·.2)) := fun kvs => by
    induction kvs with
    | nil => intro kds e _; cases kds with
      | nil => exact ⟨rfl, .nil⟩
      | cons _ _ => cases e
    | cons p ps ih =>
      intro kds e rr
      cases kds with
      | nil => cases e
      | cons q qs =>
        rw [List.map_cons, List.map_cons] at e
        rw [List.map_cons, List.map_cons] at rr
        obtain ⟨e1, e2⟩ := List.cons.inj e
        cases rr with
        | cons rh rt =>
          obtain ⟨i1, i2⟩ := ih qs e2 rt
          simp only [List.map_cons]
          by_cases c : p.1 = k
          · have c' : q.1 = k := by rw [← e1]; exact c
            rw [if_pos c, if_pos c']
            exact ⟨by rw [i1, e1], .cons r i2⟩
          · have c' : ¬ q.1 = k := by rw [← e1]; exact c
            rw [if_neg c, if_neg c']
            exact ⟨by rw [i1, e1], .cons rh i2⟩
  unfold putK putD
  rw [ha kvs kds h1]
  by_cases c : (kds.any fun kv => decide (kv.1 = k)) = true
  · rw [if_pos c, if_pos c]
    exact hm kvs kds h1 h2
  · rw [if_neg c, if_neg c, List.map_append, List.map_append, List.map_append, List.map_append, h1]
    exact ⟨rfl, h2.append (.cons r .nil)⟩
def wStoreT (i : Nat) (r : WA) (wv : WV) : WS := fun G E ρ => wv G ρ fun d ρ' => (∃ kds, ρ'[i]? = some (some (.od true kds))) ∧ r G ρ' fun ds => ∃ (ks : List Key) (kds : List (List Key × D)), ds = ks.map kD ∧ ks.length ≤ sizeLine ∧ ρ'[i]? = some (some (.od true kds)) ∧ kds.length < sizeLine ∧ E.nx (ρ'.set i (some (.od true (putD kds ks d))))
theorem ownDict {K : PySem.W.Frag} {G : Gc} {H0 F0 F H : Hp} {σ : St} {ρ : En} {i : Nat} (ev : Ev K G H0 F0 F H σ ρ) {kds : List (List Key × D)} (q : ρ[i]? = some (some (.od true kds))) : ∃ a kvs, σ[i]? = some (some (.ref a)) ∧ H a = some (.dT kvs) ∧ kvs.map (·.1) = kds.map (·.1) ∧ RpL K F (kvs.map (·.2)) (kds.map (·.2)) ∧ ¬ G.R a := by
  obtain ⟨v, h1, a, vs, rfl, h2, h3, h4, h5⟩ := ev.r.slot i _ q
  exact ⟨a, vs, h1, h2, h3, h4, h5⟩
theorem ds_storeT {kk : Nat} {kpos tpos : Pos} (hv : DV S e wv) (hk : DA S es r) (hN : (S.N[i]? == some x) = true := by kernel_rfl) (hx : (S.names.lookup x == some .local || S.names.lookup x == some .cell || S.names.lookup x == some .free) = true := by kernel_rfl) (hd : (x == ("__debug__" : Str)) = false := by kernel_rfl) (hcd : (x == ("__classdict__" : Str)) = false := by kernel_rfl)
    (ha : ∀ env v, assign (.Subscript (.Name x p) (.Tuple es kk kpos) tpos) env v = (do
      let ov ← holding [v] (eval (.Name x p) env)
      let iv ← holding [v, ov] (eval (.Tuple es kk kpos) env)
      standAt tpos
      holding [v, ov, iv] (setItem ov iv v)
      release [v, ov, iv] []) := by intro _ _; rfl)
    (hs : ∀ env, swapsWithSole [.Subscript (.Name x p) (.Tuple es kk kpos) tpos] e pos.line env = pure false := by intro _; rfl) (hw : ∀ env, swappedStores [.Subscript (.Name x p) (.Tuple es kk kpos) tpos] e env = pure none := by intro _; rfl) (h1 : ∀ env, (assignEach [.Subscript (.Name x p) (.Tuple es kk kpos) tpos] env).map (·.2) = [assign (.Subscript (.Name x p) (.Tuple es kk kpos) tpos) env] := by intro _; rfl) :
    DS S (.Assign [.Subscript (.Name x p) (.Tuple es kk kpos) tpos] e pos) (wStoreT i r wv) := fun X f => by
  refine (ps_asg (hv X f) (pg_sub (pvN f hN hx hd hcd) (pe_tup (hk X f)) (set_dict (by have := f.room.un; omega)) (ha _)) (hs _) (hw _) (h1 _)).imp fun D σ H ⟨G, H0, F0, F, ρ, E, ev, hw, g⟩ => ?_
  refine ⟨G, H0, F0, F, ρ, _, ev, hw, fun v H1 F1 d ρ1 ev1 s1 r1 ⟨⟨kds0, q0⟩, hw2⟩ => ?_⟩
  obtain ⟨a, vs0, hu, h2, _, _, _⟩ := ownDict ev1 q0
  refine ⟨.ref a, hu, G, F1, ρ1, _, ev1.r, hw2, fun us H2 F2 ds s2 e2 fr2 rl ⟨ks, kds, ed, hlen, q, hz, z⟩ => ?_⟩
  subst ed
  have ev2 := ev1.go s2 e2 fr2
  obtain ⟨a', kvs, h1', h3, h4, h5, h6⟩ := ownDict ev2 q
  rw [hu] at h1'
  cases h1'
  have eu := kDs_of rl
  subst eu
  refine ⟨by rw [List.length_map]; exact hlen, fun t ht => ?_⟩
  have ne : a ≠ t := ne_of_none h3 ht
  have hl : kvs.length = kds.length := by
    have := congrArg List.length h4
    simpa using this
  refine ⟨a, _, rfl, DPut.t (kvs := kvs) (k := ks) (by rw [upd_ne ne]; exact h3) upd_same (by rw [hl]; exact hz), ?_⟩
  have ev3 := ev2.live (o := .tup (ks.map kV)) ht
  obtain ⟨p1, p2⟩ := putD_rp (k := ks) (r1.mono (same_upd (ev2.r.fnone ht))) h4 (h5.mono (same_upd (ev2.r.fnone ht)))
  have ev4 := ev3.chgS (sv' := .od true (putD kds ks d)) (o := .dT (putK kvs ks v)) q rfl hu ⟨a, putK kvs ks v, rfl, upd_same, p1, p2, h6⟩ h6
  exact g.nx _ _ _ _ ev4 (s1.trans (same_upd (ev2.r.fnone ht))) z
end
end DL
set_option maxHeartbeats 4000000
namespace DL
open PySem PySem.Spec PyProof.Rows L2

/-! ### list(d), the keys are tuples -/
section
variable {K : PySem.W.Frag} {G : Gc} {F H : Hp} {σ : St} {ρ : En}
theorem EvR.seeT : ∀ (bs : List Addr) {F : Hp}, EvR K G F H σ ρ → (∀ b ∈ bs, ∃ xs, H b = some (.tup xs)) → ∃ F', Same F F' ∧ EvR K G F' H σ ρ ∧ ∀ b ∈ bs, F' b = H b
  | [], F, e, _ => ⟨F, Same.refl _, e, fun _ h => by cases h⟩
  | b :: bs, F, e, h => by
    obtain ⟨xs, hb⟩ := h b List.mem_cons_self
    obtain ⟨e1, s1⟩ := e.see hb fun r => G.nt _ _ _ e.wd r hb
    obtain ⟨F', s2, e2, k⟩ := EvR.seeT bs e1 fun c hc => h c (List.mem_cons_of_mem _ hc)
    refine ⟨F', s1.trans s2, e2, fun c hc => ?_⟩
    rcases List.mem_cons.mp hc with e | hc
    · rw [e, s2 _ _ (upd_same (a := b)), hb]
    · exact k c hc
end
def keyT (k : List Key) : D := .tup (k.map kD)
def woListD (i : Nat) : WO := fun _ ρ Q => ∃ kds : List (List Key × D), ρ[i]? = some (some (.od true kds)) ∧ Q (.ow (kds.map fun kv => keyT kv.1))
theorem keys_rpl {K : PySem.W.Frag} {F H : Hp} : ∀ {kvs : List (List Key × V)} {bs : List Addr}, IsKeys H kvs bs → (∀ b ∈ bs, F b = H b) → RpL K F (bs.map V.ref) (kvs.map fun kv => keyT kv.1)
  | _, _, .nil, _ => .nil
  | _, _, .cons h t, k => .cons (.tup (SqT.of ((k _ List.mem_cons_self).trans h)) (kDs_rp _)) (keys_rpl t fun b hb => k b (List.mem_cons_of_mem _ hb))
theorem keys_all {H : Hp} : ∀ {kvs : List (List Key × V)} {bs : List Addr}, IsKeys H kvs bs → ∀ b ∈ bs, ∃ xs, H b = some (.tup xs)
  | _, _, .nil, _, h => by cases h
  | _, _, .cons h t, b, hb => by
    rcases List.mem_cons.mp hb with e | hb
    · rw [e]; exact ⟨_, h⟩
    · exact keys_all t b hb
theorem keys_upd {H : Hp} {p : Addr} {o : HO} (hp : H p = none) : ∀ {kvs : List (List Key × V)} {bs : List Addr}, IsKeys H kvs bs → ∀ b ∈ bs, b ≠ p := fun h b hb e => by
  obtain ⟨xs, q⟩ := keys_all h b hb
  rw [e, hp] at q; cases q
section
variable {S : Sta} {a b e : Expr} {p p2 pos : Pos} {x : Str} {i : Nat} {w wa wb : W}
theorem do_listD (hm : S.mg "list" = none) (hN : (S.N[i]? == some x) = true := by kernel_rfl) (hx : (S.names.lookup x == some .local || S.names.lookup x == some .cell || S.names.lookup x == some .free) = true := by kernel_rfl) (hd : (x == ("__debug__" : Str)) = false := by kernel_rfl) (hcd : (x == ("__classdict__" : Str)) = false := by kernel_rfl)
    (hg : (S.names.lookup ("list" : Str) == some .globalImplicit) = true := by kernel_rfl) (hs : ∀ env, starEach [.Name x p2] env = (false, eval (.Name x p2) env) :: starEach [] env := by intro _; rfl) : DO S (.Call (.Name "list" p) [.Name x p2] [] pos) (woListD i) := fun X f => by
  refine (pe_callTy (call_list_dT f.calm) (glOf f hg) (by rw [f.mg]; exact hm) (by decide +kernel) (pa_cons (pvN f hN hx hd hcd) pa_nil (hs _)) (by decide) (by decide) (hs _) rfl).imp fun σ H Q ⟨G, F, ρ, Qd, ev, ⟨kds, q, hw⟩, hq⟩ => ?_
  obtain ⟨v, h1, a, kvs, rfl, h2, h3, h4, h5⟩ := ev.slot i _ q
  refine ⟨.ref a, h1, a, kvs, rfl, .inl h2, fun t bs ht hk => ?_⟩
  obtain ⟨F', s1, e1, k1⟩ := EvR.seeT bs ev (keys_all hk)
  have em : kds.map (fun kv => keyT kv.1) = kvs.map fun kv => keyT kv.1 := by
    have m1 : (kds.map fun kv => keyT kv.1) = (kds.map (·.1)).map keyT := by rw [List.map_map]; rfl
    have m2 : (kvs.map fun kv => keyT kv.1) = (kvs.map (·.1)).map keyT := by rw [List.map_map]; rfl
    rw [m1, m2, h3]
  rw [em] at hw
  exact e1.newL ht (keys_rpl hk k1) hw fun v H' F2 sv s2 e2 f2 r2 q2 => hq v H' F2 sv (s1.trans s2) e2 f2 r2 q2

/-! ### {k: v} -/
def wDisp1 (k : Key) (w : W) : W := fun G ρ Q => ∀ G', GExt G G' → w G' ρ fun d => Q (.dic false [([k], d)])
theorem de_disp1 {k : Key} {kx v : Expr} (hk : ∀ X, Fam S X → PE X kx (tC (kV k))) (h : DE S v w) : DE S (.Dict [some kx] [v] pos) (wDisp1 k w) := fun X f => by
  refine (pe_disp (pps_cons (hk X f) (h X f) pps_nil) rfl rfl (by simp) (by simp)).imp fun σ H Q ⟨G, F, ρ, Qd, ev, hw, hq⟩ p hp => ?_
  have e1 := ev.liveO (o := .dK []) hp
  have nS : ∀ (j : Nat) (sv : SV), ρ[j]? = some (some sv) → isOwn sv = true → σ[j]? ≠ some (some (.ref p)) := fun j sv q ho z => by
    obtain ⟨o, q1, _⟩ := ev.ownAt q ho z
    rw [hp] at q1; cases q1
  have e2 := evr_more e1 upd_same rfl (ev.fnone hp) nS
  refine ⟨G.more p (.dK []), F, ρ, _, e2, hw _ (G.more_ext p _ (ev.nr hp)), fun v H2 F2 d s2 e3 f2 r2 q2 => ?_⟩
  have h2 := e3.wd.2.1
  refine ⟨h2, [(k, v)], rfl, by simp, ?_⟩
  have nF2 := e3.res p (.inr rfl)
  have e4 := evr_less e3
  -- the dict stands for good from here on
  have fr2 : Fr G H H2 := fun b o hb nb => by
    have ne : b ≠ p := ne_of_none hb hp
    exact f2 b o (by rw [upd_ne ne]; exact hb) fun r => r.elim nb ne
  have e5 : EvR S.K G (upd F2 p (.dK [(k, v)])) (upd H2 p (.dK [(k, v)])) σ ρ := by
    refine ⟨fun b x q => ?_, fun b r => ?_, G.st _ _ e4.wd fun b r => upd_ne fun z => ev.nr hp (by rw [← z]; exact r), fun j sv q => ?_, e4.len⟩
    · by_cases hb : b = p
      · subst hb; rw [upd_same] at q ⊢; exact q
      · rw [upd_ne hb] at q ⊢; exact e4.sub _ _ q
    · rw [upd_ne (fun z => ev.nr hp (by rw [← z]; exact r))]; exact e4.res b r
    · obtain ⟨u, h1, h2⟩ := e4.slot j sv q
      refine ⟨u, h1, ?_⟩
      cases sv with
      | fz d => exact Rp.mono (same_upd nF2) h2
      | ow xs =>
        obtain ⟨b, vs, rfl, z1, z2, z3⟩ := h2
        exact ⟨b, vs, rfl, (upd_ne (show b ≠ p from fun z => nS j _ q rfl (by rw [← z]; exact h1))).trans z1, z2.mono (same_upd nF2), z3⟩
      | od t kds =>
        obtain ⟨b, vs, rfl, z1, z0, z2, z3⟩ := h2
        exact ⟨b, vs, rfl, (upd_ne (show b ≠ p from fun z => nS j _ q rfl (by rw [← z]; exact h1))).trans z1, z0, z2.mono (same_upd nF2), z3⟩
  have em : mergeK [] [(k, v)] = [(k, v)] := by simp [mergeK, putK]
  rw [em]
  exact hq _ _ _ (.dic false [([k], d)]) (s2.trans (same_upd nF2)) e5 (fun b o hb nb => by rw [upd_ne (ne_of_none hb hp)]; exact fr2 b o hb nb) (.dic upd_same (.cons (r2.mono (same_upd nF2)) .nil)) q2

/-! ### x == (), x any tuple -/
def rEq0 (K : PySem.W.Frag) : R2 := fun x y H Q => ∃ a b xs, x = .ref a ∧ y = .ref b ∧ SqT K H a xs ∧ SqT K H b [] ∧ Q (.bl xs.isEmpty) H
theorem op_eq0 {X : Cx} (hu : X.A.units < cLine) : OpR X (compareOp .Eq) (rEq0 X.K) := by
  intro pins s σ H x y v u Q I rx ry ⟨a, b, xs, e1, e2, ha, hb, q⟩
  subst e1 e2
  cases rx
  cases ry
  obtain ⟨its, r1, p1, _⟩ := I.tuple ha
  obtain ⟨its2, r2, p2, _⟩ := I.tuple hb
  cases r2
  refine SeqAt.eq_tupleAt (e := fun _ => true) p1 p2 hu (fun j h1 h2 => absurd h2 (by simp)) ⟨.bl xs.isEmpty, H, I, ?_, q⟩
  show Value.bool _ = Value.bool _
  cases r1 with
  | nil => rfl
  | cons _ _ => simp
def oEq0 : D → D → (D → Prop) → Prop := fun x y Q => ∃ xs, tupsOf x = some xs ∧ y = .tup [] ∧ Q (.bl xs.isEmpty)
theorem cm_eq0 : CmpR S .Eq (rEq0 S.K) oEq0 := ⟨fun X f => f.K ▸ op_eq0 (by have := f.room.un; omega), fun G F σ H ρ v1 d1 v2 d2 Qd Q ev r1 r2 ⟨xs, e1, e2, hQ⟩ hq => by
  subst e2
  obtain ⟨a, vs, rfl, h1, l1, _⟩ := rp_tupsH ev.sub r1 e1
  obtain ⟨b, us, rfl, h2, l2⟩ := rp_tupH ev.sub r2
  cases l2
  have ee : xs.isEmpty = vs.isEmpty := by cases l1 <;> rfl
  rw [ee] at hQ
  exact ⟨a, b, vs, rfl, rfl, h1, h2, hq _ H F _ (Same.refl _) ev Fr.refl (.bl _) hQ⟩⟩
end
end DL
set_option maxHeartbeats 4000000
namespace DL
open PySem PySem.Spec PyProof.Rows L2

/-! ### what the generator writes -/
def wExpr (w : W) : WS := fun G E ρ => w G ρ fun _ => E.nx ρ
section
variable {S : Sta} {a b c d e : Expr} {pos p : Pos} {w wa wb wc wd : W} {wo1 wo2 wo3 : WO} {i j l : Nat} {x y z : Str}
theorem de_nm (hN : (S.N[i]? == some x) = true := by kernel_rfl) (hv : (S.names.lookup x == some .local || S.names.lookup x == some .cell || S.names.lookup x == some .free) = true := by kernel_rfl)
    (hd : (x == ("__debug__" : Str)) = false := by kernel_rfl) (hcd : (x == ("__classdict__" : Str)) = false := by kernel_rfl) : DE S (.Name x p) (wVar i) := by
  refine de_var (beq_iff_eq.mp hN) ?_ hd hcd
  rcases Bool.or_eq_true_iff.mp hv with h | h
  · rcases Bool.or_eq_true_iff.mp h with h | h
    · exact .inl (beq_iff_eq.mp h)
    · exact .inr (.inl (beq_iff_eq.mp h))
  · exact .inr (.inr (beq_iff_eq.mp h))
theorem de_gi {k : Int} (hm : ∃ t, S.mg x = some (.int k t)) (hg : (S.names.lookup x == some .globalImplicit) = true := by kernel_rfl) (hd : (x == ("__debug__" : Str)) = false := by kernel_rfl) : DE S (.Name x p) (wC (.int k)) := de_gint (beq_iff_eq.mp hg) hm hd

/-! ### a < b of tuples of ints -/
def oLtT : D → D → (D → Prop) → Prop := fun x y Q => ∃ ns ms : List Int, tupsOf x = some (ns.map .int) ∧ tupsOf y = some (ms.map .int) ∧ Q (.bl (HT.lexLt ns ms))
theorem cm_ltT : CmpR S .Lt (rLtT S.K) oLtT := ⟨fun X f => f.K ▸ op_ltT (by have := f.room.un; omega), fun G F σ H ρ v1 d1 v2 d2 Qd Q ev r1 r2 ⟨ns, ms, e1, e2, hQ⟩ hq => by
  obtain ⟨a, vs, rfl, h1, l1, _⟩ := rp_tupsH ev.sub r1 e1
  obtain ⟨b, us, rfl, h2, l2, _⟩ := rp_tupsH ev.sub r2 e2
  exact ⟨a, b, ns, ms, rfl, rfl, l1.ints ▸ h1, l2.ints ▸ h2, hq _ H F _ (Same.refl _) ev Fr.refl (.bl _) hQ⟩⟩

/-! ### a op b op c op d -/
variable {op1 op2 op3 : CmpOp} {r1 r2 r3 : R2} {o1 o2 o3 : D → D → (D → Prop) → Prop}
def tChain3 (r1 r2 r3 : R2) (ta tb tc td : TE) : TE := fun σ H Q => ta σ H fun x H1 => tb σ H1 fun y H2 => r1 x y H2 fun z H3 => ∃ k, z = .bl k ∧
  (if k = true then tc σ H3 fun u H4 => r2 y u H4 fun z2 H5 => ∃ k2, z2 = .bl k2 ∧ (if k2 = true then td σ H5 fun v H6 => r3 u v H6 Q else Q (.bl false) H5) else Q (.bl false) H3)
theorem pt_chain3 {X : Cx} {ta tb tc td : TE} (h1 : OpR X (compareOp op1) r1) (h2 : OpR X (compareOp op2) r2) (h3 : OpR X (compareOp op3) r3) (ha : PE X a ta) (hb : PE X b tb) (hc : PE X c tc) (hd : PE X d td)
    (hm : lastMarks [op1, op2, op3] [b, c, d] = false) : PT X (.Compare a [op1, op2, op3] [b, c, d] pos) (tTest (tChain3 r1 r2 r3 ta tb tc td)) := by
  refine ⟨fun pins s σ H Q I h => ?_⟩
  refine isTrue_chain (thn (ha.run pins s σ H _ I h) fun v s1 ⟨x, H1, I1, rx, q1⟩ => test_link (thn (hb.run pins s1 σ H1 _ I1 q1) fun u s2 ⟨y, H2, I2, ry, q2⟩ =>
    thn (h1 pins s2 σ H2 x y v u _ I2 rx ry q2) fun t s3 ⟨z, H3, I3, rz, k, e, q3⟩ => ?_)) hm
  subst e
  cases rz
  refine wpAny_truthy_bool ?_
  cases k with
  | false =>
    obtain ⟨k', e', q'⟩ := q3
    cases e'
    exact ite_ff ⟨H3, I3, q'⟩
  | true =>
    refine ite_tt (test_link (thn (hc.run pins s3 σ H3 _ I3 q3) fun u2 s4 ⟨y2, H4, I4, ry2, q4⟩ => thn (h2 pins s4 σ H4 y y2 u u2 _ I4 ry ry2 q4) fun t2 s5 ⟨z2, H5, I5, rz2, k2, e2, q5⟩ => ?_))
    subst e2
    cases rz2
    refine wpAny_truthy_bool ?_
    cases k2 with
    | false =>
      obtain ⟨k', e', q'⟩ := q5
      cases e'
      exact ite_ff ⟨H5, I5, q'⟩
    | true =>
      refine ite_tt (test_last (thn (hd.run pins s5 σ H5 _ I5 q5) fun u3 s6 ⟨y3, H6, I6, ry3, q6⟩ => thn (h3 pins s6 σ H6 y2 y3 u2 u3 _ I6 ry2 ry3 q6) fun t3 s7 ⟨z3, H7, I7, rz3, k3, e3, q7⟩ => ?_))
      subst e3
      cases rz3
      exact wpAny_truthy_bool ⟨H7, I7, q7⟩
def wChain3 (o1 o2 o3 : D → D → (D → Prop) → Prop) (wa wb wc wd : W) : W := fun G ρ Q => wa G ρ fun x => wb G ρ fun y => o1 x y fun z => ∃ k, z = .bl k ∧ if k = true then wc G ρ fun u => o2 y u fun z2 => ∃ k2, z2 = .bl k2 ∧ if k2 = true then wd G ρ fun v => o3 u v Q else Q (.bl false) else Q (.bl false)
theorem dt_chain3 (h1 : CmpR S op1 r1 o1) (h2 : CmpR S op2 r2 o2) (h3 : CmpR S op3 r3 o3) (ha : DE S a wa) (hb : DE S b wb) (hc : DE S c wc) (hd : DE S d wd) (hm : lastMarks [op1, op2, op3] [b, c, d] = false := by with_unfolding_all rfl) :
    DT S (.Compare a [op1, op2, op3] [b, c, d] pos) (wtV (wChain3 o1 o2 o3 wa wb wc wd)) := fun X f =>
  (pt_chain3 (h1.1 X f) (h2.1 X f) (h3.1 X f) (ha X f) (hb X f) (hc X f) (hd X f) hm).imp fun σ H Q ⟨G, F, ρ, Qd, ev, hw, hq⟩ =>
  ⟨G, F, ρ, _, ev, hw, fun v1 H1 F1 d1 s1 e1 f1 p1 q1 => ⟨G, F1, ρ, _, e1, q1, fun v2 H2 F2 d2 s2 e2 f2 p2 q2 =>
    h1.2 G F2 σ H2 ρ v1 d1 v2 d2 _ _ e2 (p1.mono s2) p2 q2 fun v3 H3 F3 d3 s3 e3 f3 p3 ⟨k, ek, q3⟩ => by
      subst ek
      cases p3
      refine ⟨k, rfl, ?_⟩
      cases k with
      | true =>
        refine iteT ⟨G, F3, ρ, _, e3, (by rw [if_pos rfl] at q3; exact q3), fun v4 H4 F4 d4 s4 e4 f4 p4 q4 => ?_⟩
        refine h2.2 G F4 σ H4 ρ v2 d2 v4 d4 _ _ e4 (p2.mono (s3.trans s4)) p4 q4 fun v5 H5 F5 d5 s5 e5 f5 p5 ⟨k2, ek2, q5⟩ => ?_
        subst ek2
        cases p5
        refine ⟨k2, rfl, ?_⟩
        have S5 := s1.trans (s2.trans (s3.trans (s4.trans s5)))
        have R5 := f1.trans (f2.trans (f3.trans (f4.trans f5)))
        cases k2 with
        | true =>
          refine iteT ⟨G, F5, ρ, _, e5, (by rw [if_pos rfl] at q5; exact q5), fun v6 H6 F6 d6 s6 e6 f6 p6 q6 => ?_⟩
          exact h3.2 G F6 σ H6 ρ v4 d4 v6 d6 _ _ e6 (p4.mono (s5.trans s6)) p6 q6 fun v H' F' d' s7 e7 f7 p7 ⟨k3, ek3, q7⟩ => by
            subst ek3
            cases p7
            exact ⟨k3, rfl, hq k3 H' F' (S5.trans (s6.trans s7)) e7 (R5.trans (f6.trans f7)) q7⟩
        | false =>
          rw [if_neg Bool.false_ne_true] at q5
          obtain ⟨k', e', q'⟩ := q5
          cases e'
          exact iteF ⟨false, rfl, hq false H5 F5 S5 e5 R5 q'⟩
      | false =>
        rw [if_neg Bool.false_ne_true] at q3
        obtain ⟨k', e', q'⟩ := q3
        cases e'
        exact iteF ⟨false, rfl, hq false H3 F3 (s1.trans (s2.trans s3)) e3 (f1.trans (f2.trans f3)) q'⟩⟩⟩

end
end DL
set_option maxHeartbeats 4000000
namespace DL
open PySem PySem.Spec PyProof.Rows L2

/-! ### the stores of names of which some are cells are not exchanged -/
theorem swapN2 {a b : Expr} {x y : Str} {px py pt pt2 : Pos} {kt k2 : Nat} (env : Env) (hk : env.scope.kind = .function) (h : env.scope.names.lookup x = some .cell ∨ env.scope.names.lookup y = some .cell) :
    swappedStores [.Tuple [.Name x px, .Name y py] kt pt] (.Tuple [a, b] k2 pt2) env = pure none := by
  have hb : env.blockKind = .function := by unfold Env.blockKind; rw [hk]; rfl
  have kx : env.kindOf x = env.scope.names.lookup x := rfl
  have ky : env.kindOf y = env.scope.names.lookup y := rfl
  unfold swappedStores
  simp only [hb, kx, ky, List.length_cons, List.length_nil, List.filterMap_cons, List.filterMap_nil]
  rcases h with h | h <;> simp [h] <;> intro _ _ hl <;> exfalso <;> revert hl <;> split <;> simp
theorem swapN3 {a b c : Expr} {x y z : Str} {px py pz pt pt2 : Pos} {kt k2 : Nat} (env : Env) (hk : env.scope.kind = .function) (h : env.scope.names.lookup x = some .cell ∨ env.scope.names.lookup y = some .cell ∨ env.scope.names.lookup z = some .cell) :
    swappedStores [.Tuple [.Name x px, .Name y py, .Name z pz] kt pt] (.Tuple [a, b, c] k2 pt2) env = pure none := by
  have hb : env.blockKind = .function := by unfold Env.blockKind; rw [hk]; rfl
  have kx : env.kindOf x = env.scope.names.lookup x := rfl
  have ky : env.kindOf y = env.scope.names.lookup y := rfl
  have kz : env.kindOf z = env.scope.names.lookup z := rfl
  unfold swappedStores
  simp only [hb, kx, ky, kz, List.length_cons, List.length_nil, List.filterMap_cons, List.filterMap_nil]
  rcases h with h | h | h <;> simp [h] <;> intro _ _ _ hl <;> exfalso <;> revert hl <;> split <;> (try split) <;> simp
/-! ### a, b, c = e1, e2, e3 with names of which some are cells -/
section
variable {S : Sta} {a b c d e : Expr} {pos p : Pos} {w wa wb wc wd : W} {wo1 wo2 wo3 : WO} {i j l : Nat} {x y z : Str}
theorem ds_parT2 {px py pt : Pos} {kt k2 pt2} (h1 : DO S a wo1) (h2 : DO S b wo2) (nd : S.N.Nodup) (hi : (S.N[i]? == some x) = true := by kernel_rfl) (hj : (S.N[j]? == some y) = true := by kernel_rfl) (hij : (i == j) = false := by kernel_rfl)
    (hx : (S.names.lookup x == some .local || (S.names.lookup x == some .cell && S.fc x)) = true := by kernel_rfl) (hy : (S.names.lookup y == some .local || (S.names.lookup y == some .cell && S.fc y)) = true := by kernel_rfl)
    (hcell : (S.names.lookup x == some .cell || S.names.lookup y == some .cell) = true := by kernel_rfl)
    (hs : ∀ env, starEach (a :: [b]) env = (false, eval a env) :: starEach [b] env := by intro _; rfl) (hs2 : ∀ env, starEach (b :: []) env = (false, eval b env) :: starEach [] env := by intro _; rfl)
    (hsw : ∀ env, swapsWithSole [.Tuple [.Name x px, .Name y py] kt pt] (.Tuple [a, b] k2 pt2) pos.line env = pure false := by intro _; rfl)
    (hw : ∀ env : Env, env.scope.kind = .function → env.scope.names.lookup x = some .cell ∨ env.scope.names.lookup y = some .cell → swappedStores [.Tuple [.Name x px, .Name y py] kt pt] (.Tuple [a, b] k2 pt2) env = pure none := by exact swapN2)
    (h1' : ∀ env, (assignEach [.Tuple [.Name x px, .Name y py] kt pt] env).map (·.2) = [assign (.Tuple [.Name x px, .Name y py] kt pt) env] := by intro _; rfl) :
    DS S (.Assign [.Tuple [.Name x px, .Name y py] kt pt] (.Tuple [a, b] k2 pt2) pos) (wPar2 i j wo1 wo2) := fun X f => by
  obtain ⟨lx, lx2⟩ := locOf f hx
  obtain ⟨ly, ly2⟩ := locOf f hy
  have nij : i ≠ j := fun z => by subst z; simp at hij
  have hc' : X.env.scope.names.lookup x = some .cell ∨ X.env.scope.names.lookup y = some .cell := by
    rw [f.look]
    rcases Bool.or_eq_true_iff.mp hcell with h | h
    · exact .inl (beq_iff_eq.mp h)
    · exact .inr (beq_iff_eq.mp h)
  have nd' : X.N.Nodup := by rw [f.N]; exact nd
  have pgx : PG X (.Name x px) (gName i) := pg_name nd' (by rw [f.N]; exact beq_iff_eq.mp hi) lx lx2
  have pgy : PG X (.Name y py) (gName j) := pg_name nd' (by rw [f.N]; exact beq_iff_eq.mp hj) ly ly2
  refine (ps_asg (pe_tup (pa_cons (h1 X f) (pa_cons (h2 X f) pa_nil (hs2 _)) (hs _))) (pg_tup (n := 2) f.calm (pgs_cons pgx (pgs_cons pgy pgs_nil rfl) rfl) rfl rfl) (hsw _) (hw _ f.kind hc') (h1' _)).imp fun D σ H ⟨G, H0, F0, F, ρ, E, ev, ⟨li, lj, hw⟩, g⟩ => ?_
  refine ⟨G, F, ρ, _, ev.r, hw, fun v H1 F1 sv s1 e1 f1 r1 q1 => ?_⟩
  have ns : ∀ (k : Nat) (sx : SV), ρ[k]? = some (some sx) → isOwn sx = true → ∀ a, H a = none → σ[k]? ≠ some (some (.ref a)) := fun k sx q ho a ha => ev.ne ha k sx q ho
  refine ⟨pinO G H1 v sv, F1, ρ, _, pin_evr r1 ns e1, q1 _ (pin_ext r1), fun u H2 F2 sw s2 e2 f2 r2 q2 => ?_⟩
  obtain ⟨e2', f2', nF⟩ := pin_less r1 e2 f2
  have r2' : RpO S.K G F2 H1 H2 u sw := rpo_unpin (pin_ext r1) r2
  obtain ⟨F3, ev3, s3⟩ := ev.put2 (s1.trans s2) e2' (f1.trans f2') li lj nij (rpo_keep r1 s2 f2' nF) (r2'.back f1) (fun o1 o2 z => by
    obtain ⟨b1, o1', eb1, q1, _, _, _⟩ := rpo_ref r1 o1
    obtain ⟨b2, o2', eb2, _, _, q3, _⟩ := rpo_ref r2' o2
    rw [z, eb2] at eb1
    cases eb1
    rw [q1] at q3; cases q3)
  refine ⟨by show 2 ≤ sizeLine; decide, fun t ht => ⟨t, [v, u], rfl, SqT.of upd_same, rfl, v, [u], rfl, u, [], rfl, rfl, ?_⟩⟩
  exact g.nx _ _ F3 _ (ev3.go (Same.refl _) (ev3.r.liveO ht) (Fr.upd ht)) s3 q2
theorem ds_parT3 {px py pz pt : Pos} {kt k2 pt2} (h1 : DO S a wo1) (h2 : DO S b wo2) (h3 : DO S c wo3) (nd : S.N.Nodup) (hi : (S.N[i]? == some x) = true := by kernel_rfl) (hj : (S.N[j]? == some y) = true := by kernel_rfl) (hl : (S.N[l]? == some z) = true := by kernel_rfl) (hij : (i == j || i == l || j == l) = false := by kernel_rfl)
    (hx : (S.names.lookup x == some .local || (S.names.lookup x == some .cell && S.fc x)) = true := by kernel_rfl) (hy : (S.names.lookup y == some .local || (S.names.lookup y == some .cell && S.fc y)) = true := by kernel_rfl) (hz : (S.names.lookup z == some .local || (S.names.lookup z == some .cell && S.fc z)) = true := by kernel_rfl)
    (hcell : (S.names.lookup x == some .cell || S.names.lookup y == some .cell || S.names.lookup z == some .cell) = true := by kernel_rfl)
    (hs : ∀ env, starEach (a :: [b, c]) env = (false, eval a env) :: starEach [b, c] env := by intro _; rfl) (hs2 : ∀ env, starEach (b :: [c]) env = (false, eval b env) :: starEach [c] env := by intro _; rfl) (hs3 : ∀ env, starEach (c :: []) env = (false, eval c env) :: starEach [] env := by intro _; rfl)
    (hsw : ∀ env, swapsWithSole [.Tuple [.Name x px, .Name y py, .Name z pz] kt pt] (.Tuple [a, b, c] k2 pt2) pos.line env = pure false := by intro _; rfl)
    (hw : ∀ env : Env, env.scope.kind = .function → env.scope.names.lookup x = some .cell ∨ env.scope.names.lookup y = some .cell ∨ env.scope.names.lookup z = some .cell → swappedStores [.Tuple [.Name x px, .Name y py, .Name z pz] kt pt] (.Tuple [a, b, c] k2 pt2) env = pure none := by exact swapN3)
    (h1' : ∀ env, (assignEach [.Tuple [.Name x px, .Name y py, .Name z pz] kt pt] env).map (·.2) = [assign (.Tuple [.Name x px, .Name y py, .Name z pz] kt pt) env] := by intro _; rfl) :
    DS S (.Assign [.Tuple [.Name x px, .Name y py, .Name z pz] kt pt] (.Tuple [a, b, c] k2 pt2) pos) (wPar3 i j l wo1 wo2 wo3) := fun X f => by
  obtain ⟨lx, lx2⟩ := locOf f hx
  obtain ⟨ly, ly2⟩ := locOf f hy
  obtain ⟨lz, lz2⟩ := locOf f hz
  have hc' : X.env.scope.names.lookup x = some .cell ∨ X.env.scope.names.lookup y = some .cell ∨ X.env.scope.names.lookup z = some .cell := by
    rw [f.look]
    rcases Bool.or_eq_true_iff.mp hcell with h | h
    · rcases Bool.or_eq_true_iff.mp h with h | h
      · exact .inl (beq_iff_eq.mp h)
      · exact .inr (.inl (beq_iff_eq.mp h))
    · exact .inr (.inr (beq_iff_eq.mp h))
  have nd' : X.N.Nodup := by rw [f.N]; exact nd
  have pgx : PG X (.Name x px) (gName i) := pg_name nd' (by rw [f.N]; exact beq_iff_eq.mp hi) lx lx2
  have pgy : PG X (.Name y py) (gName j) := pg_name nd' (by rw [f.N]; exact beq_iff_eq.mp hj) ly ly2
  have pgz : PG X (.Name z pz) (gName l) := pg_name nd' (by rw [f.N]; exact beq_iff_eq.mp hl) lz lz2
  refine (ps_asg (pe_tup (pa_cons (h1 X f) (pa_cons (h2 X f) (pa_cons (h3 X f) pa_nil (hs3 _)) (hs2 _)) (hs _))) (pg_tup (n := 3) f.calm (pgs_cons pgx (pgs_cons pgy (pgs_cons pgz pgs_nil rfl) rfl) rfl) rfl rfl) (hsw _) (hw _ f.kind hc') (h1' _)).imp fun D σ H ⟨G, H0, F0, F, ρ, E, ev, ⟨li, lj, ll, hw⟩, g⟩ => ?_
  refine ⟨G, F, ρ, _, ev.r, hw, fun v H1 F1 sv s1 e1 f1 r1 q1 => ?_⟩
  have ns : ∀ (k : Nat) (sx : SV), ρ[k]? = some (some sx) → isOwn sx = true → ∀ a, H a = none → σ[k]? ≠ some (some (.ref a)) := fun k sx q ho a ha => ev.ne ha k sx q ho
  have p1 := pin_evr r1 ns e1
  have ns1 : ∀ (k : Nat) (sx : SV), ρ[k]? = some (some sx) → isOwn sx = true → ∀ a, H1 a = none → σ[k]? ≠ some (some (.ref a)) := fun k sx q ho a ha hz => by
    obtain ⟨o, q1, _⟩ := e1.ownAt q ho hz
    rw [ha] at q1; cases q1
  refine ⟨pinO G H1 v sv, F1, ρ, _, p1, q1 _ (pin_ext r1), fun u H2 F2 sw s2 e2 f2 r2 q2 => ?_⟩
  have p2 := pin_evr r2 ns1 e2
  refine ⟨pinO (pinO G H1 v sv) H2 u sw, F2, ρ, _, p2, q2 _ (pin_ext r2), fun t H3 F3 sx s3 e3 f3 r3 q3 => ?_⟩
  obtain ⟨e3', f3', nF2⟩ := pin_less r2 e3 f3
  have r3' : RpO S.K (pinO G H1 v sv) F3 H2 H3 t sx := rpo_unpin (pin_ext r2) r3
  obtain ⟨e3g, f13, nF1⟩ := pin_less r1 e3' (f2.trans f3')
  obtain ⟨e2g, f12, _⟩ := pin_less r1 e2 f2
  have f23 : Fr G H2 H3 := pin_fr r1 e2 e3' f3'
  have R1 : RpO S.K G F3 H H3 v sv := rpo_keep r1 (s2.trans s3) f13 nF1
  have R2 : RpO S.K G F3 H1 H3 u sw := rpo_keep (rpo_unpin (pin_ext r1) r2) s3 f23 nF2
  have R3 : RpO S.K G F3 H2 H3 t sx := rpo_unpin (pin_ext r1) r3'
  have n12 : isOwn sv = true → isOwn sw = true → v ≠ u := fun o1 o2 z => by
    obtain ⟨b1, o1', eb1, q1, _, _, _⟩ := rpo_ref r1 o1
    obtain ⟨b2, o2', eb2, _, _, q3, _⟩ := rpo_ref R2 o2
    rw [z, eb2] at eb1
    cases eb1
    rw [q1] at q3; cases q3
  have n13 : isOwn sv = true → isOwn sx = true → v ≠ t := fun o1 o2 z => by
    obtain ⟨b1, o1', eb1, q1, n1, _, _⟩ := rpo_ref r1 o1
    obtain ⟨b2, o2', eb2, _, _, q3, _⟩ := rpo_ref R3 o2
    rw [z, eb2] at eb1
    cases eb1
    have := f12 _ _ q1 n1
    rw [this] at q3; cases q3
  have n23 : isOwn sw = true → isOwn sx = true → u ≠ t := fun o1 o2 z => by
    obtain ⟨b1, o1', eb1, q1, n1, _, _⟩ := rpo_ref r2 o1
    obtain ⟨b2, o2', eb2, _, _, q3, _⟩ := rpo_ref R3 o2
    rw [z, eb2] at eb1
    cases eb1
    rw [q1] at q3; cases q3
  obtain ⟨F4, ev4, s4⟩ := ev.put3 (s1.trans (s2.trans s3)) e3g (f1.trans (f12.trans f23)) li lj ll R1 (R2.back f1) (R3.back (f1.trans f12)) n12 n13 n23
  refine ⟨by show 3 ≤ sizeLine; decide, fun t' ht => ⟨t', [v, u, t], rfl, SqT.of upd_same, rfl, v, [u, t], rfl, u, [t], rfl, t, [], rfl, rfl, ?_⟩⟩
  exact g.nx _ _ F4 _ (ev4.go (Same.refl _) (ev4.r.liveO ht) (Fr.upd ht)) s4 q3
end
end DL
set_option maxHeartbeats 4000000
namespace DL
open PySem PySem.Spec PyProof.Rows L2

/-! ### x = [..], x a cell -/
section
variable {S : Sta} {elt tg iter : Expr} {ifs : List Expr} {scope : Scope} {own : List (Str × Nat)} {pos : Pos} {wi : WA} {wg : WG} {wt : WT} {we : W} {is : List Nat}
theorem ds_setLcC {wo : WO} {i : Nat} {y : Str} {py spos : Pos} (he : DO S (.ListComp elt [⟨tg, iter, ifs, 0⟩] scope pos) wo) (nd : S.N.Nodup)
    (hN : (S.N[i]? == some y) = true := by kernel_rfl) (hl : (S.names.lookup y == some .cell && S.fc y) = true := by kernel_rfl) : DS S (.Assign [.Name y py] (.ListComp elt [⟨tg, iter, ifs, 0⟩] scope pos) spos) (wSet i wo) := fun X f => by
  have hl' : (S.names.lookup y == some .local || (S.names.lookup y == some .cell && S.fc y)) = true := by rw [hl, Bool.or_true]
  obtain ⟨h1, h2⟩ := locOf f hl'
  have hc : X.env.scope.names.lookup y = some .cell := by rw [f.look]; exact beq_iff_eq.mp (Bool.and_eq_true_iff.mp hl).1
  have hs : swapsWith (.ListComp elt [⟨tg, iter, ifs, 0⟩] scope pos) (some (.Name y py)) spos.line X.env = pure false := by
    have ky : X.env.kindOf y = some .cell := hc
    unfold swapsWith
    simp [ky, show (NameKind.cell == NameKind.local) = false from rfl]
  refine (ps_set (i := i) (by rw [f.N]; exact nd) (by rw [f.N]; exact beq_iff_eq.mp hN) h1 (he X f) hs h2).imp fun D σ H ⟨G, H0, F0, F, ρ, E, ev, ⟨hi, hw⟩, g⟩ => ?_
  refine ⟨G, F, ρ, _, ev.r, hw, fun v H' F' sv s e' fr r q => ?_⟩
  obtain ⟨F2, ev2, s2⟩ := ev.put s e' fr hi r
  exact g.nx _ H' F2 _ ev2 s2 q
end
end DL
set_option maxHeartbeats 4000000
namespace DL
open PySem PySem.Spec PyProof.Rows L2

/-! ### the deck of a law: a dict of a list of ints and two ints -/
def DeckAt (da ca : Addr) (H : Hp) : Prop := ∃ (m t : Int) (cs : List Int), cs.length < 100 ∧ H da = some (.dK [(.inr "cells", .ref ca), (.inr "mixed", .int m), (.inr "turn", .int t)]) ∧ H ca = some (.lst (cs.map V.int))
structure DeckIn (G : Gc) (da ca : Addr) : Prop where
  r1 : G.R da
  r2 : G.R ca
  at_ : ∀ H, G.Wd H → DeckAt da ca H
  st : ∀ H H', G.Wd H → DeckAt da ca H' → (∀ a, G.R a → a ≠ da → a ≠ ca → H' a = H a) → G.Wd H'
def IsDeck (G : Gc) (da : Addr) : Prop := ∃ ca, DeckIn G da ca
theorem IsDeck.ext {G G' : Gc} {da : Addr} (h : IsDeck G da) (e : GExt G G') : IsDeck G' da := by
  obtain ⟨ca, h⟩ := h
  refine ⟨ca, e.R _ h.r1, e.R _ h.r2, fun H w => h.at_ H (e.wd H w), fun H H' w d k => ?_⟩
  have w1 := h.st H H' (e.wd H w) d fun a r n1 n2 => k a (e.R a r) n1 n2
  exact e.st H H' w w1 fun a r n => k a r (fun z => n (z ▸ h.r1)) (fun z => n (z ▸ h.r2))
/-- below another number, drawn -/
def s_draw : FS := fun G ds Q => ∃ (da : Addr) (n : Int), ds = [.ob da, .int n] ∧ IsDeck G da ∧ 0 < n ∧ n < 1073741824 ∧ ∀ k : Int, 0 ≤ k → k < n → Q (.fz (.int k))

def dkV (a b c : V) : List (Key × V) := [(.inr "cells", a), (.inr "mixed", b), (.inr "turn", c)]
theorem dk_cells (a b c : V) : valV (dkV a b c) (.inr "cells") = some a := by first | rfl | kernel_rfl
theorem dk_mixed (a b c : V) : valV (dkV a b c) (.inr "mixed") = some b := by first | rfl | kernel_rfl
theorem dk_turn (a b c : V) : valV (dkV a b c) (.inr "turn") = some c := by first | rfl | kernel_rfl
theorem dk_put (a b c d : V) : putK (dkV a b c) (.inr "turn") d = dkV a b d := by first | rfl | kernel_rfl
/-- the deck's state within a draw; H the heap at its entry -/
structure DkAt (H H' : Hp) (da ca : Addr) (m t : Int) (cs : List Int) : Prop where
  d : H' da = some (.dK (dkV (.ref ca) (.int m) (.int t)))
  c : H' ca = some (.lst (cs.map V.int))
  fr : ∀ b o, b ≠ da → b ≠ ca → H b = some o → H' b = some o
section
variable {H H' : Hp} {da ca : Addr} {m t : Int} {cs : List Int}
theorem DkAt.ne (J : DkAt H H' da ca m t cs) : da ≠ ca := fun e => by
  have h := J.c
  rw [← e, J.d] at h
  cases h
theorem DkAt.turn (J : DkAt H H' da ca m t cs) : DGet H' da (.str "turn") (some (.int t)) := by
  have h := DGet.k (k := (.inr "turn" : Key)) J.d
  rw [dk_turn] at h
  exact h
theorem DkAt.mixed (J : DkAt H H' da ca m t cs) : DGet H' da (.str "mixed") (some (.int m)) := by
  have h := DGet.k (k := (.inr "mixed" : Key)) J.d
  rw [dk_mixed] at h
  exact h
theorem DkAt.cells (J : DkAt H H' da ca m t cs) : DGet H' da (.str "cells") (some (.ref ca)) := by
  have h := DGet.k (k := (.inr "cells" : Key)) J.d
  rw [dk_cells] at h
  exact h
theorem DkAt.put (J : DkAt H H' da ca m t cs) (v : V) : DPut H' da (.str "turn") v (upd H' da (.dK (dkV (.ref ca) (.int m) v))) := by
  have h := DPut.k (v := v) (k := (.inr "turn" : Key)) J.d (by rw [sizeLine_eq]; show 3 < 16777216; decide)
  rw [dk_put] at h
  exact h
theorem DkAt.after (J : DkAt H H' da ca m t cs) (t' : Int) : DkAt H (upd H' da (.dK (dkV (.ref ca) (.int m) (.int t')))) da ca m t' cs :=
  ⟨upd_same, by rw [upd_ne J.ne.symm]; exact J.c, fun b o h1 h2 h => by rw [upd_ne h1]; exact J.fr b o h1 h2 h⟩
theorem DkAt.new (J : DkAt H H' da ca m t cs) {p : Addr} {o : HO} (h : H' p = none) : DkAt H (upd H' p o) da ca m t cs :=
  ⟨by rw [upd_ne (ne_of_none J.d h)]; exact J.d, by rw [upd_ne (ne_of_none J.c h)]; exact J.c, fun b o h1 h2 hb => by rw [upd_ne (ne_of_none (J.fr b o h1 h2 hb) h)]; exact J.fr b o h1 h2 hb⟩
theorem DkAt.set (J : DkAt H H' da ca m t cs) (cs' : List Int) {vs : List V} (e : vs = cs'.map V.int) : DkAt H (upd H' ca (.lst vs)) da ca m t cs' :=
  ⟨by rw [upd_ne J.ne]; exact J.d, by rw [upd_same, e], fun b o h1 h2 h => by rw [upd_ne h2]; exact J.fr b o h1 h2 h⟩
theorem dp_ints {K : PySem.W.Frag} : ∀ ns : List Int, DpAll K H (ns.map V.int) (ns.map .int)
  | [] => .nil
  | n :: ns => .cons (.int n) (dp_ints ns)
theorem shaped_ints (ns : List Int) : SeqAt.shaped (.list (ns.map .int)) = true := by
  have h1 : ∀ ns : List Int, PyData.canLayAll0 (ns.map .int) = true := fun ns => by
    induction ns with
    | nil => simp [PyData.canLayAll0]
    | cons n ns ih => simp only [List.map_cons, PyData.canLayAll0, PyData.canLay0, ih, Bool.and_self]
  have h2 : PyData.depthAll (ns.map .int) = 0 := PySem.W.depth_ints ns
  unfold SeqAt.shaped
  simp [PyData.canLay0, h1, PyData.depth, h2]
theorem DkAt.fin (J : DkAt H H' da ca m t cs) {K : PySem.W.Frag} {G : Gc} {F : Hp} {Qd : SV → Prop} {Q : VK} (dk : DeckIn G da ca) (hl : cs.length < 100) (sF : Same F H) (sR : ∀ a, G.R a → F a = none) (sW : G.Wd H) {k : Int} (hq : Qd (.fz (.int k)))
    (g : ∀ v H' F' sv, Same F F' → Same F' H' → (∀ a, G.R a → F' a = none) → DL.Fr G H H' → G.Wd H' → RpO K G F' H H' v sv → Qd sv → Q v H') : Q (.int k) H' := by
  have out : ∀ b, ¬ G.R b → b ≠ da ∧ b ≠ ca := fun b nb => ⟨fun e => nb (e ▸ dk.r1), fun e => nb (e ▸ dk.r2)⟩
  refine g (.int k) H' F (.fz (.int k)) (Same.refl _) (fun a o h => ?_) sR (fun b o h nb => J.fr b o (out b nb).1 (out b nb).2 h) (dk.st H H' sW ⟨m, t, cs, hl, J.d, J.c⟩ fun a r n1 n2 => ?_) (Rp.int k) hq
  · have nr : ¬ G.R a := fun r => by rw [sR a r] at h; cases h
    exact J.fr a o (out a nr).1 (out a nr).2 (sF a o h)
  · cases e : H a with
    | none => exact absurd e (G.live H a sW r)
    | some o => exact J.fr a o n1 n2 e
end
/-- a def by its walk in the hand layer -/
theorem kn_raw {B : Bs} {x : Str} {st : Stmt} {ps N : List Str} {sp : FS} {k : Nat} {f : Addr} {fd : FuncData} (F : FunD B.K x x (defArgs st) (defBody st) (defScope st) [] [] f fd) (sc : FnScope N ps (defScope st)) (hm : B.mg x = some (.ref f)) (hb : Binds B.K fd ps [])
    (len : ∀ G ds Q, sp G ds Q → ds.length = ps.length)
    (body : ∀ X, Fam { B with N := N, names := (defScope st).names, k := k, fc := fun _ => true } X → ∀ vs H Q E, spV B.K sp vs H Q E → ∃ t, PSs X (defBody st) t ∧ t { nx := fun _ H' => Q .non H', rt := Q } (L2.start N vs) H) : Kn B (k + 1) x st ps sp := by
  refine ⟨f, fd, F.okG sc (fun vs H Q E h => ?_) (fun cdv A outer s H vs Q E hr hn h => ?_), hm, F, hb⟩
  · obtain ⟨G, F, ds, Qd, s1, s2, s3, r, h, _⟩ := h
    rw [r.len]
    exact len G ds Qd h
  · obtain ⟨t, h1, h2⟩ := body (Cx.nox (cxOf CX0 B.P B.w B.K B.mg B.base N x (defScope st) f cdv A outer s H E)) ⟨rfl, rfl, rfl, rfl, rfl, rfl, rfl, rfl, hr, PassesOwn.never, fun _ _ => rfl, sc.kind, hn⟩ vs H Q E h
    exact ⟨t, PSs.nox h1, h2⟩
end DL
set_option maxHeartbeats 4000000
namespace DL
open PySem PySem.Spec PyProof.Rows L2

/-! ### the script -/
/-- what a caller keeps who looks at the script at a -/
theorem script_gc {K : PySem.W.Frag} {H : Hp} {a : Addr} {vs : List V} (h : SqL K H a vs) : ∃ G : Gc, G.Wd H ∧ (∀ b H', G.R b → G.Wd H' → H' b = H b) ∧ ∀ H', G.Wd H' → SqL K H' a vs := by
  have one : ∀ u : HO, (∀ xs, u ≠ .tup xs) → H a = some u → ∃ G : Gc, G.Wd H ∧ (∀ b H', G.R b → G.Wd H' → H' b = H b) ∧ ∀ H', G.Wd H' → H' a = some u := fun u hu h =>
    ⟨{ R := fun b => b = a, Wd := fun H' => H' a = some u, live := fun H' b w (r : b = a) => (by rw [r, w]; exact fun z => nomatch z), nt := fun H' b xs w (r : b = a) => (by rw [r, w]; exact fun z => hu xs (Option.some.inj z)), st := fun H' H2 w k => (by rw [k a rfl]; exact w) }, h, fun b H' (r : b = a) w => (by rw [r, w, h]), fun H' w => w⟩
  rcases h with (h | ⟨o, h⟩) | h
  · obtain ⟨G, h1, h2, h3⟩ := one _ (fun xs z => by cases z) h
    exact ⟨G, h1, h2, fun H' w => .inl (.inl (h3 H' w))⟩
  · obtain ⟨G, h1, h2, h3⟩ := one _ (fun xs z => by cases z) h
    exact ⟨G, h1, h2, fun H' w => .inl (.inr ⟨o, h3 H' w⟩)⟩
  · exact ⟨{ R := fun _ => False, Wd := fun _ => True, live := fun _ _ _ r => r.elim, nt := fun _ _ _ _ r => r.elim, st := fun _ _ _ _ => True.intro }, True.intro, fun _ _ r => r.elim, fun H' _ => .inr h⟩
def noHp : Hp := fun _ => none
theorem noHp_same {H : Hp} : Same noHp H := fun _ _ h => by cases h
theorem immL_ints : ∀ ns : List Int, immL (ns.map D.int) = true
  | [] => rfl
  | n :: ns => by show (imm (.int n) && immL (ns.map D.int)) = true; rw [immL_ints ns]; rfl
def cutI (ns : List Int) (lo hi : Option Int) : List Int := (ns.drop (HT.sIx ns.length 0 lo)).take (HT.sIx ns.length ns.length hi - HT.sIx ns.length 0 lo)
theorem cutD_ints (ns : List Int) (lo hi : Option Int) : cutD (ns.map D.int) lo hi = (cutI ns lo hi).map D.int := by
  unfold cutD cutI
  rw [List.length_map, List.map_take, List.map_drop]
theorem cutI_len (ns : List Int) (lo hi : Option Int) : (cutI ns lo hi).length ≤ ns.length := by
  unfold cutI
  rw [List.length_take, List.length_drop]
  omega
/-- script[:m] -/
def woScr (K : PySem.W.Frag) (i : Nat) (m : Int) : WO := fun G ρ Q => ∃ (a : Addr) (ns : List Int), ρ[i]? = some (some (.fz (.ob a))) ∧ (∀ H, G.Wd H → SqL K H a (ns.map V.int)) ∧ Q (.ow (cutD (ns.map .int) none (some m)))
section
variable {S : Sta} {x : Str} {i : Nat} {m : Int} {j : Nat} {p p2 p3 pos : Pos}
theorem do_scr (hN : (S.N[i]? == some x) = true := by kernel_rfl) (hx : (S.names.lookup x == some .local || S.names.lookup x == some .cell || S.names.lookup x == some .free) = true := by kernel_rfl) (hd : (x == ("__debug__" : Str)) = false := by kernel_rfl) (hcd : (x == ("__classdict__" : Str)) = false := by kernel_rfl) :
    DO S (.Subscript (.Name x p) (.Slice none (some (.Constant (.int m) j p2)) none p3) pos) (woScr S.K i m) := fun X f => (pe_slice sl_list (pvN f hN hx hd hcd) po_none (po_some pe_int)).imp fun σ H Q ⟨G, F, ρ, Qd, ev, ⟨a, ns, q, hs, hw⟩, hq⟩ => by
  obtain ⟨v, h1, h2⟩ := ev.slot i _ q
  cases h2
  refine ⟨.ref a, h1, m, rfl, a, ns.map V.int, rfl, by rw [f.K]; exact hs H ev.wd, fun p hp => ?_⟩
  exact ev.newL hp (rpl_cut RpL.of_ints none (some m)) hw hq
end
/-- the call of a law's own maker of its deck: the deck is at a new address -/
def spDeck (K : PySem.W.Frag) : Sp := fun vs H Q _ => ∃ (a : Addr) (ns : List Int), vs = [.ref a] ∧ ns.length ≤ 63 ∧ SqL K H a (ns.map V.int) ∧ ∀ (da ca : Addr) (H' : Hp), H da = none → H ca = none → (∀ b o, H b = some o → H' b = some o) → DeckAt da ca H' → Q (.ref da) H'
end DL
set_option maxHeartbeats 4000000
namespace DL
open PySem PySem.Spec PyProof.Rows L2

/-! ### x = _law_deck(script): from there on the deck is the caller's own -/
def deckGc (G : Gc) (da ca : Addr) : Gc where
  R := fun b => G.R b ∨ b = da ∨ b = ca
  Wd := fun H => G.Wd H ∧ DeckAt da ca H
  live := fun H b ⟨w, m, t, cs, _, h1, h2⟩ r => by
    rcases r with r | r | r
    · exact G.live H b w r
    · rw [r, h1]; exact fun z => nomatch z
    · rw [r, h2]; exact fun z => nomatch z
  nt := fun H b xs ⟨w, m, t, cs, _, h1, h2⟩ r => by
    rcases r with r | r | r
    · exact G.nt H b xs w r
    · rw [r, h1]; intro z; cases z
    · rw [r, h2]; intro z; cases z
  st := fun H H' ⟨w, m, t, cs, hl, h1, h2⟩ k => ⟨G.st H H' w fun a r => k a (.inl r), m, t, cs, hl, by rw [k da (.inr (.inl rfl))]; exact h1, by rw [k ca (.inr (.inr rfl))]; exact h2⟩
theorem deckGc_ext {G : Gc} {da ca : Addr} (n1 : ¬ G.R da) (n2 : ¬ G.R ca) : GExt G (deckGc G da ca) := ⟨fun _ r => .inl r, fun _ w => w.1, fun H H' ⟨w, m, t, cs, hl, h1, h2⟩ w' k => ⟨w', m, t, cs, hl, by rw [k da (.inr (.inl rfl)) n1]; exact h1, by rw [k ca (.inr (.inr rfl)) n2]; exact h2⟩⟩
theorem deckGc_in {G : Gc} {da ca : Addr} (n1 : ¬ G.R da) (n2 : ¬ G.R ca) : DeckIn (deckGc G da ca) da ca := ⟨.inr (.inl rfl), .inr (.inr rfl), fun _ w => w.2, fun H H' w d k => ⟨G.st H H' w.1 fun a r => k a (.inl r) (fun z => n1 (z ▸ r)) (fun z => n2 (z ▸ r)), d⟩⟩
section
variable {K : PySem.W.Frag} {G G' : Gc} {H0 F0 F H H' : Hp} {σ : St} {ρ : En}
theorem rpo_out {F' H1 : Hp} {v : V} {sv : SV} (hx : GExt G G') (h : RpO K G' F' H0 H1 v sv) : RpO K G F' H0 H1 v sv := by
  cases sv with
  | fz d => exact h
  | ow xs => obtain ⟨a, vs, rfl, h1, h2, h3, h4⟩ := h; exact ⟨a, vs, rfl, h1, h2, fun r => h3 (hx.R a r), h4⟩
  | od t kds => obtain ⟨a, vs, rfl, h1, h0, h2, h3, h4⟩ := h; exact ⟨a, vs, rfl, h1, h0, h2, fun r => h3 (hx.R a r), h4⟩
theorem fr_out (hx : GExt G G') (n : ∀ b, G'.R b → ¬ G.R b → H0 b = none) (f : Fr G' H0 H') : Fr G H0 H' := fun b o hb nb => f b o hb fun r => by
  rw [n b r nb] at hb; cases hb
theorem Ev.out (hx : GExt G G') (n : ∀ b, G'.R b → ¬ G.R b → H0 b = none) (e : Ev K G' H0 F0 F H σ ρ) : Ev K G H0 F0 F H σ ρ where
  r := ⟨e.r.sub, fun a r => e.r.res a (hx.R a r), hx.wd _ e.r.wd, fun i sv q => by
    obtain ⟨v, h1, h2⟩ := e.r.slot i sv q
    refine ⟨v, h1, ?_⟩
    cases sv with
    | fz d => exact h2
    | ow xs => obtain ⟨a, vs, rfl, z1, z2, z3⟩ := h2; exact ⟨a, vs, rfl, z1, z2, fun r => z3 (hx.R a r)⟩
    | od t kds => obtain ⟨a, vs, rfl, z1, z0, z2, z3⟩ := h2; exact ⟨a, vs, rfl, z1, z0, z2, fun r => z3 (hx.R a r)⟩, e.r.len⟩
  f0 := e.f0
  fr := fr_out hx n e.fr
  own := e.own
  apart := e.apart
end
def wDeckS (K : PySem.W.Frag) (i j : Nat) (b : WS) : WS := fun G E ρ => i < ρ.length ∧ (∀ (k : Nat) (sv : SV), ρ[k]? = some (some sv) → isOwn sv = false) ∧ (∃ (a : Addr) (ns : List Int), ρ[j]? = some (some (.fz (.ob a))) ∧ ns.length ≤ 63 ∧ ∀ H, G.Wd H → SqL K H a (ns.map V.int)) ∧
  ∀ (da : Addr) (G' : Gc), GExt G G' → IsDeck G' da → b G' E (ρ.set i (some (.fz (.ob da))))
theorem dss_deck {S : Sta} {kd i j : Nat} {x y z : Str} {f : Addr} {fd : FuncData} {P : List Str} {px p py pos pos2 : Pos} {rest : List Stmt} {b : WS} (F : FnG S.P S.w S.K S.mg S.base CX0 kd f fd P (spDeck S.K)) (hm : S.mg z = some (.ref f)) (hkp : PySem.W.keepIn S.K (.ref f) = true) (hb : Binds S.K fd P []) (hk : kd ≤ S.k) (hr : DSs S rest b) (nd : S.N.Nodup)
    (hN : (S.N[i]? == some x) = true := by kernel_rfl) (hl : (S.names.lookup x == some .local || (S.names.lookup x == some .cell && S.fc x)) = true := by kernel_rfl)
    (hNy : (S.N[j]? == some y) = true := by kernel_rfl) (hy : (S.names.lookup y == some .local || S.names.lookup y == some .cell || S.names.lookup y == some .free) = true := by kernel_rfl) (hyd : (y == ("__debug__" : Str)) = false := by kernel_rfl) (hycd : (y == ("__classdict__" : Str)) = false := by kernel_rfl)
    (hg : (S.names.lookup z == some .globalImplicit) = true := by kernel_rfl) (hdb : (z == ("__debug__" : Str)) = false := by kernel_rfl)
    (hs : ∀ env, swapsWith (.Call (.Name z p) [.Name y py] [] pos) (some (.Name x px)) pos2.line env = pure false := by intro _; rfl) (he : ∀ env, starEach [.Name y py] env = (false, eval (.Name y py) env) :: starEach [] env := by intro _; rfl) (hpl : ∀ env, (backTo pos (starEach [] env)).any (·.1) = false := by intro _; rfl) :
    DSs S (.Assign [.Name x px] (.Call (.Name z p) [.Name y py] [] pos) pos2 :: rest) (wDeckS S.K i j b) := fun X f' => by
  obtain ⟨h1, h2⟩ := locOf f' hl
  rw [← f'.P, ← f'.w, ← f'.K, ← f'.mg, ← f'.base] at F
  have pc := pe_callG (p := p) (pos := pos) F (f'.room.mono hk) f'.ns (glOf f' hg) (by rw [f'.mg]; exact hm) (by rw [f'.K]; exact hkp) (by rw [f'.K]; exact hb) pass0 (pa_cons (pvN f' hNy hy hyd hycd) pa_nil (he _)) hdb (he _) (hpl X.env)
  refine (pss_cons (ps_set (i := i) (by rw [f'.N]; exact nd) (by rw [f'.N]; exact beq_iff_eq.mp hN) h1 pc (hs _) h2) (hr X f')).imp fun D σ H ⟨G, H0, F0, F1, ρ, E, ev, ⟨hi, ho, ⟨a, ns, qj, hn, hsq⟩, hw⟩, g⟩ => ?_
  obtain ⟨v, q1, q2⟩ := ev.r.slot j _ qj
  cases q2
  refine ⟨.ref a, q1, ?_⟩
  refine ⟨a, ns, rfl, hn, by rw [f'.K]; exact hsq H ev.r.wd, fun da ca H' hda hca keep dat => ?_⟩
  have n1 : ¬ G.R da := ev.r.nr hda
  have n2 : ¬ G.R ca := ev.r.nr hca
  have hx := deckGc_ext n1 n2
  have z1 := ev.fr.free n1 hda
  have z2 := ev.fr.free n2 hca
  have nn : ∀ b, (deckGc G da ca).R b → ¬ G.R b → H0 b = none := fun b r nr => by
    rcases r with r | r | r
    · exact absurd r nr
    · rw [r]; exact z1
    · rw [r]; exact z2
  have same : ∀ b, G.R b → H' b = H b := fun b r => by
    cases e : H b with
    | none => exact absurd e (G.live H b ev.r.wd r)
    | some o => exact keep b o e
  have wd' : (deckGc G da ca).Wd H' := ⟨G.st H H' ev.r.wd same, dat⟩
  have ev2 : Ev S.K (deckGc G da ca) H0 F0 F1 H' σ ρ := by
    refine ⟨⟨fun b o h => keep b o (ev.r.sub b o h), fun b r => ?_, wd', fun k sv q => ?_, ev.r.len⟩, ev.f0, fun b o h nb => keep b o (ev.fr b o h fun r => nb (.inl r)), fun k sv b q hq => ?_, fun k l sv sw b _ q hq => ?_⟩
    · rcases r with r | r | r
      · exact ev.r.res b r
      · rw [r]; exact ev.r.fnone hda
      · rw [r]; exact ev.r.fnone hca
    · obtain ⟨u, h1, h2⟩ := ev.r.slot k sv q
      have := ho k sv q
      cases sv with
      | fz d => exact ⟨u, h1, h2⟩
      | ow xs => cases this
      | od t kds => cases this
    · rw [ho k sv q] at hq; cases hq
    · rw [ho k sv q] at hq; cases hq
  refine ⟨deckGc G da ca, H0, F0, F1, _, E, ev2.set (sv := .fz (.ob da)) hi (Rp.ob da) (fun h => by cases h), hw da _ hx ⟨ca, deckGc_in n1 n2⟩, ⟨fun σ' H2 F' ρ' e s q => g.nx σ' H2 F' ρ' (e.out hx nn) s q, fun σ' H2 F' ρ' e s q => g.bk σ' H2 F' ρ' (e.out hx nn) s q, fun σ' H2 F' ρ' e s q => g.ct σ' H2 F' ρ' (e.out hx nn) s q, fun v H2 F' sv a1 a2 a3 a4 a5 a6 a7 => g.rt v H2 F' sv a1 a2 (fun b r => a3 b (hx.R b r)) (fr_out hx nn a4) (hx.wd _ a5) (rpo_out hx a6) a7⟩⟩
end DL
set_option maxHeartbeats 4000000
namespace DL
open PySem PySem.Spec PyProof.Rows L2

/-! ### zip of two tuples, its pairs kept by a name -/
section
variable {prog : Program} {w : World} {A : Around} {E : Value → Shared → Prop} {s : Shared} {z TI TO i1 i2 l1 l2 : Addr} {k1 k2 : Nat} {xs ys : Array Value} {f0 f1 x y a b : Value}
/-- the zip at z: its last tuple f0, whether that was seen held f1 -/
abbrev ZipIs (h : Heap) (z TI TO : Addr) (f0 f1 : Value) : Prop := h.get? z = some { cls := .type "zip", dict := none, data := .fields #[f0, f1, .bool false, .ref TI, .ref TO], slots := #[] }
def ZipSt (h : Heap) (z TI TO : Addr) : Prop := ∃ f0 f1, ZipIs h z TI TO f0 f1 ∧ (f0 = .none ∨ ∃ T : Addr, f0 = rawInt T) ∧ ∃ f : Bool, f1 = .bool f
theorem zip_free {Q : Bool → Shared → Prop} (h0 : f0 = .none ∨ ∃ T : Addr, f0 = rawInt T) (hf : ∃ f : Bool, f1 = .bool f) (hz : ZipIs s.heap z TI TO f0 f1) (h1 : Q true s)
    (h2 : ∀ h', ZipIs h' z TI TO f0 (.bool true) → Heap.SameBut z s.heap h' → Q false { s with heap := h' }) : wpAny (model prog w) A (Builtin.SmallTypes.ownedTupleIsFree (.ref z)) Q E s := by
  obtain ⟨f, rfl⟩ := hf
  rcases h0 with rfl | ⟨T, rfl⟩
  · unfold Builtin.SmallTypes.ownedTupleIsFree
    exact wpAny_bind (wpAny_field hz rfl (x := .none) rfl (wpAny_pure h1))
  · cases hT : s.heap.get? T with
    | some o => exact wpAny_tupleHeld_zip hz hT h2
    | none =>
      unfold Builtin.SmallTypes.ownedTupleIsFree
      refine wpAny_bind (wpAny_field hz rfl (x := rawInt T) rfl ?_)
      show wpAny _ _ (loadIfAlive ((T : Int).toNat) >>= _) _ _ _
      rw [Int.toNat_natCast]
      have ld : ∀ {Q' : Option Obj → Shared → Prop}, Q' none s → wpAny (model prog w) A (loadIfAlive T) Q' E s := fun {Q'} q => by
        have q' : Q' (s.heap.get? T) s := by rw [hT]; exact q
        exact fun _ _ _ => q'
      exact wpAny_bind (ld (wpAny_pure h1))
/-- what a step leaves as it is -/
def ZipKeep (z TO i1 i2 : Addr) (h h' : Heap) : Prop := ∀ c o, c ≠ z → c ≠ TO → c ≠ i1 → c ≠ i2 → h.get? c = some o → h'.get? c = some o
theorem zip_some {Q : Value → Shared → Prop} (D : ZipApart z TI TO i1 i2 l1 l2) (st : ZipSt s.heap z TI TO) (pI : IsPair s.heap TI (.ref i1) (.ref i2)) (pO : ∃ a b, IsPair s.heap TO a b)
    (t1 : s.heap.IsTupleIter i1 l1 k1) (t2 : s.heap.IsTupleIter i2 l2 k2) (q1 : s.heap.IsTuple l1 xs) (q2 : s.heap.IsTuple l2 ys) (hx : xs[k1]? = some x) (hy : ys[k2]? = some y)
    (hQ : ∀ h', ZipSt h' z TI TO → (∃ a b, IsPair h' TO a b) → h'.IsTupleIter i1 l1 (k1 + 1) → h'.IsTupleIter i2 l2 (k2 + 1) → IsPair h' s.heap.objs.size x y → h'.objs.size = s.heap.objs.size + 1 → ZipKeep z TO i1 i2 s.heap h' → Q (.ref s.heap.objs.size) { s with heap := h' }) :
    wpAny (model prog w) A (Builtin.«zip.__next__» ⟨[.ref z], []⟩) (fun r s' => ∃ v, r = .done (.ret v) ∧ Q v s') E s := by
  obtain ⟨f0, f1, hz, hf0, hf1⟩ := st
  obtain ⟨a, b, pO⟩ := pO
  show wpAny _ _ (field (.ref z) 2 >>= _) _ _ _
  apply wpAny_bind
  refine wpAny_field hz rfl (x := .bool false) rfl ?_
  show wpAny _ _ (field (.ref z) 3 >>= _) _ _ _
  apply wpAny_bind
  refine wpAny_field hz rfl (x := .ref TI) rfl ?_
  refine wpAny_bind (wpAny_seqItems pI rfl ?_)
  show wpAny _ _ (Builtin.SmallTypes.ownedTupleIsFree (.ref z) >>= _) _ _ _
  refine wpAny_bind (zip_free hf0 hf1 hz ?free fun hA zA sA => ?held)
  case held =>
    simp only [Bool.false_eq_true, if_false]
    apply wpAny_bind
    rw [← Array.forIn_toList]
    simp only [List.forIn_cons, List.forIn_nil]
    refine wpAny_bind (wpAny_bind (wpAny_holding ?_))
    show wpAny _ _ (Builtin.SmallTypes.nextOf (.ref i1) >>= _) _ _ _
    refine wpAny_bind (RZ.nextOf_tuple_item (s := { s with heap := hA }) (t1.extBut sA.extBut D.i1z) (q1.extBut sA.extBut D.l1z) hx fun hB uB sB => wpAny_pure (wpAny_pure ?_))
    refine wpAny_bind (wpAny_bind (wpAny_holding ?_))
    show wpAny _ _ (Builtin.SmallTypes.nextOf (.ref i2) >>= _) _ _ _
    refine wpAny_bind (RZ.nextOf_tuple_item (s := { s with heap := hB }) ((t2.extBut sA.extBut D.i2z).extBut sB.extBut D.i12.symm) ((q2.extBut sA.extBut D.l2z).extBut sB.extBut D.l2i1) hy fun hC uC sC => wpAny_pure (wpAny_pure (wpAny_pure ?_)))
    show wpAny _ _ (newTuple [x, y] >>= _) _ _ _
    refine wpAny_bind (wpAny_newTuple ?_)
    have sz : hC.objs.size = s.heap.objs.size := by rw [sC.1, sB.1, sA.1]
    have zC : ZipIs hC z TI TO f0 (.bool true) := sC.extBut _ _ D.i2z.symm (sB.extBut _ _ D.i1z.symm zA)
    have kC : ∀ c o, c ≠ z → c ≠ i1 → c ≠ i2 → s.heap.get? c = some o → hC.get? c = some o := fun c o n1 n2 n3 e => sC.extBut _ _ n3 (sB.extBut _ _ n2 (sA.extBut _ _ n1 e))
    have up : ∀ c o, hC.get? c = some o → (hC.push { cls := .type "tuple", data := .seq #[x, y] }).get? c = some o := fun c o e => Heap.get?_push_of_some _ e
    refine wpAny_pure ⟨_, rfl, ?_⟩
    show Q (.ref hC.objs.size) _
    rw [sz]
    refine hQ _ ⟨f0, _, up _ _ zC, hf0, true, rfl⟩ ⟨a, b, up _ _ (kC _ _ D.TOz D.TOi1 D.TOi2 pO)⟩ ((uB.extBut sC.extBut D.i12).at fun o e => up _ o e) (uC.at fun o e => up _ o e) ?_ ?_ fun c o n1 _ n3 n4 e => up _ _ (kC c o n1 n3 n4 e)
    · rw [← sz]; exact Heap.get?_push_size _ rfl
    · rw [← sz]; exact Heap.size_push ..
  case free =>
    simp only [if_true]
    refine wpAny_bind (wpAny_rule ?_)
    refine wpAny_bind (wpAny_field hz rfl (x := .ref TO) rfl ?_)
    refine wpAny_bind (wpAny_setField_rec hz (by simp) fun hA zA sA => ?_)
    replace zA : ZipIs hA z TI TO .ellipsis f1 := zA
    apply wpAny_bind
    simp only [List.zipIdx_cons, List.zipIdx_nil, List.forIn_cons, List.forIn_nil]
    refine wpAny_bind (wpAny_bind (wpAny_onRaise ?_))
    show wpAny _ _ (Builtin.SmallTypes.nextOf (.ref i1) >>= _) _ _ _
    refine wpAny_bind (RZ.nextOf_tuple_item (s := { s with heap := hA }) (t1.extBut sA.extBut D.i1z) (q1.extBut sA.extBut D.l1z) hx fun hB uB sB => wpAny_pure ?_)
    have oB : IsPair hB TO a b := sB.extBut _ _ D.TOi1 (sA.extBut _ _ D.TOz pO)
    refine wpAny_bind (wpAny_seqItems oB rfl (wpAny_bind (wpAny_updateSeq_pair oB fun hC oC sC => wpAny_bind (wpAny_letGo (wpAny_pure ?_)))))
    replace oC : IsPair hC TO x b := oC
    refine wpAny_bind (wpAny_bind (wpAny_onRaise ?_))
    show wpAny _ _ (Builtin.SmallTypes.nextOf (.ref i2) >>= _) _ _ _
    refine wpAny_bind (RZ.nextOf_tuple_item (s := { s with heap := hC }) (((t2.extBut sA.extBut D.i2z).extBut sB.extBut D.i12.symm).extBut sC.extBut D.TOi2.symm) (((q2.extBut sA.extBut D.l2z).extBut sB.extBut D.l2i1).extBut sC.extBut D.l2TO) hy fun hD uD sD => wpAny_pure ?_)
    have oD : IsPair hD TO x b := sD.extBut _ _ D.TOi2 oC
    refine wpAny_bind (wpAny_seqItems oD rfl (wpAny_bind (wpAny_updateSeq_pair oD fun hE oE sE => wpAny_bind (wpAny_letGo (wpAny_pure (wpAny_pure ?_))))))
    replace oE : IsPair hE TO x y := oE
    refine wpAny_bind (wpAny_seqItems oE rfl (wpAny_bind (wpAny_newTuple ?_)))
    have sz : hE.objs.size = s.heap.objs.size := by rw [sE.1, sD.1, sC.1, sB.1, sA.1]
    have zE : ZipIs hE z TI TO .ellipsis f1 := sE.extBut _ _ D.TOz.symm (sD.extBut _ _ D.i2z.symm (sC.extBut _ _ D.TOz.symm (sB.extBut _ _ D.i1z.symm zA)))
    have kE : ∀ c o, c ≠ z → c ≠ TO → c ≠ i1 → c ≠ i2 → s.heap.get? c = some o → hE.get? c = some o := fun c o n1 n2 n3 n4 e => sE.extBut _ _ n2 (sD.extBut _ _ n4 (sC.extBut _ _ n2 (sB.extBut _ _ n3 (sA.extBut _ _ n1 e))))
    have u1 : hE.IsTupleIter i1 l1 (k1 + 1) := ((uB.extBut sC.extBut D.TOi1.symm).extBut sD.extBut D.i12).extBut sE.extBut D.TOi1.symm
    have u2 : hE.IsTupleIter i2 l2 (k2 + 1) := uD.extBut sE.extBut D.TOi2.symm
    have zlt : z < hE.objs.size := Heap.lt_size zE
    show wpAny _ _ (Builtin.SmallTypes.ownedTupleHandOut (.ref z) (.ref hE.objs.size) >>= _) _ _ _
    apply wpAny_bind
    unfold Builtin.SmallTypes.ownedTupleHandOut
    have zF : ZipIs (hE.push { cls := .type "tuple", data := .seq #[x, y] }) z TI TO .ellipsis f1 := Heap.get?_push_of_some _ zE
    refine wpAny_bind (wpAny_setField_rec zF (by simp) fun hG zG sG => ?_)
    replace zG : ZipIs hG z TI TO (rawInt hE.objs.size) f1 := zG
    refine wpAny_setField_rec zG (by simp) fun hH zH sH => ?_
    replace zH : ZipIs hH z TI TO (rawInt hE.objs.size) (.bool false) := zH
    have up : ∀ c o, c ≠ z → hE.get? c = some o → hH.get? c = some o := fun c o n1 e => sH.extBut _ _ n1 (sG.extBut _ _ n1 (Heap.get?_push_of_some _ e))
    have pT : IsPair hH hE.objs.size x y := sH.extBut _ _ (Nat.ne_of_gt zlt) (sG.extBut _ _ (Nat.ne_of_gt zlt) (Heap.get?_push_size _ rfl))
    have sH2 : hH.objs.size = hE.objs.size + 1 := by rw [sH.1, sG.1, Heap.size_push]
    refine wpAny_pure ⟨_, rfl, ?_⟩
    show Q (.ref hE.objs.size) _
    rw [sz] at zH pT sH2 ⊢
    exact hQ hH ⟨_, _, zH, .inr ⟨_, rfl⟩, false, rfl⟩ ⟨x, y, up _ _ D.TOz oE⟩ (u1.at fun o e => up _ o D.i1z e) (u2.at fun o e => up _ o D.i2z e) pT sH2 fun c o n1 n2 n3 n4 e => up c o n1 (kE c o n1 n2 n3 n4 e)
theorem zip_none {Q : PySem.Fin → Shared → Prop} (hh : A.handled = none) (D : ZipApart z TI TO i1 i2 l1 l2) (st : ZipSt s.heap z TI TO) (pI : IsPair s.heap TI (.ref i1) (.ref i2)) (pO : ∃ a b, IsPair s.heap TO a b)
    (t1 : s.heap.IsTupleIter i1 l1 k1) (t2 : s.heap.IsTupleIter i2 l2 k2) (q1 : s.heap.IsTuple l1 xs) (q2 : s.heap.IsTuple l2 ys) (hend : xs[k1]? = none ∨ ys[k2]? = none)
    (hE : ∀ h' e, ZipKeep z TO i1 i2 s.heap h' → (∃ o, h'.get? e = some o ∧ o.cls = .type "StopIteration") → E (.ref e) { s with heap := h' }) : wpAny (model prog w) A (Builtin.«zip.__next__» ⟨[.ref z], []⟩) Q E s := by
  obtain ⟨f0, f1, hz, hf0, hf1⟩ := st
  obtain ⟨a, b, pO⟩ := pO
  show wpAny _ _ (field (.ref z) 2 >>= _) _ _ _
  apply wpAny_bind
  refine wpAny_field hz rfl (x := .bool false) rfl ?_
  show wpAny _ _ (field (.ref z) 3 >>= _) _ _ _
  apply wpAny_bind
  refine wpAny_field hz rfl (x := .ref TI) rfl ?_
  refine wpAny_bind (wpAny_seqItems pI rfl ?_)
  show wpAny _ _ (Builtin.SmallTypes.ownedTupleIsFree (.ref z) >>= _) _ _ _
  refine wpAny_bind (zip_free hf0 hf1 hz ?free fun hA zA sA => ?held)
  case held =>
    simp only [Bool.false_eq_true, if_false]
    apply wpAny_bind
    rw [← Array.forIn_toList]
    simp only [List.forIn_cons, List.forIn_nil]
    refine wpAny_bind (wpAny_bind (wpAny_holding ?_))
    show wpAny _ _ (Builtin.SmallTypes.nextOf (.ref i1) >>= _) _ _ _
    cases hx : xs[k1]? with
    | none => exact wpAny_bind (RZ.nextOf_tuple_end (s := { s with heap := hA }) hh (t1.extBut sA.extBut D.i1z) (q1.extBut sA.extBut D.l1z) hx fun hB e sB he => hE hB e (fun c o n1 _ n3 _ q => sB _ _ n3 (sA.extBut _ _ n1 q)) he)
    | some x =>
      have hy : ys[k2]? = none := hend.resolve_left (by rw [hx]; exact fun q => nomatch q)
      refine wpAny_bind (RZ.nextOf_tuple_item (s := { s with heap := hA }) (t1.extBut sA.extBut D.i1z) (q1.extBut sA.extBut D.l1z) hx fun hB uB sB => wpAny_pure (wpAny_pure ?_))
      refine wpAny_bind (wpAny_bind (wpAny_holding ?_))
      show wpAny _ _ (Builtin.SmallTypes.nextOf (.ref i2) >>= _) _ _ _
      exact wpAny_bind (RZ.nextOf_tuple_end (s := { s with heap := hB }) hh ((t2.extBut sA.extBut D.i2z).extBut sB.extBut D.i12.symm) ((q2.extBut sA.extBut D.l2z).extBut sB.extBut D.l2i1) hy fun hC e sC he => hE hC e (fun c o n1 _ n3 n4 q => sC _ _ n4 (sB.extBut _ _ n3 (sA.extBut _ _ n1 q))) he)
  case free =>
    simp only [if_true]
    refine wpAny_bind (wpAny_rule ?_)
    refine wpAny_bind (wpAny_field hz rfl (x := .ref TO) rfl ?_)
    refine wpAny_bind (wpAny_setField_rec hz (by simp) fun hA zA sA => ?_)
    replace zA : ZipIs hA z TI TO .ellipsis f1 := zA
    apply wpAny_bind
    simp only [List.zipIdx_cons, List.zipIdx_nil, List.forIn_cons, List.forIn_nil]
    refine wpAny_bind (wpAny_bind (wpAny_onRaise ?_))
    show wpAny _ _ (Builtin.SmallTypes.nextOf (.ref i1) >>= _) _ _ _
    cases hx : xs[k1]? with
    | none =>
      refine wpAny_bind (RZ.nextOf_tuple_end (s := { s with heap := hA }) hh (t1.extBut sA.extBut D.i1z) (q1.extBut sA.extBut D.l1z) hx fun hB e sB ⟨oe, he, hc⟩ => ?_)
      have zB : ZipIs hB z TI TO .ellipsis f1 := sB _ _ D.i1z.symm zA
      have ne : e ≠ z := fun q => by subst q; rw [zB] at he; cases he; simp at hc
      exact wpAny_setField_rec zB (by simp) fun hC _ sC => hE hC e (fun c o n1 _ n3 _ q => sC.extBut _ _ n1 (sB _ _ n3 (sA.extBut _ _ n1 q))) ⟨oe, sC.extBut _ _ ne he, hc⟩
    | some x =>
      have hy : ys[k2]? = none := hend.resolve_left (by rw [hx]; exact fun q => nomatch q)
      refine wpAny_bind (RZ.nextOf_tuple_item (s := { s with heap := hA }) (t1.extBut sA.extBut D.i1z) (q1.extBut sA.extBut D.l1z) hx fun hB uB sB => wpAny_pure ?_)
      have oB : IsPair hB TO a b := sB.extBut _ _ D.TOi1 (sA.extBut _ _ D.TOz pO)
      refine wpAny_bind (wpAny_seqItems oB rfl (wpAny_bind (wpAny_updateSeq_pair oB fun hC oC sC => wpAny_bind (wpAny_letGo (wpAny_pure ?_)))))
      refine wpAny_bind (wpAny_bind (wpAny_onRaise ?_))
      show wpAny _ _ (Builtin.SmallTypes.nextOf (.ref i2) >>= _) _ _ _
      refine wpAny_bind (RZ.nextOf_tuple_end (s := { s with heap := hC }) hh (((t2.extBut sA.extBut D.i2z).extBut sB.extBut D.i12.symm).extBut sC.extBut D.TOi2.symm) (((q2.extBut sA.extBut D.l2z).extBut sB.extBut D.l2i1).extBut sC.extBut D.l2TO) hy fun hD e sD ⟨oe, he, hc⟩ => ?_)
      have zD : ZipIs hD z TI TO .ellipsis f1 := sD _ _ D.i2z.symm (sC.extBut _ _ D.TOz.symm (sB.extBut _ _ D.i1z.symm zA))
      have ne : e ≠ z := fun q => by subst q; rw [zD] at he; cases he; simp at hc
      exact wpAny_setField_rec zD (by simp) fun hF _ sF => hE hF e (fun c o n1 n2 n3 n4 q => sF.extBut _ _ n1 (sD _ _ n4 (sC.extBut _ _ n2 (sB.extBut _ _ n3 (sA.extBut _ _ n1 q))))) ⟨oe, sF.extBut _ _ ne he, hc⟩
end
end DL
set_option maxHeartbeats 4000000
namespace DL
open PySem PySem.Spec PyProof.Rows L2

theorem turn_zipN {P : Program} {w : World} {K : PySem.W.Frag} {nm : Str} {np : Pos} {a b z TI TO i1 i2 : Addr} (D : ZipApart z TI TO i1 i2 a b) :
    Turn P w K (.Name nm np) (RZ.ItzT K a b) [z, TI, TO, i1, i2] z (fun i h => ZipSt h z TI TO ∧ IsPair h TI (.ref i1) (.ref i2) ∧ (∃ x y, IsPair h TO x y) ∧ h.IsTupleIter i1 a i ∧ h.IsTupleIter i2 b i) where
  mem := List.mem_cons_self
  obj := fun i h ⟨⟨f0, f1, hz, _⟩, pI, ⟨x, y, pO⟩, ⟨o1, e1, _, d1⟩, ⟨o2, e2, _, d2⟩⟩ c hc => by
    simp only [List.mem_cons, List.not_mem_nil, or_false] at hc
    rcases hc with rfl | rfl | rfl | rfl | rfl
    · exact ⟨_, hz, fun v q => nomatch q⟩
    · exact ⟨_, pI, fun v q => nomatch q⟩
    · exact ⟨_, pO, fun v q => nomatch q⟩
    · exact ⟨o1, e1, fun v q => by rw [d1] at q; cases q⟩
    · exact ⟨o2, e2, fun v q => by rw [d2] at q; cases q⟩
  keep := fun i h h' ⟨⟨f0, f1, hz, hf⟩, pI, ⟨x, y, pO⟩, t1, t2⟩ k =>
    ⟨⟨f0, f1, k z (by simp) _ hz, hf⟩, k TI (by simp) _ pI, ⟨x, y, k TO (by simp) _ pO⟩, t1.at fun o q => k i1 (by simp) o q, t2.at fun o q => k i2 (by simp) o q⟩
  item := fun X hP hw hK hc i pins s σ H E I hf ⟨st, pI, pO, t1, t2⟩ ⟨xs, ys, x, y, hqx, hqy, hx, hy⟩ => by
    subst hP hw hK
    obtain ⟨us, rv, p, _⟩ := I.tuple hqx
    obtain ⟨ws, rv2, p2, _⟩ := I.tuple hqy
    obtain ⟨u, hu, ru⟩ := rv.get hx
    obtain ⟨u2, hu2, ru2⟩ := rv2.get hy
    have hT : s.TypeIs (.ref z) "zip" := by obtain ⟨f0, f1, hz, _⟩ := st; exact ⟨_, hz, rfl⟩
    unfold pyNext
    refine wpAny_bind (wpAny_attempt (wpAny_callSpecial?_slot (name := Str.ofString "__next__") hT PySem.F.slot_zip_next (wpAny_call_entry PySem.F.slot_zip_next hT PySem.F.entry_zip_next (zip_some D st pI pO t1 t2 p p2 (x := u) (y := u2) (by simpa using hu) (by simpa using hu2) fun h' z' pO' t1' t2' pT sz k => wpAny_pure ?_) (PySem.F.args_zip_next_1 _))))
    refine ⟨_, rfl, ?_⟩
    show wpAny _ _ (pure ()) _ _ _
    apply wpAny_pure
    have zl : z < s.heap.objs.size := by obtain ⟨f0, f1, hz, _⟩ := st; exact Heap.lt_size hz
    have tl : TI < s.heap.objs.size := Heap.lt_size pI
    have ol : TO < s.heap.objs.size := by obtain ⟨_, _, q⟩ := pO; exact Heap.lt_size q
    have l1 : i1 < s.heap.objs.size := by obtain ⟨_, q, _⟩ := t1; exact Heap.lt_size q
    have l2 : i2 < s.heap.objs.size := by obtain ⟨_, q, _⟩ := t2; exact Heap.lt_size q
    have new : ObjOk X.prog X.w (upd H s.heap.objs.size (.tup [x, y])) h' s.heap.objs.size (.tup [x, y]) := ⟨by show 2 ≤ sizeLine; decide, [u, u2], .cons ru (.cons ru2 .nil), ⟨_, pT, rfl, _, rfl⟩⟩
    have I1 : Inv X pins σ (upd H s.heap.objs.size (.tup [x, y])) { s with heap := h' } :=
      I.turnedNew (t' := s.toks) (ch := [z, TI, TO, i1, i2]) (fun c o hb q => k c o (fun e => hb (by simp [e])) (fun e => hb (by simp [e])) (fun e => hb (by simp [e])) (fun e => hb (by simp [e])) q) hf (Nat.le_refl _) new
    refine ⟨.ref s.heap.objs.size, _, I1, rfl, ⟨_, x, y, rfl, I.hok.fresh (Nat.le_refl _), rfl, fun l hl => by rw [I.tuple_inj hl hqx]; exact hx, fun l hl => by rw [I.tuple_inj hl hqy]; exact hy⟩, ⟨z', ?_, pO', t1', t2'⟩, fun c hcm => ?_⟩
    · exact k _ _ D.TIz D.TITO D.TIi1 D.TIi2 pI
    · have lt : c < s.heap.objs.size := by
        simp only [List.mem_cons, List.not_mem_nil, or_false] at hcm
        rcases hcm with rfl | rfl | rfl | rfl | rfl <;> assumption
      rw [upd_ne (Nat.ne_of_lt lt)]
      exact (hf c hcm).1
  done := fun X hP hw hK hc i pins s σ H E I hf ⟨st, pI, pO, t1, t2⟩ ⟨xs, ys, hqx, hqy, hend⟩ => by
    subst hP hw hK
    obtain ⟨us, rv, p, _⟩ := I.tuple hqx
    obtain ⟨ws, rv2, p2, _⟩ := I.tuple hqy
    have n1 := rv.length
    have n2 := rv2.length
    have he : us.toArray[i]? = none ∨ ws.toArray[i]? = none := by
      rcases hend with q | q
      · exact .inl (by simp; omega)
      · exact .inr (by simp; omega)
    have hT : s.TypeIs (.ref z) "zip" := by obtain ⟨f0, f1, hz, _⟩ := st; exact ⟨_, hz, rfl⟩
    unfold pyNext
    refine wpAny_bind (wpAny_attempt (wpAny_callSpecial?_slot (name := Str.ofString "__next__") hT PySem.F.slot_zip_next (wpAny_call_entry PySem.F.slot_zip_next hT PySem.F.entry_zip_next (zip_none (I.ok.hd hc) D st pI pO t1 t2 p p2 he fun h' e k ⟨o, ho, hcl⟩ => ?_) (PySem.F.args_zip_next_1 _))))
    refine wpAny_bind (wpAny_isInstance (T := "StopIteration") (b := true) ⟨o, ho, hcl⟩ isSubtype_stop (wpAny_pure ⟨rfl, I.turnedL (t' := s.toks) (ch := [z, TI, TO, i1, i2]) (fun c o hb q => k c o (fun e => hb (by simp [e])) (fun e => hb (by simp [e])) (fun e => hb (by simp [e])) (fun e => hb (by simp [e])) q) hf⟩))
  self := fun A i s Q E ⟨⟨f0, f1, hz, _⟩, _⟩ h => by
    have hT : s.TypeIs (.ref z) "zip" := ⟨_, hz, rfl⟩
    refine wpAny_pyIter_slot hT PySem.F.slot_zip_iter (wpAny_call_entry PySem.F.slot_zip_iter hT PySem.F.entry_zip_iter ?_ (PySem.F.args_zip_iter_1 _))
    show wpAny _ _ (ret (.ref z)) _ _ s
    exact wpAny_pure ⟨_, rfl, "zip", _, hT, PySem.F.slot_zip_next.lookup, h⟩
def iZipN (K : PySem.W.Frag) (ta : TA) : TI := fun σ H R => ta σ H fun vs H1 => ∃ a b xs ys, vs = [.ref a, .ref b] ∧ SqT K H1 a xs ∧ SqT K H1 b ys ∧ R (RZ.ItzT K a b) H1
theorem pi_zipN {X : Cx} {nm : Str} {e e2 : Expr} {ta : TA} {p pos np : Pos} (hg : Gl X "zip") (hm : X.mg "zip" = none) (ha : PA X [e, e2] ta) (hs : starEach [e, e2] X.env = (false, eval e X.env) :: starEach [e2] X.env) (hpl : (backTo pos (starEach [e2] X.env)).any (·.1) = false) :
    PI X (.Name nm np) (.Call (.Name "zip" p) [e, e2] [] pos) (iZipN X.K ta) := by
  refine ⟨fun pins s σ H R I h => Call_ (ld_blt I hg hm PyProof.Rows.boot_zip (PyProof.Rows.callWith_type1 (thn (ha.run pos pins s σ H _ I h) fun us s1 ⟨vs, H1, I1, r1, a, b, xs, ys, ev, hqx, hqy, q⟩ => ?_) hs hpl))⟩
  subst ev
  obtain ⟨u, u2, rfl, r, r'⟩ := vals2 r1
  cases r
  cases r'
  obtain ⟨its, rv, p1, _⟩ := I1.tuple hqx
  obtain ⟨its2, rv2, p2, _⟩ := I1.tuple hqy
  obtain ⟨o1, ho1, _⟩ := id p1
  obtain ⟨o2, ho2, _⟩ := id p2
  refine RZ.call_zipT (show s1.heap.IsTuple a its.toArray from p1) (show s1.heap.IsTuple b its2.toArray from p2) fun h' hz hTI hTO h1 h2 hsz hk => wpAny_pyIter_zip hz ?_
  have I2 : Inv X pins σ H1 { s1 with heap := h' } := I1.kept (t' := s1.toks) hk
  refine ⟨s1.heap.objs.size + 4, [s1.heap.objs.size + 4, s1.heap.objs.size + 2, s1.heap.objs.size + 3, s1.heap.objs.size, s1.heap.objs.size + 1], _, _, H1, rfl, I2, turn_zipN (PySem.W.ktu_apart s1.heap.objs.size a b (Heap.lt_size ho1) (Heap.lt_size ho2)), ⟨⟨_, _, hz, .inl rfl, false, rfl⟩, hTI, ⟨_, _, hTO⟩, h1, h2⟩, fun c hc => ?_, q⟩
  have le : s1.heap.objs.size ≤ c := by
    simp only [List.mem_cons, List.not_mem_nil, or_false] at hc
    rcases hc with z | z | z | z | z <;> rw [z] <;> first | exact Nat.le_add_right _ _ | exact Nat.le_refl _
  exact I1.fpOk le (I1.hok.fresh le)
def wiZipN (r : WA) : WA := fun G ρ Q => r G ρ fun ds => ∃ x y xs ys, ds = [x, y] ∧ tupsOf x = some xs ∧ tupsOf y = some ys ∧ Q (zipD xs ys)
section
variable {S : Sta} {nm : Str} {a b : Expr} {p pos np : Pos} {r : WA}
theorem di_zipN (hm : S.mg "zip" = none) (h : DA S [a, b] r) (hg : (S.names.lookup ("zip" : Str) == some .globalImplicit) = true := by kernel_rfl) (hs : ∀ env, starEach [a, b] env = (false, eval a env) :: starEach [b] env := by intro _; rfl) (hpl : ∀ env, (backTo pos (starEach [b] env)).any (·.1) = false := by intro _; rfl) :
    DI S (.Name nm np) (.Call (.Name "zip" p) [a, b] [] pos) (wiZipN r) := fun X f =>
  (pi_zipN (glOf f hg) (by rw [f.mg]; exact hm) (h X f) (hs _) (hpl _)).imp fun σ H R ⟨G, F, ρ, Qd, ev, hw, hq⟩ =>
  ⟨G, F, ρ, _, ev, hw, fun vs H1 F1 ds s1 e1 f1 r1 ⟨x, y, xs, ys, ed, ex, ey, q1⟩ => by
    subst ed
    rw [f.K]
    obtain ⟨u, w, rfl, ra, rb⟩ := r1.two
    obtain ⟨_, _, rfl, h1, l1⟩ := rp_tups ra ex
    obtain ⟨_, _, rfl, h2, l2⟩ := rp_tups rb ey
    exact ⟨_, _, _, _, rfl, Same.sqt e1.sub h1, Same.sqt e1.sub h2, hq _ H1 F1 _ s1 e1 f1 (itok_zipT h1 l1 h2 l2) q1⟩⟩
end

/-! ### t[::-1] of a tuple -/
theorem rev_part (n : Nat) : Builtin.Slice.sliceAdjust none none (-1) (n : Int) = ((n : Int) - 1, -1) := rfl
theorem rev_places (n : Nat) : Builtin.Slice.slicePlaces ((n : Int) - 1) (-1) (-1) = n := by
  unfold Builtin.Slice.slicePlaces
  rw [if_neg (by decide)]
  by_cases h : (n : Int) - 1 > -1
  · rw [if_pos h, show ((n : Int) - 1 - -1 - 1) / -(-1) + 1 = (n : Int) by rw [show (-(-1) : Int) = 1 by decide, Int.ediv_one]; omega, Int.toNat_natCast]
  · rw [if_neg h]
    show (0 : Int).toNat = n
    simp; omega
theorem fm_congr {α β : Type} {f g : α → Option β} : ∀ {l : List α}, (∀ a ∈ l, f a = g a) → l.filterMap f = l.filterMap g
  | [], _ => rfl
  | a :: l, h => by
    rw [List.filterMap_cons, List.filterMap_cons, h a List.mem_cons_self, fm_congr fun b hb => h b (List.mem_cons_of_mem _ hb)]
theorem rev_pick (xs : Array Value) : ((List.range xs.size).filterMap fun (m : Nat) => xs[(((xs.size : Int) - 1) + (m : Int) * (-1)).toNat]?).toArray = xs.toList.reverse.toArray := by
  have e : (List.range xs.size).filterMap (fun (m : Nat) => xs[(((xs.size : Int) - 1) + (m : Int) * (-1)).toNat]?) = ((List.range xs.size).map fun k => xs.size - 1 - k).filterMap (xs[·]?) := by
    rw [List.filterMap_map]
    refine fm_congr fun m hm => ?_
    have : m < xs.size := List.mem_range.mp hm
    show xs[_]? = xs[xs.size - 1 - m]?
    congr 1
    omega
  rw [e, PySem.W.krv_range, List.filterMap_reverse, PySem.W.krv_all]
section
variable {prog : Program} {w : World} {A : Around} {E : Value → Shared → Prop} {s : Shared}
theorem getItem_tuple_rev {t sl : Addr} {items : Array Value} {t1 : Tok} {Q : Value → Shared → Prop} (ht : IsTup s.heap t items) (hs : s.heap.IsSliceOf sl .none .none (.int (-1) t1)) (hsz : items.size ≤ sizeLine)
    (h : Q (.ref s.heap.objs.size) { s with heap := s.heap.push { cls := .type "tuple", data := .seq items.toList.reverse.toArray } }) : wpAny (model prog w) A (getItem (.ref t) (.ref sl)) Q E s := by
  obtain ⟨so, h1, h2, h3⟩ := id hs
  have ts : s.TypeIs (.ref sl) "slice" := ⟨so, h1, h2⟩
  unfold getItem
  try with_reducible refine wpAny_holding ?_
  first | refine wpAny_bind (wpAny_pure ?_) | skip
  refine wpAny_bind (wpAny_sequenceKey ht.typeIs (by decide) ?_)
  refine wpAny_bind (wpAny_callSpecial?_slot (name := Str.ofString "__getitem__") ht.typeIs PyProof.Rows.slot_tuple_getitem (wpAny_call_entry PyProof.Rows.slot_tuple_getitem ht.typeIs entry_tuple_getitem ?_ (args_tuple_getitem _ _)))
  show wpAny _ _ (Builtin.Tuple.tupleItemsOf (.ref t) >>= _) _ _ s
  refine wpAny_bind (tupleItemsOf_ ht (wpAny_bind (wpAny_typeOf ts ?_)))
  rw [if_pos (by decide)]
  apply wpAny_bind
  unfold Builtin.Slice.sliceApplied Builtin.Slice.sliceFields
  refine wpAny_bind (wpAny_bind (wpAny_field h1 h3 (x := .none) rfl (wpAny_bind (wpAny_field h1 h3 (x := .none) rfl (wpAny_bind (wpAny_field h1 h3 (x := .int (-1) t1) rfl (wpAny_pure ?_)))))))
  refine wpAny_bind (slicePart_int ?_)
  show wpAny _ _ (if ((-1 : Int) == 0) = true then _ else _) _ _ s
  rw [if_neg (by decide)]
  refine wpAny_bind (slicePart_none (wpAny_bind (slicePart_none (wpAny_bind (wpAny_pure ?_)))))
  show wpAny _ _ (match Builtin.Slice.sliceAdjust none none (-1) (items.size : Int) with | (lo, hi) => pure (lo, (-1 : Int), Builtin.Slice.slicePlaces lo hi (-1))) _ _ s
  rw [rev_part]
  show wpAny _ _ (pure (((items.size : Int) - 1), (-1 : Int), Builtin.Slice.slicePlaces ((items.size : Int) - 1) (-1) (-1))) _ _ s
  rw [rev_places]
  apply wpAny_pure
  show wpAny _ _ (if (((items.size : Int) - 1) == 0 && (-1 : Int) == 1 && items.size == items.size) = true then _ else _) _ _ s
  rw [if_neg (by rw [show ((-1 : Int) == 1) = false from rfl]; simp), rev_pick]
  have ok : sizeOk (.seq items.toList.reverse.toArray) := by
    show items.toList.reverse.toArray.size ≤ sizeLine
    rw [List.size_toArray, List.length_reverse, Array.length_toList]
    exact hsz
  first
    | exact wpAny_bind (m := Builtin.Tuple.tupleExact _) (wpAny_newObj_type (wpAny_pure ⟨_, rfl, wpAny_pure h⟩) ok)
    | exact wpAny_bind (wpAny_bind (m := Builtin.Tuple.tupleExact _) (wpAny_newObj_type (wpAny_pure (wpAny_pure ⟨_, rfl, wpAny_pure h⟩)) ok))
    | exact wpAny_bind (wpAny_bind (m := Builtin.Tuple.tupleExact _) (wpAny_newObj_type (wpAny_pure ⟨_, rfl, wpAny_pure h⟩) ok))
    | exact wpAny_bind (m := Builtin.Tuple.tupleExact _) (wpAny_newObj_type (wpAny_bind (wpAny_pure (wpAny_pure ⟨_, rfl, wpAny_pure h⟩))) ok)
end
end DL
set_option maxHeartbeats 4000000
namespace DL
open PySem PySem.Spec PyProof.Rows L2

/-! ### x[::-1], x a list or a tuple -/
def tRevT (K : PySem.W.Frag) (te : TE) : TE := fun σ H Q => te σ H fun x H1 => ∃ a xs, x = .ref a ∧ SqT K H1 a xs ∧ ∀ p, H1 p = none → Q (.ref p) (upd H1 p (.tup xs.reverse))
theorem pe_revT {X : Cx} {e : Expr} {te : TE} {k : Nat} {p1 p2 p3 pos : Pos} (he : PE X e te) : PE X (.Subscript e (.Slice none none (some (.UnaryOp .USub (.Constant (.int 1) k p1) p2)) p3) pos) (tRevT X.K te) := by
  refine ⟨fun pins s σ H Q I h => Subscript_ (thn (he.run pins s σ H _ I h) fun v s1 ⟨x, H1, I1, r1, a, xs, ex, hx, q⟩ => ?_)⟩
  subst ex
  cases r1
  have step : PO X (some (.UnaryOp .USub (.Constant (.int 1) k p1) p2)) (tPart (tUn (rU fun i => .int (-i)) (tC (.int 1)))) := po_some (pe_un un_neg pe_int)
  refine wpAny_Slice (thn (po_none.run pins s1 σ H1 (fun o H2 => o = none ∧ H2 = H1) I1 ⟨rfl, rfl⟩) fun u1 s2 ⟨o1, H2, I2, g1, z1, z2⟩ => ?_)
  subst z1 z2
  refine thn (po_none.run pins s2 σ H2 (fun o H3 => o = none ∧ H3 = H2) I2 ⟨rfl, rfl⟩) fun u2 s3 ⟨o2, H3, I3, g2, z1, z2⟩ => ?_
  subst z1 z2
  refine thn (step.run pins s3 σ H3 (fun o H4 => o = some (-1) ∧ H4 = H3) I3 ⟨1, rfl, -1, rfl, rfl, rfl⟩) fun u3 s4 ⟨o3, H4, I4, g3, z1, z2⟩ => ?_
  subst z1 z2
  cases g1
  cases g2
  cases g3 with
  | int _ t =>
    have I5 : Inv X pins σ H4 { s4 with heap := s4.heap.push { cls := .type "slice", data := .fields #[.none, .none, .int (-1) t] } } := I4.kept (t' := s4.toks) fun b ob q => Heap.get?_push_of_some _ q
    obtain ⟨its, rv, ht, hz⟩ := I5.tuple hx
    have hl := rv.length
    show wpAny (model X.prog X.w) X.A (subscriptTail e (.Slice none none (some (.UnaryOp .USub (.Constant (.int 1) k p1) p2)) p3) (.ref a) (.ref s4.heap.objs.size)) (EP X pins σ Q) X.xe { s4 with heap := s4.heap.push { cls := .type "slice", data := .fields #[.none, .none, .int (-1) t] } }
    refine tail_any (ops := [.ref a, .ref s4.heap.objs.size]) ht.typeIs (PyProof.Rows.slot_tuple_getitem.lookup) (getItem_tuple_rev ht (Heap.IsSliceOf.new _ .none .none (.int (-1) t)) (by rw [List.size_toArray]; omega) ?_) (by with_unfolding_all rfl)
    refine ⟨.ref _, _, I5.laid (t' := s4.toks) (o := .tup xs.reverse) (fun b ob q => Heap.get?_push_of_some _ q) (Nat.le_refl _) ⟨by rw [List.length_reverse]; exact hz, its.reverse, rv.reverse, ?_⟩, rfl, q _ (I5.hok.fresh (Nat.le_refl _))⟩
    exact IsTup.new _ _
theorem _root_.L2.PE.or {X : Cx} {e : Expr} {t t' : TE} (h : PE X e t) (h' : PE X e t') : PE X e (fun σ H Q => t σ H Q ∨ t' σ H Q) := ⟨fun pins s σ H Q I q => q.elim (h.run pins s σ H Q I) (h'.run pins s σ H Q I)⟩
def woRevA (w : W) : WO := fun G ρ Q => (w G ρ fun d => ∃ xs, d = .lst xs ∧ Q (.ow xs.reverse)) ∨ (w G ρ fun d => ∃ xs, tupsOf d = some xs ∧ Q (.fz (.tup xs.reverse)))
section
variable {S : Sta} {a : Expr} {pos : Pos} {wa : W}
theorem do_revA {k : Nat} {p1 p2 p3 : Pos} (ha : DE S a wa) : DO S (.Subscript a (.Slice none none (some (.UnaryOp .USub (.Constant (.int 1) k p1) p2)) p3) pos) (woRevA wa) := fun X f => ((pe_revL (ha X f)).or (pe_revT (ha X f))).imp fun σ H Q ⟨G, F, ρ, Qd, ev, hw, hq⟩ => by
  rw [f.K]
  rcases hw with hw | hw
  · exact .inl ⟨G, F, ρ, _, ev, hw, fun v H1 F1 d s1 e1 f1 r1 ⟨xs, ed, q1⟩ => by
      subst ed
      obtain ⟨p, vs, rfl, h, rr⟩ := rp_lstI e1.sub r1
      exact ⟨p, vs, rfl, h, fun p hp => e1.newL hp rr.reverse q1 fun v H' F' sv s2 e2 f2 r2 q2 => hq v H' F' sv (s1.trans s2) e2 (f1.trans f2) (r2.back f1) q2⟩⟩
  · exact .inr ⟨G, F, ρ, _, ev, hw, fun v H1 F1 d s1 e1 f1 r1 ⟨xs, ed, q1⟩ => by
      obtain ⟨p, vs, rfl, h, rr, _⟩ := rp_tupsH e1.sub r1 ed
      exact ⟨p, vs, rfl, h, fun p hp => e1.newT hp rr.reverse q1 fun v H' F' sv s2 e2 f2 r2 q2 => hq v H' F' sv (s1.trans s2) e2 (f1.trans f2) (r2.back f1) q2⟩⟩
end
end DL
set_option maxHeartbeats 4000000
namespace DL
open PySem PySem.Spec PyProof.Rows L2

/-! ### ints and pairs of ints, as the library reads them -/
theorem toPyL_ints : ∀ ns : List Int, toPyL (ns.map D.int) = some (ns.map .int)
  | [] => rfl
  | n :: ns => by
    show (match toPy (D.int n) with | some p => (toPyL (ns.map D.int)).map (p :: ·) | none => none) = _
    rw [toPyL_ints ns]
    rfl
theorem toPy_lstI (ns : List Int) : toPy (.lst (ns.map D.int)) = some (.list (ns.map .int)) := by unfold toPy; rw [toPyL_ints]; rfl
theorem toPy_tupI (ns : List Int) : toPy (.tup (ns.map D.int)) = some (.tuple (ns.map .int)) := by unfold toPy; rw [toPyL_ints]; rfl
theorem canLay_ints : ∀ ns : List Int, PyData.canLayAll0 (ns.map .int) = true
  | [] => by simp [PyData.canLayAll0]
  | n :: ns => by simp only [List.map_cons, PyData.canLayAll0, PyData.canLay0, canLay_ints ns, Bool.and_self]
theorem depth0_ints (ns : List Int) : PyData.depthAll (ns.map .int) = 0 := PySem.W.depth_ints ns
theorem shaped_tupI (ns : List Int) : SeqAt.shaped (.tuple (ns.map .int)) = true := by
  unfold SeqAt.shaped
  simp [PyData.canLay0, canLay_ints, PyData.depth, depth0_ints]
theorem shaped_int (i : Int) : SeqAt.shaped (.int i) = true := by simp [SeqAt.shaped, PyData.canLay0, PyData.depth]
theorem shaped_str {x : Str} (h : PyData.canLay0 (.str x) = true) : SeqAt.shaped (.str x) = true := by simp [SeqAt.shaped, h, PyData.depth]
theorem eqvAll_ints : ∀ a b : List Int, PyData.eqvAll (a.map .int) (b.map .int) = decide (a = b)
  | [], [] => by simp [PyData.eqvAll]
  | [], _ :: _ => by simp [PyData.eqvAll]
  | _ :: _, [] => by simp [PyData.eqvAll]
  | x :: xs, y :: ys => by
    rw [List.map_cons, List.map_cons, PyData.eqvAll, eqvAll_ints xs ys, PyData.eqv]
    by_cases h : x = y <;> by_cases h2 : xs = ys <;> simp [h, h2]
theorem eqv_lstI (a b : List Int) : PyData.eqv (.list (a.map .int)) (.list (b.map .int)) = decide (a = b) := by rw [PyData.eqv]; exact eqvAll_ints a b
theorem eqv_tupI (a b : List Int) : PyData.eqv (.tuple (a.map .int)) (.tuple (b.map .int)) = decide (a = b) := by rw [PyData.eqv]; exact eqvAll_ints a b
theorem eqv_int (i j : Int) : PyData.eqv (.int i) (.int j) = decide (i = j) := by rw [PyData.eqv]; by_cases h : i = j <;> simp [h]
theorem eqv_str (x y : Str) : PyData.eqv (.str x) (.str y) = (x == y) := by rw [PyData.eqv]
/-- == of ints, texts, lists of ints -/
theorem oEq_int {i j : Int} {Q : D → Prop} (q : Q (.bl (decide (i = j)))) : oEq (.int i) (.int j) Q := ⟨_, _, rfl, rfl, shaped_int i, shaped_int j, by rw [eqv_int]; exact q⟩
theorem oNe_int {i j : Int} {Q : D → Prop} (q : Q (.bl (!decide (i = j)))) : oNe (.int i) (.int j) Q := ⟨_, _, rfl, rfl, shaped_int i, shaped_int j, by rw [eqv_int]; exact q⟩
theorem oEq_str {x y : Str} {Q : D → Prop} (hx : PyData.canLay0 (.str x) = true) (hy : PyData.canLay0 (.str y) = true) (q : Q (.bl (x == y))) : oEq (.str x) (.str y) Q := ⟨_, _, rfl, rfl, shaped_str hx, shaped_str hy, by rw [eqv_str]; exact q⟩
theorem oNe_str {x y : Str} {Q : D → Prop} (hx : PyData.canLay0 (.str x) = true) (hy : PyData.canLay0 (.str y) = true) (q : Q (.bl (!(x == y)))) : oNe (.str x) (.str y) Q := ⟨_, _, rfl, rfl, shaped_str hx, shaped_str hy, by rw [eqv_str]; exact q⟩
theorem oEq_lstI {a b : List Int} {Q : D → Prop} (q : Q (.bl (decide (a = b)))) : oEq (.lst (a.map .int)) (.lst (b.map .int)) Q := ⟨_, _, toPy_lstI a, toPy_lstI b, shaped_ints a, shaped_ints b, by rw [eqv_lstI]; exact q⟩
theorem oNe_lstI {a b : List Int} {Q : D → Prop} (q : Q (.bl (!decide (a = b)))) : oNe (.lst (a.map .int)) (.lst (b.map .int)) Q := ⟨_, _, toPy_lstI a, toPy_lstI b, shaped_ints a, shaped_ints b, by rw [eqv_lstI]; exact q⟩
theorem any_ints (i : Int) : ∀ ns : List Int, ((ns.map PyData.int).any fun z => PyData.eqv z (.int i)) = decide (i ∈ ns)
  | [] => by simp
  | n :: ns => by
    rw [List.map_cons, List.any_cons, any_ints i ns, eqv_int]
    by_cases h : n = i
    · simp [h]
    · have h' : ¬ i = n := fun e => h e.symm
      simp [h, h']
theorem oIn_lstI {i : Int} {ns : List Int} {Q : D → Prop} (q : Q (.bl (decide (i ∈ ns)))) : oIn (.int i) (.lst (ns.map .int)) Q := ⟨_, _, _, rfl, rfl, toPyL_ints ns, shaped_int i, shaped_tupI ns, by rw [any_ints]; exact q⟩
theorem oNotIn_lstI {i : Int} {ns : List Int} {Q : D → Prop} (q : Q (.bl (!decide (i ∈ ns)))) : oNotIn (.int i) (.lst (ns.map .int)) Q := ⟨_, _, _, rfl, rfl, toPyL_ints ns, shaped_int i, shaped_tupI ns, by rw [any_ints]; exact q⟩
/-! pairs -/
def pD (t : Int × Int) : D := .tup [.int t.1, .int t.2]
def pP (t : Int × Int) : PyData := .tuple [.int t.1, .int t.2]
theorem toPy_pD (t : Int × Int) : toPy (pD t) = some (pP t) := rfl
theorem toPyL_pairs : ∀ ts : List (Int × Int), toPyL (ts.map pD) = some (ts.map pP)
  | [] => rfl
  | t :: ts => by
    show (match toPy (pD t) with | some p => (toPyL (ts.map pD)).map (p :: ·) | none => none) = _
    rw [toPyL_pairs ts]
    rfl
theorem shaped_pP (t : Int × Int) : SeqAt.shaped (pP t) = true := shaped_tupI [t.1, t.2]
theorem canLay_pairs : ∀ ts : List (Int × Int), PyData.canLayAll0 (ts.map pP) = true
  | [] => by simp [PyData.canLayAll0]
  | t :: ts => by
    rw [List.map_cons, PyData.canLayAll0, canLay_pairs ts]
    simp [pP, PyData.canLay0, PyData.canLayAll0]
theorem depth_pairs : ∀ ts : List (Int × Int), PyData.depthAll (ts.map pP) ≤ 1
  | [] => by simp [PyData.depthAll]
  | t :: ts => by
    have := depth_pairs ts
    rw [List.map_cons, PyData.depthAll]
    have h : (pP t).depth ≤ 1 := by simp [pP, PyData.depth, PyData.depthAll]
    omega
theorem shaped_pairs (ts : List (Int × Int)) : SeqAt.shaped (.tuple (ts.map pP)) = true := by
  have h := depth_pairs ts
  unfold SeqAt.shaped
  rw [PyData.canLay0, canLay_pairs, PyData.depth]
  simp; omega
theorem eqv_pair (t u : Int × Int) : PyData.eqv (pP t) (pP u) = decide (t = u) := by
  have := eqv_tupI [t.1, t.2] [u.1, u.2]
  show PyData.eqv (.tuple ([t.1, t.2].map .int)) (.tuple ([u.1, u.2].map .int)) = _
  rw [this]
  obtain ⟨a, b⟩ := t
  obtain ⟨c, d⟩ := u
  by_cases h : a = c <;> by_cases h2 : b = d <;> simp [h, h2]
theorem any_pairs (t : Int × Int) : ∀ ts : List (Int × Int), ((ts.map pP).any fun z => PyData.eqv z (pP t)) = decide (t ∈ ts)
  | [] => by simp
  | u :: ts => by
    rw [List.map_cons, List.any_cons, any_pairs t ts, eqv_pair]
    by_cases h : u = t
    · simp [h]
    · have h' : ¬ t = u := fun e => h e.symm
      simp [h, h']
theorem oIn_pairs {t : Int × Int} {ts : List (Int × Int)} {Q : D → Prop} (q : Q (.bl (decide (t ∈ ts)))) : oIn (pD t) (.tup (ts.map pD)) Q := ⟨_, _, _, rfl, toPy_pD t, toPyL_pairs ts, shaped_pP t, shaped_pairs ts, by rw [any_pairs]; exact q⟩
theorem oNotIn_pairs {t : Int × Int} {ts : List (Int × Int)} {Q : D → Prop} (q : Q (.bl (!decide (t ∈ ts)))) : oNotIn (pD t) (.tup (ts.map pD)) Q := ⟨_, _, _, rfl, toPy_pD t, toPyL_pairs ts, shaped_pP t, shaped_pairs ts, by rw [any_pairs]; exact q⟩
/-! sorted -/
theorem alike_all {β : Type} {f : β → PyData} (h : ∀ a b, PySem.W.alike (f a) (f b) = true) (l : List β) : PySem.W.AllAlike (l.map f) := PySem.W.AllAlike.of h
theorem oSorted_ints {x : D} {ns : List Int} {Q : SV → Prop} (hx : itemsOf x = some (ns.map .int)) (q : ∀ ms : List Int, ms.Perm ns → ms.Pairwise (· ≤ ·) → Q (.ow (ms.map .int))) : oSorted [x] Q := by
  have ek : (ns.map D.int).map keyD = ns.map PyData.int := by rw [List.map_map]; rfl
  refine ⟨x, _, rfl, hx, fun d hd => ?_, ?_, ?_, fun d hd => ?_, ?_⟩
  · obtain ⟨n, _, rfl⟩ := List.mem_map.mp hd
    rfl
  · rw [ek]; exact PySem.W.AllAlike.of (enc := PyData.int) fun a b => by simp [PySem.W.alike]
  · rw [ek]; exact PySem.W.Sortable.others (enc := PyData.int) fun b => ⟨(fun z : PyData.int b = PyData.none => PyData.noConfusion z), fun xs (z : PyData.int b = PyData.tuple xs) => PyData.noConfusion z⟩
  · obtain ⟨n, _, rfl⟩ := List.mem_map.mp hd
    show (PyData.int n).depth ≤ 100
    simp [PyData.depth]
  · have e : (ns.map D.int).mergeSort (PySem.W.dataLe false keyD) = (ns.mergeSort (fun a b => decide (a ≤ b))).map D.int := by
      rw [List.map_mergeSort (r := fun a b : Int => decide (a ≤ b)) (s := PySem.W.dataLe false keyD) (f := D.int)]
      intro a _ b _
      have := congrFun (congrFun (PySem.W.dataLe_int (fun i : Int => i)) a) b
      exact this.symm
    rw [e]
    refine q _ (List.mergeSort_perm _ _) ?_
    have := List.pairwise_mergeSort (le := fun a b : Int => decide (a ≤ b)) (fun a b c h1 h2 => by simp at *; omega) (fun a b => by simp; omega) ns
    exact this.imp fun h => of_decide_eq_true h
def tLe (t u : Int × Int) : Prop := t.1 < u.1 ∨ (t.1 = u.1 ∧ t.2 ≤ u.2)
instance (t u : Int × Int) : Decidable (tLe t u) := by unfold tLe; infer_instance
theorem oSorted_pairs {x : D} {ts : List (Int × Int)} {Q : SV → Prop} (hx : itemsOf x = some (ts.map pD)) (q : ∀ us : List (Int × Int), us.Perm ts → us.Pairwise tLe → Q (.ow (us.map pD))) : oSorted [x] Q := by
  have ek : (ts.map pD).map keyD = ts.map pP := by rw [List.map_map]; rfl
  refine ⟨x, _, rfl, hx, fun d hd => ?_, ?_, ?_, fun d hd => ?_, ?_⟩
  · obtain ⟨n, _, rfl⟩ := List.mem_map.mp hd
    rfl
  · rw [ek]; exact PySem.W.AllAlike.of (enc := pP) fun a b => by simp [pP, PySem.W.alike, PySem.W.alikeAll]
  · rw [ek]; exact PySem.W.Sortable.tuples (enc := pP) fun b => ⟨_, _, rfl⟩
  · obtain ⟨n, _, rfl⟩ := List.mem_map.mp hd
    show (pP n).depth ≤ 100
    simp [pP, PyData.depth, PyData.depthAll]
  · have e : (ts.map pD).mergeSort (PySem.W.dataLe false keyD) = (ts.mergeSort (fun a b => decide (tLe a b))).map pD := by
      rw [List.map_mergeSort (r := fun a b : Int × Int => decide (tLe a b)) (s := PySem.W.dataLe false keyD) (f := pD)]
      intro a _ b _
      have := congrFun (congrFun (PySem.W.dataLe_ii (fun t : Int × Int => t.1) (fun t => t.2)) a) b
      exact this.symm
    rw [e]
    refine q _ (List.mergeSort_perm _ _) ?_
    have tr : ∀ a b c : Int × Int, decide (tLe a b) = true → decide (tLe b c) = true → decide (tLe a c) = true := fun a b c h1 h2 => by
      have h1 : a.1 < b.1 ∨ (a.1 = b.1 ∧ a.2 ≤ b.2) := of_decide_eq_true h1
      have h2 : b.1 < c.1 ∨ (b.1 = c.1 ∧ b.2 ≤ c.2) := of_decide_eq_true h2
      exact decide_eq_true (show a.1 < c.1 ∨ (a.1 = c.1 ∧ a.2 ≤ c.2) by omega)
    have to : ∀ a b : Int × Int, (decide (tLe a b) || decide (tLe b a)) = true := fun a b => by
      rw [Bool.or_eq_true, decide_eq_true_iff, decide_eq_true_iff]
      show (a.1 < b.1 ∨ (a.1 = b.1 ∧ a.2 ≤ b.2)) ∨ (b.1 < a.1 ∨ (b.1 = a.1 ∧ b.2 ≤ a.2))
      omega
    have := List.pairwise_mergeSort (le := fun a b : Int × Int => decide (tLe a b)) tr to ts
    exact this.imp fun h => of_decide_eq_true h
end DL
set_option maxHeartbeats 4000000
namespace DL
open PySem PySem.Spec PyProof.Rows L2

/-! ### what is shown is short -/
mutual
/-- the weight of data that may be shown: texts of ints are at most 600 signs long -/
def fitD : D → Bool
  | .int i => decide (i.natAbs < 2 ^ 500)
  | .str x => x.cps.toList.all fun c => decide (c < 16 ^ 8)
  | .tup xs => fitL xs
  | .tix xs => fitL xs
  | .tky xs => fitL xs
  | .lst xs => fitL xs
  | .dic _ _ => false
  | .ob _ => false
  | _ => true
def fitL : List D → Bool
  | [] => true
  | x :: xs => fitD x && fitL xs
def wtD : D → Nat
  | .str x => x.cps.size
  | .tup xs => wtL xs
  | .tix xs => wtL xs
  | .tky xs => wtL xs
  | .lst xs => wtL xs
  | _ => 0
def wtL : List D → Nat
  | [] => 0
  | x :: xs => wtD x + 1 + wtL xs
def dpD : D → Nat
  | .tup xs => dpL xs + 1
  | .tix xs => dpL xs + 1
  | .tky xs => dpL xs + 1
  | .lst xs => dpL xs + 1
  | _ => 0
def dpL : List D → Nat
  | [] => 0
  | x :: xs => max (dpD x) (dpL xs)
end
theorem log2_lt {n k : Nat} (hk : 0 < k) (h : n < 2 ^ k) : n.log2 < k := by
  by_cases z : n = 0
  · rw [z]; exact hk
  · exact (Nat.log2_lt z).mpr h
mutual
theorem fit_py : ∀ d : D, fitD d = true → ∃ p, toPy d = some p ∧ p.showable = true ∧ p.leavesShort 600 = true ∧ p.bulk = wtD d ∧ p.depth = dpD d
  | .non, _ => ⟨_, rfl, rfl, rfl, rfl, rfl⟩
  | .bl b, _ => ⟨_, rfl, rfl, rfl, rfl, rfl⟩
  | .int i, h => by
    have hi : i.natAbs < 2 ^ 500 := by unfold fitD at h; exact of_decide_eq_true h
    have hl := log2_lt (by decide) hi
    refine ⟨.int i, rfl, ?_, ?_, rfl, rfl⟩
    · show decide (i.natAbs.log2 < 1920) = true
      exact decide_eq_true (by omega)
    · show decide ((PyData.shown (.int i)).length ≤ 600) = true
      have e := int_text_length_le (a := i) (k := 500) (by decide) hl
      exact decide_eq_true (Nat.le_trans (show (PyData.shown (.int i)).length ≤ 501 by simp only [PyData.shown]; rw [PySem.ofString_length]; exact e) (by decide))
  | .str x, h => ⟨_, rfl, rfl, by unfold fitD at h; exact h, rfl, rfl⟩
  | .tup xs, h => by
    obtain ⟨ps, e, h1, h2, h3, h4⟩ := fit_pyL xs (by unfold fitD at h; exact h)
    exact ⟨.tuple ps, by unfold toPy; rw [e]; rfl, h1, h2, h3, by show PyData.depthAll ps + 1 = dpL xs + 1; rw [h4]⟩
  | .tix xs, h => by
    obtain ⟨ps, e, h1, h2, h3, h4⟩ := fit_pyL xs (by unfold fitD at h; exact h)
    exact ⟨.tuple ps, by unfold toPy; rw [e]; rfl, h1, h2, h3, by show PyData.depthAll ps + 1 = dpL xs + 1; rw [h4]⟩
  | .tky xs, h => by
    obtain ⟨ps, e, h1, h2, h3, h4⟩ := fit_pyL xs (by unfold fitD at h; exact h)
    exact ⟨.tuple ps, by unfold toPy; rw [e]; rfl, h1, h2, h3, by show PyData.depthAll ps + 1 = dpL xs + 1; rw [h4]⟩
  | .lst xs, h => by
    obtain ⟨ps, e, h1, h2, h3, h4⟩ := fit_pyL xs (by unfold fitD at h; exact h)
    exact ⟨.list ps, by unfold toPy; rw [e]; rfl, h1, h2, h3, by show PyData.depthAll ps + 1 = dpL xs + 1; rw [h4]⟩
  | .dic _ _, h => by unfold fitD at h; cases h
  | .ob _, h => by unfold fitD at h; cases h
theorem fit_pyL : ∀ ds : List D, fitL ds = true → ∃ ps, toPyL ds = some ps ∧ PyData.showableAll ps = true ∧ PyData.leavesShortAll 600 ps = true ∧ PyData.bulkAll ps = wtL ds ∧ PyData.depthAll ps = dpL ds
  | [], _ => ⟨_, rfl, rfl, rfl, rfl, rfl⟩
  | d :: ds, h => by
    obtain ⟨g1, g2⟩ := Bool.and_eq_true_iff.mp (show (fitD d && fitL ds) = true from by unfold fitL at h; exact h)
    obtain ⟨p, e, h1, h2, h3, h4⟩ := fit_py d g1
    obtain ⟨ps, e', k1, k2, k3, k4⟩ := fit_pyL ds g2
    refine ⟨p :: ps, by unfold toPyL; rw [e, e']; rfl, ?_, ?_, ?_, ?_⟩
    · show (p.showable && PyData.showableAll ps) = true; rw [h1, k1]; rfl
    · show (p.leavesShort 600 && PyData.leavesShortAll 600 ps) = true; rw [h2, k2]; rfl
    · show p.bulk + 1 + PyData.bulkAll ps = wtD d + 1 + wtL ds; rw [h3, k3]
    · show max p.depth (PyData.depthAll ps) = max (dpD d) (dpL ds); rw [h4, k4]
end
/-- what can be shown -/
def Shw (d : D) : Prop := fitD d = true ∧ wtD d ≤ 20000 ∧ dpD d ≤ 60
theorem oRepr_of {x : D} {Q : SV → Prop} (h : Shw x) (q : ∀ p, toPy x = some p → Q (.fz (.str p.shown))) : oRepr [x] Q := by
  obtain ⟨h1, h2, h3⟩ := h
  obtain ⟨p, e, s1, s2, s3, s4⟩ := fit_py x h1
  refine ⟨x, p, rfl, e, s1, by omega, ?_, q p e⟩
  have z := PyData.shown_le_bulk 600 (by decide) p s2
  rw [s3] at z
  rw [sizeLine_eq]
  have : (600 + 2) * wtD x ≤ 602 * 20000 := Nat.mul_le_mul (by decide) h2
  omega
/-! ### a module's name for an object that stands still: a tuple, a table with text keys -/
def GTup (B : Bs) (x : Str) (ds : List D) : Prop := ∃ (c : Addr) (vs : List V), B.mg x = some (.ref c) ∧ (∀ H, SqT B.K H c vs) ∧ RpL B.K (fun _ => none) vs ds
def GTab (B : Bs) (x : Str) (kvs : List (Str × D)) : Prop := ∃ c : Addr, B.mg x = some (.ref c) ∧ ∀ k z, kvs.lookup k = some z → ∃ v, KDct B.K B.w c k v ∧ Rp B.K (fun _ => none) v z
/-! ### texts compared -/
def oEqS : D → D → (D → Prop) → Prop := fun x y Q => ∃ a b : Str, x = .str a ∧ y = .str b ∧ Q (.bl (decide (a = b)))
def oNeS : D → D → (D → Prop) → Prop := fun x y Q => ∃ a b : Str, x = .str a ∧ y = .str b ∧ Q (.bl (!decide (a = b)))
theorem dec_strV {a b : Str} : decide (V.str a = V.str b) = decide (a = b) := by rw [Bool.eq_iff_iff]; simp
section
variable {S : Sta} {a b e : Expr} {es : List Expr} {pos p : Pos} {wa wb : W} {x : Str}
theorem cm_eqS : CmpR S .Eq rEq oEqS := ⟨fun X f => op_eq, fun G F σ H ρ v1 d1 v2 d2 Qd Q ev r1 r2 ⟨i, j, e1, e2, hQ⟩ hq => by
  subst e1 e2
  cases r1; cases r2
  exact ⟨rfl, by rw [dec_strV]; exact hq _ H F _ (Same.refl _) ev Fr.refl (.bl _) hQ⟩⟩
theorem cm_neS : CmpR S .NotEq rNe oNeS := ⟨fun X f => op_ne, fun G F σ H ρ v1 d1 v2 d2 Qd Q ev r1 r2 ⟨i, j, e1, e2, hQ⟩ hq => by
  subst e1 e2
  cases r1; cases r2
  exact ⟨rfl, by rw [dec_strV]; exact hq _ H F _ (Same.refl _) ev Fr.refl (.bl _) hQ⟩⟩
theorem de_fdivW (ha : DE S a wa) (hb : DE S b wb) : DE S (.BinOp a .FloorDiv b pos) (wOp (oI CDivW fun i j => i / j) wa wb) := fun X f => (pe_op op_fdivW (ha X f) (hb X f)).imp (tD_op opd_I)
/-! ### what is never reached -/
def wNo : W := fun _ _ _ => False
def woNo : WO := fun _ _ _ => False
theorem de_no : DE S e wNo := fun X f => ⟨fun pins s σ H Q I ⟨_, _, _, _, _, h, _⟩ => h.elim⟩
theorem do_no : DO S e woNo := fun X f => ⟨fun pins s σ H Q I ⟨_, _, _, _, _, h, _⟩ => h.elim⟩
/-- x not in a tuple of the module -/
def wNotInG (ds : List D) (wa : W) : W := fun G ρ Q => wa G ρ fun d => oNotIn d (.tup ds) Q
theorem de_notInG {ds : List D} (h : GTup S.toBs x ds) (ha : DE S a wa) (hg : (S.names.lookup x == some .globalImplicit) = true := by kernel_rfl) (hd : (x == ("__debug__" : Str)) = false := by kernel_rfl) (hm : behindInMarks .NotIn (.Name x p) = false := by rfl) : DE S (.Compare a [.NotIn] [.Name x p] pos) (wNotInG ds wa) := fun X f => by
  obtain ⟨c, vs, hmg, hs, hr⟩ := h
  have op : OpR X (compareOp .NotIn) (rNotInS S.K) := f.K ▸ op_notInS f.room.units65
  exact (pe_cmpR op (ha X f) (pe_glob (v := .ref c) (u := .ref c) (glOf f hg) (by rw [f.mg]; exact hmg) rfl hd) hm).imp fun σ H Q ⟨G, F, ρ, Qd, ev, hw, hq⟩ => ⟨G, F, ρ, _, ev, hw, fun v1 H1 F1 d1 s1 e1 f1 r1 ⟨ys, p, q, e0, e2, e3, sh1, sh2, hQ⟩ => by
    cases e0
    exact ⟨p, q, r1.dp e1.sub e2, .inr (.tup (hs H1) (RpL.dp (fun _ _ z => by cases z) hr e3)), sh1, sh2, hq _ H1 F1 _ s1 e1 f1 (.bl _) hQ⟩⟩
/-- a table of the module, read -/
def wTab (kvs : List (Str × D)) (w : W) : W := fun G ρ Q => w G ρ fun d => ∃ k z, d = .str k ∧ kvs.lookup k = some z ∧ Q z
theorem de_tab {kvs : List (Str × D)} (h : GTab S.toBs x kvs) (hb : DE S b wb) (hg : (S.names.lookup x == some .globalImplicit) = true := by kernel_rfl) (hd : (x == ("__debug__" : Str)) = false := by kernel_rfl) (hs : PlainIx b := by intro _ _; rfl) :
    DE S (.Subscript (.Name x p) b pos) (wTab kvs wb) := fun X f => by
  obtain ⟨c, hm, hk⟩ := h
  exact (pe_ix ix_kdict (pe_glob (v := .ref c) (u := .ref c) (glOf f hg) (by rw [f.mg]; exact hm) rfl hd) (hb X f) hs).imp fun σ H Q ⟨G, F, ρ, Qd, ev, hw, hq⟩ => ⟨G, F, ρ, fun d => ∃ k z, d = .str k ∧ kvs.lookup k = some z ∧ Qd z, ev, hw, fun v1 H1 F1 d1 s1 e1 f1 r1 ⟨k, z, ed, hl, q⟩ => by
    subst ed
    obtain ⟨v, kd, rz⟩ := hk k z hl
    rw [r1.strI]
    exact ⟨c, k, v, rfl, rfl, by rw [f.K, f.w]; exact kd, hq v H1 F1 z s1 e1 f1 (rz.mono fun _ _ z => by cases z) q⟩⟩
def woGcd (r : WA) : WO := fun G ρ Q => r G ρ fun ds => ∃ i j : Int, ds = [.int i, .int j] ∧ Q (.fz (.int ((Nat.gcd i.natAbs j.natAbs : Nat) : Int)))
theorem do_gcd {r : WA} (hm : S.mg x = some (.builtin "math.gcd")) (ha : DA S (e :: es) r) (hg : (S.names.lookup x == some .globalImplicit) = true := by kernel_rfl) (hdb : (x == ("__debug__" : Str)) = false := by decide)
    (he : ∀ env, starEach (e :: es) env = (false, eval e env) :: starEach es env := by intro _; rfl) (hpl : ∀ env, (backTo pos (starEach es env)).any (·.1) = false := by intro _; rfl) : DO S (.Call (.Name x p) (e :: es) [] pos) (woGcd r) := fun X f =>
  (pe_callBfun cr_gcd (glOf f hg) (by rw [f.mg]; exact hm) (ha X f) hdb (he _) (hpl _)).imp fun σ H Q ⟨G, F, ρ, Qd, ev, hw, hq⟩ => ⟨G, F, ρ, _, ev, hw, fun vs H1 F1 ds s1 e1 f1 r1 ⟨i, j, e2, q⟩ => by
    subst e2
    obtain ⟨u, v, rfl, h1, h2⟩ := r1.two
    obtain rfl := h1.intI
    obtain rfl := h2.intI
    exact ⟨i, j, rfl, hq _ H1 F1 (.fz (.int _)) s1 e1 f1 (Rp.int _) q⟩⟩
end
end DL
set_option maxHeartbeats 4000000
/-! dicts with flat keys and with keys that are tuples, the keys as values -/
namespace DL
open PySem PySem.Spec PyProof.Rows L2

def sg {α : Type} (kvs : List (Key × α)) : List (List Key × α) := kvs.map fun kv => ([kv.1], kv.2)
/-- a dict with flat keys -/
abbrev dK (kvs : List (Key × D)) : D := .dic false (sg kvs)
abbrev oK (kvs : List (Key × D)) : SV := .od false (sg kvs)
def lookD {κ : Type} [DecidableEq κ] (kds : List (κ × D)) (k : κ) : Option D := (kds.find? fun kv => decide (kv.1 = k)).map (·.2)
section
variable {K : PySem.W.Frag} {F H : Hp}
theorem look_rp {κ : Type} [DecidableEq κ] (k : κ) : ∀ {kvs : List (κ × V)} {kds : List (κ × D)}, kvs.map (·.1) = kds.map (·.1) → RpL K F (kvs.map (·.2)) (kds.map (·.2)) →
    (lookD kds k = none ∧ valV kvs k = none) ∨ ∃ d v, lookD kds k = some d ∧ valV kvs k = some v ∧ Rp K F v d
  | [], [], _, _ => .inl ⟨rfl, rfl⟩
  | [], _ :: _, e, _ => by cases e
  | _ :: _, [], e, _ => by cases e
  | (k1, v) :: kvs, (k2, d) :: kds, e, r => by
    rw [List.map_cons, List.map_cons] at e r
    obtain ⟨e1, e2⟩ := List.cons.inj e
    have e1 : k1 = k2 := e1
    subst e1
    cases r with
    | cons h r =>
      by_cases c : k1 = k
      · exact .inr ⟨d, v, by simp [lookD, List.find?_cons, c], valV_pos c, h⟩
      · rcases look_rp k e2 r with ⟨h1, h2⟩ | ⟨d', v', h1, h2, h3⟩
        · exact .inl ⟨by simpa [lookD, List.find?_cons, c] using h1, (valV_neg c).trans h2⟩
        · exact .inr ⟨d', v', by simpa [lookD, List.find?_cons, c] using h1, (valV_neg c).trans h2, h3⟩
/-- the flat list behind -/
def unsg (kvs : List (List Key × V)) : List (Key × V) := kvs.map fun kv => (kv.1.headD (.inl 0), kv.2)
theorem unsg_keys : ∀ {kvs : List (List Key × V)} {kds : List (Key × D)}, kvs.map (·.1) = (sg kds).map (·.1) → (unsg kvs).map (·.1) = kds.map (·.1)
  | [], [], _ => rfl
  | [], _ :: _, e => by cases e
  | _ :: _, [], e => by cases e
  | (k, v) :: kvs, (k2, d) :: kds, e => by
    obtain ⟨e1, e2⟩ := List.cons.inj (show k :: kvs.map (·.1) = [k2] :: (sg kds).map (·.1) from e)
    subst e1
    show k2 :: (unsg kvs).map (·.1) = k2 :: kds.map (·.1)
    rw [unsg_keys e2]
theorem unsg_vals (kvs : List (List Key × V)) : (unsg kvs).map (·.2) = kvs.map (·.2) := by
  unfold unsg
  rw [List.map_map]
  rfl
theorem sg_vals {α : Type} (kds : List (Key × α)) : (sg kds).map (·.2) = kds.map (·.2) := by
  unfold sg
  rw [List.map_map]
  rfl
theorem sg_keys {α : Type} (kds : List (Key × α)) : (sg kds).map (·.1) = kds.map fun kv => [kv.1] := by
  unfold sg
  rw [List.map_map]
  rfl
/-- the key x and the dict y: what is found -/
inductive Fnd : D → D → Option D → Prop
  | flat (k : Key) (kvs : List (Key × D)) : Fnd (kD k) (dK kvs) (lookD kvs k)
  | tup (ks : List Key) (kds : List (List Key × D)) : Fnd (.tky (ks.map kD)) (.dic true kds) (lookD kds ks)
theorem dget_of {v1 v2 : V} {x y : D} {o : Option D} (s : Same F H) (r1 : Rp K F v1 x) (r2 : Rp K F v2 y) (c : Fnd x y o) :
    ∃ (a : Addr) (ov : Option V), v2 = .ref a ∧ DGet H a v1 ov ∧ ((o = none ∧ ov = none) ∨ ∃ d v, o = some d ∧ ov = some v ∧ Rp K F v d) := by
  cases c with
  | flat k kvs =>
    cases r2 with
    | @dic a t vs kds h r =>
      obtain ⟨e1, e2⟩ := r.split
      have hk := unsg_keys e1
      have hv : RpL K F ((unsg vs).map (·.2)) (kvs.map (·.2)) := by rw [unsg_vals, ← sg_vals]; exact e2
      rw [kD_of r1]
      refine ⟨a, valV (unsg vs) k, rfl, DGet.k (s _ _ h), ?_⟩
      rcases look_rp k hk hv with ⟨h1, h2⟩ | ⟨d, v, h1, h2, h3⟩
      · exact .inl ⟨h1, h2⟩
      · exact .inr ⟨d, v, h1, h2, h3⟩
  | tup ks kds =>
    cases r2 with
    | @dic a t vs kds h r =>
      obtain ⟨e1, e2⟩ := r.split
      cases r1 with
      | @tky b us ds hb rb =>
        have eu := kDs_of rb
        subst eu
        refine ⟨a, valV vs ks, rfl, DGet.t (s _ _ h) (s _ _ hb), ?_⟩
        rcases look_rp ks e1 e2 with ⟨h1, h2⟩ | ⟨d, v, h1, h2, h3⟩
        · exact .inl ⟨h1, h2⟩
        · exact .inr ⟨d, v, h1, h2, h3⟩
end
def oDIn : D → D → (D → Prop) → Prop := fun x y Q => ∃ o, Fnd x y o ∧ Q (.bl o.isSome)
def oDNotIn : D → D → (D → Prop) → Prop := fun x y Q => ∃ o, Fnd x y o ∧ Q (.bl (!o.isSome))
def oDGet : D → D → (D → Prop) → Prop := fun y x Q => ∃ d, Fnd x y (some d) ∧ Q d
section
variable {S : Sta} {a b e : Expr} {es : List Expr} {pos p p2 tpos : Pos} {wa wb wk w : W} {x : Str} {wv : WV} {r : WA}
theorem units1 {X : Cx} (f : Fam S X) : X.A.units + 1 < cLine := by have := f.room.un; omega
theorem de_din (ha : DE S a wa) (hb : DE S b wb) (hm : behindInMarks .In b = false := by rfl) : DE S (.Compare a [.In] [b] pos) (wOp oDIn wa wb) := fun X f =>
  (pe_cmp (pc_din (units1 f) (ha X f) (hb X f)) hm).imp fun σ H Q ⟨G, F, ρ, Qd, ev, hw, hq⟩ => ⟨G, F, ρ, _, ev, hw, fun v1 H1 F1 d1 s1 e1 f1 r1 q1 => ⟨G, F1, ρ, _, e1, q1, fun v2 H2 F2 d2 s2 e2 f2 r2 ⟨o, c, q⟩ => by
    obtain ⟨a, ov, rfl, g, h⟩ := dget_of e2.sub (r1.mono s2) r2 c
    refine ⟨a, ov, rfl, g, ?_⟩
    have eo : ov.isSome = o.isSome := by
      rcases h with ⟨h1, h2⟩ | ⟨d, v, h1, h2, _⟩
      · rw [h1, h2]; rfl
      · rw [h1, h2]; rfl
    rw [eo]
    exact hq _ H2 F2 _ (s1.trans s2) e2 (f1.trans f2) (.bl _) q⟩⟩
theorem de_dnotin (ha : DE S a wa) (hb : DE S b wb) (hm : behindInMarks .NotIn b = false := by rfl) : DE S (.Compare a [.NotIn] [b] pos) (wOp oDNotIn wa wb) := fun X f =>
  (pe_cmp (pc_dnotin (units1 f) (ha X f) (hb X f)) hm).imp fun σ H Q ⟨G, F, ρ, Qd, ev, hw, hq⟩ => ⟨G, F, ρ, _, ev, hw, fun v1 H1 F1 d1 s1 e1 f1 r1 q1 => ⟨G, F1, ρ, _, e1, q1, fun v2 H2 F2 d2 s2 e2 f2 r2 ⟨o, c, q⟩ => by
    obtain ⟨a, ov, rfl, g, h⟩ := dget_of e2.sub (r1.mono s2) r2 c
    refine ⟨a, ov, rfl, g, ?_⟩
    have eo : ov.isSome = o.isSome := by
      rcases h with ⟨h1, h2⟩ | ⟨d, v, h1, h2, _⟩
      · rw [h1, h2]; rfl
      · rw [h1, h2]; rfl
    rw [eo]
    exact hq _ H2 F2 _ (s1.trans s2) e2 (f1.trans f2) (.bl _) q⟩⟩
theorem de_dget (ha : DE S a wa) (hb : DE S b wb) (hs : NoSl b := by intro _ _; rfl) : DE S (.Subscript a b pos) (wOp oDGet wa wb) := fun X f =>
  (pe_dget (units1 f) (ha X f) (hb X f) hs).imp fun σ H Q ⟨G, F, ρ, Qd, ev, hw, hq⟩ => ⟨G, F, ρ, _, ev, hw, fun v1 H1 F1 d1 s1 e1 f1 r1 q1 => ⟨G, F1, ρ, _, e1, q1, fun v2 H2 F2 d2 s2 e2 f2 r2 ⟨d, c, q⟩ => by
    obtain ⟨a, ov, ea, g, h⟩ := dget_of e2.sub r2 (r1.mono s2) c
    rcases h with ⟨h1, _⟩ | ⟨d', v, h1, h2, h3⟩
    · cases h1
    · cases h1
      rw [h2] at g
      exact ⟨a, v, ea, g, hq v H2 F2 d (s1.trans s2) e2 (f1.trans f2) h3 q⟩⟩⟩
/-! ### {} to be filled with flat keys -/
def woDnewK : WO := fun _ _ Q => Q (oK [])
theorem do_dnewK : DO S (.Dict [] [] pos) woDnewK := fun X f => pe_dnewK.imp fun σ H Q ⟨G, F, ρ, Qd, ev, hw, hq⟩ p hp =>
  hq _ _ F (oK []) (Same.refl _) (ev.liveO hp) (Fr.upd hp) ⟨p, [], rfl, upd_same, rfl, .nil, ev.nr hp, hp, ev.fnone hp⟩ hw
/-! ### d[k] = v, d ours -/
/-- d with v at x -/
inductive Ptd : D → D → SV → SV → Prop
  | flat (k : Key) (kvs : List (Key × D)) (d : D) (h : kvs.length < sizeLine) : Ptd (kD k) d (oK kvs) (oK (putD kvs k d))
  | tup (ks : List Key) (kds : List (List Key × D)) (d : D) (h : kds.length < sizeLine) : Ptd (.tky (ks.map kD)) d (.od true kds) (.od true (putD kds ks d))
def wStoreD (i : Nat) (wk : W) (wv : WV) : WS := fun G E ρ => wv G ρ fun d ρ' => (∃ t kds, ρ'[i]? = some (some (.od t kds))) ∧ wk G ρ' fun kd => ∃ sv sw, ρ'[i]? = some (some sv) ∧ Ptd kd d sv sw ∧ E.nx (ρ'.set i (some sw))
theorem ownDictA {K : PySem.W.Frag} {G : Gc} {H0 F0 F H : Hp} {σ : St} {ρ : En} {i : Nat} (ev : Ev K G H0 F0 F H σ ρ) {t : Bool} {kds : List (List Key × D)} (q : ρ[i]? = some (some (.od t kds))) : ∃ a kvs, σ[i]? = some (some (.ref a)) ∧ H a = some (odO t kvs) ∧ kvs.map (·.1) = kds.map (·.1) ∧ RpL K F (kvs.map (·.2)) (kds.map (·.2)) ∧ ¬ G.R a := by
  obtain ⟨v, h1, a, vs, rfl, h2, h3, h4, h5⟩ := ev.r.slot i _ q
  exact ⟨a, vs, h1, h2, h3, h4, h5⟩
theorem keys_len {α β κ : Type} {xs : List (κ × α)} {ys : List (κ × β)} (h : xs.map (·.1) = ys.map (·.1)) : xs.length = ys.length := by
  have := congrArg List.length h
  simpa using this
theorem ds_storeD {i : Nat} (hv : DV S e wv) (hk : DE S b wk) (hN : (S.N[i]? == some x) = true := by kernel_rfl) (hx : (S.names.lookup x == some .local || S.names.lookup x == some .cell || S.names.lookup x == some .free) = true := by kernel_rfl) (hd : (x == ("__debug__" : Str)) = false := by kernel_rfl) (hcd : (x == ("__classdict__" : Str)) = false := by kernel_rfl)
    (ha : ∀ env v, assign (.Subscript (.Name x p) b tpos) env v = (do
      let ov ← holding [v] (eval (.Name x p) env)
      let iv ← holding [v, ov] (eval b env)
      standAt tpos
      holding [v, ov, iv] (setItem ov iv v)
      release [v, ov, iv] []) := by intro _ _; rfl)
    (hs : ∀ env, swapsWithSole [.Subscript (.Name x p) b tpos] e pos.line env = pure false := by intro _; rfl) (hw : ∀ env, swappedStores [.Subscript (.Name x p) b tpos] e env = pure none := by intro _; rfl) (h1 : ∀ env, (assignEach [.Subscript (.Name x p) b tpos] env).map (·.2) = [assign (.Subscript (.Name x p) b tpos) env] := by intro _; rfl) :
    DS S (.Assign [.Subscript (.Name x p) b tpos] e pos) (wStoreD i wk wv) := fun X f => by
  refine (ps_asg (hv X f) (pg_sub (pvN f hN hx hd hcd) (hk X f) (set_dict (units1 f)) (ha _)) (hs _) (hw _) (h1 _)).imp fun D σ H ⟨G, H0, F0, F, ρ, E, ev, hw, g⟩ => ?_
  refine ⟨G, H0, F0, F, ρ, _, ev, hw, fun v H1 F1 d ρ1 ev1 s1 r1 ⟨⟨t0, kds0, q0⟩, hw2⟩ => ?_⟩
  obtain ⟨a, vs0, hu, _⟩ := ownDictA ev1 q0
  refine ⟨.ref a, hu, G, F1, ρ1, _, ev1.r, hw2, fun u H2 F2 kd s2 e2 fr2 rk ⟨sv, sw, q, pt, z⟩ => ?_⟩
  -- the tuple that is the key, made meanwhile, is kept for good
  have evT := ev1.goT s2 e2 fr2
  cases pt with
  | flat k kvs _ hz =>
    obtain ⟨a', vs, h1', h3, h4, h5, h6⟩ := ownDictA (ev1.go s2 e2 fr2) q
    rw [hu] at h1'
    cases h1'
    have eu := kD_of rk
    subst eu
    have hk := unsg_keys h4
    have hv : RpL S.K F1 ((unsg vs).map (·.2)) (kvs.map (·.2)) := by rw [unsg_vals, ← sg_vals]; exact h5
    refine ⟨a, _, rfl, DPut.k (kvs := unsg vs) (k := k) h3 (by rw [keys_len hk]; exact hz), ?_⟩
    obtain ⟨p1, p2⟩ := putD_rp (k := k) r1 hk hv
    have hsg : ∀ l : List (Key × V), (sg l).map (fun kv => (kv.1.headD (.inl 0), kv.2)) = l := fun l => by unfold sg; rw [List.map_map]; exact List.map_id' _
    refine g.nx _ _ _ _ ((ev1.go s2 e2 fr2).chgS (sv' := oK (putD kvs k d)) (o := .dK (putK (unsg vs) k v)) q rfl hu ⟨a, sg (putK (unsg vs) k v), rfl, ?_, ?_, ?_, h6⟩ h6) s1 z
    · rw [upd_same]
      show _ = some (HO.dK _)
      rw [hsg]
    · rw [sg_keys, sg_keys]
      have := congrArg (List.map fun (z : Key) => [z]) p1
      rw [List.map_map, List.map_map] at this
      exact this
    · rw [sg_vals, sg_vals]
      exact p2
  | tup ks kds _ hz =>
    obtain ⟨a', vs, h1', h3, h4, h5, h6⟩ := ownDictA (ev1.go s2 e2 fr2) q
    rw [hu] at h1'
    cases h1'
    cases rk with
    | @tky b us ds hb rb =>
      have eu := kDs_of rb
      subst eu
      refine ⟨a, _, rfl, DPut.t (kvs := vs) (k := ks) h3 (e2.sub _ _ hb) (by rw [keys_len h4]; exact hz), ?_⟩
      obtain ⟨p1, p2⟩ := putD_rp (k := ks) r1 h4 h5
      exact g.nx _ _ _ _ ((ev1.go s2 e2 fr2).chgS (sv' := .od true (putD kds ks d)) (o := .dT (putK vs ks v)) q rfl hu ⟨a, putK vs ks v, rfl, upd_same, p1, p2, h6⟩ h6) s1 z
end
end DL
set_option maxHeartbeats 4000000
/-! built-ins over more data: {} of either kind, len of a dict, max and min of one argument, set of more items, index of a tuple -/
namespace DL
open PySem PySem.Spec PyProof.Rows L2

section
variable {S : Sta} {a b e : Expr} {es : List Expr} {pos p p2 pos2 : Pos} {w wa wb wo we : W} {x : Str}
def woDnewA : WO := fun _ _ Q => Q (oK []) ∨ Q (.od true [])
theorem do_dnewA : DO S (.Dict [] [] pos) woDnewA := fun X f => ⟨fun pins s σ H Q I ⟨G, F, ρ, Qd, ev, hw, hq⟩ => by
  rcases hw with hw | hw
  · exact (do_dnewK X f).run pins s σ H Q I ⟨G, F, ρ, Qd, ev, hw, hq⟩
  · exact (do_dnew X f).run pins s σ H Q I ⟨G, F, ρ, Qd, ev, hw, hq⟩⟩
/-! ### len -/
def rLenK : List V → Hp → VK → Prop := fun xs H Q => ∃ (p : Addr) (kvs : List (Key × V)), xs = [.ref p] ∧ H p = some (.dK kvs) ∧ Q (.int ((kvs.length : Nat) : Int)) H
theorem call_len_dK {X : Cx} : CallR X (.builtin "len") rLenK := by
  intro pins s σ H xs us Q I r ⟨p, kvs, e, hp, q⟩
  subst e
  obtain ⟨u, rfl, rx⟩ := vals1 r
  obtain rfl : u = .ref p := rx
  exact d_len I (.inl hp) fun t s' I' => ⟨.int ((kvs.length : Nat) : Int), H, I', ⟨t, rfl⟩, q⟩
def oLenD : List D → (SV → Prop) → Prop := fun ds Q => oLen ds Q ∨ ∃ t kds, ds = [.dic t kds] ∧ Q (.fz (.int kds.length))
theorem cd_lenD : CD S (.builtin "len") oLenD := fun X f => ((cd_len X f).or (call_len_dT.or call_len_dK)).imp fun vs H Q ⟨G, F, σ, ρ, ds, Qd, ev, rl, h, hq⟩ => by
  rcases h with h | ⟨t, kds, rfl, q⟩
  · exact .inl ⟨G, F, σ, ρ, ds, Qd, ev, rl, h, hq⟩
  · obtain ⟨u, rfl, r⟩ := rl.one
    cases r with
    | @dic a _ kvs _ h r =>
      have hl : kds.length = kvs.length := (keys_len r.split.1).symm
      rw [hl] at q
      cases t with
      | true => exact .inr (.inl ⟨a, kvs, rfl, ev.sub _ _ h, ev.giv (.int _) q hq⟩)
      | false => exact .inr (.inr ⟨a, unsg kvs, rfl, ev.sub _ _ h, by unfold unsg; rw [List.length_map]; exact ev.giv (.int _) q hq⟩)
/-! ### max(xs), min(xs) -/
def rMaxT (K : PySem.W.Frag) (f : Int → Int → Int) : List V → Hp → VK → Prop := fun vs H Q => ∃ (a : Addr) (n : Int) (ns : List Int), vs = [V.ref a] ∧ (SqL K H a ((n :: ns).map V.int) ∨ SqT K H a ((n :: ns).map V.int)) ∧ Q (.int (ns.foldl f n)) H
theorem alike_ints (ns : List Int) : PySem.W.AlikeAll (ns.map PyData.int) := ⟨fun x hx y hy => by
    obtain ⟨i, _, rfl⟩ := List.mem_map.mp hx
    obtain ⟨j, _, rfl⟩ := List.mem_map.mp hy
    rfl, fun x hx z => by
    obtain ⟨i, _, rfl⟩ := List.mem_map.mp hx
    cases z⟩
theorem depth_ints : ∀ ns : List Int, PyData.depthAll (ns.map PyData.int) = 0
  | [] => rfl
  | n :: ns => by rw [List.map_cons]; unfold PyData.depthAll; rw [depth_ints ns]; rfl
theorem max_int_id {h : Heap} {u : Value} {n : Int} {bs : List Addr} (r : Reads h u (.int n) bs) : ∃ t, u = .int n t := by cases r; exact ⟨_, rfl⟩
theorem cr_maxT {X : Cx} (hc : X.calm = true) (hu : X.A.units + 2 < cLine) : CallR X (.builtin "max") (rMaxT X.K max) := by
  intro pins s σ H vs us Q I r ⟨a, n, ns, e, hs, q⟩
  subst e
  rw [Vals.ref1 r]
  have un : X.A.units + 1 + PyData.depthAll ((PyData.int n) :: ns.map .int) < cLine := by
    have := depth_ints (n :: ns)
    rw [List.map_cons] at this
    rw [this]; omega
  have al : PySem.W.AlikeAll ((PyData.int n) :: ns.map .int) := alike_ints (n :: ns)
  rcases hs with hs | hs
  · obtain ⟨its, rv, hl, _⟩ := I.list hs
    refine PySem.W.max_list_data (x := .int n) (xs := ns.map .int) (I.ok.hd hc) hl.isList (rv.ints.reads _) al un fun i v h' tk bs _ rd hk => ?_
    rw [PySem.W.maxD_ints] at rd
    obtain ⟨t, rfl⟩ := max_int_id rd
    exact ⟨.int _, H, I.kept (t' := tk) hk, ⟨t, rfl⟩, q⟩
  · obtain ⟨its, rv, hl, _⟩ := I.tuple hs
    refine PySem.W.max_tuple_data (x := .int n) (xs := ns.map .int) (I.ok.hd hc) (show s.heap.IsTuple a its.toArray from hl) (rv.ints.reads _) al un fun i v h' tk bs _ rd hk => ?_
    rw [PySem.W.maxD_ints] at rd
    obtain ⟨t, rfl⟩ := max_int_id rd
    exact ⟨.int _, H, I.kept (t' := tk) hk, ⟨t, rfl⟩, q⟩
theorem cr_minT {X : Cx} (hc : X.calm = true) (hu : X.A.units + 2 < cLine) : CallR X (.builtin "min") (rMaxT X.K min) := by
  intro pins s σ H vs us Q I r ⟨a, n, ns, e, hs, q⟩
  subst e
  rw [Vals.ref1 r]
  have un : X.A.units + 1 + PyData.depthAll ((PyData.int n) :: ns.map .int) < cLine := by
    have := depth_ints (n :: ns)
    rw [List.map_cons] at this
    rw [this]; omega
  have al : PySem.W.AlikeAll ((PyData.int n) :: ns.map .int) := alike_ints (n :: ns)
  rcases hs with hs | hs
  · obtain ⟨its, rv, hl, _⟩ := I.list hs
    refine PySem.W.min_list_data (x := .int n) (xs := ns.map .int) (I.ok.hd hc) hl.isList (rv.ints.reads _) al un fun i v h' tk bs _ rd hk => ?_
    rw [PySem.W.minD_ints] at rd
    obtain ⟨t, rfl⟩ := max_int_id rd
    exact ⟨.int _, H, I.kept (t' := tk) hk, ⟨t, rfl⟩, q⟩
  · obtain ⟨its, rv, hl, _⟩ := I.tuple hs
    refine PySem.W.min_tuple_data (x := .int n) (xs := ns.map .int) (I.ok.hd hc) (show s.heap.IsTuple a its.toArray from hl) (rv.ints.reads _) al un fun i v h' tk bs _ rd hk => ?_
    rw [PySem.W.minD_ints] at rd
    obtain ⟨t, rfl⟩ := max_int_id rd
    exact ⟨.int _, H, I.kept (t' := tk) hk, ⟨t, rfl⟩, q⟩
def oMax1 (f : Int → Int → Int) : List D → (SV → Prop) → Prop := fun ds Q => ∃ x n ns, ds = [x] ∧ itemsOf x = some ((n :: ns).map .int) ∧ Q (.fz (.int (ns.foldl f n)))
theorem cd_max1 : CD S (.builtin "max") (oMax1 max) := fun X f => (cr_maxT f.calm (by have := f.room.un; omega)).imp fun vs H Q ⟨G, F, σ, ρ, ds, Qd, ev, rl, ⟨x, n, ns, e, e2, q⟩, hq⟩ => by
  subst e
  obtain ⟨u, rfl, r⟩ := rl.one
  obtain ⟨a, ws, rfl, h, rr⟩ := rp_sq ev.sub r e2
  rw [rr.ints] at h
  rw [f.K]
  exact ⟨a, n, ns, rfl, h, ev.giv (.int _) q hq⟩
theorem cd_min1 : CD S (.builtin "min") (oMax1 min) := fun X f => (cr_minT f.calm (by have := f.room.un; omega)).imp fun vs H Q ⟨G, F, σ, ρ, ds, Qd, ev, rl, ⟨x, n, ns, e, e2, q⟩, hq⟩ => by
  subst e
  obtain ⟨u, rfl, r⟩ := rl.one
  obtain ⟨a, ws, rfl, h, rr⟩ := rp_sq ev.sub r e2
  rw [rr.ints] at h
  rw [f.K]
  exact ⟨a, n, ns, rfl, h, ev.giv (.int _) q hq⟩
/-! ### sorted(set(xs)), few of them told often -/
theorem setR_num {w : World} {h : Heap} {a : Addr} {S : Int → Bool} {n : Nat} (R : SetR w h a S n) : ∃ l : List Int, l.Nodup ∧ l.length = n ∧ ∀ k, k ∈ l ↔ S k = true := by
  obtain ⟨o, es, ep, t, ho, hex, hd, g, nd, hm, hb, hf, hn, hr, hl⟩ := R
  exact ⟨_, nd, by rw [List.length_map, Array.length_toList]; exact hn, fun k => (hm k).symm⟩
def rSetA (K : PySem.W.Frag) (w : World) : List V → Hp → VK → Prop := fun xs H Q => ∃ (a : Addr) (ns : List Int), xs = [.ref a] ∧ (SqL K H a (ns.map V.int) ∨ SqT K H a (ns.map V.int)) ∧ ns.length + 1 < scanBound ∧
  ∀ p n, H p = none → (∃ l : List Int, l.Nodup ∧ l.length = n ∧ ∀ k, k ∈ l ↔ k ∈ ns) → Q (.ref p) (upd H p (SetO w p (fun j => decide (j ∈ ns)) n))
theorem cr_setA {X : Cx} (hc : X.calm = true) : CallR X (.type "set") (rSetA X.K X.w) := by
  intro pins s σ H xs us Q I rv ⟨a, ns, e, hs, hb, q⟩
  subst e
  rw [Vals.ref1 rv]
  have fin : ∀ {c : Nat} {h' : Heap}, SetR X.w h' s.heap.objs.size (fun j => decide (j ∈ ns)) c → ∃ l : List Int, l.Nodup ∧ l.length = c ∧ ∀ k, k ∈ l ↔ k ∈ ns := fun R => by
    obtain ⟨l, h1, h2, h3⟩ := setR_num R
    exact ⟨l, h1, h2, fun k => by rw [h3 k]; exact decide_eq_true_iff⟩
  rcases hs with hs | hs
  · obtain ⟨its, rr, pl, hz⟩ := I.list hs
    refine call_set_ints ns (I.ok.hd hc) pl.isList rr.ints hb fun s' ⟨h', tk, c, e, R, hcn, kp⟩ => ?_
    subst e
    exact ⟨.ref _, _, I.laid (t' := tk) kp (Nat.le_refl _) (setO_new R), rfl, q _ c (I.hok.fresh (Nat.le_refl _)) (fin R)⟩
  · obtain ⟨its, rr, pl, hz⟩ := I.tuple hs
    refine call_set_tupI ns (I.ok.hd hc) (show s.heap.IsTuple a its.toArray from pl) rr.ints hb fun h' tk c R hcn kp => ?_
    exact ⟨.ref _, _, I.laid (t' := tk) kp (Nat.le_refl _) (setO_new R), rfl, q _ c (I.hok.fresh (Nat.le_refl _)) (fin R)⟩
/-- few: how many different ones -/
def Few (ns : List Int) : Prop := ns.length < 4000 ∧ ∃ l : List Int, l.length < 64 ∧ ∀ k ∈ ns, k ∈ l
def woSortSetA (w : W) : WO := fun G ρ Q => w G ρ fun d => ∃ ns : List Int, itemsOf d = some (ns.map .int) ∧ Few ns ∧ ∀ ms : List Int, ms.Pairwise (· < ·) → (∀ k, k ∈ ms ↔ k ∈ ns) → Q (.ow (ms.map .int))
theorem nodup_le {l m : List Int} (h : l.Nodup) (s : ∀ k ∈ l, k ∈ m) : l.length ≤ m.length := by
  induction l generalizing m with
  | nil => exact Nat.zero_le _
  | cons x l ih =>
    rw [List.nodup_cons] at h
    have hx := s x List.mem_cons_self
    have := ih (m := m.erase x) h.2 fun k hk => (List.mem_erase_of_ne (fun e => h.1 (by rw [← e]; exact hk))).mpr (s k (List.mem_cons_of_mem _ hk))
    rw [List.length_erase_of_mem hx] at this
    have : 0 < m.length := List.length_pos_of_mem hx
    rw [List.length_cons]; omega
theorem do_sortSetA (hm : S.mg "sorted" = none) (hm2 : S.mg "set" = none) (h : DE S e w) (hg : (S.names.lookup ("sorted" : Str) == some .globalImplicit) = true := by kernel_rfl) (hg2 : (S.names.lookup ("set" : Str) == some .globalImplicit) = true := by kernel_rfl)
    (he : ∀ env, starEach [.Call (.Name "set" p2) [e] [] pos2] env = (false, eval (.Call (.Name "set" p2) [e] [] pos2) env) :: starEach [] env := by intro _; rfl) (he2 : ∀ env, starEach [e] env = (false, eval e env) :: starEach [] env := by intro _; rfl) :
    DO S (.Call (.Name "sorted" p) [.Call (.Name "set" p2) [e] [] pos2] [] pos) (woSortSetA w) := fun X f => by
  have h1 : PE X (.Call (.Name "set" p2) [e] [] pos2) _ := pe_callTy (cr_setA f.calm) (glOf f hg2) (by rw [f.mg]; exact hm2) (by decide +kernel) (pa_cons (h X f) pa_nil (he2 _)) (by decide) (by decide) (he2 _) rfl
  refine (pe_callB (cr_sortedSet f.calm) (glOf f hg) (by rw [f.mg]; exact hm) (by decide +kernel) (pa_cons h1 pa_nil (he _)) (by decide) (by decide) (he _) rfl).imp fun σ H Q ⟨G, F, ρ, Qd, ev, hw, hq⟩ => ?_
  refine ⟨G, F, ρ, _, ev, hw, fun v H1 F1 d s1 e1 f1 r1 ⟨ns, ed, ⟨hn, l, hl, hin⟩, q1⟩ => ?_⟩
  obtain ⟨q, vs, rfl, hs, rr⟩ := rp_sq e1.sub r1 ed
  rw [rr.ints] at hs
  rw [f.K]
  refine ⟨q, ns, rfl, hs, (by have e0 : scanBound = 4096 := rfl; omega), fun t n ht ⟨m, m1, m2, m3⟩ => ?_⟩
  have hle : n ≤ l.length := m2 ▸ nodup_le m1 fun k hk => hin k ((m3 k).mp hk)
  refine ⟨t, _, n, rfl, upd_same, by omega, fun ms p2 hp hm _ hp2 => ?_⟩
  have e2 := e1.ext (o := SetO X.w t (fun j => decide (j ∈ ns)) n) ht
  exact e2.newL hp2 RpL.of_ints (q1 ms hp fun k => by rw [hm]; exact decide_eq_true_iff) fun v H' F' sv s2 e3 f2 r2 q2 => hq v H' F' sv (s1.trans s2) e3 (f1.trans ((Fr.upd ht).trans f2)) (r2.back (f1.trans (Fr.upd ht))) q2
/-! ### t.index(k), t a tuple of ints -/
def rIxT (K : PySem.W.Frag) : V → List V → Hp → VK → Prop := fun x xs H Q => ∃ p, ∃ ys : List Int, ∃ z j, x = .ref p ∧ xs = [.int z] ∧ SqT K H p (ys.map V.int) ∧ ys[j]? = some z ∧ (∀ m, m < j → ys[m]? ≠ some z) ∧ Q (.int (j : Nat)) H
theorem flat_ints (ys : List Int) : (ys.map V.int).all flatV = true := by
  rw [List.all_map]
  exact List.all_eq_true.mpr fun _ _ => rfl
theorem mt_index_ints {X : Cx} : MtR X "tuple.index" (rIxT X.K) := by
  intro pins s σ H x xs v us Q I rx rs ⟨p, ys, z, j, e1, e2, hq, hy, hno, q⟩
  subst e1 e2
  cases rx
  obtain ⟨u, rfl, t, rfl⟩ := vals1 rs
  obtain ⟨its, r, ⟨⟨cls, dd, dt, sl⟩, ho, hc, n, hd⟩, hz⟩ := I.tuple hq
  simp only at hc hd
  subst hc hd
  have hl : its.toArray.size = ys.length := by rw [List.size_toArray, ← r.length, List.length_map]
  have hj : j < its.toArray.size := by rw [hl]; exact (List.getElem?_eq_some_iff.mp hy).1
  have val : ∀ (m : Nat) (hm : m < its.toArray.size), ∃ y t', ys[m]? = some y ∧ its.toArray[m] = Value.int y t' := fun m hm => by
    have hm' : m < ys.length := by rw [← hl]; exact hm
    obtain ⟨w, hw, t', hw'⟩ := r.get (i := m) (x := .int ys[m]) (by simp [hm'])
    exact ⟨ys[m], t', List.getElem?_eq_getElem hm', by rw [← hw', ← (List.getElem?_eq_some_iff.mp hw).2]; simp⟩
  refine call_meets PySem.F.slot_tuple_index ⟨_, ho, rfl⟩ PySem.F.entry_tuple_index (PySem.F.args_tuple_index_2 _ _) (TI.tuple_indexAt p its.toArray n dd sl (.int z t) (eqU (.int z)) j hj ?_ fun m hm hmj => ?_)
    ⟨ho, fun w hw => mem_eqAt (x := .int z) ⟨t, rfl⟩ rfl r (flat_ints ys) w (by simpa using hw), ⟨.int (j : Nat), H, I.tok _, ⟨_, rfl⟩, q⟩⟩
  · obtain ⟨y, t', h1, h2⟩ := val j hj
    rw [hy] at h1
    cases h1
    rw [h2]
    exact beq_self_eq_true (α := Int) z
  · obtain ⟨y, t', h1, h2⟩ := val m hm
    rw [h2]
    exact beq_eq_false_iff_ne.mpr fun e => hno m hmj (by rw [h1, e])
def wIxT (wo we : W) : W := fun G ρ Q => wo G ρ fun x => ∃ ys : List Int, x = .tix (ys.map .int) ∧ we G ρ fun y => ∃ (k : Int) (j : Nat), y = .int k ∧ ys[j]? = some k ∧ (∀ m, m < j → ys[m]? ≠ some k) ∧ Q (.int j)
/-- a method of a tuple that the program made -/
def tTM (K : PySem.W.Frag) (r : V → List V → Hp → VK → Prop) (to : TE) (t : TA) : TE := fun σ H Q => to σ H fun x H1 => (∃ p o ys, x = .ref p ∧ H1 p = some (.frz o (.tup ys)) ∧ o.dict = none) ∧ t σ H1 fun xs H2 => r x xs H2 Q
theorem pe_tm {X : Cx} {o : Expr} {to : TE} {t : TA} {name : Str} {apos cpos : Pos} {id : String} {r : V → List V → Hp → VK → Prop} (slot : Slot "tuple" name id) (hty : typeOf (.builtin id) = pure (.type "method_descriptor")) (hm : MtR X id r) (ho : PE X o to) (ha : PA X (e :: es) t)
    (hbase : attributeBase o name X.env (eval o X.env) = eval o X.env) (hfew : ((backTo cpos (starEach (e :: es) X.env)).all (fun x => !x.1) && (backToKw cpos (keywordEach [] X.env)).all (fun x => x.1.isSome) && decide ((e :: es).length + ([] : List Keyword).length + (if ([] : List Keyword).isEmpty then 0 else 1) < 30)) = true)
    (hline : (apos.endLine == cpos.line) = true) (hs : starEach (e :: es) X.env = (false, eval e X.env) :: starEach es X.env) (hplain : (backTo cpos (starEach es X.env)).any (·.1) = false) :
    PE X (.Call (.Attribute o name apos) (e :: es) [] cpos) (tTM X.K r to t) := ⟨fun pins s σ H Q I h => by
  refine wpAny_Call_method_late hbase hfew hline rfl (thn (ho.run pins s σ H _ I h) fun v s1 ⟨x, H1, I1, r1, ⟨p, ob, ys, ex, hq, hdn⟩, q1⟩ => ?_)
  subst ex
  cases r1
  obtain ⟨ho, hz, its, rv, ob', ho', hc, n, hd⟩ := I1.hok p _ hq
  rw [ho] at ho'
  cases ho'
  refine ⟨"tuple", id, PySem.F.plainAttrs_tuple, slot, hty, ⟨ob, ho, hc⟩, fun a ea => ?_, ?_⟩
  · cases ea; exact ⟨ob, ho, hdn⟩
  have hA := ha.run cpos pins s1 σ H1 _ I1 q1
  rw [hs] at hA ⊢
  refine Calls.callWith_builtin (by show (false || (backTo cpos (starEach es X.env)).any (·.1)) = false; rw [hplain] <;> rfl) (Calls.evalArgs_plain ?_)
  exact thn hA fun us s2 ⟨vs, H2, I2, r2, q2⟩ => hm pins s2 σ H2 (V.ref p) vs (Value.ref p) us Q I2 (show Value.ref p = Value.ref p from rfl) r2 q2⟩
theorem de_ixT {o : Expr} {apos cpos : Pos} (ho : DE S o wo) (he : DE S e we) (hbase : ∀ env, attributeBase o "index" env (eval o env) = eval o env := by intro _; rfl)
    (hfew : ∀ env, ((backTo cpos (starEach [e] env)).all (fun x => !x.1) && (backToKw cpos (keywordEach [] env)).all (fun x => x.1.isSome) && decide ([e].length + ([] : List Keyword).length + (if ([] : List Keyword).isEmpty then 0 else 1) < 30)) = true := by intro _; rfl)
    (hline : (apos.endLine == cpos.line) = true := by kernel_rfl) (hs : ∀ env, starEach [e] env = (false, eval e env) :: starEach [] env := by intro _; rfl) :
    DE S (.Call (.Attribute o "index" apos) [e] [] cpos) (wIxT wo we) := fun X f => by
  refine (pe_tm PySem.F.slot_tuple_index PySem.F.type_tuple_index mt_index_ints (ho X f) (pa_cons (he X f) pa_nil (hs _)) (hbase _) (hfew _) hline (hs _) rfl).imp fun σ H Q ⟨G, F, ρ, Qd, ev, hw, hq⟩ => ?_
  refine ⟨G, F, ρ, _, ev, hw, fun v1 H1 F1 d1 s1 e1 f1 r1 ⟨ys, ed, q1⟩ => ?_⟩
  subst ed
  rw [f.K]
  cases r1 with
  | @tix p ob vs _ h hn rr =>
    have h' := rr.ints
    subst h'
    refine ⟨⟨p, ob, _, rfl, e1.sub _ _ h, hn⟩, G, F1, ρ, _, e1, q1, fun vs H2 F2 ds s2 e2 f2 r2 ⟨k, j, ek, hj, hno, q2⟩ => ?_⟩
    subst ek
    rw [r2.intI]
    exact ⟨p, ys, k, j, rfl, rfl, .inl (.inr ⟨ob, e2.sub _ _ (s2 _ _ h)⟩), hj, hno, hq _ H2 F2 _ (s1.trans s2) e2 (f1.trans f2) (.int _) q2⟩
/-! ### a tuple that is to be a key -/
def wTupK (w : WA) : W := fun G ρ Q => w G ρ fun xs => xs.length ≤ sizeLine ∧ Q (.tky xs)
theorem de_tupK {x1} {r : WA} (h : DA S es r) : DE S (.Tuple es x1 pos) (wTupK r) := fun X f => (pe_tup (h X f)).imp fun σ H Q ⟨G, F, ρ, Qd, ev, hw, hq⟩ =>
  ⟨G, F, ρ, _, ev, hw, fun vs H1 F1 ds s1 e1 f1 r1 ⟨z, q1⟩ => ⟨by rw [r1.len]; exact z, fun p hp =>
    hq (.ref p) _ _ (.tky ds) (s1.trans (same_upd (e1.fnone hp))) (e1.live hp) (f1.trans (Fr.upd hp)) (.tky upd_same (r1.mono (same_upd (e1.fnone hp)))) q1⟩⟩
/-! ### tuple(xs), the object known whole; the tuple tracked -/
def rTupX (K : PySem.W.Frag) : List V → Hp → VK → Prop := fun xs H Q => ∃ p ys, xs = [.ref p] ∧ SqL K H p ys ∧ ∀ l o, H l = none → o.dict = none → Q (.ref l) (upd H l (.frz o (.tup ys)))
theorem call_tupX {X : Cx} : CallR X (.type "tuple") (rTupX X.K) := by
  intro pins s σ H xs us Q I r ⟨p, ys, e, hq, q⟩
  subst e
  obtain ⟨u, rfl, rx⟩ := vals1 r
  cases rx
  obtain ⟨its, r', pl, hz⟩ := I.list hq
  have hlen := r'.length
  refine call_tuple_list pl.isList (fun h' kp => ?_) (by simp only [List.size_toArray] <;> omega)
  have I1 : Inv X pins σ H { s with heap := h' } := I.kept (t' := s.toks) kp
  have I2 : Inv X pins σ (upd H h'.objs.size (.frz { cls := .type "tuple", data := .seq its.toArray } (.tup ys))) { s with heap := h'.push { cls := .type "tuple", data := .seq its.toArray } } :=
    I1.laid (t' := s.toks) (fun b o e => Heap.get?_push_of_some _ e) (Nat.le_refl _) (show ObjOk X.prog X.w _ _ _ (.frz _ (.tup ys)) from ⟨Heap.get?_push_size _ rfl, hz, its, r', IsTup.new _ _⟩)
  exact ⟨.ref h'.objs.size, _, I2, rfl, q _ _ (I1.hok.fresh (Nat.le_refl _)) rfl⟩
def oTupX (m : List D → D) : List D → (SV → Prop) → Prop := fun ds Q => ∃ xs, ds = [.lst xs] ∧ Q (.fz (m xs))
theorem cd_tix : CD S (.type "tuple") (oTupX .tix) := fun X f => call_tupX.imp fun vs H Q ⟨G, F, σ, ρ, ds, Qd, ev, rl, ⟨xs, e, q⟩, hq⟩ => by
  subst e
  obtain ⟨u, rfl, r⟩ := rl.one
  obtain ⟨p, ws, rfl, h, rr⟩ := rp_lstI ev.sub r
  rw [f.K]
  exact ⟨p, ws, rfl, h, fun l o hl ho => hq _ _ _ (.fz (.tix xs)) (same_upd (ev.fnone hl)) (ev.live hl) (Fr.upd hl) (Rp.tix upd_same ho (rr.mono (same_upd (ev.fnone hl)))) q⟩
theorem cd_tky : CD S (.type "tuple") (oTupX .tky) := fun X f => call_tuple_of.imp fun vs H Q ⟨G, F, σ, ρ, ds, Qd, ev, rl, ⟨xs, e, q⟩, hq⟩ => by
  subst e
  obtain ⟨u, rfl, r⟩ := rl.one
  obtain ⟨p, ws, rfl, h, rr⟩ := rp_lstI ev.sub r
  rw [f.K]
  exact ⟨p, ws, rfl, .inl ⟨h, fun l hl => hq _ _ _ (.fz (.tky xs)) (same_upd (ev.fnone hl)) (ev.live hl) (Fr.upd hl) (Rp.tky upd_same (rr.mono (same_upd (ev.fnone hl)))) q⟩⟩
end
end DL
set_option maxHeartbeats 4000000
/-! comprehensions of two clauses, dict comprehensions -/
namespace DL
open PySem PySem.Spec PyProof.Rows L2

section
variable {K : PySem.W.Frag}
abbrev NoOwn (σ : St) (ρ : En) (a : Addr) : Prop := ∀ (j : Nat) (sv : SV), ρ[j]? = some (some sv) → isOwn sv = true → σ[j]? ≠ some (some (.ref a))
/-- the heap besides the list under way -/
def FrD (G : Gc) (D : Addr) (H H' : Hp) : Prop := ∀ c o, H c = some o → ¬ G.R c → c ≠ D → H' c = some o
theorem noOwn_set {σ : St} {ρ : En} {a : Addr} {i : Nat} {v : V} {d : D} (h : NoOwn σ ρ a) : NoOwn (σ.set i (some v)) (ρ.set i (some (.fz d))) a := fun j sv q ho => by
  rcases set_get q with ⟨rfl, z⟩ | ⟨ne, q⟩
  · cases z; cases ho
  · rw [List.getElem?_set_ne ne]
    exact h j sv q ho
theorem noOwn_wipe {σ : St} {ρ : En} {a : Addr} {vs : List Nat} (h : NoOwn σ ρ a) : NoOwn (wipe σ vs) (wipeD ρ vs) a := fun j sv q ho z => by
  obtain ⟨h1, h2⟩ := wipeD_get q
  rw [wipe_out2 h2] at z
  exact h j sv h1 ho z
/-- the turns of one clause, D the list -/
theorem lc_loop {G : Gc} {g : TG} {wg : WG} {wt : WT} {we : W} {vs is : List Nat} {J : It} {ds : List D} {σ : St} {ρ : En} {F1 H1 : Hp} {D : Addr} {acc0 : List V} {accd0 : List DL.D} {Qd : List DL.D → Prop} (Fin : Hp → Prop)
    (hg : GOk K is g wg) (hsub : ∀ i ∈ is, i ∈ vs) (it : ItOk K J F1 ds) (e1 : EvR K G F1 H1 σ ρ) (nR : ¬ G.R D) (nF1 : F1 D = none) (nS : NoOwn σ ρ D) (hD0 : H1 D = some (.lst acc0)) (rl0 : RpL K F1 acc0 accd0) (q : wcL wg wt we vs G ρ ds accd0 Qd)
    (hfin : ∀ H2 F2 acc accd, Same F1 F2 → EvR K G F2 H2 σ ρ → H2 D = some (.lst acc) → RpL K F2 acc accd → F2 D = none → FrD G D H1 H2 → Qd accd → Fin H2) :
    ∃ W : Nat → Nat → Hp → Prop, (∃ m, W 0 m H1) ∧ ∀ i m H, W i m H → (J.stop i H ∧ Fin H) ∨ (J.go i H ∧ ∃ Nx : Hp → Prop, (∀ H', Nx H' → ∃ m', m' < m ∧ W (i + 1) m' H') ∧ ∀ x H', J.yld i H x H' → g x (wipe σ vs) H' fun σ2 H2 => wipe σ2 vs = wipe σ vs ∧ tT K wt σ2 H2 fun b H3 =>
      if b = true then tD K we σ2 H3 fun y H4 => ∃ acc, H4 D = some (.lst acc) ∧ acc.length < sizeLine ∧ Nx (upd H4 D (.lst (acc ++ [y]))) else Nx H3) := by
  let I : Nat → Hp → Prop := fun i H2 => ∃ F2 acc accd, Same F1 F2 ∧ Same F2 H2 ∧ H2 D = some (.lst acc) ∧ RpL K F2 acc accd ∧ F2 D = none ∧ EvR K G F2 H2 σ ρ ∧ FrD G D H1 H2 ∧ wcL wg wt we vs G ρ (ds.drop i) accd Qd
  refine ⟨fun i m H2 => m = ds.length - i ∧ i ≤ ds.length ∧ I i H2, ⟨ds.length, by omega, Nat.zero_le _, F1, acc0, accd0, Same.refl _, e1.sub, hD0, rl0, nF1, e1, fun c o h _ _ => h, q⟩, ?_⟩
  rintro i m H2 ⟨rfl, hi, F2, acc, accd, s2, s2', hDl, rl, nF, e2, fr, hwl⟩
  by_cases hlt : i < ds.length
  · obtain ⟨hgo, hy⟩ := it.go i H2 F2 s2 s2' hlt
    refine .inr ⟨hgo, I (i + 1), fun H' h => ⟨ds.length - (i + 1), by omega, rfl, hlt, h⟩, fun x H3 y => ?_⟩
    obtain ⟨d, hd, hx⟩ := hy x H3 y
    rw [List.drop_eq_getElem_cons hlt] at hwl
    rw [List.getElem?_eq_getElem hlt] at hd
    cases hd
    obtain ⟨F3, s3, nF3, e3, fr3, hD3, rx⟩ : ∃ F3, Same F2 F3 ∧ F3 D = none ∧ EvR K G F3 H3 σ ρ ∧ (∀ c o, H2 c = some o → H3 c = some o) ∧ H3 D = some (.lst acc) ∧ Rp K F3 x ds[i] := by
      rcases hx with ⟨rfl, rx⟩ | ⟨T, o, nT, rfl, rx⟩
      · exact ⟨F2, Same.refl _, nF, e2, fun _ _ h => h, hDl, rx⟩
      · have ne : D ≠ T := ne_of_none hDl nT
        have e3 := e2.live (o := o) nT
        exact ⟨upd F2 T o, same_upd (none_sub s2' nT), by rw [upd_ne ne]; exact nF, e3, fun c u h => by rw [upd_ne (ne_of_none h nT)]; exact h, by rw [upd_ne ne]; exact hDl, rx⟩
    have e4 := evr_wipe (evr_more e3 hD3 rfl nF3 nS) vs
    have step := hwl (G.more D (.lst acc)) (G.more_ext D _ nR)
    refine hg (fun σ' ρ' => EvR K (G.more D (.lst acc)) F3 H3 σ' ρ' ∧ wipe σ' vs = wipe σ vs) F3 H3 (wipe σ vs) (wipeD ρ vs) x ds[i] _ _ (fun j v d σ' ρ' hj ⟨p1, p2⟩ hl r => ⟨evr_set p1 hl r, by rw [wipe_set (hsub j hj)]; exact p2⟩) e3.sub ⟨e4, wipe_wipe σ vs⟩ rx step fun σ' ρ' ⟨p1, p2⟩ q => ?_
    refine ⟨p2, G.more D (.lst acc), F3, ρ', _, p1, q, fun b H4 F4 s4 e4 f4 q4 => ?_⟩
    have hD4 : H4 D = some (.lst acc) := e4.wd.2.1
    have nF4 : F4 D = none := e4.res D (.inr rfl)
    have fr4 : FrD G D H1 H4 := fun c o hc nr ne => f4 c o (fr3 c o (fr c o hc nr ne)) fun r => r.elim nr ne
    -- the def's own slots, as they stand
    have back : ∀ {F5 H5 : Hp}, Same F4 F5 → Same F5 H5 → (∀ a, G.R a → F5 a = none) → G.Wd H5 → (∀ c o, H4 c = some o → ¬ G.R c → c ≠ D → H5 c = some o) → EvR K G F5 H5 σ ρ := fun s5 s5' r5 w5 fr5 => by
      refine ⟨s5', r5, w5, fun j sv h => ?_, e1.len⟩
      obtain ⟨u, h1, h2⟩ := e3.slot j sv h
      refine ⟨u, h1, ?_⟩
      cases sv with
      | fz d => exact Rp.mono (s4.trans s5) h2
      | ow xs =>
        obtain ⟨b, us, rfl, z1, z2, z3⟩ := h2
        have ne : b ≠ D := fun z => nS j _ h rfl (by rw [← z]; exact h1)
        exact ⟨b, us, rfl, fr5 b _ (f4 b _ z1 fun r => r.elim z3 ne) z3 ne, z2.mono (s4.trans s5), z3⟩
      | od t kds =>
        obtain ⟨b, us, rfl, z1, z0, z2, z3⟩ := h2
        have ne : b ≠ D := fun z => nS j _ h rfl (by rw [← z]; exact h1)
        exact ⟨b, us, rfl, fr5 b _ (f4 b _ z1 fun r => r.elim z3 ne) z3 ne, z0, z2.mono (s4.trans s5), z3⟩
    cases b with
    | false =>
      rw [if_neg Bool.false_ne_true] at q4
      refine iteF ?_
      exact ⟨F4, acc, accd, s2.trans (s3.trans s4), e4.sub, hD4, rl.mono (s3.trans s4), nF4, back (Same.refl _) e4.sub (fun a r => e4.res a (.inl r)) e4.wd.1 (fun _ _ h _ _ => h), fr4, q4⟩
    | true =>
      rw [if_pos rfl] at q4
      refine iteT ?_
      refine ⟨G.more D (.lst acc), F4, ρ', _, e4, q4, fun v H5 F5 d5 s5 e5 f5 r5 ⟨hz, q5⟩ => ?_⟩
      have hD5 : H5 D = some (.lst acc) := e5.wd.2.1
      have nF5 : F5 D = none := e5.res D (.inr rfl)
      have sub5 : Same F5 (upd H5 D (.lst (acc ++ [v]))) := fun c o hc => by
        have ne : c ≠ D := by rintro rfl; rw [nF5] at hc; cases hc
        rw [upd_ne ne]; exact e5.sub _ _ hc
      have wd5 : G.Wd (upd H5 D (.lst (acc ++ [v]))) := G.st _ _ e5.wd.1 fun a r => upd_ne (by rintro rfl; exact nR r)
      have fr5 : ∀ c o, H4 c = some o → ¬ G.R c → c ≠ D → upd H5 D (.lst (acc ++ [v])) c = some o := fun c o hc nr ne => by
        rw [upd_ne ne]
        exact f5 c o hc fun r => r.elim nr ne
      exact ⟨acc, hD5, by rw [rl.len]; exact hz, F5, acc ++ [v], accd ++ [d5], s2.trans (s3.trans (s4.trans s5)), sub5, upd_same, (rl.mono (s3.trans (s4.trans s5))).append (.cons r5 .nil), nF5, back s5 sub5 (fun a r => e5.res a (.inl r)) wd5 fr5, fun c o hc nr ne => fr5 c o (fr4 c o hc nr ne) nr ne, q5⟩
  · have ei : i = ds.length := by omega
    subst ei
    rw [List.drop_length] at hwl
    exact .inl ⟨it.stop H2 F2 s2 s2', hfin H2 F2 acc accd s2 e2 hDl rl nF fr hwl⟩
/-- the turns of two clauses -/
def wcL2 (wg : WG) (wt : WT) (wi1 : WA) (wg1 : WG) (wt1 : WT) (we : W) (vs vs1 : List Nat) (G : Gc) (ρ : En) : List D → List D → (List D → Prop) → Prop
  | [], acc, Q => Q acc
  | d :: r, acc, Q => ∀ G', GExt G G' → wg d (wipeD ρ vs) fun ρ2 => wt G' ρ2 fun b => if b = true then wi1 G' ρ2 fun es => wcL wg1 wt1 we vs1 G ρ2 es acc fun acc' => wcL2 wg wt wi1 wg1 wt1 we vs vs1 G ρ r acc' Q else wcL2 wg wt wi1 wg1 wt1 we vs vs1 G ρ r acc Q
def wComp2 (wi : WA) (wg : WG) (wt : WT) (wi1 : WA) (wg1 : WG) (wt1 : WT) (we : W) (vs vs1 : List Nat) : WO := fun G ρ Q => wi G ρ fun ds => wcL2 wg wt wi1 wg1 wt1 we vs vs1 G ρ ds [] fun acc => Q (.ow acc)
theorem lc2_imp {wi wi1 : WA} {g g1 : TG} {wg wg1 : WG} {wt wt1 : WT} {we : W} {vs vs1 is is1 : List Nat} (hg : GOk K is g wg) (hsub : ∀ i ∈ is, i ∈ vs) (hg1 : GOk K is1 g1 wg1) (hsub1 : ∀ i ∈ is1, i ∈ vs1) (σ : St) (H : Hp) (Q : VK) :
    tO K (wComp2 wi wg wt wi1 wg1 wt1 we vs vs1) σ H Q → tLc2 (tI K wi) g (tT K wt) (tI K wi1) g1 (tT K wt1) (tD K we) vs vs1 σ H Q := fun ⟨G, F, ρ, Qd, ev, hw, hq⟩ => by
  refine ⟨G, F, ρ, _, ev, hw, fun J H1 F1 ds s1 e1 f1 it q1 D hD => ?_⟩
  have nR : ¬ G.R D := e1.nr hD
  have nS : NoOwn σ ρ D := fun j sv h ho z => by
    obtain ⟨o, q, _, _⟩ := e1.ownAt h ho z
    rw [hD] at q; cases q
  let I : Nat → Hp → Prop := fun i H2 => ∃ F2 acc accd, Same F1 F2 ∧ H2 D = some (.lst acc) ∧ RpL K F2 acc accd ∧ F2 D = none ∧ EvR K G F2 H2 σ ρ ∧ FrD G D H1 H2 ∧ wcL2 wg wt wi1 wg1 wt1 we vs vs1 G ρ (ds.drop i) accd fun acc => Qd (.ow acc)
  refine ⟨fun i m H2 => m = ds.length - i ∧ i ≤ ds.length ∧ I i H2, ⟨ds.length, by omega, Nat.zero_le _, F1, [], [], Same.refl _, upd_same, .nil, e1.fnone hD, e1.liveO hD, fun c o h _ ne => by rw [upd_ne ne]; exact h, q1⟩, ?_⟩
  rintro i m H2 ⟨rfl, hi, F2, acc, accd, s2, hDl, rl, nF, e2, fr, hwl⟩
  by_cases hlt : i < ds.length
  · obtain ⟨hgo, hy⟩ := it.go i H2 F2 s2 e2.sub hlt
    refine .inr ⟨hgo, I (i + 1), fun H' h => ⟨ds.length - (i + 1), by omega, rfl, hlt, h⟩, fun x H3 y => ?_⟩
    obtain ⟨d, hd, hx⟩ := hy x H3 y
    rw [List.drop_eq_getElem_cons hlt] at hwl
    rw [List.getElem?_eq_getElem hlt] at hd
    cases hd
    obtain ⟨F3, s3, nF3, e3, fr3, hD3, rx⟩ : ∃ F3, Same F2 F3 ∧ F3 D = none ∧ EvR K G F3 H3 σ ρ ∧ (∀ c o, H2 c = some o → H3 c = some o) ∧ H3 D = some (.lst acc) ∧ Rp K F3 x ds[i] := by
      rcases hx with ⟨rfl, rx⟩ | ⟨T, o, nT, rfl, rx⟩
      · exact ⟨F2, Same.refl _, nF, e2, fun _ _ h => h, hDl, rx⟩
      · have ne : D ≠ T := ne_of_none hDl nT
        have e3 := e2.live (o := o) nT
        exact ⟨upd F2 T o, same_upd (none_sub e2.sub nT), by rw [upd_ne ne]; exact nF, e3, fun c u h => by rw [upd_ne (ne_of_none h nT)]; exact h, by rw [upd_ne ne]; exact hDl, rx⟩
    have e4 := evr_wipe (evr_more e3 hD3 rfl nF3 nS) vs
    have step := hwl (G.more D (.lst acc)) (G.more_ext D _ nR)
    refine hg (fun σ' ρ' => EvR K (G.more D (.lst acc)) F3 H3 σ' ρ' ∧ wipe σ' vs = wipe σ vs ∧ NoOwn σ' ρ' D) F3 H3 (wipe σ vs) (wipeD ρ vs) x ds[i] _ _ (fun j v d σ' ρ' hj ⟨p1, p2, p3⟩ hl r => ⟨evr_set p1 hl r, by rw [wipe_set (hsub j hj)]; exact p2, noOwn_set p3⟩) e3.sub ⟨e4, wipe_wipe σ vs, noOwn_wipe nS⟩ rx step fun σ' ρ' ⟨p1, p2, p3⟩ q => ?_
    refine ⟨p2, G.more D (.lst acc), F3, ρ', _, p1, q, fun b H4 F4 s4 e4 f4 q4 => ?_⟩
    have hD4 : H4 D = some (.lst acc) := e4.wd.2.1
    have nF4 : F4 D = none := e4.res D (.inr rfl)
    have fr4 : FrD G D H1 H4 := fun c o hc nr ne => f4 c o (fr3 c o (fr c o hc nr ne)) fun r => r.elim nr ne
    have back : ∀ {F5 H5 : Hp}, Same F4 F5 → Same F5 H5 → (∀ a, G.R a → F5 a = none) → G.Wd H5 → FrD G D H4 H5 → EvR K G F5 H5 σ ρ := fun s5 s5' r5 w5 fr5 => by
      refine ⟨s5', r5, w5, fun j sv h => ?_, e1.len⟩
      obtain ⟨u, h1, h2⟩ := e3.slot j sv h
      refine ⟨u, h1, ?_⟩
      cases sv with
      | fz d => exact Rp.mono (s4.trans s5) h2
      | ow xs =>
        obtain ⟨b, us, rfl, z1, z2, z3⟩ := h2
        have ne : b ≠ D := fun z => nS j _ h rfl (by rw [← z]; exact h1)
        exact ⟨b, us, rfl, fr5 b _ (f4 b _ z1 fun r => r.elim z3 ne) z3 ne, z2.mono (s4.trans s5), z3⟩
      | od t kds =>
        obtain ⟨b, us, rfl, z1, z0, z2, z3⟩ := h2
        have ne : b ≠ D := fun z => nS j _ h rfl (by rw [← z]; exact h1)
        exact ⟨b, us, rfl, fr5 b _ (f4 b _ z1 fun r => r.elim z3 ne) z3 ne, z0, z2.mono (s4.trans s5), z3⟩
    cases b with
    | false =>
      rw [if_neg Bool.false_ne_true] at q4
      refine iteF ?_
      exact ⟨F4, acc, accd, s2.trans (s3.trans s4), hD4, rl.mono (s3.trans s4), nF4, back (Same.refl _) e4.sub (fun a r => e4.res a (.inl r)) e4.wd.1 (fun _ _ h _ _ => h), fr4, q4⟩
    | true =>
      rw [if_pos rfl] at q4
      refine iteT ?_
      refine ⟨G.more D (.lst acc), F4, ρ', _, e4, q4, fun J1 H5 F5 es s5 e5 f5 it1 q5 => ?_⟩
      have hD5 : H5 D = some (.lst acc) := e5.wd.2.1
      have nF5 : F5 D = none := e5.res D (.inr rfl)
      have fr5 : FrD G D H4 H5 := fun c o hc nr ne => f5 c o hc fun r => r.elim nr ne
      refine lc_loop (I (i + 1)) hg1 hsub1 it1 (evr_less e5) nR nF5 p3 hD5 (rl.mono (s3.trans (s4.trans s5))) q5 fun H6 F6 acc6 accd6 s6 e6 hD6 rl6 nF6 fr6 q6 => ?_
      exact ⟨F6, acc6, accd6, s2.trans (s3.trans (s4.trans (s5.trans s6))), hD6, rl6, nF6, back (s5.trans s6) e6.sub e6.res e6.wd (fun c o hc nr ne => fr6 c o (fr5 c o hc nr ne) nr ne), fun c o hc nr ne => fr6 c o (fr5 c o (fr4 c o hc nr ne) nr ne) nr ne, q6⟩
  · have ei : i = ds.length := by omega
    subst ei
    rw [List.drop_length] at hwl
    exact .inl ⟨it.stop H2 F2 s2 e2.sub, hq _ H2 F2 (.ow accd) (s1.trans s2) e2 (fun c o hc nr => fr c o (f1 c o hc nr) nr (ne_of_none (f1 c o hc nr) hD)) ⟨D, acc, rfl, hDl, rl, nR, f1.free nR hD, nF⟩ hwl⟩
/-! ### {k: v for ..}, flat keys -/
def wdL (wg : WG) (wt : WT) (wk wv : W) (vs : List Nat) (G : Gc) (ρ : En) : List D → List (Key × D) → (List (Key × D) → Prop) → Prop
  | [], acc, Q => Q acc
  | d :: r, acc, Q => ∀ G', GExt G G' → wg d (wipeD ρ vs) fun ρ2 => wt G' ρ2 fun b => if b = true then wk G' ρ2 fun kd => wv G' ρ2 fun vd => ∃ k, kd = kD k ∧ acc.length < sizeLine ∧ wdL wg wt wk wv vs G ρ r (putD acc k vd) Q else wdL wg wt wk wv vs G ρ r acc Q
def wDComp (wi : WA) (wg : WG) (wt : WT) (wk wv : W) (vs : List Nat) : WO := fun G ρ Q => wi G ρ fun ds => wdL wg wt wk wv vs G ρ ds [] fun acc => Q (oK acc)
theorem sg_heads (l : List (Key × V)) : (sg l).map (fun kv => (kv.1.headD (.inl 0), kv.2)) = l := by unfold sg; rw [List.map_map]; exact List.map_id' _
theorem dc_imp {wi : WA} {g : TG} {wg : WG} {wt : WT} {wk wv : W} {vs is : List Nat} (hg : GOk K is g wg) (hsub : ∀ i ∈ is, i ∈ vs) (σ : St) (H : Hp) (Q : VK) :
    tO K (wDComp wi wg wt wk wv vs) σ H Q → tDc (tI K wi) g (tT K wt) (tD K wk) (tD K wv) vs σ H Q := fun ⟨G, F, ρ, Qd, ev, hw, hq⟩ => by
  refine ⟨G, F, ρ, _, ev, hw, fun J H1 F1 ds s1 e1 f1 it q1 D hD => ?_⟩
  have nR : ¬ G.R D := e1.nr hD
  have nS : NoOwn σ ρ D := fun j sv h ho z => by
    obtain ⟨o, q, _, _⟩ := e1.ownAt h ho z
    rw [hD] at q; cases q
  let I : Nat → Hp → Prop := fun i H2 => ∃ F2, ∃ acc : List (Key × V), ∃ accd : List (Key × DL.D), Same F1 F2 ∧ H2 D = some (.dK acc) ∧ acc.map (·.1) = accd.map (·.1) ∧ RpL K F2 (acc.map (·.2)) (accd.map (·.2)) ∧ F2 D = none ∧ EvR K G F2 H2 σ ρ ∧ FrD G D H1 H2 ∧ wdL wg wt wk wv vs G ρ (ds.drop i) accd fun acc => Qd (oK acc)
  refine ⟨fun i m H2 => m = ds.length - i ∧ i ≤ ds.length ∧ I i H2, ⟨ds.length, by omega, Nat.zero_le _, F1, [], [], Same.refl _, upd_same, rfl, .nil, e1.fnone hD, e1.liveO hD, fun c o h _ ne => by rw [upd_ne ne]; exact h, q1⟩, ?_⟩
  rintro i m H2 ⟨rfl, hi, F2, acc, accd, s2, hDl, hk, rl, nF, e2, fr, hwl⟩
  by_cases hlt : i < ds.length
  · obtain ⟨hgo, hy⟩ := it.go i H2 F2 s2 e2.sub hlt
    refine .inr ⟨hgo, I (i + 1), fun H' h => ⟨ds.length - (i + 1), by omega, rfl, hlt, h⟩, fun x H3 y => ?_⟩
    obtain ⟨d, hd, hx⟩ := hy x H3 y
    rw [List.drop_eq_getElem_cons hlt] at hwl
    rw [List.getElem?_eq_getElem hlt] at hd
    cases hd
    obtain ⟨F3, s3, nF3, e3, fr3, hD3, rx⟩ : ∃ F3, Same F2 F3 ∧ F3 D = none ∧ EvR K G F3 H3 σ ρ ∧ (∀ c o, H2 c = some o → H3 c = some o) ∧ H3 D = some (.dK acc) ∧ Rp K F3 x ds[i] := by
      rcases hx with ⟨rfl, rx⟩ | ⟨T, o, nT, rfl, rx⟩
      · exact ⟨F2, Same.refl _, nF, e2, fun _ _ h => h, hDl, rx⟩
      · have ne : D ≠ T := ne_of_none hDl nT
        have e3 := e2.live (o := o) nT
        exact ⟨upd F2 T o, same_upd (none_sub e2.sub nT), by rw [upd_ne ne]; exact nF, e3, fun c u h => by rw [upd_ne (ne_of_none h nT)]; exact h, by rw [upd_ne ne]; exact hDl, rx⟩
    have e4 := evr_wipe (evr_more e3 hD3 rfl nF3 nS) vs
    have step := hwl (G.more D (.dK acc)) (G.more_ext D _ nR)
    refine hg (fun σ' ρ' => EvR K (G.more D (.dK acc)) F3 H3 σ' ρ' ∧ wipe σ' vs = wipe σ vs) F3 H3 (wipe σ vs) (wipeD ρ vs) x ds[i] _ _ (fun j v d σ' ρ' hj ⟨p1, p2⟩ hl r => ⟨evr_set p1 hl r, by rw [wipe_set (hsub j hj)]; exact p2⟩) e3.sub ⟨e4, wipe_wipe σ vs⟩ rx step fun σ' ρ' ⟨p1, p2⟩ q => ?_
    refine ⟨p2, G.more D (.dK acc), F3, ρ', _, p1, q, fun b H4 F4 s4 e4 f4 q4 => ?_⟩
    have hD4 : H4 D = some (.dK acc) := e4.wd.2.1
    have nF4 : F4 D = none := e4.res D (.inr rfl)
    have fr4 : FrD G D H1 H4 := fun c o hc nr ne => f4 c o (fr3 c o (fr c o hc nr ne)) fun r => r.elim nr ne
    have back : ∀ {F5 H5 : Hp}, Same F4 F5 → Same F5 H5 → (∀ a, G.R a → F5 a = none) → G.Wd H5 → FrD G D H4 H5 → EvR K G F5 H5 σ ρ := fun s5 s5' r5 w5 fr5 => by
      refine ⟨s5', r5, w5, fun j sv h => ?_, e1.len⟩
      obtain ⟨u, h1, h2⟩ := e3.slot j sv h
      refine ⟨u, h1, ?_⟩
      cases sv with
      | fz d => exact Rp.mono (s4.trans s5) h2
      | ow xs =>
        obtain ⟨b, us, rfl, z1, z2, z3⟩ := h2
        have ne : b ≠ D := fun z => nS j _ h rfl (by rw [← z]; exact h1)
        exact ⟨b, us, rfl, fr5 b _ (f4 b _ z1 fun r => r.elim z3 ne) z3 ne, z2.mono (s4.trans s5), z3⟩
      | od t kds =>
        obtain ⟨b, us, rfl, z1, z0, z2, z3⟩ := h2
        have ne : b ≠ D := fun z => nS j _ h rfl (by rw [← z]; exact h1)
        exact ⟨b, us, rfl, fr5 b _ (f4 b _ z1 fun r => r.elim z3 ne) z3 ne, z0, z2.mono (s4.trans s5), z3⟩
    cases b with
    | false =>
      rw [if_neg Bool.false_ne_true] at q4
      refine iteF ?_
      exact ⟨F4, acc, accd, s2.trans (s3.trans s4), hD4, hk, rl.mono (s3.trans s4), nF4, back (Same.refl _) e4.sub (fun a r => e4.res a (.inl r)) e4.wd.1 (fun _ _ h _ _ => h), fr4, q4⟩
    | true =>
      rw [if_pos rfl] at q4
      refine iteT ?_
      refine ⟨G.more D (.dK acc), F4, ρ', _, e4, q4, fun v H5 F5 d5 s5 e5 f5 r5 q5 => ⟨G.more D (.dK acc), F5, ρ', _, e5, q5, fun u H6 F6 d6 s6 e6 f6 r6 ⟨k, ek, hz, q6⟩ => ?_⟩⟩
      subst ek
      have hD6 : H6 D = some (.dK acc) := e6.wd.2.1
      have nF6 : F6 D = none := e6.res D (.inr rfl)
      have sub6 : Same F6 (upd H6 D (.dK (putK acc k u))) := fun c o hc => by
        have ne : c ≠ D := by rintro rfl; rw [nF6] at hc; cases hc
        rw [upd_ne ne]; exact e6.sub _ _ hc
      have wd6 : G.Wd (upd H6 D (.dK (putK acc k u))) := G.st _ _ e6.wd.1 fun a r => upd_ne (by rintro rfl; exact nR r)
      have fr6 : FrD G D H4 (upd H6 D (.dK (putK acc k u))) := fun c o hc nr ne => by
        rw [upd_ne ne]
        exact f6 c o (f5 c o hc fun r => r.elim nr ne) fun r => r.elim nr ne
      obtain ⟨p3, p4⟩ := putD_rp (k := k) r6 hk (rl.mono (s3.trans (s4.trans (s5.trans s6))))
      exact ⟨acc, k, kD_of r5, hD6, by rw [keys_len hk]; exact hz, F6, _, _, s2.trans (s3.trans (s4.trans (s5.trans s6))), upd_same, p3, p4, nF6, back (s5.trans s6) sub6 (fun a r => e6.res a (.inl r)) wd6 fr6, fun c o hc nr ne => fr6 c o (fr4 c o hc nr ne) nr ne, q6⟩
  · have ei : i = ds.length := by omega
    subst ei
    rw [List.drop_length] at hwl
    refine .inl ⟨it.stop H2 F2 s2 e2.sub, hq _ H2 F2 (oK accd) (s1.trans s2) e2 (fun c o hc nr => fr c o (f1 c o hc nr) nr (ne_of_none (f1 c o hc nr) hD)) ⟨D, sg acc, rfl, ?_, ?_, ?_, nR, f1.free nR hD, nF⟩ hwl⟩
    · rw [hDl]
      show some (HO.dK _) = some (HO.dK _)
      rw [sg_heads]
    · rw [sg_keys, sg_keys]
      have := congrArg (List.map fun (z : Key) => [z]) hk
      rw [List.map_map, List.map_map] at this
      exact this
    · rw [sg_vals, sg_vals]
      exact rl
end
section
variable {S : Sta} {elt kx vx tg iter tg1 iter1 : Expr} {ifs ifs1 : List Expr} {scope : Scope} {own : List (Str × Nat)} {pos : Pos} {wi wi1 : WA} {wg wg1 : WG} {wt wt1 : WT} {we wk wv : W} {is is1 vs1 : List Nat}
theorem do_lc2 (hi : DI S tg iter wi) (nd : S.N.Nodup) (hk : blkC S.N ⟨.function, S.names, false, false, []⟩ scope own = true) (hg : DG (S.blk scope) tg is wg) (hsub : ∀ i ∈ is, i ∈ own.map (·.2)) (ht : DTs (S.blk scope) ifs wt)
    (hi1 : DI (S.blk scope) tg1 iter1 wi1) (hg1 : DG (S.blk scope) tg1 is1 wg1) (hv : ∀ i ∈ vs1, i ∈ own.map (·.2)) (hsub1 : ∀ i ∈ is1, i ∈ vs1) (ht1 : DTs (S.blk scope) ifs1 wt1) (he : DE (S.blk scope) elt we)
    (hs : ∀ env x, foldedSetIterable iter env x = pure x := by intro _ _; rfl) (hs1 : ∀ env x, foldedSetIterable iter1 env x = pure x := by intro _ _; rfl) : DO S (.ListComp elt [⟨tg, iter, ifs, 0⟩, ⟨tg1, iter1, ifs1, 0⟩] scope pos) (wComp2 wi wg wt wi1 wg1 wt1 we (own.map (·.2)) vs1) := fun X f => by
  obtain ⟨g, pg, ok⟩ := hg
  obtain ⟨g1, pg1, ok1⟩ := hg1
  have bk := blkOf f hk
  exact (pe_lc2 f.calm (by rw [f.N]; exact nd) (hi X f) bk hv (fun s H C cl fp => pg _ (fam_blk f bk.kind s H C cl fp)) (fun s H C cl fp => ht _ (fam_blk f bk.kind s H C cl fp)) (fun s H C cl fp => hi1 _ (fam_blk f bk.kind s H C cl fp)) (fun s H C cl fp => pg1 _ (fam_blk f bk.kind s H C cl fp)) (fun s H C cl fp => ht1 _ (fam_blk f bk.kind s H C cl fp)) (fun s H C cl fp => he _ (fam_blk f bk.kind s H C cl fp)) (hs _) hs1).imp fun σ H Q h => lc2_imp ok hsub ok1 hsub1 σ H Q h
theorem do_dc (hi : DI S tg iter wi) (nd : S.N.Nodup) (hk : blkC S.N ⟨.function, S.names, false, false, []⟩ scope own = true) (hg : DG (S.blk scope) tg is wg) (hsub : ∀ i ∈ is, i ∈ own.map (·.2)) (ht : DTs (S.blk scope) ifs wt) (hke : DE (S.blk scope) kx wk) (he : DE (S.blk scope) vx wv)
    (hs : ∀ env x, foldedSetIterable iter env x = pure x := by intro _ _; rfl) : DO S (.DictComp kx vx [⟨tg, iter, ifs, 0⟩] scope pos) (wDComp wi wg wt wk wv (own.map (·.2))) := fun X f => by
  obtain ⟨g, pg, ok⟩ := hg
  have bk := blkOf f hk
  exact (pe_dc f.calm (by rw [f.N]; exact nd) (hi X f) bk (fun s H C cl fp => pg _ (fam_blk f bk.kind s H C cl fp)) (fun s H C cl fp => ht _ (fam_blk f bk.kind s H C cl fp)) (fun s H C cl fp => hke _ (fam_blk f bk.kind s H C cl fp)) (fun s H C cl fp => he _ (fam_blk f bk.kind s H C cl fp)) (hs _)).imp fun σ H Q h => dc_imp ok hsub σ H Q h
end
end DL
set_option maxHeartbeats 4000000
/-! list(zip(xs, ys)), xs and ys tuples -/
namespace DL
open PySem PySem.Spec PyProof.Rows L2

theorem zip_nolen : typeLookup (.type "zip") "__len__" = pure none := by rw [typeLookup_type, builtinLookup_eq_fast]; kernel_rfl
theorem zip_nohint : typeLookup (.type "zip") "__length_hint__" = pure none := by rw [typeLookup_type, builtinLookup_eq_fast]; kernel_rfl
section
variable {prog : Program} {w : World} {A : Around} {E : Value → Shared → Prop} {s : Shared} {z TI TO i1 i2 l1 l2 : Addr} {xs ys : Array Value} {h h' : Heap} {i : Nat}
/-- a zip of two tuples, i pairs drawn -/
structure ZipW (h : Heap) (z TI TO i1 i2 l1 l2 : Addr) (xs ys : Array Value) (i : Nat) : Prop where
  st : ZipSt h z TI TO
  pI : IsPair h TI (.ref i1) (.ref i2)
  pO : ∃ a b, IsPair h TO a b
  t1 : h.IsTupleIter i1 l1 i
  t2 : h.IsTupleIter i2 l2 i
  q1 : h.IsTuple l1 xs
  q2 : h.IsTuple l2 ys
abbrev zipFp (z TI TO i1 i2 l1 l2 : Addr) : List Addr := [z, TI, TO, i1, i2, l1, l2]
theorem ZipW.keep (W : ZipW h z TI TO i1 i2 l1 l2 xs ys i) (k : ∀ b ∈ zipFp z TI TO i1 i2 l1 l2, ∀ o, h.get? b = some o → h'.get? b = some o) : ZipW h' z TI TO i1 i2 l1 l2 xs ys i := by
  obtain ⟨⟨f0, f1, hz, hf⟩, pI, ⟨x, y, pO⟩, t1, t2, ⟨o1, e1, r1⟩, ⟨o2, e2, r2⟩⟩ := W
  exact ⟨⟨f0, f1, k z (by simp) _ hz, hf⟩, k TI (by simp) _ pI, ⟨x, y, k TO (by simp) _ pO⟩, t1.at fun o q => k i1 (by simp) o q, t2.at fun o q => k i2 (by simp) o q, ⟨o1, k l1 (by simp) _ e1, r1⟩, ⟨o2, k l2 (by simp) _ e2, r2⟩⟩
theorem ZipW.typ (W : ZipW s.heap z TI TO i1 i2 l1 l2 xs ys i) : s.TypeIs (.ref z) "zip" := by obtain ⟨f0, f1, hz, _⟩ := W.st; exact ⟨_, hz, rfl⟩
theorem zipW_some {x y : Value} {Q : Option Value → Shared → Prop} (D : ZipApart z TI TO i1 i2 l1 l2) (n1 : l1 ≠ TO) (n2 : l2 ≠ TO) (n3 : l1 ≠ i1) (n4 : l1 ≠ i2) (n5 : l2 ≠ i1) (n6 : l2 ≠ i2) (n7 : l2 ≠ z) (W : ZipW s.heap z TI TO i1 i2 l1 l2 xs ys i) (hx : xs[i]? = some x) (hy : ys[i]? = some y)
    (hQ : ∀ h', ZipW h' z TI TO i1 i2 l1 l2 xs ys (i + 1) → IsPair h' s.heap.objs.size x y → h'.objs.size = s.heap.objs.size + 1 → ZipKeep z TO i1 i2 s.heap h' → Q (some (.ref s.heap.objs.size)) { s with heap := h' }) : wpAny (model prog w) A (pyNext (.ref z)) Q E s := by
  have hT := W.typ
  obtain ⟨st, pI, pO, t1, t2, q1, q2⟩ := W
  unfold pyNext
  refine wpAny_bind (wpAny_attempt (wpAny_callSpecial?_slot (name := Str.ofString "__next__") hT PySem.F.slot_zip_next (wpAny_call_entry PySem.F.slot_zip_next hT PySem.F.entry_zip_next (zip_some D st pI pO t1 t2 q1 q2 hx hy fun h' z' pO' t1' t2' pT sz k => wpAny_pure ?_) (PySem.F.args_zip_next_1 _))))
  obtain ⟨o1, e1, r1⟩ := q1
  obtain ⟨o2, e2, r2⟩ := q2
  exact hQ h' ⟨z', k _ _ D.TIz D.TITO D.TIi1 D.TIi2 pI, pO', t1', t2', ⟨o1, k _ _ D.l1z n1 n3 n4 e1, r1⟩, ⟨o2, k _ _ n7 n2 n5 n6 e2, r2⟩⟩ pT sz k
theorem zipW_none {Q : Option Value → Shared → Prop} (hh : A.handled = none) (D : ZipApart z TI TO i1 i2 l1 l2) (W : ZipW s.heap z TI TO i1 i2 l1 l2 xs ys i) (he : xs[i]? = none ∨ ys[i]? = none)
    (hQ : ∀ h', ZipKeep z TO i1 i2 s.heap h' → Q none { s with heap := h' }) : wpAny (model prog w) A (pyNext (.ref z)) Q E s := by
  have hT := W.typ
  obtain ⟨st, pI, pO, t1, t2, q1, q2⟩ := W
  unfold pyNext
  refine wpAny_bind (wpAny_attempt (wpAny_callSpecial?_slot (name := Str.ofString "__next__") hT PySem.F.slot_zip_next (wpAny_call_entry PySem.F.slot_zip_next hT PySem.F.entry_zip_next (zip_none hh D st pI pO t1 t2 q1 q2 he fun h' e k ⟨o, ho, hcl⟩ => ?_) (PySem.F.args_zip_next_1 _))))
  exact wpAny_bind (wpAny_isInstance (T := "StopIteration") (b := true) ⟨o, ho, hcl⟩ isSubtype_stop (wpAny_pure (hQ h' k)))
/-- the pairs made so far, all from B on -/
def ZMade (B : Nat) (h : Heap) (xs ys : Array Value) (acc : Array Value) (i : Nat) : Prop := acc.size = i ∧ ∀ j, j < i → ∃ (T : Nat) (x y : Value), acc[j]? = some (.ref T) ∧ B ≤ T ∧ xs[j]? = some x ∧ ys[j]? = some y ∧ IsPair h T x y ∧ ∀ (k U : Nat), k < j → acc[k]? = some (.ref U) → U < T
theorem ZMade.keep {B : Nat} {acc : Array Value} (M : ZMade B h xs ys acc i) (k : ∀ b o, B ≤ b → h.get? b = some o → h'.get? b = some o) : ZMade B h' xs ys acc i := ⟨M.1, fun j hj => by
  obtain ⟨T, x, y, h1, h2, h3, h4, h5, h6⟩ := M.2 j hj
  exact ⟨T, x, y, h1, h2, h3, h4, k T _ h2 h5, h6⟩⟩
abbrev lstOb (acc : Array Value) (c : Nat) : Obj := { cls := .type "list", dict := none, data := .seq acc c, slots := #[] }
/-- what is kept: all that stood there besides the zip's own and the list -/
def ZKept (S z TI TO i1 i2 : Addr) (h h' : Heap) : Prop := ∀ b o, b ∉ [S, z, TI, TO, i1, i2] → h.get? b = some o → h'.get? b = some o
theorem ZKept.trans {S : Addr} {h1 h2 h3 : Heap} (a : ZKept S z TI TO i1 i2 h1 h2) (b : ZKept S z TI TO i1 i2 h2 h3) : ZKept S z TI TO i1 i2 h1 h3 := fun c o n q => b c o n (a c o n q)
structure ZSide (z TI TO i1 i2 l1 l2 S B : Nat) : Prop where
  D : ZipApart z TI TO i1 i2 l1 l2
  l1TO : l1 ≠ TO
  l2TO : l2 ≠ TO
  l1i1 : l1 ≠ i1
  l1i2 : l1 ≠ i2
  l2i1 : l2 ≠ i1
  l2i2 : l2 ≠ i2
  l2z : l2 ≠ z
  hS : S ∉ zipFp z TI TO i1 i2 l1 l2
  lt : ∀ b ∈ [S, z, TI, TO, i1, i2], b < B
theorem zip_loop {R : Result → Shared → Prop} {S B n : Nat} (sd : ZSide z TI TO i1 i2 l1 l2 S B) (hh : A.handled = none) (hn : n ≤ sizeLine) (h1 : n = min xs.size ys.size) (res : Value) :
    ∀ (k i : Nat) (s : Shared) (acc : Array Value) (c : Nat), n - i = k → i ≤ n → ZipW s.heap z TI TO i1 i2 l1 l2 xs ys i → s.heap.get? S = some (lstOb acc c) → ZMade B s.heap xs ys acc i → B ≤ s.heap.objs.size →
    (∀ h' acc' c', ZKept S z TI TO i1 i2 s.heap h' → h'.get? S = some (lstOb acc' c') → ZMade B h' xs ys acc' n → R (.ok (.ret res)) { s with heap := h' }) →
    codeAny (model prog w) A (.builtin "list.extend.loop" ⟨[.ref S, .ref z, res], []⟩) R s := by
  have nz : S ≠ z := fun e => sd.hS (by rw [e]; simp)
  have nTO : S ≠ TO := fun e => sd.hS (by rw [e]; simp)
  have ni1 : S ≠ i1 := fun e => sd.hS (by rw [e]; simp)
  have ni2 : S ≠ i2 := fun e => sd.hS (by rw [e]; simp)
  have toK : ∀ {a b : Heap}, ZipKeep z TO i1 i2 a b → ZKept S z TI TO i1 i2 a b := fun k b o nb q => k b o (fun e => nb (by simp [e])) (fun e => nb (by simp [e])) (fun e => nb (by simp [e])) (fun e => nb (by simp [e])) q
  have geB : ∀ {a b : Heap}, ZKept S z TI TO i1 i2 a b → ∀ c o, B ≤ c → a.get? c = some o → b.get? c = some o := fun k c o hc q => k c o (fun hm => absurd (sd.lt c hm) (Nat.not_lt.mpr hc)) q
  intro k
  induction k with
  | zero =>
    intro i s acc c hk hi W hS M hB hR
    obtain rfl : i = n := by omega
    refine codeAny_builtin PySem.F.entry_extend_loop ?_
    rw [Around.under_plainId PySem.F.plain_extend_loop _]
    show wpAny _ A.in1 (pyNext (.ref z) >>= _) _ _ s
    have he : xs[i]? = none ∨ ys[i]? = none := by
      rcases Nat.le_total xs.size ys.size with q | q
      · exact .inl (by simp; omega)
      · exact .inr (by simp; omega)
    refine wpAny_bind (zipW_none (A := A.in1) hh sd.D W he fun h' kp => ?_)
    exact wpAny_pure (hR h' acc c (toK kp) (kp _ _ nz nTO ni1 ni2 hS) (M.keep (geB (toK kp))))
  | succ k ih =>
    intro i s acc c hk hi W hS M hB hR
    have hlt : i < n := by omega
    refine codeAny_builtin PySem.F.entry_extend_loop ?_
    rw [Around.under_plainId PySem.F.plain_extend_loop _]
    show wpAny _ A.in1 (pyNext (.ref z) >>= _) _ _ s
    have hx : xs[i]? = some xs[i] := Array.getElem?_eq_getElem (by omega)
    have hy : ys[i]? = some ys[i] := Array.getElem?_eq_getElem (by omega)
    refine wpAny_bind (zipW_some (A := A.in1) sd.D sd.l1TO sd.l2TO sd.l1i1 sd.l1i2 sd.l2i1 sd.l2i2 sd.l2z W hx hy fun h' W' pT sz kp => ?_)
    have hS' := kp _ _ nz nTO ni1 ni2 hS
    show wpAny _ A.in1 (updateSeq S (·.push (.ref s.heap.objs.size)) >>= _) _ _ _
    refine wpAny_bind ?_
    have oth : ∀ b o, b ≠ S → h'.get? b = some o → (h'.update S (Obj.mapSeq (·.push (.ref s.heap.objs.size)))).get? b = some o := fun b o nb q => (Heap.get?_update_other _ _ (Ne.symm nb)).trans q
    have M' : ZMade B (h'.update S (Obj.mapSeq (·.push (.ref s.heap.objs.size)))) xs ys (acc.push (.ref s.heap.objs.size)) (i + 1) := by
      have SB : S < B := sd.lt S (by simp)
      refine ⟨by rw [Array.size_push, M.1], fun j hj => ?_⟩
      by_cases e : j = i
      · subst e
        refine ⟨s.heap.objs.size, _, _, by rw [← M.1]; exact Array.getElem?_push_size, hB, hx, hy, oth _ _ (fun z => by rw [z] at hB; exact absurd SB (Nat.not_lt.mpr hB)) pT, fun k U hk q => ?_⟩
        rw [Array.getElem?_push_lt (by rw [M.1]; omega), ← Array.getElem?_eq_getElem] at q
        obtain ⟨T, x, y, g1, g2, g3, g4, g5, g6⟩ := M.2 k hk
        rw [g1] at q
        cases q
        exact Heap.lt_size g5
      · obtain ⟨T, x, y, g1, g2, g3, g4, g5, g6⟩ := M.2 j (by omega)
        refine ⟨T, x, y, by rw [Array.getElem?_push_lt (by rw [M.1]; omega), ← Array.getElem?_eq_getElem]; exact g1, g2, g3, g4, oth _ _ (fun z => by rw [z] at g2; exact absurd SB (Nat.not_lt.mpr g2)) (geB (toK kp) T _ g2 g5), fun k U hk q => g6 k U hk ?_⟩
        rw [Array.getElem?_push_lt (by rw [M.1]; omega), ← Array.getElem?_eq_getElem] at q
        exact q
    refine wpAny_updateSeq hS' rfl (wpAny_pure ⟨plainId_quiet PySem.F.plain_extend_loop _, ih (i + 1) _ (acc.push (.ref s.heap.objs.size)) _ (by omega) hlt (W'.keep fun b hb o e => oth b o (fun z => sd.hS (by rw [← z]; exact hb)) e) (Heap.get?_update_self _ hS' rfl) M' ?_ fun h2 acc' c' k2 hS2 M2 => ?_⟩)
      (by rw [M.1]; omega) (by show (acc.push _).size ≤ sizeLine + 1; rw [Array.size_push, M.1]; omega)
    · show B ≤ (h'.update S _).objs.size
      rw [Heap.size_update, sz]; omega
    · refine hR h2 acc' c' (((toK kp).trans fun b o nb q => oth b o (fun z => nb (by simp [z])) q).trans k2) hS2 M2
theorem zip_extend {R : Result → Shared → Prop} {S B n c0 : Nat} (sd : ZSide z TI TO i1 i2 l1 l2 S B) (hh : A.handled = none) (hn : n ≤ sizeLine) (h1 : n = min xs.size ys.size) (res : Value) (W : ZipW s.heap z TI TO i1 i2 l1 l2 xs ys 0) (hS : s.heap.get? S = some (lstOb #[] c0)) (hB : B ≤ s.heap.objs.size)
    (hR : ∀ h' acc' c', ZKept S z TI TO i1 i2 s.heap h' → h'.get? S = some (lstOb acc' c') → ZMade B h' xs ys acc' n → R (.ok (.ret res)) { s with heap := h' }) :
    wpAny (model prog w) A.in1 (Builtin.List.listExtendWith (.ref S) (.ref z) res) (fun fin s' => match fin with | .done f => R (.ok f) s' | .again c' => c'.quiet = true ∧ codeAny (model prog w) A c' R s') (fun e s' => R (.error e) s') s := by
  have ne : S ≠ z := fun e => sd.hS (by rw [e]; simp)
  have w1 : Builtin.List.listSameRef (.ref S) (.ref z) = false := by simp [Builtin.List.listSameRef, ne]
  have w2 : (Value.type "zip" == Value.type "list") = false := by decide
  have w3 : (Value.type "zip" == Value.type "tuple") = false := by decide
  unfold Builtin.List.listExtendWith
  refine wpAny_bind (wpAny_typeOf W.typ ?_)
  simp only [w1, w2, w3, Bool.or_false, Bool.false_eq_true, if_false]
  obtain ⟨f0, f1, hz, _⟩ := id W.st
  have it : wpAny (model prog w) A.in1 (pyIter (.ref z)) (fun v s' => v = .ref z ∧ s' = s) (fun e s' => R (.error e) s') s := by
    refine wpAny_pyIter_slot W.typ PySem.F.slot_zip_iter (wpAny_call_entry PySem.F.slot_zip_iter W.typ PySem.F.entry_zip_iter ?_ (PySem.F.args_zip_iter_1 _))
    show wpAny _ _ (ret (.ref z)) _ _ s
    exact wpAny_pure ⟨_, rfl, "zip", _, W.typ, PySem.F.slot_zip_next.lookup, rfl, rfl⟩
  refine wpAny_bind (wpAny_mono it (fun v s' e => ?_) fun _ _ q => q)
  obtain ⟨rfl, rfl⟩ := e
  refine wpAny_bind (wpAny_holding ?_)
  unfold Builtin.List.listLengthHint
  refine wpAny_bind (wpAny_specialOf W.typ zip_nolen ?_)
  show wpAny _ A.in1 (specialOf (Value.ref z) (Str.ofString "__length_hint__") >>= _) _ _ _
  refine wpAny_bind (wpAny_specialOf W.typ zip_nohint (wpAny_pure ?_))
  show wpAny _ A.in1 (rule "list.extend.makes-room" >>= fun _ => Builtin.List.listTouch (.ref S) >>= fun _ => again (.builtin "list.extend.loop" ⟨[.ref S, .ref z, res], []⟩)) _ _ _
  refine wpAny_bind (wpAny_rule (wpAny_bind ?_))
  show wpAny _ A.in1 (updateSeq S (·.push .none) >>= fun _ => updateSeq S (·.pop)) _ _ _
  refine wpAny_bind (wpAny_updateSeq hS rfl ?_)
  have hS2 := Heap.get?_update_self (Obj.mapSeq (·.push Value.none)) hS rfl
  refine wpAny_updateSeq (hz := by seq_fits) hS2 rfl ?_
  have hS3 := Heap.get?_update_self (Obj.mapSeq (·.pop)) hS2 rfl
  have oth : ∀ b o, b ≠ S → s'.heap.get? b = some o → ((s'.heap.update S (Obj.mapSeq (·.push Value.none))).update S (Obj.mapSeq (·.pop))).get? b = some o := fun b o hb e => (Heap.get?_update_other _ _ (Ne.symm hb)).trans ((Heap.get?_update_other _ _ (Ne.symm hb)).trans e)
  refine wpAny_pure ⟨plainId_quiet PySem.F.plain_extend_loop _, zip_loop sd hh hn h1 res n 0 _ _ _ rfl (Nat.zero_le _) (W.keep fun b hb o e => oth b o (fun q => sd.hS (by rw [← q]; exact hb)) e) hS3 ⟨rfl, fun j hj => absurd hj (Nat.not_lt_zero _)⟩ ?_ fun h' acc' c' k hS' M => ?_⟩
  · show B ≤ ((s'.heap.update S _).update S _).objs.size
    rw [Heap.size_update, Heap.size_update]; exact hB
  · exact hR h' acc' c' (ZKept.trans (fun b o nb q => oth b o (fun e => nb (by simp [e])) q) k) hS' M
theorem zip_list {n : Nat} {Q : Value → Shared → Prop} (sd : ZSide z TI TO i1 i2 l1 l2 s.heap.objs.size (s.heap.objs.size + 1)) (hh : A.handled = none) (hn : n ≤ sizeLine) (h1 : n = min xs.size ys.size) (W : ZipW s.heap z TI TO i1 i2 l1 l2 xs ys 0)
    (hQ : ∀ h' acc' c', ZKept s.heap.objs.size z TI TO i1 i2 s.heap h' → h'.get? s.heap.objs.size = some (lstOb acc' c') → ZMade (s.heap.objs.size + 1) h' xs ys acc' n → Q (.ref s.heap.objs.size) { s with heap := h' }) :
    wpAny (model prog w) A (call (.type "list") [.ref z]) Q E s := by
  refine callType_codes (Q₁ := fun v t => v = .ref s.heap.objs.size ∧ t = { s with heap := s.heap.push { cls := .type "list", data := .seq #[] } }) PySem.F.called_list (PySem.F.typeCall_list_1 _) PySem.F.entry_list_init (code_list_new _ ⟨rfl, rfl⟩) fun v t e => ?_
  obtain ⟨rfl, rfl⟩ := e
  have hS : (s.heap.push { cls := .type "list", data := .seq #[] }).get? s.heap.objs.size = some (lstOb #[] 0) := Heap.get?_push_size _ rfl
  refine ⟨⟨_, hS, rfl⟩, PySem.F.args_list_init_2 _ _, ?_⟩
  show wpAny _ A.in1.in1 (do let old ← Builtin.List.listItems (.ref s.heap.objs.size); Builtin.List.listUpdate (.ref s.heap.objs.size) (fun _ => #[]); letGo old.toList.reverse; Builtin.List.listExtendWith (.ref s.heap.objs.size) (.ref z) .none) _ _ _
  apply wpAny_bind
  unfold Builtin.List.listItems
  refine wpAny_bind (wpAny_seqItems hS rfl (wpAny_pure ?_))
  show wpAny _ A.in1.in1 (updateSeq s.heap.objs.size (fun _ => #[]) >>= fun _ => letGo (#[] : Array Value).toList.reverse >>= fun _ => Builtin.List.listExtendWith (.ref s.heap.objs.size) (.ref z) .none) _ _ _
  refine wpAny_bind (wpAny_updateSeq hS rfl ?_)
  have hS2 := Heap.get?_update_self (Obj.mapSeq (fun _ => (#[] : Array Value))) hS rfl
  have oth : ∀ b o, s.heap.get? b = some o → ((s.heap.push { cls := .type "list", data := .seq #[] }).update s.heap.objs.size (Obj.mapSeq (fun _ => (#[] : Array Value)))).get? b = some o := fun b o e => (Heap.get?_update_other _ _ (Ne.symm (Nat.ne_of_lt (Heap.lt_size e)))).trans (Heap.get?_push_of_some _ e)
  refine wpAny_bind (wpAny_letGo ?_)
  refine zip_extend (A := A.in1) sd hh hn h1 .none (W.keep fun b _ o e => oth b o e) hS2 ?_ fun h' acc' c' k hS' M => ?_
  · show s.heap.objs.size + 1 ≤ ((s.heap.push _).update _ _).objs.size
    rw [Heap.size_update, Heap.size_push]; exact Nat.le_refl _
  · exact ⟨rfl, hQ h' acc' c' (ZKept.trans (fun b o _ q => oth b o q) k) hS' M⟩
end
end DL
set_option maxHeartbeats 4000000
namespace DL
open PySem PySem.Spec PyProof.Rows L2

/-! ### things that stand in the heap already, taken up -/
theorem hok_claim {P : Program} {w : World} {H : Hp} {h : Heap} {a : Addr} {o : HO} (x : HOk P w H h) (hn : H a = none) (new : ObjOk P w (upd H a o) h a o) : HOk P w (upd H a o) h := fun b u e => by
  by_cases hb : b = a
  · subst hb; rw [upd_same] at e; cases e; exact new
  · rw [upd_ne hb] at e
    exact (x b u e).stay (fun _ _ _ q => q) (fun c q => by rw [upd_ne (ne_of_none q hn)]; exact q) fun c xs q => by rw [upd_ne (ne_of_none q hn)]; exact q
theorem un_claim {fs ex : List Addr} {H H' : Hp} {h h' : Heap} {a : Addr} {o : HO} (u : Un fs ex H H' h h') (hp : h.objs.size ≤ a) (hn : H' a = none) : Un fs ex H (upd H' a o) h h' :=
  ⟨u.keep, u.slot, fun b ob q n nx => by rw [upd_ne (Nat.ne_of_lt (Nat.lt_of_lt_of_le (Heap.lt_size q) hp))]; exact u.free b ob q n nx, u.there,
    fun b xs q => by rw [upd_ne (ne_of_none (u.tups b xs q) hn)]; exact u.tups b xs q, fun b ob xs q => by rw [upd_ne (ne_of_none (u.frzs b ob xs q) hn)]; exact u.frzs b ob xs q, fun b ps q => by
    obtain ⟨more, e⟩ := u.tbls b ps q
    exact ⟨more, by rw [upd_ne (ne_of_none e hn)]; exact e⟩⟩
def zipK (xs ys : List D) : List D := List.zipWith (fun x y => D.tky [x, y]) xs ys
def woListZip (r : WA) : WO := fun G ρ Q => r G ρ fun ds => ∃ x y xs ys, ds = [x, y] ∧ tupsOf x = some xs ∧ tupsOf y = some ys ∧ Q (.ow (zipK xs ys))
theorem vals_getU : ∀ {xs : List V} {us : List Value} {i : Nat} {u : Value}, Vals xs us → us[i]? = some u → ∃ x, xs[i]? = some x ∧ RelV x u
  | _, _, _, _, .nil, e => by simp at e
  | _, _, 0, _, .cons r _, e => by simp at e; subst e; exact ⟨_, rfl, r⟩
  | _, _, i + 1, u, .cons _ t, e => by
    obtain ⟨x, h1, h2⟩ := vals_getU (i := i) t (by simpa using e)
    exact ⟨x, by simpa using h1, h2⟩
/-- the pairs are taken up one by one -/
theorem claim_pairs {P : Program} {w : World} {K : PySem.W.Frag} {G : Gc} {fs : List Addr} {F H : Hp} {h h' : Heap} {σ : St} {ρ : En} {xs ys acc : Array Value} {vs us : List V} {ds es : List D} {n B : Nat} (ev : EvR K G F H σ ρ) (u : Un fs [] H H h h') (ok : HOk P w H h') (hB : h.objs.size ≤ B)
    (fresh : ∀ b, h.objs.size ≤ b → H b = none) (M : ZMade B h' xs ys acc n) (rx : Vals vs xs.toList) (ry : Vals us ys.toList) (r1 : RpL K F vs ds) (r2 : RpL K F us es) : ∀ k, k ≤ n → ∃ (Hk Fk : Hp) (Ts : List V), Un fs [] H Hk h h' ∧ HOk P w Hk h' ∧ Same F Fk ∧ EvR K G Fk Hk σ ρ ∧ Fr G H Hk ∧
      Ts.length = k ∧ Vals Ts (acc.toList.take k) ∧ RpL K Fk Ts ((zipK ds es).take k) ∧ ∀ b, Hk b ≠ none → b < h.objs.size ∨ ∃ j, j < k ∧ acc[j]? = some (.ref b)
  | 0, _ => ⟨H, F, [], u, ok, Same.refl _, ev, Fr.refl, rfl, by simp; exact .nil, by simp; exact .nil, fun b hb => .inl (Nat.lt_of_not_le fun hc => hb (fresh b hc))⟩
  | k + 1, hk => by
    obtain ⟨Hk, Fk, Ts, u1, ok1, s1, e1, f1, hl, rv, rp, at1⟩ := claim_pairs ev u ok hB fresh M rx ry r1 r2 k (by omega)
    obtain ⟨T, x, y, g1, g2, g3, g4, g5, g6⟩ := M.2 k hk
    have hT : Hk T = none := by
      cases q : Hk T with
      | none => rfl
      | some o =>
        exfalso
        rcases at1 T (by rw [q]; exact fun z => nomatch z) with z | ⟨j, hj, z⟩
        · exact absurd (Nat.lt_of_lt_of_le z (Nat.le_trans hB g2)) (Nat.lt_irrefl _)
        · exact absurd (g6 j T hj z) (Nat.lt_irrefl _)
    obtain ⟨vx, hvx, rvx⟩ : ∃ v, vs[k]? = some v ∧ RelV v x := vals_getU rx (by simpa using g3)
    obtain ⟨vy, hvy, rvy⟩ : ∃ v, us[k]? = some v ∧ RelV v y := vals_getU ry (by simpa using g4)
    obtain ⟨dx, hdx, px⟩ := r1.getV hvx
    obtain ⟨dy, hdy, py⟩ := r2.getV hvy
    have nF : Fk T = none := e1.fnone hT
    have ek : (zipK ds es).take (k + 1) = (zipK ds es).take k ++ [.tky [dx, dy]] := by
      have q : (zipK ds es)[k]? = some (.tky [dx, dy]) := by unfold zipK; rw [List.getElem?_zipWith, hdx, hdy]
      rw [List.take_succ, q]; rfl
    have ea : acc.toList.take (k + 1) = acc.toList.take k ++ [.ref T] := by
      rw [List.take_succ, Array.getElem?_toList, g1]; rfl
    refine ⟨upd Hk T (.tup [vx, vy]), upd Fk T (.tup [vx, vy]), Ts ++ [.ref T], un_claim u1 (Nat.le_trans hB g2) hT, hok_claim ok1 hT ⟨by show 2 ≤ sizeLine; exact of_decide_eq_true rfl, [x, y], .cons rvx (.cons rvy .nil), ⟨_, g5, rfl, _, rfl⟩⟩, s1.trans (same_upd nF), e1.live hT, f1.trans (Fr.upd hT), by rw [List.length_append, hl]; rfl, ?_, ?_, fun b hb => ?_⟩
    · rw [ea]; exact rv.append (.cons rfl .nil)
    · rw [ek]
      exact (rp.mono (same_upd nF)).append (.cons (.tky upd_same (.cons (px.mono (s1.trans (same_upd nF))) (.cons (py.mono (s1.trans (same_upd nF))) .nil))) .nil)
    · by_cases hb2 : b = T
      · exact .inr ⟨k, Nat.lt_succ_self _, by rw [hb2]; exact g1⟩
      · rw [upd_ne hb2] at hb
        rcases at1 b hb with z | ⟨j, hj, z⟩
        · exact .inl z
        · exact .inr ⟨j, by omega, z⟩
theorem zside (I l1 l2 : Nat) (h1 : l1 < I) (h2 : l2 < I) : ZSide (I + 4) (I + 2) (I + 3) I (I + 1) l1 l2 (I + 5) (I + 6) where
  D := PySem.W.ktu_apart I l1 l2 h1 h2
  l1TO := by show (l1 : Nat) ≠ I + 3; omega
  l2TO := by show (l2 : Nat) ≠ I + 3; omega
  l1i1 := by show (l1 : Nat) ≠ I; omega
  l1i2 := by show (l1 : Nat) ≠ I + 1; omega
  l2i1 := by show (l2 : Nat) ≠ I; omega
  l2i2 := by show (l2 : Nat) ≠ I + 1; omega
  l2z := by show (l2 : Nat) ≠ I + 4; omega
  hS := by
    simp only [List.mem_cons, List.not_mem_nil, or_false, not_or]
    refine ⟨?_, ?_, ?_, ?_, ?_, ?_, ?_⟩ <;> (show ¬ ((I : Nat) + 5 = _); omega)
  lt := fun b hb => by
    simp only [List.mem_cons, List.not_mem_nil, or_false] at hb
    rcases hb with z | z | z | z | z | z <;> (rw [z]; show (_ : Nat) < I + 6; omega)
section
variable {S : Sta} {a b : Expr} {p p2 pos pos2 : Pos} {r : WA}
theorem do_listZip (hm : S.mg "list" = none) (hm2 : S.mg "zip" = none) (h : DA S [a, b] r) (hg : (S.names.lookup ("list" : Str) == some .globalImplicit) = true := by kernel_rfl) (hg2 : (S.names.lookup ("zip" : Str) == some .globalImplicit) = true := by kernel_rfl)
    (he : ∀ env, starEach [.Call (.Name "zip" p2) [a, b] [] pos2] env = (false, eval (.Call (.Name "zip" p2) [a, b] [] pos2) env) :: starEach [] env := by intro _; rfl)
    (hs : ∀ env, starEach [a, b] env = (false, eval a env) :: starEach [b] env := by intro _; rfl) (hpl : ∀ env, (backTo pos2 (starEach [b] env)).any (·.1) = false := by intro _; rfl) :
    DO S (.Call (.Name "list" p) [.Call (.Name "zip" p2) [a, b] [] pos2] [] pos) (woListZip r) := fun X f => ⟨fun pins s σ H Q I ⟨G, F, ρ, Qd, ev, hw, hq⟩ => by
  refine Call_ (ld_blt I (glOf f hg) (by rw [f.mg]; exact hm) PyProof.Rows.boot_list (PyProof.Rows.callWith_type1 (args_cons (Call_ (ld_blt I (glOf f hg2) (by rw [f.mg]; exact hm2) PyProof.Rows.boot_zip (PyProof.Rows.callWith_type1 (thn ((h X f).run pos2 pins s σ H (fun vs H1 => ∃ F1 ds, Same F F1 ∧ EvR S.K G F1 H1 σ ρ ∧ Fr G H H1 ∧ RpL S.K F1 vs ds ∧ ∃ x y xs ys, ds = [x, y] ∧ tupsOf x = some xs ∧ tupsOf y = some ys ∧ Qd (.ow (zipK xs ys))) I ⟨G, F, ρ, _, ev, hw, fun vs H1 F1 ds s1 e1 f1 r1 q1 => ⟨F1, ds, s1, e1, f1, r1, q1⟩⟩) fun us s1 ⟨vs, H1, I1, rv, F1, ds, sF, e1, f1, r1, x, y, xs, ys, ed, ex, ey, q⟩ => ?_) (hs _) (hpl _)))) (he _)) (he _)))
  subst ed
  obtain ⟨vx, vy, rfl, px, py⟩ := r1.two
  obtain ⟨u1, u2, rfl, ra, rb⟩ := vals2 rv
  obtain ⟨l1, ws, rfl, hl1, rr1⟩ := rp_tups px ex
  obtain ⟨l2, ws2, rfl, hl2, rr2⟩ := rp_tups py ey
  cases ra
  cases rb
  rw [← f.K] at hl1 hl2
  obtain ⟨us, rx, p1, z1⟩ := I1.tuple (Same.sqt e1.sub hl1)
  obtain ⟨us2, ry, p2', z2⟩ := I1.tuple (Same.sqt e1.sub hl2)
  obtain ⟨o1, ho1, _⟩ := id p1
  obtain ⟨o2, ho2, _⟩ := id p2'
  refine RZ.call_zipT (show s1.heap.IsTuple l1 us.toArray from p1) (show s1.heap.IsTuple l2 us2.toArray from p2') fun h' hz hTI hTO t1 t2 hsz hk => ?_
  refine args_nil ?_
  have sd := zside s1.heap.objs.size l1 l2 (Heap.lt_size ho1) (Heap.lt_size ho2)
  have len1 := rx.length
  have len2 := ry.length
  have W : ZipW h' (s1.heap.objs.size + 4) (s1.heap.objs.size + 2) (s1.heap.objs.size + 3) s1.heap.objs.size (s1.heap.objs.size + 1) l1 l2 us.toArray us2.toArray 0 :=
    ⟨⟨_, _, hz, .inl rfl, false, rfl⟩, hTI, ⟨_, _, hTO⟩, t1, t2, by obtain ⟨o, e, r⟩ := p1; exact ⟨o, hk _ _ e, r⟩, by obtain ⟨o, e, r⟩ := p2'; exact ⟨o, hk _ _ e, r⟩⟩
  have ez : h'.objs.size = s1.heap.objs.size + 5 := hsz
  have ez1 : h'.objs.size + 1 = s1.heap.objs.size + 6 := by rw [ez]
  have sd' : ZSide (s1.heap.objs.size + 4) (s1.heap.objs.size + 2) (s1.heap.objs.size + 3) s1.heap.objs.size (s1.heap.objs.size + 1) l1 l2 h'.objs.size (h'.objs.size + 1) := by rw [ez]; exact sd
  refine zip_list (s := { s1 with heap := h' }) (n := min us.toArray.size us2.toArray.size) sd' (I1.ok.hd f.calm) (by simp only [List.size_toArray]; omega) rfl W fun h2 acc c k hS M => ?_
  have old : ∀ b o, s1.heap.get? b = some o → h2.get? b = some o := fun b o q => by
    have lt := Heap.lt_size q
    refine k b o (fun hm => ?_) (hk b o q)
    simp only [List.mem_cons, List.not_mem_nil, or_false] at hm
    have ge : s1.heap.objs.size ≤ b := by
      rcases hm with z | z | z | z | z | z <;> rw [z]
      · show s1.heap.objs.size ≤ h'.objs.size; rw [ez]; exact Nat.le_add_right _ _
      · exact Nat.le_add_right _ _
      · exact Nat.le_add_right _ _
      · exact Nat.le_add_right _ _
      · exact Nat.le_refl _
      · exact Nat.le_add_right _ _
    exact absurd lt (Nat.not_lt.mpr ge)
  have hB : s1.heap.objs.size ≤ h'.objs.size + 1 := by rw [ez]; exact Nat.le_trans (Nat.le_add_right _ 5) (Nat.le_succ _)
  obtain ⟨Hk, Fk, Ts, hu, ok, sk, ek, fk, hl, rv2, rp2, at2⟩ := claim_pairs (fs := X.fs) e1 (Un.kept old) (I1.hok.kept old) hB (fun b hb => I1.hok.fresh hb) M rx ry rr1 rr2 _ (Nat.le_refl _)
  have acl : acc.toList.take (min us.toArray.size us2.toArray.size) = acc.toList := List.take_of_length_le (by rw [Array.length_toList, M.1]; exact Nat.le_refl _)
  rw [acl] at rv2
  have zl : (zipK xs ys).take (min us.toArray.size us2.toArray.size) = zipK xs ys := List.take_of_length_le (by
    unfold zipK
    rw [List.length_zipWith, ← rr1.len, ← rr2.len]
    simp only [List.size_toArray]
    omega)
  rw [zl] at rp2
  have hn : Hk h'.objs.size = none := by
    cases q : Hk h'.objs.size with
    | none => rfl
    | some o =>
      exfalso
      rcases at2 _ (by rw [q]; exact fun z => nomatch z) with z | ⟨j, hj, z⟩
      · exact absurd z (Nat.not_lt.mpr (by rw [ez]; exact Nat.le_add_right _ _))
      · obtain ⟨T, _, _, g1, g2, _⟩ := M.2 j hj
        rw [z] at g1
        cases g1
        exact absurd g2 (Nat.not_le.mpr (Nat.lt_succ_self _))
  have new : ObjOk X.prog X.w (upd Hk h'.objs.size (.lst Ts)) h2 h'.objs.size (.lst Ts) := ⟨by rw [hl]; simp only [List.size_toArray]; omega, acc.toList, c, rv2, by rw [Array.toArray_toList]; exact hS⟩
  have hge : s1.heap.objs.size ≤ h'.objs.size := by rw [ez]; exact Nat.le_add_right _ _
  have I2 : Inv X pins σ (upd Hk h'.objs.size (.lst Ts)) { s1 with heap := h2 } := I1.un (t' := s1.toks) (un_claim hu hge hn) (hok_claim ok hn new)
  refine ⟨.ref h'.objs.size, _, I2, rfl, ?_⟩
  exact ek.newL hn rp2 q fun v H' F' sv s2 e3 f2 r2 q2 => hq v H' F' sv (sF.trans (sk.trans s2)) e3 (f1.trans (fk.trans f2)) (r2.back (f1.trans fk)) q2⟩
end
end DL
set_option maxHeartbeats 4000000
namespace DL
open PySem PySem.Spec PyProof.Rows L2

/-! ### x = {k: v for ..}, x = [.. for .. for ..] -/
theorem swd_true {kx vx : Expr} {gs : List Comprehension} {scope : Scope} {pos py : Pos} {y : Str} {l : Nat} {env : Env} (hk : env.scope.kind = .function) (hy : env.scope.names.lookup y = some .local) (hl : (py.line == pos.line) = true)
    (ha : (scope.names.any fun (n, k) => n == y && (k == .local || k == .cell)) = false) : swapsWith (.DictComp kx vx gs scope pos) (some (.Name y py)) l env = pure true := by
  have k1 : env.kindOf y = some .local := hy
  have k2 : env.blockKind = .function := by unfold Env.blockKind; rw [hk]; rfl
  unfold swapsWith
  simp only [k2, k1, ha, Expr.pos, hl]
  rfl
/-- what a comprehension leaves is stored -/
theorem comp_store {X : Cx} {pins : List (Addr × Obj)} {σ : St} {H' : Hp} {s' : Shared} {C L : Addr} {m : Str → Option Value} {i : Nat} {y : Str} {py : Pos} {D : Ends} (hN : X.N.Nodup) (hy : X.N[i]? = some y) (hyl : X.env.scope.names.lookup y = some .local)
    (I' : Inv X pins σ H' s') (q : gName i (.ref L) σ H' D.nx) (hn : s'.heap.Ns C m) (f : FpOk X pins H' C) :
    compPost (model X.prog X.w) X.A X.xe (some (assign (.Name y py) X.env)) (fun _ s' => SP X pins D .next s') (.ref L) C (.ok .next) s' := by
  show wpAny _ _ (assign (.Name y py) X.env (.ref L)) _ _ _
  refine wpAny_assign_Name (store_ok2 (v := V.ref L) I' hN hy (.inl hyl) rfl (fun s2 I2 ⟨a, sb, ha⟩ => ?_) (.inr hyl))
  obtain ⟨f0, f1, f2, f3, f4, f5⟩ := f
  have ne : C ≠ a := by
    rcases ha with e | e
    · rw [e]; exact f1
    · exact fun z => f4 y a e z.symm
  exact ⟨m, hn.sameBut sb ne, fun h3 sb3 => ⟨_, H', I2.turned (t' := s2.toks) (fun b o hb e => (sb3.2 b hb).trans e) f0 f1 f3 f4 f5, q⟩⟩
theorem ps_setDc {X : Cx} {i : Nat} {y : Str} {py : Pos} {kx vx tg iter : Expr} {ifs : List Expr} {scope : Scope} {own : List (Str × Nat)} {pos spos : Pos} {wi : TI} {g : TG} {tt : TT} {tk tv : TE} (hc : X.calm = true) (hN : X.N.Nodup) (hy : X.N[i]? = some y) (hyl : X.env.scope.names.lookup y = some .local)
    (hsw : swapsWith (.DictComp kx vx [⟨tg, iter, ifs, 0⟩] scope pos) (some (.Name y py)) spos.line X.env = pure true) (hi : PI X tg iter wi) (ok : BlkOk X.N X.env.scope scope own)
    (hg : ∀ (s : Shared) (H : Hp) (C : Addr) (cl : List (Str × Addr)) (fp : List Addr), PG (X.blk s H scope (compEnvC scope cl C X.env) fp) tg g) (ht : ∀ (s : Shared) (H : Hp) (C : Addr) (cl : List (Str × Addr)) (fp : List Addr), PTs (X.blk s H scope (compEnvC scope cl C X.env) fp) ifs tt)
    (hk : ∀ (s : Shared) (H : Hp) (C : Addr) (cl : List (Str × Addr)) (fp : List Addr), PE (X.blk s H scope (compEnvC scope cl C X.env) fp) kx tk) (he : ∀ (s : Shared) (H : Hp) (C : Addr) (cl : List (Str × Addr)) (fp : List Addr), PE (X.blk s H scope (compEnvC scope cl C X.env) fp) vx tv) (hs : ∀ x, foldedSetIterable iter X.env x = pure x) :
    PS X (.Assign [.Name y py] (.DictComp kx vx [⟨tg, iter, ifs, 0⟩] scope pos) spos) (tAsg (tDc wi g tt tk tv (own.map (·.2))) (gName i)) := ⟨fun pins s σ H D I h => by
  rw [exec_Assign_Name_used _ _ _ _ hsw]
  refine wpAny_bind (wpAny_standAt (wpAny_bind ?_))
  show wpAny _ X.A (do let _ ← comprehension (.DictComp kx vx [⟨tg, iter, ifs, 0⟩] scope pos) scope X.env (firstIterPos [⟨tg, iter, ifs, 0⟩] pos) newDict false (eval iter X.env) (some (assign (.Name y py) X.env))) _ _ s
  have h : tDc wi g tt tk tv (own.map (·.2)) σ H (fun x H1 => gName i x σ H1 D.nx) := h
  exact wpAny_bind (thn (dc_core (Qf := fun _ s' => SP X pins D .next s') hc hN I hi ok hg ht hk he hs h fun L C s' m H' I' q hn f => comp_store hN hy hyl I' q hn f) fun _ s' hq => wpAny_pure (wpAny_pure hq))⟩
section
variable {S : Sta} {elt kx vx tg iter tg1 iter1 a b : Expr} {ifs ifs1 : List Expr} {scope : Scope} {own : List (Str × Nat)} {pos p : Pos} {wi wi1 : WA} {wg wg1 : WG} {wt wt1 : WT} {we wk wv wa wb : W} {is is1 vs1 : List Nat}
theorem ds_setDc {i : Nat} {y : Str} {py spos : Pos} (hi : DI S tg iter wi) (nd : S.N.Nodup) (hk : blkC S.N ⟨.function, S.names, false, false, []⟩ scope own = true) (hg : DG (S.blk scope) tg is wg) (hsub : ∀ i ∈ is, i ∈ own.map (·.2)) (ht : DTs (S.blk scope) ifs wt) (hke : DE (S.blk scope) kx wk) (he : DE (S.blk scope) vx wv)
    (hN : (S.N[i]? == some y) = true := by kernel_rfl) (hl : (S.names.lookup y == some .local) = true := by kernel_rfl) (hln : (py.line == pos.line) = true := by kernel_rfl) (ha : (scope.names.any fun (n, k) => n == y && (k == .local || k == .cell)) = false := by kernel_rfl)
    (hs : ∀ env x, foldedSetIterable iter env x = pure x := by intro _ _; rfl) : DS S (.Assign [.Name y py] (.DictComp kx vx [⟨tg, iter, ifs, 0⟩] scope pos) spos) (wSet i (wDComp wi wg wt wk wv (own.map (·.2)))) := fun X f => by
  obtain ⟨g, pg, ok⟩ := hg
  have bk := blkOf f hk
  have hy : X.env.scope.names.lookup y = some .local := by rw [f.look]; exact beq_iff_eq.mp hl
  refine (ps_setDc (i := i) f.calm (by rw [f.N]; exact nd) (by rw [f.N]; exact beq_iff_eq.mp hN) hy (swd_true f.kind hy hln ha) (hi X f) bk (fun s H C cl fp => pg _ (fam_blk f bk.kind s H C cl fp)) (fun s H C cl fp => ht _ (fam_blk f bk.kind s H C cl fp)) (fun s H C cl fp => hke _ (fam_blk f bk.kind s H C cl fp)) (fun s H C cl fp => he _ (fam_blk f bk.kind s H C cl fp)) (hs _)).imp fun D σ H ⟨G, H0, F0, F, ρ, E, ev, ⟨hi, hw⟩, gg⟩ => ?_
  refine dc_imp ok hsub σ H _ ⟨G, F, ρ, _, ev.r, hw, fun v H' F' sv s e' fr r q => ?_⟩
  obtain ⟨F2, ev2, s2⟩ := ev.put s e' fr hi r
  exact gg.nx _ H' F2 _ ev2 s2 q
theorem ds_setLc2 {i : Nat} {y : Str} {py spos : Pos} (hi : DI S tg iter wi) (nd : S.N.Nodup) (hk : blkC S.N ⟨.function, S.names, false, false, []⟩ scope own = true) (hg : DG (S.blk scope) tg is wg) (hsub : ∀ i ∈ is, i ∈ own.map (·.2)) (ht : DTs (S.blk scope) ifs wt)
    (hi1 : DI (S.blk scope) tg1 iter1 wi1) (hg1 : DG (S.blk scope) tg1 is1 wg1) (hv : ∀ i ∈ vs1, i ∈ own.map (·.2)) (hsub1 : ∀ i ∈ is1, i ∈ vs1) (ht1 : DTs (S.blk scope) ifs1 wt1) (he : DE (S.blk scope) elt we)
    (hN : (S.N[i]? == some y) = true := by kernel_rfl) (hl : (S.names.lookup y == some .local) = true := by kernel_rfl) (hln : (py.line == pos.line) = true := by kernel_rfl) (ha : (scope.names.any fun (n, k) => n == y && (k == .local || k == .cell)) = false := by kernel_rfl)
    (hs : ∀ env x, foldedSetIterable iter env x = pure x := by intro _ _; rfl) (hs1 : ∀ env x, foldedSetIterable iter1 env x = pure x := by intro _ _; rfl) :
    DS S (.Assign [.Name y py] (.ListComp elt [⟨tg, iter, ifs, 0⟩, ⟨tg1, iter1, ifs1, 0⟩] scope pos) spos) (wSet i (wComp2 wi wg wt wi1 wg1 wt1 we (own.map (·.2)) vs1)) := fun X f => by
  obtain ⟨g, pg, ok⟩ := hg
  obtain ⟨g1, pg1, ok1⟩ := hg1
  have bk := blkOf f hk
  have hy : X.env.scope.names.lookup y = some .local := by rw [f.look]; exact beq_iff_eq.mp hl
  refine (ps_setLc2 (i := i) f.calm (by rw [f.N]; exact nd) (by rw [f.N]; exact beq_iff_eq.mp hN) hy (sw_true f.kind hy hln ha) (hi X f) bk hv (fun s H C cl fp => pg _ (fam_blk f bk.kind s H C cl fp)) (fun s H C cl fp => ht _ (fam_blk f bk.kind s H C cl fp)) (fun s H C cl fp => hi1 _ (fam_blk f bk.kind s H C cl fp)) (fun s H C cl fp => pg1 _ (fam_blk f bk.kind s H C cl fp)) (fun s H C cl fp => ht1 _ (fam_blk f bk.kind s H C cl fp)) (fun s H C cl fp => he _ (fam_blk f bk.kind s H C cl fp)) (hs _) hs1).imp fun D σ H ⟨G, H0, F0, F, ρ, E, ev, ⟨hi, hw⟩, gg⟩ => ?_
  refine lc2_imp ok hsub ok1 hsub1 σ H _ ⟨G, F, ρ, _, ev.r, hw, fun v H' F' sv s e' fr r q => ?_⟩
  obtain ⟨F2, ev2, s2⟩ := ev.put s e' fr hi r
  exact gg.nx _ H' F2 _ ev2 s2 q
/-! ### tests -/
theorem dt_din (ha : DE S a wa) (hb : DE S b wb) (hm : behindInMarks .In b = false := by rfl) : DT S (.Compare a [.In] [b] pos) (wtV (wOp oDIn wa wb)) := fun X f =>
  (pt_cmp (pc_din (units1 f) (ha X f) (hb X f)) hm).imp fun σ H Q ⟨G, F, ρ, Qd, ev, hw, hq⟩ => ⟨G, F, ρ, _, ev, hw, fun v1 H1 F1 d1 s1 e1 f1 r1 q1 => ⟨G, F1, ρ, _, e1, q1, fun v2 H2 F2 d2 s2 e2 f2 r2 ⟨o, c, k, ek, q⟩ => by
    obtain ⟨a, ov, rfl, g, h⟩ := dget_of e2.sub (r1.mono s2) r2 c
    refine ⟨a, ov, rfl, g, ?_⟩
    have eo : ov.isSome = o.isSome := by
      rcases h with ⟨h1, h2⟩ | ⟨d, v, h1, h2, _⟩
      · rw [h1, h2]; rfl
      · rw [h1, h2]; rfl
    rw [eo]
    cases ek
    exact ⟨_, rfl, hq _ H2 F2 (s1.trans s2) e2 (f1.trans f2) q⟩⟩⟩
theorem dt_dnotin (ha : DE S a wa) (hb : DE S b wb) (hm : behindInMarks .NotIn b = false := by rfl) : DT S (.Compare a [.NotIn] [b] pos) (wtV (wOp oDNotIn wa wb)) := fun X f =>
  (pt_cmp (pc_dnotin (units1 f) (ha X f) (hb X f)) hm).imp fun σ H Q ⟨G, F, ρ, Qd, ev, hw, hq⟩ => ⟨G, F, ρ, _, ev, hw, fun v1 H1 F1 d1 s1 e1 f1 r1 q1 => ⟨G, F1, ρ, _, e1, q1, fun v2 H2 F2 d2 s2 e2 f2 r2 ⟨o, c, k, ek, q⟩ => by
    obtain ⟨a, ov, rfl, g, h⟩ := dget_of e2.sub (r1.mono s2) r2 c
    refine ⟨a, ov, rfl, g, ?_⟩
    have eo : ov.isSome = o.isSome := by
      rcases h with ⟨h1, h2⟩ | ⟨d, v, h1, h2, _⟩
      · rw [h1, h2]; rfl
      · rw [h1, h2]; rfl
    rw [eo]
    cases ek
    exact ⟨_, rfl, hq _ H2 F2 (s1.trans s2) e2 (f1.trans f2) q⟩⟩⟩
theorem dt_notInG {x : Str} {ds : List D} (h : GTup S.toBs x ds) (ha : DE S a wa) (hg : (S.names.lookup x == some .globalImplicit) = true := by kernel_rfl) (hd : (x == ("__debug__" : Str)) = false := by kernel_rfl) (hm : behindInMarks .NotIn (.Name x p) = false := by rfl) : DT S (.Compare a [.NotIn] [.Name x p] pos) (wtV (wNotInG ds wa)) := fun X f => by
  obtain ⟨c, vs, hmg, hs, hr⟩ := h
  have op : OpR X (compareOp .NotIn) (rNotInS S.K) := f.K ▸ op_notInS f.room.units65
  exact (pt_cmpR op (ha X f) (pe_glob (v := .ref c) (u := .ref c) (glOf f hg) (by rw [f.mg]; exact hmg) rfl hd) hm).imp fun σ H Q ⟨G, F, ρ, Qd, ev, hw, hq⟩ => ⟨G, F, ρ, _, ev, hw, fun v1 H1 F1 d1 s1 e1 f1 r1 ⟨ys, p, q, e0, e2, e3, sh1, sh2, k, ek, hQ⟩ => by
    cases e0
    cases ek
    exact ⟨p, q, r1.dp e1.sub e2, .inr (.tup (hs H1) (RpL.dp (fun _ _ z => by cases z) hr e3)), sh1, sh2, _, rfl, hq _ H1 F1 s1 e1 f1 hQ⟩⟩
theorem ds_setDcC {wo : WO} {i : Nat} {y : Str} {py spos : Pos} {gs : List Comprehension} (he : DO S (.DictComp kx vx gs scope pos) wo) (nd : S.N.Nodup)
    (hN : (S.N[i]? == some y) = true := by kernel_rfl) (hl : (S.names.lookup y == some .cell && S.fc y) = true := by kernel_rfl) : DS S (.Assign [.Name y py] (.DictComp kx vx gs scope pos) spos) (wSet i wo) := fun X f => by
  have hl' : (S.names.lookup y == some .local || (S.names.lookup y == some .cell && S.fc y)) = true := by rw [hl, Bool.or_true]
  obtain ⟨h1, h2⟩ := locOf f hl'
  have ky : X.env.kindOf y = some .cell := show X.env.scope.names.lookup y = some .cell by rw [f.look]; exact beq_iff_eq.mp (Bool.and_eq_true_iff.mp hl).1
  have hs : swapsWith (.DictComp kx vx gs scope pos) (some (.Name y py)) spos.line X.env = pure false := by
    unfold swapsWith
    simp [ky, show (NameKind.cell == NameKind.local) = false from rfl]
  refine (ps_set (i := i) (by rw [f.N]; exact nd) (by rw [f.N]; exact beq_iff_eq.mp hN) h1 (he X f) hs h2).imp fun D σ H ⟨G, H0, F0, F, ρ, E, ev, ⟨hi, hw⟩, g⟩ => ?_
  refine ⟨G, F, ρ, _, ev.r, hw, fun v H' F' sv s e' fr r q => ?_⟩
  obtain ⟨F2, ev2, s2⟩ := ev.put s e' fr hi r
  exact g.nx _ H' F2 _ ev2 s2 q
end
end DL
set_option maxHeartbeats 4000000
/-! enumerate of tuples -/
namespace DL
open PySem PySem.Spec PyProof.Rows L2
open AutoSeq1 (wpAny_loadPart')

theorem meets_enumT (l : Addr) (items : Array Value) (n : Nat) (dct : Option Addr) (sl : Array (Option Value)) :
    Meets (Builtin.«enumerate.__new__» ⟨[.type "enumerate", .ref l], []⟩) (fun _ R s => s.heap.get? l = some { cls := .type "tuple", dict := dct, data := .seq items n, slots := sl } ∧
      R (.ok (.ret (.ref (s.heap.push { cls := .type "tuple_iterator", data := .fields #[.ref l, .int 0 0] }).objs.size)))
        { s with heap := (s.heap.push { cls := .type "tuple_iterator", data := .fields #[.ref l, .int 0 0] }).push { cls := .type "enumerate", data := .fields #[.none, .bool false, .ref s.heap.objs.size, rawInt 0, .none, .none] } }) :=
  .of_wp fun prog w A R s h => by
    obtain ⟨hp, g, d, tk, os⟩ := s; obtain ⟨hl, h⟩ := h
    have hsub := sub_enumerate
    have hT : Heap.IsTuple (Shared.heap ⟨hp, g, d, tk, os⟩) l items := ⟨_, hl, rfl, n, rfl⟩
    wp_walk using wpAny_loadPart' hl
    refine wpAny_stack_any fun st => wpAny_pure ?_
    split
    · rename_i c _ _ _ _ _
      cases (c == Value.type "enumerate")
      · wp_walk using wpAny_loadPart' hl, wpAny_pyIter_tuple hT
        exact ⟨_, rfl, h⟩
      · wp_walk using wpAny_loadPart' hl, wpAny_pyIter_tuple hT
        exact ⟨_, rfl, h⟩
    · wp_walk using wpAny_loadPart' hl, wpAny_pyIter_tuple hT
      exact ⟨_, rfl, h⟩
section
variable {prog : Program} {w : World} {A : Around} {E : Value → Shared → Prop} {s : Shared}
theorem call_enumT {l : Addr} {items : Array Value} {Q : Value → Shared → Prop} (hT : s.heap.IsTuple l items)
    (h : ∀ h', IsEnum h' (s.heap.objs.size + 1) s.heap.objs.size 0 .none → h'.IsTupleIter s.heap.objs.size l 0 → h'.objs.size = s.heap.objs.size + 2 → (∀ b o, s.heap.get? b = some o → h'.get? b = some o) → Q (.ref (s.heap.objs.size + 1)) { s with heap := h' }) :
    wpAny (model prog w) A (call (.type "enumerate") [.ref l]) Q E s := by
  obtain ⟨⟨c, dct, dt, sl⟩, hl, hc, n, hd⟩ := hT
  obtain rfl : c = .type "tuple" := hc
  obtain rfl : dt = .seq items n := hd
  refine callType_new PySem.F.called_enumerate (by decide) (PySem.F.typeCall_enumerate_1 _) (PySem.F.newCall_enumerate_1 _) (fun obj => PySem.F.args_object_init_2 obj _) PySem.F.entry_enumerate_new (meets_enumT l items n dct sl) ⟨hl, ?_⟩
  have z1 : (s.heap.push { cls := .type "tuple_iterator", data := .fields #[.ref l, .int 0 0] }).objs.size = s.heap.objs.size + 1 := Heap.size_push ..
  have g2 := Heap.get?_push_size (s.heap.push { cls := .type "tuple_iterator", data := .fields #[.ref l, .int 0 0] }) (o := { cls := .type "enumerate", data := .fields #[.none, .bool false, .ref s.heap.objs.size, rawInt 0, .none, .none] }) rfl
  rw [z1] at g2
  show _ ∧ _
  rw [z1]
  exact ⟨⟨_, g2, rfl⟩, h _ g2 ⟨_, Heap.get?_push_of_some _ (Heap.get?_push_size _ rfl), rfl, rfl⟩ (by rw [Heap.size_push, z1]) fun b o e => Heap.get?_push_of_some _ (Heap.get?_push_of_some _ e)⟩
end
/-- the tuple at a as it stands at each turn, each item in a new pair -/
def IteT (K : PySem.W.Frag) (a : Addr) : It :=
  ⟨fun i H => ∃ (xs : List V) (x : V), SqT K H a xs ∧ xs[i]? = some x, fun i H v H' => ∃ T x, v = .ref T ∧ H T = none ∧ H' = upd H T (.tup [.int (i : Nat), x]) ∧ ∀ xs, SqT K H a xs → xs[i]? = some x, fun i H => ∃ xs : List V, SqT K H a xs ∧ xs.length ≤ i⟩
theorem turn_enumT {P : Program} {w : World} {K : PySem.W.Frag} {elts : List Expr} {kk : Nat} {tpos : Pos} (a e it : Addr) (items : Array Value) (hai : a ≠ it) (hae : a ≠ e) :
    Turn P w K (.Tuple elts kk tpos) (IteT K a) [e, it] e (fun i h => (∃ old, IsEnum h e it ((i : Nat) : Int) old) ∧ h.IsTupleIter it a i ∧ e ≠ it) where
  mem := List.mem_cons_self
  obj := fun i h ⟨⟨old, he⟩, ⟨o, ho, _, hd⟩, _⟩ b hb => by
    simp only [List.mem_cons, List.not_mem_nil, or_false] at hb
    rcases hb with rfl | rfl
    · exact ⟨_, he, fun v q => nomatch q⟩
    · exact ⟨o, ho, fun v q => by rw [hd] at q; cases q⟩
  keep := fun i h h' ⟨⟨old, he⟩, hi, hne⟩ k => ⟨⟨old, k e (by simp) _ he⟩, hi.at fun o q => k it (by simp) o q, hne⟩
  item := fun X hP hw hK hc i pins s σ H E I hf ⟨⟨old, he⟩, hit, hne⟩ ⟨xs, x, hq, hx⟩ => by
    subst hP hw hK
    obtain ⟨its, rv, p, hz⟩ := I.tuple hq
    obtain ⟨u, hu, ru⟩ := rv.get hx
    have hel : e < s.heap.objs.size := Heap.lt_size he
    have hil : it < s.heap.objs.size := by obtain ⟨_, q, _⟩ := hit; exact Heap.lt_size q
    have D := Draws.tuple (prog := X.prog) (w := X.w) (A := X.A.in1) (I.ok.hd hc) it a hai its.toArray
    have hlt : i < its.toArray.size := by
      have := (List.getElem?_eq_some_iff.mp hu).1
      simpa using this
    refine wpAny_pyNext_enum_itemD D he ⟨hit, show s.heap.IsTuple a its.toArray from p⟩ hlt hne (by simp only [List.mem_cons, List.not_mem_nil, or_false, not_or]; exact ⟨hne, fun z => hae z.symm⟩) fun v h' tk hv ho st' hT hsz hk => ?_
    have ev : v = u := by
      have e2 : its.toArray[i]? = some u := by simpa using hu
      rw [e2] at hv
      exact (Option.some.inj hv).symm
    subst ev
    refine ⟨_, rfl, wpAny_letOwnedTupleGo_enum (s := { s with heap := h', toks := tk + 1 }) ho fun h2 he2 sb => ?_⟩
    have hT2 : h2.get? s.heap.objs.size = some { cls := .type "tuple", data := .seq #[.int i tk, v] } := (sb.2 _ (Nat.ne_of_gt hel)).trans hT
    have new : ObjOk X.prog X.w (upd H s.heap.objs.size (.tup [.int (i : Nat), x])) h2 s.heap.objs.size (.tup [.int (i : Nat), x]) := ⟨by show 2 ≤ sizeLine; exact of_decide_eq_true rfl, [.int i tk, v], .cons ⟨_, rfl⟩ (.cons ru .nil), ⟨_, hT2, rfl, _, rfl⟩⟩
    have I1 : Inv X pins σ (upd H s.heap.objs.size (.tup [.int (i : Nat), x])) { s with heap := h2, toks := tk + 1 } :=
      I.turnedNew (ch := [e, it]) (fun b ob hb q => (sb.2 b (fun z => hb (by simp [z]))).trans (hk b ob (fun z => hb (by simp [z])) (fun z => hb (by simp [z])) q)) hf (Nat.le_refl _) new
    refine ⟨.ref s.heap.objs.size, _, I1, rfl, ⟨_, x, rfl, I.hok.fresh (Nat.le_refl _), rfl, fun ys hy => by rw [I.tuple_inj hy hq]; exact hx⟩, ⟨⟨v, ?_⟩, st'.1.at fun o q => (sb.2 it (Ne.symm hne)).trans q, hne⟩, fun b hb => ?_⟩
    · have e1 : ((i + 1 : Nat) : Int) = (i : Int) + 1 := by omega
      rw [e1]; exact he2
    · have lt : b < s.heap.objs.size := by
        simp only [List.mem_cons, List.not_mem_nil, or_false] at hb
        rcases hb with rfl | rfl <;> assumption
      rw [upd_ne (Nat.ne_of_lt lt)]
      exact (hf b hb).1
  done := fun X hP hw hK hc i pins s σ H E I hf ⟨⟨old, he⟩, hit, hne⟩ ⟨xs, hq, hx⟩ => by
    subst hP hw hK
    obtain ⟨its, rv, p, hz⟩ := I.tuple hq
    obtain ⟨f0, f1, f2, f3, f4, f5⟩ := hf it (by simp)
    have hl := rv.length
    have hT : s.TypeIs (.ref e) "enumerate" := ⟨_, he, rfl⟩
    unfold pyNext
    refine wpAny_bind (wpAny_attempt (wpAny_callSpecial?_slot (name := Str.ofString "__next__") hT PySem.F.slot_enumerate_next (wpAny_call_entry PySem.F.slot_enumerate_next hT PySem.F.entry_enumerate_next ?_ (PySem.F.args_enumerate_next_1 _))))
    show wpAny _ _ (field (.ref e) 2 >>= _) _ _ _
    refine wpAny_bind (wpAny_field he rfl (x := .ref it) rfl ?_)
    refine wpAny_bind (RZ.nextOf_tuple_end (I.ok.hd hc) hit (show s.heap.IsTuple a its.toArray from p) (by simp; omega) fun h' x he' hx' => ?_)
    obtain ⟨o, ho, hcl⟩ := hx'
    exact wpAny_bind (wpAny_isInstance (T := "StopIteration") (b := true) ⟨o, ho, hcl⟩ isSubtype_stop (wpAny_pure ⟨rfl, I.turned (t' := s.toks) (fun b o hb q => he' b o hb q) f0 f1 f3 f4 f5⟩))
  self := fun A i s Q E ⟨⟨_, he⟩, _⟩ h => wpAny_pyIter_enum he h
def iEnumA (K : PySem.W.Frag) (ta : TA) : TI := fun σ H R => ta σ H fun vs H1 => ∃ a xs, vs = [.ref a] ∧ ((SqL K H1 a xs ∧ R (Ite K a) H1) ∨ (SqT K H1 a xs ∧ R (IteT K a) H1))
theorem pi_enumA {X : Cx} {e : Expr} {ta : TA} {p pos tpos : Pos} {elts : List Expr} {kk : Nat} (hg : Gl X "enumerate") (hm : X.mg "enumerate" = none) (ha : PA X [e] ta) (hs : starEach [e] X.env = [(false, eval e X.env)]) :
    PI X (.Tuple elts kk tpos) (.Call (.Name "enumerate" p) [e] [] pos) (iEnumA X.K ta) := ⟨fun pins s σ H R I h => by
  refine Call_ (ld_blt I hg hm boot_enumerate (PyProof.Rows.callWith_type1 (thn (ha.run pos pins s σ H _ I h) fun us s1 ⟨vs, H1, I1, r1, a, xs, ex, q⟩ => ?_) hs rfl))
  subst ex
  obtain ⟨u, rfl, r⟩ := vals1 r1
  cases r
  have fresh : ∀ b ∈ [s1.heap.objs.size + 1, s1.heap.objs.size], FpOk X pins H1 b := fun b hb => by
    have le : s1.heap.objs.size ≤ b := by
      simp only [List.mem_cons, List.not_mem_nil, or_false] at hb
      rcases hb with z | z <;> rw [z]
      · exact Nat.le_add_right _ _
      · exact Nat.le_refl _
    exact I1.fpOk le (I1.hok.fresh le)
  rcases q with ⟨hq, q⟩ | ⟨hq, q⟩
  · obtain ⟨its, rv, p', hz⟩ := I1.list hq
    refine call_enumerate_list p'.isList fun h' he hit hsz hk => wpAny_pyIter_enum he ?_
    exact ⟨s1.heap.objs.size + 1, _, _, _, H1, rfl, I1.kept (t' := s1.toks) hk, turn_enum a (s1.heap.objs.size + 1) s1.heap.objs.size, ⟨⟨.none, he⟩, hit, Nat.succ_ne_self _⟩, fresh, q⟩
  · obtain ⟨its, rv, p', hz⟩ := I1.tuple hq
    obtain ⟨o1, ho1, _⟩ := id p'
    have lt := Heap.lt_size ho1
    refine call_enumT (show s1.heap.IsTuple a its.toArray from p') fun h' he hit hsz hk => wpAny_pyIter_enum he ?_
    exact ⟨s1.heap.objs.size + 1, _, _, _, H1, rfl, I1.kept (t' := s1.toks) hk, turn_enumT a (s1.heap.objs.size + 1) s1.heap.objs.size #[] (Nat.ne_of_lt lt) (Nat.ne_of_lt (Nat.lt_succ_of_lt lt)), ⟨⟨.none, he⟩, hit, Nat.succ_ne_self _⟩, fresh, q⟩⟩
theorem itok_enumT {K : PySem.W.Frag} {F : Hp} {a : Addr} {vs : List V} {ds : List D} (h : SqT K F a vs) (r : RpL K F vs ds) : ItOk K (IteT K a) F (enumD 0 ds) where
  go := fun i H F' s s' hi => by
    rw [enumD_len] at hi
    have hv : i < vs.length := by rw [r.len]; exact hi
    have hH : SqT K H a vs := Same.sqt (s.trans s') h
    refine ⟨⟨vs, vs[i], hH, List.getElem?_eq_getElem hv⟩, fun x H' ⟨T, v1, e1, nT, e2, y⟩ => ?_⟩
    obtain ⟨d, h1, h2⟩ := r.getV (y vs hH)
    subst e1
    have e := enumD_get (k := 0) h1
    rw [Nat.zero_add] at e
    exact ⟨_, e, .inr ⟨T, _, nT, e2, .pair (none_sub s' nT) (.int _) (h2.mono s)⟩⟩
  stop := fun H F' s s' => ⟨vs, Same.sqt (s.trans s') h, by rw [enumD_len, r.len]; exact Nat.le_refl _⟩
def wiEnumA (r : WA) : WA := fun G ρ Q => r G ρ fun ds => ∃ x xs, ds = [x] ∧ itemsOf x = some xs ∧ Q (enumD 0 xs)
def wjEnumA (w : WV) : WIS := fun G ρ Q => w G ρ fun d ρ' => ∃ xs, itemsOf d = some xs ∧ Q (enumD 0 xs) ρ'
section
variable {S : Sta} {e a : Expr} {es : List Expr} {p pos tpos : Pos} {w : WV} {r : WA} {kk : Nat}
theorem di_enumA (hm : S.mg "enumerate" = none) (h : DA S [a] r) (hg : (S.names.lookup ("enumerate" : Str) == some .globalImplicit) = true := by kernel_rfl) (hs : ∀ env, starEach [a] env = [(false, eval a env)] := by intro _; rfl) :
    DI S (.Tuple es kk tpos) (.Call (.Name "enumerate" p) [a] [] pos) (wiEnumA r) := fun X f =>
  (pi_enumA (glOf f hg) (by rw [f.mg]; exact hm) (h X f) (hs _)).imp fun σ H R ⟨G, F, ρ, Qd, ev, hw, hq⟩ =>
  ⟨G, F, ρ, _, ev, hw, fun vs H1 F1 ds s1 e1 f1 r1 ⟨x, xs, ed, ex, q1⟩ => by
    subst ed
    rw [f.K]
    obtain ⟨u, rfl, r2⟩ := r1.one
    obtain ⟨b, ws, rfl, hh, rr⟩ := rp_items r2 ex
    rcases hh with ⟨_, hh⟩ | ⟨_, hh⟩
    · exact ⟨b, ws, rfl, .inl ⟨SqL.of (e1.sub _ _ hh), hq _ H1 F1 _ s1 e1 f1 (itok_enum hh rr) q1⟩⟩
    · exact ⟨b, ws, rfl, .inr ⟨Same.sqt e1.sub hh, hq _ H1 F1 _ s1 e1 f1 (itok_enumT hh rr) q1⟩⟩⟩
theorem dj_enumA (hm : S.mg "enumerate" = none) (h : DV S a w) (hg : (S.names.lookup ("enumerate" : Str) == some .globalImplicit) = true := by kernel_rfl) (hs : ∀ env, starEach [a] env = [(false, eval a env)] := by intro _; rfl) (hs2 : ∀ env, starEach [a] env = (false, eval a env) :: starEach [] env := by intro _; rfl) :
    DJ S (.Tuple es kk tpos) (.Call (.Name "enumerate" p) [a] [] pos) (wjEnumA w) := fun X f =>
  (pi_enumA (glOf f hg) (by rw [f.mg]; exact hm) (pa_cons (h X f) pa_nil (hs2 _)) (hs _)).imp fun σ H R ⟨G, H0, F0, F, ρ, Qd, ev, hw, hq⟩ =>
  ⟨G, H0, F0, F, ρ, _, ev, hw, fun v H1 F1 d ρ1 ev1 s1 r1 ⟨xs, ed, q1⟩ => by
    rw [f.K]
    obtain ⟨b, ws, rfl, hh, rr⟩ := rp_items r1 ed
    rcases hh with ⟨_, hh⟩ | ⟨_, hh⟩
    · exact ⟨b, ws, rfl, .inl ⟨SqL.of (ev1.r.sub _ _ hh), hq _ H1 F1 _ ρ1 ev1 s1 (itok_enum hh rr) q1⟩⟩
    · exact ⟨b, ws, rfl, .inr ⟨Same.sqt ev1.r.sub hh, hq _ H1 F1 _ ρ1 ev1 s1 (itok_enumT hh rr) q1⟩⟩⟩
end
end DL
set_option maxHeartbeats 4000000
namespace DL
open PySem PySem.Spec PyProof.Rows L2

/-! ### a def's meaning and its promise -/
abbrev Keeps (P N : List Str) (s : FS) (w : WS) : Prop := ∀ (G : Gc) (ds : List D) (Qd : SV → Prop), s G ds Qd → ds.length = P.length ∧ w G { nx := fun _ => Qd (.fz .non), rt := Qd } (startD N ds)
theorem atI_nat {α : Type} {xs : List α} {i : Nat} {x : α} (h : xs[i]? = some x) : atI xs ((i : Nat) : Int) = some x := by
  have hi : i < xs.length := (List.getElem?_eq_some_iff.mp h).1
  unfold atI ixN
  rw [if_pos (by omega), if_pos (by omega)]
  simp only [Option.bind_some, Int.toNat_natCast]
  exact h
/-! #### continuations -/
def kAnd (d : D) (A : Prop) (Q : D → Prop) : Prop := ∃ k, d = .bl k ∧ if k = true then A else Q (.bl false)
def kOr (d : D) (A : Prop) (Q : D → Prop) : Prop := ∃ k, d = .bl k ∧ if k = true then Q (.bl true) else A
def kTv (d : D) (Q : Bool → Prop) : Prop := ∃ k, d = .bl k ∧ Q k
def kNeg (d : D) (Q : D → Prop) : Prop := ∃ i, d = .int i ∧ Q (.int (-i))
def kIsi (T : String) (d : D) (Q : D → Prop) : Prop := (∀ a, d ≠ .ob a) ∧ Q (.bl (isD T d))
def kFz (sv : SV) (Q : D → Prop) : Prop := match sv with | .fz d => Q d | .ow xs => Q (.lst xs) | .od t kds => Q (.dic t kds)
def kTab (kvs : List (Str × D)) (d : D) (Q : D → Prop) : Prop := ∃ k z, d = .str k ∧ kvs.lookup k = some z ∧ Q z
def kIt (d : D) (Q : List D → Prop) : Prop := ∃ ds, itemsOf d = some ds ∧ Q ds
def kR1 (ds : List D) (Q : List D → Prop) : Prop := ∃ j : Int, ds = [.int j] ∧ -(2 ^ 62) ≤ j ∧ j < 2 ^ 62 ∧ Q (rangeD 0 j.toNat)
def kR2 (ds : List D) (Q : List D → Prop) : Prop := ∃ i j : Int, ds = [.int i, .int j] ∧ (-(2 ^ 62) ≤ i ∧ i < 2 ^ 62 ∧ -(2 ^ 62) ≤ j ∧ j < 2 ^ 62) ∧ Q (rangeD i (j - i).toNat)
def kVo (sv : SV) (ρ : En) (Qv : D → En → Prop) : Prop := match sv with | .fz d => Qv d (if imm d = true then ρ else frzAll ρ) | .ow xs => Qv (.lst xs) (if immL xs = true then ρ else frzAll ρ) | .od t kds => Qv (.dic t kds) (if immL (kds.map (·.2)) = true then ρ else frzAll ρ)
def kPut (ρ : En) (i : Nat) (sv : SV) (K : En → Prop) : Prop := K (put ρ i sv)
def kS (ρ : En) (i : Nat) (sv : SV) (K : En → Prop) : Prop := K (ρ.set i (some sv))
def kP2 (ρ : En) (i : Nat) (sv : SV) (j : Nat) (sw : SV) (K : En → Prop) : Prop := K (put2 ρ i sv j sw)
def kP3 (ρ : En) (i : Nat) (sv : SV) (j : Nat) (sw : SV) (l : Nat) (sx : SV) (K : En → Prop) : Prop := K (put3 ρ i sv j sw l sx)
def kApp (ρ : En) (i : Nat) (d : D) (K : En → Prop) : Prop := ∃ xs, ρ[i]? = some (some (.ow xs)) ∧ xs.length < sizeLine ∧ K (ρ.set i (some (.ow (xs ++ [d]))))
def kOw (ρ : En) (i : Nat) : Prop := ∃ xs, ρ[i]? = some (some (.ow xs))
def kSto (ρ : En) (i : Nat) (kd d : D) (K : En → Prop) : Prop := ∃ k j xs, kd = .int k ∧ ρ[i]? = some (some (.ow xs)) ∧ ixN xs.length k = some j ∧ K (ρ.set i (some (.ow (xs.set j d))))
def kGt (d : D) (n : Nat) (K : List D → Prop) : Prop := ∃ ds, tupsOf d = some ds ∧ ds.length = n ∧ K ds
def kGc (ds : List D) (K : D → List D → Prop) : Prop := ∃ d r, ds = d :: r ∧ K d r
def kCh (d : D) (A : Prop) (Q : D → Prop) : Prop := ∃ k, d = .bl k ∧ if k = true then A else Q (.bl false)
def kAt (xs : List D) (i : Int) (Q : D → Prop) : Prop := ∃ d, atI xs i = some d ∧ Q d
def kGcd (x y : D) (Q : SV → Prop) : Prop := ∃ i j : Int, [x, y] = [.int i, .int j] ∧ Q (.fz (.int ((Nat.gcd i.natAbs j.natAbs : Nat) : Int)))
def kRv (sv : SV) (Q : SV → Prop) : Prop := Q sv
section
variable {G : Gc} {ρ : En} {E : EndsD} {Q : D → Prop} {Qo : SV → Prop} {Qt : Bool → Prop} {Qa : List D → Prop} {i j l : Nat} {d e : D} {sv sw sx : SV} {wa wb wc : W} {wo : WO} {t : WT} {r : WA} {sa sb : WS} {wv : WV} {A : Prop} {K : En → Prop} {b : Bool} {o : Option SV} {xs : List D}
@[simp ↓] theorem k_and : kAnd (.bl b) A Q ↔ if b = true then A else Q (.bl false) := ⟨fun ⟨_, e, h⟩ => by cases e; exact h, fun h => ⟨b, rfl, h⟩⟩
@[simp ↓] theorem k_ch : kCh (.bl b) A Q ↔ if b = true then A else Q (.bl false) := ⟨fun ⟨_, e, h⟩ => by cases e; exact h, fun h => ⟨b, rfl, h⟩⟩
@[simp ↓] theorem k_or : kOr (.bl b) A Q ↔ if b = true then Q (.bl true) else A := ⟨fun ⟨_, e, h⟩ => by cases e; exact h, fun h => ⟨b, rfl, h⟩⟩
@[simp ↓] theorem k_tv : kTv (.bl b) Qt ↔ Qt b := ⟨fun ⟨_, e, h⟩ => by cases e; exact h, fun h => ⟨b, rfl, h⟩⟩
@[simp ↓] theorem k_neg {i : Int} : kNeg (.int i) Q ↔ Q (.int (-i)) := ⟨fun ⟨_, e, h⟩ => by cases e; exact h, fun h => ⟨i, rfl, h⟩⟩
@[simp ↓] theorem k_fz : kFz (.fz d) Q ↔ Q d := Iff.rfl
@[simp ↓] theorem k_ow : kFz (.ow xs) Q ↔ Q (.lst xs) := Iff.rfl
@[simp ↓] theorem k_isi_non {T : String} : kIsi T .non Q ↔ Q (.bl (isD T .non)) := ⟨fun h => h.2, fun h => ⟨fun _ z => (by cases z), h⟩⟩
@[simp ↓] theorem k_isi_bl {T : String} : kIsi T (.bl b) Q ↔ Q (.bl (isD T (.bl b))) := ⟨fun h => h.2, fun h => ⟨fun _ z => (by cases z), h⟩⟩
@[simp ↓] theorem k_isi_int {T : String} {i : Int} : kIsi T (.int i) Q ↔ Q (.bl (isD T (.int i))) := ⟨fun h => h.2, fun h => ⟨fun _ z => (by cases z), h⟩⟩
@[simp ↓] theorem k_isi_str {T : String} {x : Str} : kIsi T (.str x) Q ↔ Q (.bl (isD T (.str x))) := ⟨fun h => h.2, fun h => ⟨fun _ z => (by cases z), h⟩⟩
@[simp ↓] theorem k_isi_tup {T : String} : kIsi T (.tup xs) Q ↔ Q (.bl (isD T (.tup xs))) := ⟨fun h => h.2, fun h => ⟨fun _ z => (by cases z), h⟩⟩
@[simp ↓] theorem k_isi_lst {T : String} : kIsi T (.lst xs) Q ↔ Q (.bl (isD T (.lst xs))) := ⟨fun h => h.2, fun h => ⟨fun _ z => (by cases z), h⟩⟩
@[simp] theorem isD_t (d : D) : isD "tuple" d = (match d with | .tup _ => true | .tix _ => true | .tky _ => true | _ => false) := by cases d <;> rfl
@[simp] theorem isD_i (d : D) : isD "int" d = (match d with | .int _ => true | .bl _ => true | _ => false) := by cases d <;> rfl
@[simp] theorem isD_b (d : D) : isD "bool" d = (match d with | .bl _ => true | _ => false) := by cases d <;> rfl
@[simp] theorem isD_s (d : D) : isD "str" d = (match d with | .str _ => true | _ => false) := by cases d <;> rfl
@[simp] theorem isD_l (d : D) : isD "list" d = (match d with | .lst _ => true | _ => false) := by cases d <;> rfl
@[simp ↓] theorem k_isi_tix {T : String} : kIsi T (.tix xs) Q ↔ Q (.bl (isD T (.tix xs))) := ⟨fun h => h.2, fun h => ⟨fun _ z => (by cases z), h⟩⟩
@[simp ↓] theorem k_isi_tky {T : String} : kIsi T (.tky xs) Q ↔ Q (.bl (isD T (.tky xs))) := ⟨fun h => h.2, fun h => ⟨fun _ z => (by cases z), h⟩⟩
@[simp ↓] theorem k_itX : kIt (.tix xs) Qa ↔ Qa xs := ⟨fun ⟨_, e, h⟩ => by cases e; exact h, fun h => ⟨xs, rfl, h⟩⟩
@[simp ↓] theorem k_itK : kIt (.tky xs) Qa ↔ Qa xs := ⟨fun ⟨_, e, h⟩ => by cases e; exact h, fun h => ⟨xs, rfl, h⟩⟩
@[simp ↓] theorem k_itT : kIt (.tup xs) Qa ↔ Qa xs := ⟨fun ⟨_, e, h⟩ => by cases e; exact h, fun h => ⟨xs, rfl, h⟩⟩
@[simp ↓] theorem k_itL : kIt (.lst xs) Qa ↔ Qa xs := ⟨fun ⟨_, e, h⟩ => by cases e; exact h, fun h => ⟨xs, rfl, h⟩⟩
@[simp ↓] theorem k_r1 {j : Int} : kR1 [.int j] Qa ↔ -(2 ^ 62) ≤ j ∧ j < 2 ^ 62 ∧ Qa (rangeD 0 j.toNat) := ⟨fun ⟨_, e, h⟩ => by cases e; exact h, fun h => ⟨j, rfl, h⟩⟩
@[simp ↓] theorem k_r2 {i j : Int} : kR2 [.int i, .int j] Qa ↔ (-(2 ^ 62) ≤ i ∧ i < 2 ^ 62 ∧ -(2 ^ 62) ≤ j ∧ j < 2 ^ 62) ∧ Qa (rangeD i (j - i).toNat) := ⟨fun ⟨_, _, e, h⟩ => by cases e; exact h, fun h => ⟨i, j, rfl, h⟩⟩
@[simp ↓] theorem k_vofz {Qv : D → En → Prop} (h : imm d = true) : kVo (.fz d) ρ Qv ↔ Qv d ρ := by unfold kVo; dsimp only; rw [if_pos h]
@[simp ↓] theorem k_voow {Qv : D → En → Prop} (h : immL xs = true) : kVo (.ow xs) ρ Qv ↔ Qv (.lst xs) ρ := by unfold kVo; dsimp only; rw [if_pos h]
@[simp ↓] theorem k_s0 : kS (o :: ρ) 0 sv K ↔ K (some sv :: ρ) := Iff.rfl
@[simp ↓] theorem k_s1 : kS (o :: ρ) (i + 1) sv K ↔ kS ρ i sv fun ρ' => K (o :: ρ') := Iff.rfl
theorem put_immE (h : immS sv = true) : put ρ i sv = ρ.set i (some sv) := by unfold put; rw [h]
@[simp ↓] theorem k_put (h : immS sv = true) : kPut ρ i sv K ↔ kS ρ i sv K := by unfold kPut kS; rw [put_immE h]
@[simp ↓] theorem k_p2 (h : immS sv = true) (h2 : immS sw = true) : kP2 ρ i sv j sw K ↔ kS ρ i sv fun ρ' => kS ρ' j sw K := by unfold kP2 kS put2; rw [h, h2]; exact Iff.rfl
@[simp ↓] theorem k_p3 (h : immS sv = true) (h2 : immS sw = true) (h3 : immS sx = true) : kP3 ρ i sv j sw l sx K ↔ kS ρ i sv fun ρ' => kS ρ' j sw fun ρ' => kS ρ' l sx K := by unfold kP3 kS put3; rw [h, h2, h3]; exact Iff.rfl
@[simp ↓] theorem k_app0 : kApp (some (.ow xs) :: ρ) 0 d K ↔ xs.length < sizeLine ∧ K (some (.ow (xs ++ [d])) :: ρ) := ⟨fun ⟨_, e, h⟩ => by cases e; exact h, fun h => ⟨xs, rfl, h⟩⟩
@[simp ↓] theorem k_app1 : kApp (o :: ρ) (i + 1) d K ↔ kApp ρ i d fun ρ' => K (o :: ρ') := Iff.rfl
@[simp ↓] theorem k_ow0 : kOw (some (.ow xs) :: ρ) 0 ↔ True := ⟨fun _ => True.intro, fun _ => ⟨xs, rfl⟩⟩
@[simp ↓] theorem k_ow1 : kOw (o :: ρ) (i + 1) ↔ kOw ρ i := Iff.rfl
@[simp ↓] theorem k_sto1 {kd : D} : kSto (o :: ρ) (i + 1) kd d K ↔ kSto ρ i kd d fun ρ' => K (o :: ρ') := Iff.rfl
@[simp ↓] theorem k_gt {n : Nat} {Ka : List D → Prop} : kGt (.tup xs) n Ka ↔ xs.length = n ∧ Ka xs := ⟨fun ⟨_, e, h⟩ => by cases e; exact h, fun h => ⟨xs, rfl, h⟩⟩
@[simp ↓] theorem k_gc {Kc : D → List D → Prop} : kGc (d :: xs) Kc ↔ Kc d xs := ⟨fun ⟨_, _, e, h⟩ => by cases e; exact h, fun h => ⟨d, xs, rfl, h⟩⟩
/-! #### expressions -/
@[simp ↓] theorem s_var0 : wVar 0 G (some (.fz d) :: ρ) Q ↔ Q d := ⟨fun ⟨_, e, h⟩ => by cases e; exact h, fun h => ⟨_, rfl, h⟩⟩
@[simp ↓] theorem s_var0o : wVar 0 G (some (.ow xs) :: ρ) Q ↔ Q (.lst xs) := ⟨fun ⟨_, e, h⟩ => by cases e; exact h, fun h => ⟨_, rfl, h⟩⟩
@[simp ↓] theorem s_var1 : wVar (i + 1) G (o :: ρ) Q ↔ wVar i G ρ Q := Iff.rfl
@[simp ↓] theorem s_c : wC d G ρ Q ↔ Q d := Iff.rfl
@[simp ↓] theorem s_fz : wFz wo G ρ Q ↔ wo G ρ fun sv => kFz sv Q := Iff.rfl
@[simp ↓] theorem s_ofz : woFz wa G ρ Qo ↔ wa G ρ fun d => Qo (.fz d) := Iff.rfl
@[simp ↓] theorem s_op {op : D → D → (D → Prop) → Prop} : wOp op wa wb G ρ Q ↔ wa G ρ fun x => wb G ρ fun y => op x y Q := Iff.rfl
@[simp ↓] theorem s_opO {op : D → D → (SV → Prop) → Prop} : wOpO op wa wb G ρ Qo ↔ wa G ρ fun x => wb G ρ fun y => op x y Qo := Iff.rfl
@[simp ↓] theorem s_and : wAnd wa wb G ρ Q ↔ wa G ρ fun d => kAnd d (wb G ρ Q) Q := Iff.rfl
@[simp ↓] theorem s_or : wOr wa wb G ρ Q ↔ wa G ρ fun d => kOr d (wb G ρ Q) Q := Iff.rfl
@[simp ↓] theorem s_not : wNot wa G ρ Q ↔ wa G ρ fun d => kTv d fun k => Q (.bl (!k)) := Iff.rfl
@[simp ↓] theorem s_if : wIf t wa wb G ρ Q ↔ t G ρ fun k => if k = true then wa G ρ Q else wb G ρ Q := Iff.rfl
@[simp ↓] theorem s_oif {wo2 : WO} : woIf t wo wo2 G ρ Qo ↔ t G ρ fun k => if k = true then wo G ρ Qo else wo2 G ρ Qo := Iff.rfl
@[simp ↓] theorem s_tv : wtV wa G ρ Qt ↔ wa G ρ fun d => kTv d Qt := Iff.rfl
@[simp ↓] theorem s_tnot : wtNot t G ρ Qt ↔ t G ρ fun k => Qt (!k) := Iff.rfl
@[simp ↓] theorem s_tand {t2 : WT} : wtAnd t t2 G ρ Qt ↔ t G ρ fun k => if k = true then t2 G ρ Qt else Qt false := Iff.rfl
@[simp ↓] theorem s_tor {t2 : WT} : wtOr t t2 G ρ Qt ↔ t G ρ fun k => if k = true then Qt true else t2 G ρ Qt := Iff.rfl
@[simp ↓] theorem s_ttrue : wtTrue G ρ Qt ↔ Qt true := Iff.rfl
@[simp ↓] theorem s_anil : waNil G ρ Qa ↔ Qa [] := Iff.rfl
@[simp ↓] theorem s_acons : waCons wa r G ρ Qa ↔ wa G ρ fun d => r G ρ fun ds => Qa (d :: ds) := Iff.rfl
theorem len_small {n : Nat} (h : n ≤ 1000000) : n ≤ sizeLine := by rw [sizeLine_eq]; omega
@[simp ↓] theorem s_tup : wTup r G ρ Q ↔ r G ρ fun ds => ds.length ≤ sizeLine ∧ Q (.tup ds) := Iff.rfl
@[simp ↓] theorem s_lst : woLst r G ρ Qo ↔ r G ρ fun ds => ds.length ≤ sizeLine ∧ Qo (.ow ds) := Iff.rfl
@[simp ↓] theorem s_neg : wNeg wa G ρ Q ↔ wa G ρ fun d => kNeg d Q := Iff.rfl
@[simp ↓] theorem s_isi {T : String} : wIsi T wa G ρ Q ↔ wa G ρ fun d => kIsi T d Q := Iff.rfl
@[simp ↓] theorem s_cb {o : List D → (SV → Prop) → Prop} : woCB o r G ρ Qo ↔ r G ρ fun ds => o ds Qo := Iff.rfl
@[simp ↓] theorem s_call {sp : FS} : woCall sp r G ρ Qo ↔ r G ρ fun ds => sp G ds Qo := Iff.rfl
@[simp ↓] theorem s_callK2 {sp : FS} {i j : Nat} {wa wb : W} : woCallK 2 [i, j] sp (waCons wa (waCons wb waNil)) G ρ Qo ↔ wa G ρ fun x => wb G ρ fun y => sp G (permL [i, j] [x, y]) Qo := by
  constructor <;> intro h <;> simpa [woCallK, waCons, waNil] using h
@[simp ↓] theorem s_callK3 {sp : FS} {i j k : Nat} {wa wb wc : W} : woCallK 3 [i, j, k] sp (waCons wa (waCons wb (waCons wc waNil))) G ρ Qo ↔ wa G ρ fun x => wb G ρ fun y => wc G ρ fun z => sp G (permL [i, j, k] [x, y, z]) Qo := by
  constructor <;> intro h <;> simpa [woCallK, waCons, waNil] using h
@[simp ↓] theorem s_callK4 {sp : FS} {i j k l : Nat} {wa wb wc wd : W} : woCallK 4 [i, j, k, l] sp (waCons wa (waCons wb (waCons wc (waCons wd waNil)))) G ρ Qo ↔ wa G ρ fun x => wb G ρ fun y => wc G ρ fun z => wd G ρ fun u => sp G (permL [i, j, k, l] [x, y, z, u]) Qo := by
  constructor <;> intro h <;> simpa [woCallK, waCons, waNil] using h
@[simp ↓] theorem s_chain {o o' : D → D → (D → Prop) → Prop} : wChain o o' wa wb wc G ρ Q ↔ wa G ρ fun x => wb G ρ fun y => o x y fun z => kCh z (wc G ρ fun u => o' y u Q) Q := Iff.rfl
@[simp ↓] theorem s_I0 {i j : Int} {g : Int → Int → Int} : oI0 g (.int i) (.int j) Q ↔ Q (.int (g i j)) := ⟨fun ⟨_, _, e1, e2, h⟩ => by cases e1; cases e2; exact h, fun h => ⟨_, _, rfl, rfl, h⟩⟩
@[simp ↓] theorem s_I {i j : Int} {C : Int → Int → Prop} {g : Int → Int → Int} : oI C g (.int i) (.int j) Q ↔ C i j ∧ Q (.int (g i j)) := ⟨fun ⟨_, _, e1, e2, h⟩ => by cases e1; cases e2; exact h, fun h => ⟨_, _, rfl, rfl, h⟩⟩
@[simp ↓] theorem s_B0 {i j : Int} {g : Int → Int → Bool} : oB0 g (.int i) (.int j) Q ↔ Q (.bl (g i j)) := ⟨fun ⟨_, _, e1, e2, h⟩ => by cases e1; cases e2; exact h, fun h => ⟨_, _, rfl, rfl, h⟩⟩
@[simp ↓] theorem s_add {i j : Int} : oAdd (.int i) (.int j) Qo ↔ Qo (.fz (.int (i + j))) := by simp [oAdd, tupsOf]
@[simp ↓] theorem s_addT {xs ys : List D} : oAdd (.tup xs) (.tup ys) Qo ↔ xs.length + ys.length ≤ sizeLine ∧ Qo (.fz (.tup (xs ++ ys))) := by simp [oAdd, tupsOf]
@[simp ↓] theorem s_addL {xs ys : List D} : oAdd (.lst xs) (.lst ys) Qo ↔ xs.length + ys.length ≤ sizeLine ∧ Qo (.ow (xs ++ ys)) := by simp [oAdd, tupsOf]
@[simp ↓] theorem s_mul {i j : Int} : oMul (.int i) (.int j) Qo ↔ CMul i j ∧ Qo (.fz (.int (i * j))) := by simp [oMul, tupsOf]
@[simp ↓] theorem s_mulL {xs : List D} {j : Int} : oMul (.lst xs) (.int j) Qo ↔ (-(2 ^ 63) ≤ j ∧ j < 2 ^ 63 ∧ xs.length * j.toNat ≤ sizeLine ∧ Qo (.ow (List.replicate j.toNat xs).flatten)) := by simp [oMul, tupsOf, and_assoc]
@[simp ↓] theorem s_max {i j : Int} : oMax [.int i, .int j] Qo ↔ Qo (.fz (.int (max i j))) := by
  have e : (if j > i then j else i) = max i j := by split <;> omega
  exact ⟨fun ⟨i', j', z, q⟩ => by cases z; rw [← e]; exact q, fun q => ⟨i, j, rfl, by rw [e]; exact q⟩⟩
@[simp ↓] theorem s_min {i j : Int} : oMin [.int i, .int j] Qo ↔ Qo (.fz (.int (min i j))) := by
  have e : (if j < i then j else i) = min i j := by split <;> omega
  exact ⟨fun ⟨i', j', z, q⟩ => by cases z; rw [← e]; exact q, fun q => ⟨i, j, rfl, by rw [e]; exact q⟩⟩
@[simp ↓] theorem s_lenT : oLen [.tup xs] Qo ↔ Qo (.fz (.int xs.length)) := by simp [oLen, itemsOf]
@[simp ↓] theorem s_lenL : oLen [.lst xs] Qo ↔ Qo (.fz (.int xs.length)) := by simp [oLen, itemsOf]
@[simp ↓] theorem s_intI {i : Int} : oInt [.int i] Qo ↔ Qo (.fz (.int i)) := by simp [oInt]
@[simp ↓] theorem s_tupL : oTuple [.lst xs] Qo ↔ Qo (.fz (.tup xs)) := by simp [oTuple, itemsOf]
@[simp ↓] theorem s_tupT : oTuple [.tup xs] Qo ↔ Qo (.fz (.tup xs)) := by simp [oTuple, itemsOf]
@[simp ↓] theorem s_listL : oList [.lst xs] Qo ↔ Qo (.ow xs) := by simp [oList, itemsOf]
@[simp ↓] theorem s_listT : oList [.tup xs] Qo ↔ Qo (.ow xs) := by simp [oList, itemsOf]
theorem bl_inj : ∀ {a b : List Bool}, a.map D.bl = b.map D.bl → a = b
  | [], [], _ => rfl
  | [], _ :: _, h => by cases h
  | _ :: _, [], h => by cases h
  | x :: a, y :: b, h => by
    rw [List.map_cons, List.map_cons] at h
    injection h with h1 h2
    injection h1 with h1
    rw [h1, bl_inj h2]
@[simp ↓] theorem s_allB {bs : List Bool} : oAll [.lst (bs.map .bl)] Qo ↔ Qo (.fz (.bl (bs.all id))) := ⟨fun ⟨cs, e, h⟩ => by
  have e2 : bs.map D.bl = cs.map D.bl := by injection e with e _; injection e
  rw [bl_inj e2]; exact h, fun h => ⟨bs, rfl, h⟩⟩
@[simp ↓] theorem s_anyB {bs : List Bool} : oAny [.lst (bs.map .bl)] Qo ↔ Qo (.fz (.bl (bs.any id))) := ⟨fun ⟨cs, e, h⟩ => by
  have e2 : bs.map D.bl = cs.map D.bl := by injection e with e _; injection e
  rw [bl_inj e2]; exact h, fun h => ⟨bs, rfl, h⟩⟩
@[simp ↓] theorem s_eqS {x y : Str} : oEqS (.str x) (.str y) Q ↔ Q (.bl (decide (x = y))) := by simp [oEqS]
@[simp ↓] theorem s_neS {x y : Str} : oNeS (.str x) (.str y) Q ↔ Q (.bl (!decide (x = y))) := by simp [oNeS]
@[simp ↓] theorem s_eq0 : oEq0 (.tup xs) (.tup []) Q ↔ Q (.bl xs.isEmpty) := by simp [oEq0, tupsOf]
@[simp ↓] theorem s_isN : oIsNon d .non Q ↔ Q (.bl (match d with | .non => true | _ => false)) := ⟨fun h => h.2, fun h => ⟨rfl, h⟩⟩
@[simp ↓] theorem s_notN : oNotNon d .non Q ↔ Q (.bl (!match d with | .non => true | _ => false)) := ⟨fun h => h.2, fun h => ⟨rfl, h⟩⟩
@[simp ↓] theorem s_isB {a b : Bool} : oIsBl (.bl a) (.bl b) Q ↔ Q (.bl (decide (a = b))) := ⟨fun ⟨_, _, e1, e2, h⟩ => by cases e1; cases e2; exact h, fun h => ⟨_, _, rfl, rfl, h⟩⟩
@[simp ↓] theorem s_notB {a b : Bool} : oNotBl (.bl a) (.bl b) Q ↔ Q (.bl (!decide (a = b))) := ⟨fun ⟨_, _, e1, e2, h⟩ => by cases e1; cases e2; exact h, fun h => ⟨_, _, rfl, rfl, h⟩⟩
@[simp ↓] theorem s_ixT {i : Int} : oIx (.tup xs) (.int i) Q ↔ kAt xs i Q := by
  constructor
  · rintro ⟨_, e1, h⟩
    cases e1
    rcases h with ⟨ys, d, e2, e3, h⟩ | ⟨_, _, e2, _⟩
    · cases e2; exact ⟨d, e3, h⟩
    · cases e2
  · rintro ⟨d, e, h⟩
    exact ⟨i, rfl, .inl ⟨xs, d, rfl, e, h⟩⟩
@[simp ↓] theorem s_ixL {i : Int} : oIx (.lst xs) (.int i) Q ↔ kAt xs i Q := by
  constructor
  · rintro ⟨_, e1, h⟩
    cases e1
    rcases h with ⟨ys, d, e2, e3, h⟩ | ⟨_, _, e2, _⟩
    · cases e2; exact ⟨d, e3, h⟩
    · cases e2
  · rintro ⟨d, e, h⟩
    exact ⟨i, rfl, .inl ⟨xs, d, rfl, e, h⟩⟩
theorem k_at {i : Int} (h : atI xs i = some d) : kAt xs i Q ↔ Q d := ⟨fun ⟨e, z, q⟩ => by rw [h] at z; cases z; exact q, fun q => ⟨d, h, q⟩⟩
@[simp ↓] theorem k_at0 {d0 : D} : kAt (d0 :: xs) 0 Q ↔ Q d0 := k_at (atI_nat (i := 0) rfl)
@[simp ↓] theorem k_at1 {d0 d1 : D} : kAt (d0 :: d1 :: xs) 1 Q ↔ Q d1 := k_at (atI_nat (i := 1) rfl)
@[simp ↓] theorem k_at2 {d0 d1 d2 : D} : kAt (d0 :: d1 :: d2 :: xs) 2 Q ↔ Q d2 := k_at (atI_nat (i := 2) rfl)
@[simp ↓] theorem k_at3 {d0 d1 d2 d3 : D} : kAt (d0 :: d1 :: d2 :: d3 :: xs) 3 Q ↔ Q d3 := k_at (atI_nat (i := 3) rfl)
@[simp ↓] theorem k_at4 {d0 d1 d2 d3 d4 : D} : kAt (d0 :: d1 :: d2 :: d3 :: d4 :: xs) 4 Q ↔ Q d4 := k_at (atI_nat (i := 4) rfl)
theorem k_tabs {kvs : List (Str × D)} {x : Str} (h : kvs.lookup x = some d) : kTab kvs (.str x) Q ↔ Q d := ⟨fun ⟨_, z, e, h1, q⟩ => by cases e; rw [h] at h1; cases h1; exact q, fun q => ⟨_, d, rfl, h, q⟩⟩
theorem k_sto {k : Int} (h : ixN xs.length k = some j) : kSto (some (.ow xs) :: ρ) 0 (.int k) d K ↔ K (some (.ow (xs.set j d)) :: ρ) := ⟨fun ⟨_, j', _, e, e2, e3, q⟩ => by cases e; cases e2; rw [h] at e3; cases e3; exact q, fun q => ⟨k, j, xs, rfl, rfl, h, q⟩⟩
@[simp ↓] theorem s_tab {kvs : List (Str × D)} : wTab kvs wa G ρ Q ↔ wa G ρ fun d => kTab kvs d Q := Iff.rfl
@[simp ↓] theorem k_gcd {i j : Int} : kGcd (.int i) (.int j) Qo ↔ Qo (.fz (.int ((Nat.gcd i.natAbs j.natAbs : Nat) : Int))) := ⟨fun ⟨_, _, e, h⟩ => by cases e; exact h, fun h => ⟨i, j, rfl, h⟩⟩
@[simp ↓] theorem s_gcd {wa wb : W} : woGcd (waCons wa (waCons wb waNil)) G ρ Qo ↔ wa G ρ fun x => wb G ρ fun y => kGcd x y Qo := Iff.rfl
@[simp ↓] theorem s_no : wNo G ρ Q ↔ False := Iff.rfl
@[simp ↓] theorem s_ono : woNo G ρ Qo ↔ False := Iff.rfl
/-! #### statements -/
@[simp ↓] theorem s_seq : wSeq sa sb G E ρ ↔ sa G { nx := fun ρ' => sb G E ρ', rt := E.rt, bk := E.bk, ct := E.ct } ρ := Iff.rfl
@[simp ↓] theorem s_next : wNext G E ρ ↔ E.nx ρ := Iff.rfl
@[simp ↓] theorem s_never : wNever G E ρ ↔ False := Iff.rfl
@[simp ↓] theorem s_ret : wRet wo G E ρ ↔ wo G ρ E.rt := Iff.rfl
@[simp ↓] theorem s_retN : wRetN G E ρ ↔ E.rt (.fz .non) := Iff.rfl
@[simp ↓] theorem s_retV0 : wRetV 0 G E (some sv :: ρ) ↔ E.rt sv := ⟨fun ⟨_, e, h⟩ => by cases e; exact h, fun h => ⟨_, rfl, h⟩⟩
@[simp ↓] theorem s_retV1 : wRetV (i + 1) G E (o :: ρ) ↔ wRetV i G E ρ := Iff.rfl
@[simp ↓] theorem s_ifS : wIfS t sa sb G E ρ ↔ t G ρ fun k => if k = true then sa G E ρ else sb G E ρ := Iff.rfl
@[simp ↓] theorem s_set : wSet i wo G E ρ ↔ i < ρ.length ∧ wo G ρ fun sv => kPut ρ i sv E.nx := Iff.rfl
@[simp ↓] theorem s_setG : wSetG i wv G E ρ ↔ wv G ρ fun d ρ' => i < ρ'.length ∧ kS ρ' i (.fz d) E.nx := Iff.rfl
@[simp ↓] theorem s_break : wBreak G E ρ ↔ E.bk ρ := Iff.rfl
@[simp ↓] theorem s_cont : wCont G E ρ ↔ E.ct ρ := Iff.rfl
@[simp ↓] theorem s_expr : wExpr wa G E ρ ↔ wa G ρ fun _ => E.nx ρ := Iff.rfl
@[simp ↓] theorem s_par2 {wo2 : WO} : wPar2 i j wo wo2 G E ρ ↔ i < ρ.length ∧ j < ρ.length ∧ wo G ρ fun sv => ∀ G', GExt G G' → wo2 G' ρ fun sw => kP2 ρ i sv j sw E.nx := Iff.rfl
@[simp ↓] theorem s_par3 {wo2 wo3 : WO} : wPar3 i j l wo wo2 wo3 G E ρ ↔ i < ρ.length ∧ j < ρ.length ∧ l < ρ.length ∧ wo G ρ fun sv => ∀ G', GExt G G' → wo2 G' ρ fun sw => ∀ G2, GExt G' G2 → wo3 G2 ρ fun sx => kP3 ρ i sv j sw l sx E.nx := Iff.rfl
@[simp ↓] theorem s_app : wApp i wv G E ρ ↔ kOw ρ i ∧ wv G ρ fun d ρ' => kApp ρ' i d E.nx := Iff.rfl
@[simp ↓] theorem s_store {wk : W} : wStoreIx i wk wv G E ρ ↔ wv G ρ fun d ρ' => kOw ρ' i ∧ wk G ρ' fun kd => kSto ρ' i kd d E.nx := Iff.rfl
@[simp ↓] theorem s_for {wi : WIS} {wg : WG} {wb : WS} : wFor wi wg wb G E ρ ↔ wi G ρ fun ds ρ' => wForL wg wb G E ds ρ' := Iff.rfl
@[simp ↓] theorem s_for0 {wg : WG} {wb : WS} : wForL wg wb G E [] ρ ↔ E.nx ρ := Iff.rfl
theorem s_for1 {wg : WG} {wb : WS} {l : List D} : wForL wg wb G E (d :: l) ρ ↔ wg d ρ fun ρ2 => wb G { nx := wForL wg wb G E l, rt := E.rt, bk := E.nx, ct := wForL wg wb G E l } ρ2 := Iff.rfl
@[simp ↓] theorem s_gname {Qe : En → Prop} : wgName i d ρ Qe ↔ i < ρ.length ∧ kS ρ i (.fz d) Qe := Iff.rfl
@[simp ↓] theorem s_gtup {n : Nat} {gs : WGs} {Qe : En → Prop} : wgTup n gs d ρ Qe ↔ kGt d n fun ds => gs ds ρ Qe := Iff.rfl
@[simp ↓] theorem s_gnil {Qe : En → Prop} : wgNil [] ρ Qe ↔ Qe ρ := ⟨fun h => h.2, fun h => ⟨rfl, h⟩⟩
@[simp ↓] theorem s_gcons {ds : List D} {g : WG} {gs : WGs} {Qe : En → Prop} : wgCons g gs ds ρ Qe ↔ kGc ds fun d r => g d ρ fun ρ' => gs r ρ' Qe := Iff.rfl
/-! #### what is walked -/
@[simp ↓] theorem s_vo {Qv : D → En → Prop} : wvO wo G ρ Qv ↔ wo G ρ fun sv => kVo sv ρ Qv := Iff.rfl
@[simp ↓] theorem s_vv0 {Qv : D → En → Prop} : wvVar 0 G (some (.fz d) :: ρ) Qv ↔ Qv d (some (.fz d) :: ρ) := ⟨fun ⟨_, e, h⟩ => by cases e; exact h, fun h => ⟨_, rfl, h⟩⟩
@[simp ↓] theorem s_vv1 {Qv : D → En → Prop} : wvVar (i + 1) G (some (.fz e) :: ρ) Qv ↔ wvVar i G ρ fun d ρ' => Qv d (some (.fz e) :: ρ') := ⟨fun ⟨sv, z, h⟩ => ⟨sv, z, by cases sv <;> exact h⟩, fun ⟨sv, z, h⟩ => ⟨sv, z, by cases sv <;> exact h⟩⟩
@[simp ↓] theorem s_vv2 {Qv : D → En → Prop} : wvVar (i + 1) G (none :: ρ) Qv ↔ wvVar i G ρ fun d ρ' => Qv d (none :: ρ') := ⟨fun ⟨sv, z, h⟩ => ⟨sv, z, by cases sv <;> exact h⟩, fun ⟨sv, z, h⟩ => ⟨sv, z, by cases sv <;> exact h⟩⟩
@[simp ↓] theorem s_jseq {Qj : List D → En → Prop} : wjSeq wv G ρ Qj ↔ wv G ρ fun d ρ' => kIt d fun ds => Qj ds ρ' := Iff.rfl
@[simp ↓] theorem s_jr1 {Qj : List D → En → Prop} : wjRange1 r G ρ Qj ↔ r G ρ fun ds => kR1 ds fun l => Qj l ρ := Iff.rfl
@[simp ↓] theorem s_jr2 {Qj : List D → En → Prop} : wjRange2 r G ρ Qj ↔ r G ρ fun ds => kR2 ds fun l => Qj l ρ := Iff.rfl
@[simp ↓] theorem s_iseq : wiSeq wa G ρ Qa ↔ wa G ρ fun d => kIt d Qa := Iff.rfl
@[simp ↓] theorem s_ir1 : wiRange1 r G ρ Qa ↔ r G ρ fun ds => kR1 ds Qa := Iff.rfl
@[simp ↓] theorem s_ir2 : wiRange2 r G ρ Qa ↔ r G ρ fun ds => kR2 ds Qa := Iff.rfl
@[simp ↓] theorem s_comp {wi : WA} {wg : WG} {we : W} {vs : List Nat} : wComp wi wg t we vs G ρ Qo ↔ wi G ρ fun ds => wcL wg t we vs G ρ ds [] fun acc => Qo (.ow acc) := Iff.rfl
end
/-! ### slots -/
@[simp] theorem imm_non : imm .non = true := of_eq_true (eq_true rfl)
@[simp] theorem imm_bl {b : Bool} : imm (.bl b) = true := of_eq_true (eq_true rfl)
@[simp] theorem imm_int {i : Int} : imm (.int i) = true := of_eq_true (eq_true rfl)
@[simp] theorem imm_str {x : Str} : imm (.str x) = true := of_eq_true (eq_true rfl)
@[simp] theorem imm_ob {a : Addr} : imm (.ob a) = true := of_eq_true (eq_true rfl)
@[simp] theorem imm_tup {xs : List D} : imm (.tup xs) = immL xs := by unfold imm; rfl
@[simp] theorem imm_lst {xs : List D} : imm (.lst xs) = false := by unfold imm; rfl
@[simp] theorem immL_nil : immL [] = true := of_eq_true (eq_true rfl)
@[simp] theorem immL_cons {x : D} {xs : List D} : immL (x :: xs) = (imm x && immL xs) := by conv => lhs; unfold immL
@[simp] theorem immS_fz {d : D} : immS (.fz d) = imm d := of_eq_true (eq_true rfl)
@[simp] theorem immS_ow {xs : List D} : immS (.ow xs) = immL xs := of_eq_true (eq_true rfl)
theorem immL_all : ∀ {xs : List D}, (∀ x ∈ xs, imm x = true) → immL xs = true
  | [], _ => rfl
  | x :: xs, h => by rw [immL_cons, h x List.mem_cons_self, immL_all fun y hy => h y (List.mem_cons_of_mem _ hy)]; rfl
theorem immL_app : ∀ {xs ys : List D}, immL (xs ++ ys) = (immL xs && immL ys)
  | [], ys => by simp
  | x :: xs, ys => by rw [List.cons_append, immL_cons, immL_cons, immL_app, Bool.and_assoc]
theorem le_small {n : Nat} (h : n ≤ 1000000) : n ≤ sizeLine := by rw [sizeLine_eq]; omega
theorem lt_small {n : Nat} (h : n ≤ 1000000) : n < sizeLine := by rw [sizeLine_eq]; omega
@[simp] theorem atI_0 {α : Type} {x : α} {xs : List α} : atI (x :: xs) 0 = some x := atI_nat (i := 0) rfl
@[simp] theorem atI_1 {α : Type} {x y : α} {xs : List α} : atI (x :: y :: xs) 1 = some y := atI_nat (i := 1) rfl
@[simp] theorem atI_2 {α : Type} {x y z : α} {xs : List α} : atI (x :: y :: z :: xs) 2 = some z := atI_nat (i := 2) rfl
theorem atI_ok {α : Type} {xs : List α} {i : Int} (h0 : 0 ≤ i) (h1 : i < xs.length) : ∃ x, atI xs i = some x ∧ xs[i.toNat]? = some x := by
  have hk : i.toNat < xs.length := by omega
  have e := atI_nat (List.getElem?_eq_getElem hk)
  rw [Int.toNat_of_nonneg h0] at e
  exact ⟨_, e, List.getElem?_eq_getElem hk⟩
/-! ### equality of data -/
@[simp ↓] theorem s_eqI {i j : Int} {Q : D → Prop} : oEq (.int i) (.int j) Q ↔ Q (.bl (decide (i = j))) := by
  constructor
  · rintro ⟨p, q, e1, e2, _, _, z⟩
    cases e1; cases e2
    rw [eqv_int] at z
    exact z
  · exact oEq_int
@[simp ↓] theorem s_neI {i j : Int} {Q : D → Prop} : oNe (.int i) (.int j) Q ↔ Q (.bl (!decide (i = j))) := by
  constructor
  · rintro ⟨p, q, e1, e2, _, _, z⟩
    cases e1; cases e2
    rw [eqv_int] at z
    exact z
  · exact oNe_int
/-! ### loops -/
/-- a comprehension, turn by turn -/
theorem wcL_fm {wg : WG} {wt : WT} {we : W} {vs : List Nat} {G : Gc} {ρ : En} (p : D → Bool) (f : D → D) : ∀ (ds acc : List D) (Q : List D → Prop),
    (∀ d ∈ ds, ∀ G', GExt G G' → ∀ (Qy : D → Prop) (Qn : Prop), (p d = true → Qy (f d)) → (p d = false → Qn) → wg d (wipeD ρ vs) fun ρ2 => wt G' ρ2 fun b => if b = true then we G' ρ2 Qy else Qn) →
    acc.length + ds.length ≤ sizeLine → Q (acc ++ (ds.filter p).map f) → wcL wg wt we vs G ρ ds acc Q
  | [], acc, Q, _, _, q => by
    rw [List.filter_nil, List.map_nil, List.append_nil] at q
    exact q
  | d :: ds, acc, Q, h, hl, q => fun G' hG => by
    have hl' : acc.length + ds.length < sizeLine := by rw [List.length_cons] at hl; omega
    refine h d List.mem_cons_self G' hG _ _ (fun hp => ⟨by omega, ?_⟩) (fun hp => ?_)
    · refine wcL_fm p f ds (acc ++ [f d]) Q (fun e he => h e (List.mem_cons_of_mem _ he)) (by rw [List.length_append, List.length_singleton]; omega) ?_
      rw [List.filter_cons, if_pos hp, List.map_cons] at q
      rw [List.append_assoc]
      exact q
    · refine wcL_fm p f ds acc Q (fun e he => h e (List.mem_cons_of_mem _ he)) (by omega) ?_
      rw [List.filter_cons, if_neg (by rw [hp]; exact Bool.false_ne_true)] at q
      exact q
/-- without a test -/
theorem wcL_map {wg : WG} {we : W} {vs : List Nat} {G : Gc} {ρ : En} (f : D → D) (ds : List D) (Q : List D → Prop)
    (h : ∀ d ∈ ds, ∀ G', GExt G G' → ∀ Qy : D → Prop, Qy (f d) → wg d (wipeD ρ vs) fun ρ2 => we G' ρ2 Qy) (hl : ds.length ≤ sizeLine) (q : Q (ds.map f)) : wcL wg wtTrue we vs G ρ ds [] Q :=
  wcL_fm (fun _ => true) f ds [] Q (fun d hd G' hG Qy Qn hy _ => by
    simp only [s_ttrue, if_true]
    exact h d hd G' hG Qy (hy rfl)) (by simpa using hl) (by
    rw [List.filter_eq_self.mpr fun _ _ => rfl]; exact q)
/-- what each turn draws is not known: only that it is good -/
theorem wcL_any {wg : WG} {we : W} {vs : List Nat} {G : Gc} {ρ : En} (J : D → Prop) : ∀ (ds acc : List D) (Q : List D → Prop),
    (∀ d ∈ ds, ∀ G', GExt G G' → ∀ Qy : D → Prop, (∀ y, J y → Qy y) → wg d (wipeD ρ vs) fun ρ2 => we G' ρ2 Qy) → acc.length + ds.length ≤ sizeLine → (∀ ys : List D, ys.length = ds.length → (∀ y ∈ ys, J y) → Q (acc ++ ys)) → wcL wg wtTrue we vs G ρ ds acc Q
  | [], acc, Q, _, _, q => by
    have := q [] rfl (by simp)
    rw [List.append_nil] at this
    exact this
  | d :: ds, acc, Q, h, hl, q => fun G' hG => by
    simp only [s_ttrue, if_true]
    rw [List.length_cons] at hl
    refine h d List.mem_cons_self G' hG _ fun y hy => ⟨by omega, ?_⟩
    refine wcL_any J ds (acc ++ [y]) Q (fun e he => h e (List.mem_cons_of_mem _ he)) (by rw [List.length_append, List.length_singleton]; omega) fun ys hl2 hj => ?_
    rw [List.append_assoc]
    exact q (y :: ys) (by rw [List.length_cons, hl2, List.length_cons]) fun z hz => by
      rcases List.mem_cons.mp hz with rfl | hz
      · exact hy
      · exact hj z hz
/-- a for by an invariant -/
theorem wFor_inv {wg : WG} {wb : WS} {G : Gc} {E : EndsD} (I : Nat → En → Prop) : ∀ (l : List D) (k : Nat) (ρ : En), I k ρ →
    (∀ (i : Nat) (d : D) (ρ : En) (N : En → Prop), l[i]? = some d → I (k + i) ρ → (∀ ρ', I (k + i + 1) ρ' → N ρ') → wg d ρ fun ρ2 => wb G { nx := N, rt := E.rt, bk := E.nx, ct := N } ρ2) → (∀ ρ, I (k + l.length) ρ → E.nx ρ) → wForL wg wb G E l ρ
  | [], k, ρ, h, _, q => q ρ h
  | d :: l, k, ρ, h, hs, q => by
    refine hs 0 d ρ _ rfl h fun ρ' h' => ?_
    refine wFor_inv I l (k + 1) ρ' h' (fun i d ρ N e hi hN => ?_) (fun ρ hρ => q ρ ?_)
    · have e1 : k + 1 + i = k + (i + 1) := by omega
      rw [e1] at hi hN
      exact hs (i + 1) d ρ N (by simpa using e) hi hN
    · have e1 : k + 1 + l.length = k + (d :: l).length := by rw [List.length_cons]; omega
      rw [e1] at hρ
      exact hρ
/-! ### small sizes -/
@[simp] theorem sz_0 : 0 ≤ sizeLine := len_small (by decide)
@[simp] theorem sz_1 : 1 ≤ sizeLine := len_small (by decide)
@[simp] theorem sz_2 : 2 ≤ sizeLine := len_small (by decide)
@[simp] theorem sz_3 : 3 ≤ sizeLine := len_small (by decide)
@[simp] theorem sz_4 : 4 ≤ sizeLine := len_small (by decide)
@[simp] theorem sz_5 : 5 ≤ sizeLine := len_small (by decide)
@[simp] theorem sz_6 : 6 ≤ sizeLine := len_small (by decide)
@[simp] theorem sz_7 : 7 ≤ sizeLine := len_small (by decide)
@[simp] theorem sz_8 : 8 ≤ sizeLine := len_small (by decide)
@[simp] theorem sz_9 : 9 ≤ sizeLine := len_small (by decide)
@[simp] theorem sz_10 : 10 ≤ sizeLine := len_small (by decide)
@[simp] theorem sz_11 : 11 ≤ sizeLine := len_small (by decide)
@[simp] theorem sz_12 : 12 ≤ sizeLine := len_small (by decide)
@[simp] theorem sz_13 : 13 ≤ sizeLine := len_small (by decide)
@[simp] theorem sz_14 : 14 ≤ sizeLine := len_small (by decide)
@[simp] theorem sz_15 : 15 ≤ sizeLine := len_small (by decide)
@[simp] theorem sz_16 : 16 ≤ sizeLine := len_small (by decide)
@[simp] theorem sz_17 : 17 ≤ sizeLine := len_small (by decide)
@[simp] theorem sz_18 : 18 ≤ sizeLine := len_small (by decide)
@[simp] theorem sz_19 : 19 ≤ sizeLine := len_small (by decide)
@[simp] theorem sz_20 : 20 ≤ sizeLine := len_small (by decide)
@[simp] theorem sz_21 : 21 ≤ sizeLine := len_small (by decide)
@[simp] theorem sz_22 : 22 ≤ sizeLine := len_small (by decide)
@[simp] theorem sz_23 : 23 ≤ sizeLine := len_small (by decide)
@[simp] theorem sz_24 : 24 ≤ sizeLine := len_small (by decide)
@[simp] theorem sz_25 : 25 ≤ sizeLine := len_small (by decide)
@[simp] theorem sz_26 : 26 ≤ sizeLine := len_small (by decide)
@[simp] theorem sz_27 : 27 ≤ sizeLine := len_small (by decide)
@[simp] theorem sz_28 : 28 ≤ sizeLine := len_small (by decide)
@[simp] theorem sz_29 : 29 ≤ sizeLine := len_small (by decide)
@[simp] theorem sz_30 : 30 ≤ sizeLine := len_small (by decide)
theorem eqv_bl (a b : Bool) : PyData.eqv (.bool a) (.bool b) = decide (a = b) := by cases a <;> cases b <;> rfl
@[simp ↓] theorem k_neB {a b : Bool} {Q : D → Prop} : oNe (.bl a) (.bl b) Q ↔ Q (.bl (!decide (a = b))) := by
  constructor
  · rintro ⟨p, q, e1, e2, _, _, z⟩
    cases e1; cases e2
    rw [eqv_bl] at z; exact z
  · intro z
    exact ⟨_, _, rfl, rfl, rfl, rfl, by rw [eqv_bl]; exact z⟩
@[simp ↓] theorem k_eqB {a b : Bool} {Q : D → Prop} : oEq (.bl a) (.bl b) Q ↔ Q (.bl (decide (a = b))) := by
  constructor
  · rintro ⟨p, q, e1, e2, _, _, z⟩
    cases e1; cases e2
    rw [eqv_bl] at z; exact z
  · intro z
    exact ⟨_, _, rfl, rfl, rfl, rfl, by rw [eqv_bl]; exact z⟩
@[simp ↓] theorem k_neBB {a b c d : Bool} {Q : D → Prop} : oNe (.lst [.bl a, .bl b]) (.lst [.bl c, .bl d]) Q ↔ Q (.bl (!(decide (a = c) && decide (b = d)))) := by
  have e : PyData.eqv (.list [.bool a, .bool b]) (.list [.bool c, .bool d]) = (decide (a = c) && decide (b = d)) := by cases a <;> cases b <;> cases c <;> cases d <;> rfl
  constructor
  · rintro ⟨p, q, e1, e2, _, _, z⟩
    cases e1; cases e2
    rw [e] at z; exact z
  · intro z
    exact ⟨_, _, rfl, rfl, rfl, rfl, by rw [e]; exact z⟩
/-! ### a law's draws -/
@[simp ↓] theorem c_draw {G : Gc} {da : Addr} {n : Int} {Q : SV → Prop} : s_draw G [.ob da, .int n] Q ↔ IsDeck G da ∧ 0 < n ∧ n < 1073741824 ∧ ∀ k : Int, 0 ≤ k → k < n → Q (.fz (.int k)) := ⟨fun ⟨_, _, e, h⟩ => by cases e; exact h, fun h => ⟨_, _, rfl, h⟩⟩
def kAll (xs : List D) (P : D → Prop) : Prop := ∀ x ∈ xs, P x
/-- one of some values, drawn -/
def s_pick : FS := fun G ds Q => ∃ (da : Addr) (xs : List D), ds = [.ob da, .lst xs] ∧ IsDeck G da ∧ 0 < xs.length ∧ xs.length < 1073741824 ∧ kAll xs fun x => Q (.fz x)
@[simp ↓] theorem c_pick {G : Gc} {da : Addr} {xs : List D} {Q : SV → Prop} : s_pick G [.ob da, .lst xs] Q ↔ IsDeck G da ∧ 0 < xs.length ∧ xs.length < 1073741824 ∧ kAll xs fun x => Q (.fz x) := ⟨fun ⟨_, _, e, h⟩ => by cases e; exact h, fun h => ⟨_, _, rfl, h⟩⟩
end DL
set_option maxHeartbeats 4000000
namespace DL
open PySem PySem.Spec PyProof.Rows L2

/-! ### dicts, tuples of the two other kinds, comprehensions of two clauses: unfolded outside-in -/
def kOd (ρ : En) (i : Nat) : Prop := ∃ t kds, ρ[i]? = some (some (.od t kds))
def kPd (ρ : En) (i : Nat) (kd d : D) (K : En → Prop) : Prop := ∃ sv sw, ρ[i]? = some (some sv) ∧ Ptd kd d sv sw ∧ K (ρ.set i (some sw))
def kSS (d : D) (Q : SV → Prop) : Prop := ∃ ns : List Int, itemsOf d = some (ns.map .int) ∧ Few ns ∧ ∀ ms : List Int, ms.Pairwise (· < ·) → (∀ k, k ∈ ms ↔ k ∈ ns) → Q (.ow (ms.map .int))
def kIxT (x : D) (A : (D → Prop) → Prop) (Q : D → Prop) : Prop := ∃ ys : List Int, x = .tix (ys.map .int) ∧ A fun y => ∃ (k : Int) (j : Nat), y = .int k ∧ ys[j]? = some k ∧ (∀ m, m < j → ys[m]? ≠ some k) ∧ Q (.int j)
def kLz (ds : List D) (Q : SV → Prop) : Prop := ∃ x y xs ys, ds = [x, y] ∧ tupsOf x = some xs ∧ tupsOf y = some ys ∧ Q (.ow (zipK xs ys))
def kPs (d : D) (Q : Option Int → Prop) : Prop := ∃ i, d = .int i ∧ Q (some i)
def kTx (m : List D → D) (ds : List D) (Q : SV → Prop) : Prop := ∃ xs, ds = [.lst xs] ∧ Q (.fz (m xs))
def kIt1 (ds : List D) (Q : List D → Prop) : Prop := ∃ x xs, ds = [x] ∧ itemsOf x = some xs ∧ Q xs
def kZp (ds : List D) (Q : List D → Prop) : Prop := ∃ x y xs ys, ds = [x, y] ∧ ((tupsOf x = some xs ∧ tupsOf y = some ys) ∨ (x = .lst xs ∧ y = .lst ys)) ∧ Q (zipD xs ys)
section
variable {G : Gc} {ρ : En} {E : EndsD} {Q : D → Prop} {Qo : SV → Prop} {Qt : Bool → Prop} {Qa : List D → Prop} {i j l : Nat} {d e : D} {sv sw sx : SV} {wa wb wc wk : W} {wo : WO} {t : WT} {r : WA} {sa sb : WS} {wv : WV} {A : Prop} {K : En → Prop} {b : Bool} {o : Option SV} {xs ys : List D} {kds : List (List Key × D)} {kvs : List (Key × D)}
@[simp ↓] theorem k_fzd {tt : Bool} : kFz (.od tt kds) Q ↔ Q (.dic tt kds) := Iff.rfl
@[simp ↓] theorem k_vood {tt : Bool} {Qv : D → En → Prop} (h : immL (kds.map (·.2)) = true) : kVo (.od tt kds) ρ Qv ↔ Qv (.dic tt kds) ρ := by unfold kVo; dsimp only; rw [if_pos h]
@[simp ↓] theorem s_var0d {tt : Bool} : wVar 0 G (some (.od tt kds) :: ρ) Q ↔ Q (.dic tt kds) := ⟨fun ⟨_, e, h⟩ => by cases e; exact h, fun h => ⟨_, rfl, h⟩⟩
@[simp ↓] theorem k_gtX {n : Nat} {Ka : List D → Prop} : kGt (.tix xs) n Ka ↔ xs.length = n ∧ Ka xs := ⟨fun ⟨_, e, h⟩ => by cases e; exact h, fun h => ⟨xs, rfl, h⟩⟩
@[simp ↓] theorem k_gtK {n : Nat} {Ka : List D → Prop} : kGt (.tky xs) n Ka ↔ xs.length = n ∧ Ka xs := ⟨fun ⟨_, e, h⟩ => by cases e; exact h, fun h => ⟨xs, rfl, h⟩⟩
@[simp] theorem imm_tix : imm (.tix xs) = immL xs := by unfold imm; rfl
@[simp] theorem imm_tky : imm (.tky xs) = immL xs := by unfold imm; rfl
@[simp] theorem immS_od {tt : Bool} : immS (.od tt kds) = immL (kds.map (·.2)) := of_eq_true (eq_true rfl)
@[simp ↓] theorem s_lenD {x : D} {n : Nat} : oLenD [.tup xs] Qo ↔ Qo (.fz (.int xs.length)) := by simp [oLenD, oLen, itemsOf]
@[simp ↓] theorem s_lenD2 : oLenD [.lst xs] Qo ↔ Qo (.fz (.int xs.length)) := by simp [oLenD, oLen, itemsOf]
@[simp ↓] theorem s_lenD3 : oLenD [.tix xs] Qo ↔ Qo (.fz (.int xs.length)) := by simp [oLenD, oLen, itemsOf]
@[simp ↓] theorem s_lenD4 : oLenD [.tky xs] Qo ↔ Qo (.fz (.int xs.length)) := by simp [oLenD, oLen, itemsOf]
@[simp ↓] theorem s_lenD5 {tt : Bool} : oLenD [.dic tt kds] Qo ↔ Qo (.fz (.int kds.length)) := by cases tt <;> simp [oLenD, oLen, itemsOf]
@[simp ↓] theorem s_lenD6 : oLenD [.tup xs] Qo ↔ Qo (.fz (.int xs.length)) := by simp [oLenD, oLen, itemsOf]
@[simp ↓] theorem s_lenD7 {z : Str} : oLenD [.str z] Qo ↔ z.length ≤ sizeLine ∧ Qo (.fz (.int z.length)) := by simp [oLenD, oLen, itemsOf]
@[simp ↓] theorem s_tupX : oTuple [.tix xs] Qo ↔ Qo (.fz (.tup xs)) := by simp [oTuple, itemsOf]
@[simp ↓] theorem s_tupK : oTuple [.tky xs] Qo ↔ Qo (.fz (.tup xs)) := by simp [oTuple, itemsOf]
@[simp ↓] theorem s_listX : oList [.tix xs] Qo ↔ Qo (.ow xs) := by simp [oList, itemsOf]
@[simp ↓] theorem s_listK : oList [.tky xs] Qo ↔ Qo (.ow xs) := by simp [oList, itemsOf]
@[simp ↓] theorem s_oTupX {m : List D → D} : oTupX m [.lst xs] Qo ↔ Qo (.fz (m xs)) := ⟨fun ⟨_, e, h⟩ => by cases e; exact h, fun h => ⟨xs, rfl, h⟩⟩
@[simp ↓] theorem s_tupKd : wTupK r G ρ Q ↔ r G ρ fun ds => ds.length ≤ sizeLine ∧ Q (.tky ds) := Iff.rfl
@[simp ↓] theorem s_dnewA : woDnewA G ρ Qo ↔ Qo (oK []) ∨ Qo (.od true []) := Iff.rfl
@[simp ↓] theorem s_ss : woSortSetA wa G ρ Qo ↔ wa G ρ fun d => kSS d Qo := Iff.rfl
@[simp ↓] theorem s_ixTm : wIxT wa wb G ρ Q ↔ wa G ρ fun x => kIxT x (fun P => wb G ρ P) Q := Iff.rfl
@[simp ↓] theorem s_lz : woListZip r G ρ Qo ↔ r G ρ fun ds => kLz ds Qo := Iff.rfl
@[simp ↓] theorem k_lz {x y : D} : kLz [x, y] Qo ↔ ∃ xs ys, tupsOf x = some xs ∧ tupsOf y = some ys ∧ Qo (.ow (zipK xs ys)) := ⟨fun ⟨_, _, xs, ys, e, h⟩ => by cases e; exact ⟨xs, ys, h⟩, fun ⟨xs, ys, h⟩ => ⟨x, y, xs, ys, rfl, h⟩⟩
@[simp ↓] theorem s_sl {l h : WP} : woSl wa l h G ρ Qo ↔ wa G ρ fun d => l G ρ fun lo => h G ρ fun hi => oSl d lo hi Qo := Iff.rfl
@[simp ↓] theorem s_pn {Qp : Option Int → Prop} : wpNone G ρ Qp ↔ Qp none := Iff.rfl
@[simp ↓] theorem s_psm {Qp : Option Int → Prop} : wpSome wa G ρ Qp ↔ wa G ρ fun d => kPs d Qp := Iff.rfl
@[simp ↓] theorem k_ps {i : Int} {Qp : Option Int → Prop} : kPs (.int i) Qp ↔ Qp (some i) := ⟨fun ⟨_, e, h⟩ => by cases e; exact h, fun h => ⟨i, rfl, h⟩⟩
@[simp ↓] theorem s_slT {lo hi : Option Int} : oSl (.tup xs) lo hi Qo ↔ Qo (.fz (.tup (cutD xs lo hi))) := by simp [oSl, tupsOf]
@[simp ↓] theorem s_slX {lo hi : Option Int} : oSl (.tix xs) lo hi Qo ↔ Qo (.fz (.tup (cutD xs lo hi))) := by simp [oSl, tupsOf]
@[simp ↓] theorem s_slK {lo hi : Option Int} : oSl (.tky xs) lo hi Qo ↔ Qo (.fz (.tup (cutD xs lo hi))) := by simp [oSl, tupsOf]
@[simp ↓] theorem s_slL {lo hi : Option Int} : oSl (.lst xs) lo hi Qo ↔ Qo (.ow (cutD xs lo hi)) := by simp [oSl, tupsOf]
@[simp ↓] theorem s_addX : oAdd (.tix xs) (.tup ys) Qo ↔ xs.length + ys.length ≤ sizeLine ∧ Qo (.fz (.tup (xs ++ ys))) := by simp [oAdd, tupsOf]
@[simp ↓] theorem s_addX2 : oAdd (.tup xs) (.tix ys) Qo ↔ xs.length + ys.length ≤ sizeLine ∧ Qo (.fz (.tup (xs ++ ys))) := by simp [oAdd, tupsOf]
theorem ix_of {x : D} {i : Int} (h : itemsOf x = some xs) (hs : ∀ z, x ≠ .str z) : oIx x (.int i) Q ↔ kAt xs i Q := by
  constructor
  · rintro ⟨_, e1, h1⟩
    cases e1
    rcases h1 with ⟨ys, d, e2, e3, h1⟩ | ⟨z, _, e2, _⟩
    · rw [h] at e2; cases e2; exact ⟨d, e3, h1⟩
    · exact absurd e2 (hs z)
  · rintro ⟨d, e, q⟩
    exact ⟨i, rfl, .inl ⟨xs, d, h, e, q⟩⟩
@[simp ↓] theorem s_ixX {i : Int} : oIx (.tix xs) (.int i) Q ↔ kAt xs i Q := ix_of rfl fun _ e => nomatch e
@[simp ↓] theorem s_ixK {i : Int} : oIx (.tky xs) (.int i) Q ↔ kAt xs i Q := ix_of rfl fun _ e => nomatch e
/-! #### dicts by value -/
theorem sg_inj {a b : List (Key × D)} (h : sg a = sg b) : a = b := by
  induction a generalizing b with
  | nil => cases b with
    | nil => rfl
    | cons y b => cases h
  | cons x a ih => cases b with
    | nil => cases h
    | cons y b =>
      obtain ⟨k, v⟩ := x
      obtain ⟨k2, v2⟩ := y
      have h2 : ([k], v) :: sg a = ([k2], v2) :: sg b := h
      injection h2 with h3 h4
      injection h3 with h5 h6
      injection h5 with h7 _
      rw [h7, h6, ih h4]
theorem kD_inj {a b : Key} (h : kD a = kD b) : a = b := by
  cases a with
  | inl i => cases b with
    | inl j => cases h; rfl
    | inr y => cases h
  | inr x => cases b with
    | inl j => cases h
    | inr y => cases h; rfl
theorem kDs_inj : ∀ {a b : List Key}, a.map kD = b.map kD → a = b
  | [], [], _ => rfl
  | [], _ :: _, h => by cases h
  | _ :: _, [], h => by cases h
  | x :: a, y :: b, h => by
    rw [List.map_cons, List.map_cons] at h
    injection h with h1 h2
    rw [kD_inj h1, kDs_inj h2]
theorem fnd_inv {x y : D} {o : Option D} (h : Fnd x y o) : (∃ k kvs, x = kD k ∧ y = dK kvs ∧ o = lookD kvs k) ∨ ∃ ks kds, x = .tky (ks.map kD) ∧ y = .dic true kds ∧ o = lookD kds ks := by
  cases h with
  | flat k kvs => exact .inl ⟨k, kvs, rfl, rfl, rfl⟩
  | tup ks kds => exact .inr ⟨ks, kds, rfl, rfl, rfl⟩
theorem fnd_K {x : D} {k : Key} {o : Option D} (ek : x = kD k) : Fnd x (dK kvs) o ↔ o = lookD kvs k := by
  subst ek
  constructor
  · intro h
    rcases fnd_inv h with ⟨k2, kvs2, e1, e2, e3⟩ | ⟨ks, kds, e1, e2, e3⟩
    · injection e2 with _ e2
      rw [e3, kD_inj e1, sg_inj e2]
    · cases e2
  · rintro rfl
    exact .flat k kvs
theorem fnd_T {x : D} {ks : List Key} {o : Option D} (ek : x = .tky (ks.map kD)) : Fnd x (.dic true kds) o ↔ o = lookD kds ks := by
  subst ek
  constructor
  · intro h
    rcases fnd_inv h with ⟨k2, kvs2, e1, e2, e3⟩ | ⟨ks2, kds2, e1, e2, e3⟩
    · injection e2 with e2; cases e2
    · injection e2 with _ e2
      injection e1 with e1
      rw [e3, kDs_inj e1, e2]
  · rintro rfl
    exact .tup ks kds
@[simp ↓] theorem s_din {i : Int} : oDIn (.int i) (.dic false (sg kvs)) Q ↔ Q (.bl (lookD kvs (.inl i)).isSome) := ⟨fun ⟨o, c, q⟩ => by have c := (fnd_K (x := .int i) (k := .inl i) rfl).mp c; rw [← c]; exact q, fun q => ⟨_, .flat (.inl i) kvs, q⟩⟩
@[simp ↓] theorem s_dnotin {i : Int} : oDNotIn (.int i) (.dic false (sg kvs)) Q ↔ Q (.bl (!(lookD kvs (.inl i)).isSome)) := ⟨fun ⟨o, c, q⟩ => by have c := (fnd_K (x := .int i) (k := .inl i) rfl).mp c; rw [← c]; exact q, fun q => ⟨_, .flat (.inl i) kvs, q⟩⟩
@[simp ↓] theorem s_din2 {a b : Int} : oDIn (.tky [.int a, .int b]) (.dic true kds) Q ↔ Q (.bl (lookD kds [.inl a, .inl b]).isSome) := ⟨fun ⟨o, c, q⟩ => by have c := (fnd_T (x := .tky [.int a, .int b]) (ks := [.inl a, .inl b]) rfl).mp c; rw [← c]; exact q, fun q => ⟨_, .tup [.inl a, .inl b] kds, q⟩⟩
@[simp ↓] theorem s_dnotin2 {a b : Int} : oDNotIn (.tky [.int a, .int b]) (.dic true kds) Q ↔ Q (.bl (!(lookD kds [.inl a, .inl b]).isSome)) := ⟨fun ⟨o, c, q⟩ => by have c := (fnd_T (x := .tky [.int a, .int b]) (ks := [.inl a, .inl b]) rfl).mp c; rw [← c]; exact q, fun q => ⟨_, .tup [.inl a, .inl b] kds, q⟩⟩
def kGet {κ : Type} [DecidableEq κ] (kds : List (κ × D)) (k : κ) (Q : D → Prop) : Prop := ∃ d, lookD kds k = some d ∧ Q d
@[simp ↓] theorem s_dget {i : Int} : oDGet (.dic false (sg kvs)) (.int i) Q ↔ kGet kvs (.inl i) Q := ⟨fun ⟨d, c, q⟩ => ⟨d, ((fnd_K (x := .int i) (k := .inl i) rfl).mp c).symm, q⟩, fun ⟨d, e, q⟩ => ⟨d, e ▸ Fnd.flat (.inl i) kvs, q⟩⟩
@[simp ↓] theorem s_dget2 {a b : Int} : oDGet (.dic true kds) (.tky [.int a, .int b]) Q ↔ kGet kds [.inl a, .inl b] Q := ⟨fun ⟨d, c, q⟩ => ⟨d, ((fnd_T (x := .tky [.int a, .int b]) (ks := [.inl a, .inl b]) rfl).mp c).symm, q⟩, fun ⟨d, e, q⟩ => ⟨d, e ▸ Fnd.tup [.inl a, .inl b] kds, q⟩⟩
theorem k_get {κ : Type} [DecidableEq κ] {kds : List (κ × D)} {k : κ} {d : D} (h : lookD kds k = some d) : kGet kds k Q ↔ Q d := ⟨fun ⟨e, z, q⟩ => by rw [h] at z; cases z; exact q, fun q => ⟨d, h, q⟩⟩
@[simp ↓] theorem s_storeD : wStoreD i wk wv G E ρ ↔ wv G ρ fun d ρ' => kOd ρ' i ∧ wk G ρ' fun kd => kPd ρ' i kd d E.nx := Iff.rfl
@[simp ↓] theorem k_od0 {tt : Bool} : kOd (some (.od tt kds) :: ρ) 0 ↔ True := ⟨fun _ => True.intro, fun _ => ⟨tt, kds, rfl⟩⟩
@[simp ↓] theorem k_od1 : kOd (o :: ρ) (i + 1) ↔ kOd ρ i := Iff.rfl
@[simp ↓] theorem k_pd1 {kd : D} : kPd (o :: ρ) (i + 1) kd d K ↔ kPd ρ i kd d fun ρ' => K (o :: ρ') := Iff.rfl
theorem ptd_inv {kd d : D} {sv sw : SV} (h : Ptd kd d sv sw) : (∃ k kvs, kvs.length < sizeLine ∧ kd = kD k ∧ sv = oK kvs ∧ sw = oK (putD kvs k d)) ∨ ∃ ks kds, kds.length < sizeLine ∧ kd = .tky (ks.map kD) ∧ sv = .od true kds ∧ sw = .od true (putD kds ks d) := by
  cases h with
  | flat k kvs _ hz => exact .inl ⟨k, kvs, hz, rfl, rfl, rfl⟩
  | tup ks kds _ hz => exact .inr ⟨ks, kds, hz, rfl, rfl, rfl⟩
@[simp ↓] theorem k_pd0 {i : Int} : kPd (some (.od false (sg kvs)) :: ρ) 0 (.int i) d K ↔ kvs.length < sizeLine ∧ K (some (.od false (sg (putD kvs (.inl i) d))) :: ρ) := by
  constructor
  · rintro ⟨sv, sw, e, h, q⟩
    cases e
    rcases ptd_inv h with ⟨k2, kvs2, hz, e1, e2, e3⟩ | ⟨ks2, kds2, hz, e1, e2, e3⟩
    · injection e2 with _ e2
      have e2 := sg_inj e2
      subst e2 e3
      have e1 : Sum.inl i = k2 := kD_inj (a := .inl i) e1
      subst e1
      exact ⟨hz, q⟩
    · cases e2
  · rintro ⟨hz, q⟩
    exact ⟨_, _, rfl, .flat (.inl i) kvs d hz, q⟩
@[simp ↓] theorem k_pd02 {a b : Int} : kPd (some (.od true kds) :: ρ) 0 (.tky [.int a, .int b]) d K ↔ kds.length < sizeLine ∧ K (some (.od true (putD kds [.inl a, .inl b] d)) :: ρ) := by
  constructor
  · rintro ⟨sv, sw, e, h, q⟩
    cases e
    rcases ptd_inv h with ⟨k2, kvs2, hz, e1, e2, e3⟩ | ⟨ks2, kds2, hz, e1, e2, e3⟩
    · injection e2 with e2; cases e2
    · injection e2 with _ e2
      subst e2 e3
      injection e1 with e1
      have e1 : [.inl a, .inl b] = ks2 := kDs_inj (a := [.inl a, .inl b]) e1
      subst e1
      exact ⟨hz, q⟩
  · rintro ⟨hz, q⟩
    exact ⟨_, _, rfl, .tup [.inl a, .inl b] kds d hz, q⟩
@[simp ↓] theorem s_vvd {tt : Bool} {Qv : D → En → Prop} : wvVar 0 G (some (.od tt kds) :: ρ) Qv ↔ Qv (.dic tt kds) (some (.fz (.dic tt kds)) :: ρ) := ⟨fun ⟨_, e, h⟩ => by cases e; exact h, fun h => ⟨_, rfl, h⟩⟩
@[simp ↓] theorem s_vvo {Qv : D → En → Prop} : wvVar 0 G (some (.ow xs) :: ρ) Qv ↔ Qv (.lst xs) (some (.fz (.lst xs)) :: ρ) := ⟨fun ⟨_, e, h⟩ => by cases e; exact h, fun h => ⟨_, rfl, h⟩⟩
theorem s_vvs {sv : SV} {Qv : D → En → Prop} : wvVar (i + 1) G (some sv :: ρ) Qv ↔ wvVar i G ρ fun d ρ' => Qv d (some sv :: ρ') := ⟨fun ⟨sv, z, h⟩ => ⟨sv, z, by cases sv <;> exact h⟩, fun ⟨sv, z, h⟩ => ⟨sv, z, by cases sv <;> exact h⟩⟩
@[simp ↓] theorem s_vv3 {tt : Bool} {Qv : D → En → Prop} : wvVar (i + 1) G (some (.od tt kds) :: ρ) Qv ↔ wvVar i G ρ fun d ρ' => Qv d (some (.od tt kds) :: ρ') := s_vvs
@[simp ↓] theorem s_vv4 {Qv : D → En → Prop} : wvVar (i + 1) G (some (.ow xs) :: ρ) Qv ↔ wvVar i G ρ fun d ρ' => Qv d (some (.ow xs) :: ρ') := s_vvs
@[simp ↓] theorem s_retVd {tt : Bool} : wRetV 0 G E (some (.od tt kds) :: ρ) ↔ E.rt (.od tt kds) := ⟨fun ⟨_, e, h⟩ => by cases e; exact h, fun h => ⟨_, rfl, h⟩⟩
@[simp ↓] theorem s_jenum {Qj : List D → En → Prop} : wjEnumA wv G ρ Qj ↔ wv G ρ fun d ρ' => kIt d fun xs => Qj (enumD 0 xs) ρ' := Iff.rfl
@[simp ↓] theorem s_ienum : wiEnumA r G ρ Qa ↔ r G ρ fun ds => kIt1 ds fun xs => Qa (enumD 0 xs) := Iff.rfl
@[simp ↓] theorem k_it1 {x : D} : kIt1 [x] Qa ↔ kIt x Qa := ⟨fun ⟨_, xs, e, h⟩ => by cases e; exact ⟨xs, h⟩, fun ⟨xs, h⟩ => ⟨x, xs, rfl, h⟩⟩
@[simp ↓] theorem s_izip : wiZip r G ρ Qa ↔ r G ρ fun ds => kZp ds Qa := Iff.rfl
theorem k_zp {x y : D} {xs ys : List D} (h1 : tupsOf x = some xs) (h2 : tupsOf y = some ys) : kZp [x, y] Qa ↔ Qa (zipD xs ys) := by
  constructor
  · rintro ⟨_, _, xs', ys', e, z, q⟩
    cases e
    rcases z with ⟨z1, z2⟩ | ⟨rfl, rfl⟩
    · rw [h1] at z1; rw [h2] at z2; cases z1; cases z2; exact q
    · cases h1
  · exact fun q => ⟨x, y, xs, ys, rfl, .inl ⟨h1, h2⟩, q⟩
@[simp ↓] theorem s_jzip {w1 w2 : WV} {Qj : List D → En → Prop} : wjZip w1 w2 G ρ Qj ↔ w1 G ρ fun x ρ1 => w2 G ρ1 fun y ρ2 => ∃ xs ys, ((tupsOf x = some xs ∧ tupsOf y = some ys) ∨ (x = .lst xs ∧ y = .lst ys)) ∧ Qj (zipD xs ys) ρ2 := Iff.rfl
/-! #### comprehensions -/
@[simp ↓] theorem s_comp2 {wi wi1 : WA} {wg wg1 : WG} {wt wt1 : WT} {we : W} {vs vs1 : List Nat} : wComp2 wi wg wt wi1 wg1 wt1 we vs vs1 G ρ Qo ↔ wi G ρ fun ds => wcL2 wg wt wi1 wg1 wt1 we vs vs1 G ρ ds [] fun acc => Qo (.ow acc) := Iff.rfl
@[simp ↓] theorem s_dcomp {wi : WA} {wg : WG} {wt : WT} {wk wv : W} {vs : List Nat} : wDComp wi wg wt wk wv vs G ρ Qo ↔ wi G ρ fun ds => wdL wg wt wk wv vs G ρ ds [] fun acc => Qo (oK acc) := Iff.rfl
theorem wcL_mapA {wg : WG} {we : W} {vs : List Nat} (f : D → D) (ds acc : List D) (Qa : List D → Prop) (h : ∀ d ∈ ds, ∀ G', GExt G G' → ∀ Qy : D → Prop, Qy (f d) → wg d (wipeD ρ vs) fun ρ2 => we G' ρ2 Qy) (hl : acc.length + ds.length ≤ sizeLine) (q : Qa (acc ++ ds.map f)) : wcL wg wtTrue we vs G ρ ds acc Qa :=
  wcL_fm (fun _ => true) f ds acc Qa (fun d hd G' hG Qy Qn hy _ => by
    simp only [s_ttrue, if_true]
    exact h d hd G' hG Qy (hy rfl)) hl (by rw [List.filter_eq_self.mpr fun _ _ => rfl]; exact q)
/-- two clauses, the second one over the same items at each turn -/
theorem wcL2_map {wg : WG} {wi1 : WA} {wg1 : WG} {we : W} {vs vs1 : List Nat} (F : D → List D) : ∀ (ds acc : List D) (Qa : List D → Prop),
    (∀ d ∈ ds, ∀ G', GExt G G' → ∀ (acc' : List D) (Q' : List D → Prop), acc'.length + (F d).length ≤ sizeLine → Q' (acc' ++ F d) → wg d (wipeD ρ vs) fun ρ2 => wi1 G' ρ2 fun es => wcL wg1 wtTrue we vs1 G ρ2 es acc' Q') →
    acc.length + (ds.flatMap F).length ≤ sizeLine → Qa (acc ++ ds.flatMap F) → wcL2 wg wtTrue wi1 wg1 wtTrue we vs vs1 G ρ ds acc Qa
  | [], acc, Qa, _, _, q => by
    rw [List.flatMap_nil, List.append_nil] at q
    exact q
  | d :: ds, acc, Qa, h, hl, q => fun G' hG => by
    simp only [s_ttrue, if_true]
    rw [List.flatMap_cons, List.length_append] at hl
    refine h d List.mem_cons_self G' hG acc _ (by omega) ?_
    refine wcL2_map F ds _ Qa (fun e he => h e (List.mem_cons_of_mem _ he)) (by rw [List.length_append]; omega) ?_
    rw [List.append_assoc, ← List.flatMap_cons]
    exact q
theorem putD_len {κ : Type} [DecidableEq κ] (kds : List (κ × D)) (k : κ) (d : D) : (putD kds k d).length ≤ kds.length + 1 := by
  unfold putD
  split
  · rw [List.length_map]; omega
  · rw [List.length_append]; exact Nat.le_refl _
theorem wdL_map {wg : WG} {wk wv : W} {vs : List Nat} (f : D → Key × D) : ∀ (ds : List D) (acc : List (Key × D)) (Qa : List (Key × D) → Prop),
    (∀ d ∈ ds, ∀ G', GExt G G' → ∀ Qy : Key → D → Prop, Qy (f d).1 (f d).2 → wg d (wipeD ρ vs) fun ρ2 => wk G' ρ2 fun kd => wv G' ρ2 fun vd => ∃ k, kd = kD k ∧ Qy k vd) →
    acc.length + ds.length ≤ sizeLine → Qa (ds.foldl (fun a d => putD a (f d).1 (f d).2) acc) → wdL wg wtTrue wk wv vs G ρ ds acc Qa
  | [], acc, Qa, _, _, q => q
  | d :: ds, acc, Qa, h, hl, q => fun G' hG => by
    simp only [s_ttrue, if_true]
    rw [List.length_cons] at hl
    have hp := h d List.mem_cons_self G' hG (fun k vd => acc.length < sizeLine ∧ wdL wg wtTrue wk wv vs G ρ ds (putD acc k vd) Qa) ⟨by omega, wdL_map f ds _ Qa (fun e he => h e (List.mem_cons_of_mem _ he)) (by
      have := putD_len acc (f d).1 (f d).2
      omega) q⟩
    exact hp
end
end DL
set_option maxHeartbeats 4000000
namespace K79
open PySem PySem.Spec PyProof.Rows L2 DL
def top (i : Nat) : Stmt := PySem.Challenge.pw_bothandall_k79_whole_partings_and_spaces.main.body.getD i (.Pass ⟨0, 0, 0, 0⟩)
def D_MOST_OF : List (Str × D) := [("numbers", .int 1000000000000), ("partings", .int 6), ("spaces", .int 4), ("stretches", .int 20)]
def T_KINDS : List D := [.str "numbers", .str "partings", .str "spaces", .str "stretches"]
/-- what the module's names stand for -/
structure FF (B : Bs) : Prop where
  f_all : B.mg "all" = none
  f_bool : B.mg "bool" = none
  d_MOST_OF : GTab B "MOST_OF" D_MOST_OF
  f_enumerate : B.mg "enumerate" = none
  f_int : B.mg "int" = none
  f_isinstance : B.mg "isinstance" = none
  f_len : B.mg "len" = none
  f_list : B.mg "list" = none
  f_max : B.mg "max" = none
  f_min : B.mg "min" = none
  f_range : B.mg "range" = none
  f_repr : B.mg "repr" = none
  f_set : B.mg "set" = none
  f_sorted : B.mg "sorted" = none
  f_str : B.mg "str" = none
  t_KINDS : GTup B "KINDS" T_KINDS
  f_tuple : B.mg "tuple" = none
  f_zip : B.mg "zip" = none
def t_is_number_thing : Stmt := top 13
def N_is_number_thing : List Str := ["size", "thing"]
def P_is_number_thing : List Str := ["size", "thing"]
theorem sc_is_number_thing : FnScope N_is_number_thing P_is_number_thing (defScope t_is_number_thing) := ⟨rfl, rfl, rfl, by decide +kernel, rfl, by decide +kernel, by decide +kernel⟩
def t_is_stretch_thing : Stmt := top 16
def N_is_stretch_thing : List Str := ["size", "thing"]
def P_is_stretch_thing : List Str := ["size", "thing"]
theorem sc_is_stretch_thing : FnScope N_is_stretch_thing P_is_stretch_thing (defScope t_is_stretch_thing) := ⟨rfl, rfl, rfl, by decide +kernel, rfl, by decide +kernel, by decide +kernel⟩
def t__law_deck : Stmt := top 32
def N__law_deck : List Str := ["_law_script", "_law_mixed", "_law_cell"]
def P__law_deck : List Str := ["_law_script"]
theorem sc__law_deck : FnScope N__law_deck P__law_deck (defScope t__law_deck) := ⟨rfl, rfl, rfl, by decide +kernel, rfl, by decide +kernel, by decide +kernel⟩
def t__law_draw : Stmt := top 33
def N__law_draw : List Str := ["_law_deck_here", "_law_below", "_law_figure", "_law_cell"]
def P__law_draw : List Str := ["_law_deck_here", "_law_below"]
theorem sc__law_draw : FnScope N__law_draw P__law_draw (defScope t__law_draw) := ⟨rfl, rfl, rfl, by decide +kernel, rfl, by decide +kernel, by decide +kernel⟩
def t_is_integer : Stmt := top 7
def N_is_integer : List Str := ["thing"]
def P_is_integer : List Str := ["thing"]
abbrev S_is_integer (B : Bs) (k : Nat) : Sta := { B with N := N_is_integer, names := (defScope t_is_integer).names, k := k, fc := fun _ => true }
theorem sc_is_integer : FnScope N_is_integer P_is_integer (defScope t_is_integer) := ⟨rfl, rfl, rfl, by decide +kernel, rfl, by decide +kernel, by decide +kernel⟩
def w_is_integer : WS := wRet (woFz (wAnd (wIsi "int" (wVar 0)) (wNot (wIsi "bool" (wVar 0)))))
theorem d_is_integer {B : Bs} (ff : FF B) {k : Nat} : DSs (S_is_integer B k) (defBody t_is_integer) (w_is_integer) := by
  have nd : N_is_integer.Nodup := by decide +kernel
  exact (dss_one (ds_ret (do_fz (de_andV (de_isi (ff.f_isinstance) (ff.f_int) (by decide +kernel) (by decide) (de_nm (i := 0))) (de_one (de_notV (de_isi (ff.f_isinstance) (ff.f_bool) (by decide +kernel) (by decide) (de_nm (i := 0)))))))))
def t_is_between : Stmt := top 8
def N_is_between : List Str := ["thing", "least", "most"]
def P_is_between : List Str := ["thing", "least", "most"]
abbrev S_is_between (B : Bs) (k : Nat) : Sta := { B with N := N_is_between, names := (defScope t_is_between).names, k := k, fc := fun _ => true }
theorem sc_is_between : FnScope N_is_between P_is_between (defScope t_is_between) := ⟨rfl, rfl, rfl, by decide +kernel, rfl, by decide +kernel, by decide +kernel⟩
def w_is_between (s_is_integer : FS) : WS := wRet (woFz (wAnd (wFz (woCall s_is_integer (waCons (wVar 0) (waNil)))) (wChain (oB0 fun i j => decide (i ≤ j)) (oB0 fun i j => decide (i ≤ j)) (wVar 1) (wVar 0) (wVar 2))))
theorem d_is_between {B : Bs} (ff : FF B) {k : Nat} {s_is_integer : FS} {n_is_integer : Nat} (k_is_integer : Kn B n_is_integer "is_integer" t_is_integer P_is_integer s_is_integer) (hk_is_integer : n_is_integer ≤ k) : DSs (S_is_between B k) (defBody t_is_between) (w_is_between s_is_integer) := by
  have nd : N_is_between.Nodup := by decide +kernel
  exact (dss_one (ds_ret (do_fz (de_andV (de_fz (do_call k_is_integer hk_is_integer (da_cons (de_nm (i := 0)) da_nil))) (de_one (de_chain cm_le cm_le (de_nm (i := 1)) (de_nm (i := 0)) (de_nm (i := 2))))))))
def t_are_between : Stmt := top 9
def N_are_between : List Str := ["thing", "least", "most", "part"]
def P_are_between : List Str := ["thing", "least", "most"]
abbrev S_are_between (B : Bs) (k : Nat) : Sta := { B with N := N_are_between, names := (defScope t_are_between).names, k := k, fc := fun _ => true }
theorem sc_are_between : FnScope N_are_between P_are_between (defScope t_are_between) := ⟨rfl, rfl, rfl, by decide +kernel, rfl, by decide +kernel, by decide +kernel⟩
def w_are_between (s_is_between : FS) : WS := wRet (woFz (wAnd (wIsi "tuple" (wVar 0)) (wFz (woCB oAll (waCons (wFz (wComp (wiSeq (wVar 0)) (wgName 3) (wtTrue) (wFz (woCall s_is_between (waCons (wVar 3) (waCons (wVar 1) (waCons (wVar 2) (waNil)))))) [3])) (waNil))))))
theorem d_are_between {B : Bs} (ff : FF B) {k : Nat} {s_is_between : FS} {n_is_between : Nat} (k_is_between : Kn B n_is_between "is_between" t_is_between P_is_between s_is_between) (hk_is_between : n_is_between ≤ k) : DSs (S_are_between B k) (defBody t_are_between) (w_are_between s_is_between) := by
  have nd : N_are_between.Nodup := by decide +kernel
  exact (dss_one (ds_ret (do_fz (de_andV (de_isi (ff.f_isinstance) (ff.f_tuple) (by decide +kernel) (by decide) (de_nm (i := 0))) (de_one (de_fz (do_callB cd_all (ff.f_all) (by decide +kernel) (da_cons (de_fz (do_lc (own := [("part", 3)]) (di_seq (de_nm (i := 0))) nd (by kernel_rfl) (dg_name (i := 3) nd) (by decide) dts_nil (de_fz (do_call k_is_between hk_is_between (da_cons (de_nm (i := 3)) (da_cons (de_nm (i := 1)) (da_cons (de_nm (i := 2)) da_nil))))))) da_nil))))))))
def t_is_parting_thing : Stmt := top 14
def N_is_parting_thing : List Str := ["size", "thing", "at"]
def P_is_parting_thing : List Str := ["size", "thing"]
abbrev S_is_parting_thing (B : Bs) (k : Nat) : Sta := { B with N := N_is_parting_thing, names := (defScope t_is_parting_thing).names, k := k, fc := fun _ => true }
theorem sc_is_parting_thing : FnScope N_is_parting_thing P_is_parting_thing (defScope t_is_parting_thing) := ⟨rfl, rfl, rfl, by decide +kernel, rfl, by decide +kernel, by decide +kernel⟩
def w_is_parting_thing (s_are_between : FS) : WS := wSeq (wIfS (wtOr (wtNot (wtV (wFz (woCall s_are_between (waCons (wVar 1) (waCons (wC (.int 0)) (waCons (wOp (oI0 fun i j => i - j) (wVar 0) (wC (.int 1))) (waNil)))))))) (wtV (wOp oNe (wFz (woCB oLenD (waCons (wVar 1) (waNil)))) (wVar 0)))) (wRet (woFz (wC (.bl false)))) (wNext)) (wRet (woCB oAll (waCons (wFz (wComp (wiRange1 (waCons (wVar 0) (waNil))) (wgName 2) (wtTrue) (wOp (oB0 fun i j => decide (i ≤ j)) (wOp oIx (wVar 1) (wVar 2)) (wFz (wOpO oAdd (wFz (woCB (oMax1 max) (waCons (wFz (wOpO oAdd (wFz (woSl (wVar 1) (wpNone) (wpSome (wVar 2)))) (wTup (waCons (wNeg (wC (.int 1))) (waNil))))) (waNil)))) (wC (.int 1))))) [2])) (waNil))))
theorem d_is_parting_thing {B : Bs} (ff : FF B) {k : Nat} {s_are_between : FS} {n_are_between : Nat} (k_are_between : Kn B n_are_between "are_between" t_are_between P_are_between s_are_between) (hk_are_between : n_are_between ≤ k) : DSs (S_is_parting_thing B k) (defBody t_is_parting_thing) (w_is_parting_thing s_are_between) := by
  have nd : N_is_parting_thing.Nodup := by decide +kernel
  exact (dss_cons (ds_if (dt_pw (dw_or (dt_not (dt_val (de_fz (do_call k_are_between hk_are_between (da_cons (de_nm (i := 1)) (da_cons de_int (da_cons (de_sub (de_nm (i := 0)) de_int) da_nil))))))) (dw_or1 (dt_cmp cm_ne (de_fz (do_callB cd_lenD (ff.f_len) (by decide +kernel) (da_cons (de_nm (i := 1)) da_nil))) (de_nm (i := 0)))))) (dss_one (ds_ret (do_fz de_bl))) dss_nil) (dss_one (ds_ret (do_callB cd_all (ff.f_all) (by decide +kernel) (da_cons (de_fz (do_lc (own := [("at", 2)]) (di_range1 (ff.f_range) (da_cons (de_nm (i := 0)) da_nil)) nd (by kernel_rfl) (dg_name (i := 2) nd) (by decide) dts_nil (de_cmp cm_le (de_ix (de_nm (i := 1)) (de_nm (i := 2))) (de_fz (do_op od_add (de_fz (do_callB cd_max1 (ff.f_max) (by decide +kernel) (da_cons (de_fz (do_op od_add (de_fz (do_slice (de_nm (i := 1)) dp_none (dp_some (de_nm (i := 2))))) (de_tup (da_cons (de_neg de_int) da_nil)))) da_nil))) de_int))))) da_nil)))))
def t_is_space_thing : Stmt := top 15
def N_is_space_thing : List Str := ["size", "thing", "known", "x", "y"]
def P_is_space_thing : List Str := ["size", "thing"]
abbrev S_is_space_thing (B : Bs) (k : Nat) : Sta := { B with N := N_is_space_thing, names := (defScope t_is_space_thing).names, k := k, fc := fun _ => true }
theorem sc_is_space_thing : FnScope N_is_space_thing P_is_space_thing (defScope t_is_space_thing) := ⟨rfl, rfl, rfl, by decide +kernel, rfl, by decide +kernel, by decide +kernel⟩
def w_is_space_thing (s_are_between : FS) : WS := wSeq (wIfS (wtOr (wtNot (wtV (wFz (woCall s_are_between (waCons (wVar 1) (waCons (wC (.int 0)) (waCons (wOp (oI0 fun i j => i - j) (wOp (oI CPow fun i j => i * 2 ^ j.toNat) (wC (.int 1)) (wVar 0)) (wC (.int 1))) (waNil)))))))) (wtOr (wtV (wOp oNotIn (wC (.int 0)) (wVar 1))) (wtV (wOp (oB0 fun i j => decide (j < i)) (wFz (woCB oLenD (waCons (wVar 1) (waNil)))) (wOp (oI CPow fun i j => i * 2 ^ j.toNat) (wC (.int 1)) (wVar 0)))))) (wRet (woFz (wC (.bl false)))) (wNext)) (wSeq (wIfS (wtV (wOp oNe (wFz (woSortSetA (wVar 1))) (wFz (woCB oList (waCons (wVar 1) (waNil)))))) (wRet (woFz (wC (.bl false)))) (wNext)) (wSeq (wSet 2 (wDComp (wiSeq (wVar 1)) (wgName 3) (wtTrue) (wVar 3) (wC (.bl true)) [3])) (wRet (woCB oAll (waCons (wFz (wComp2 (wiSeq (wVar 1)) (wgName 3) (wtTrue) (wiSeq (wVar 1)) (wgName 4) (wtTrue) (wOp oDIn (wOp (oI0 Builtin.bitXor) (wVar 3) (wVar 4)) (wVar 2)) [3, 4] [4])) (waNil))))))
theorem d_is_space_thing {B : Bs} (ff : FF B) {k : Nat} {s_are_between : FS} {n_are_between : Nat} (k_are_between : Kn B n_are_between "are_between" t_are_between P_are_between s_are_between) (hk_are_between : n_are_between ≤ k) : DSs (S_is_space_thing B k) (defBody t_is_space_thing) (w_is_space_thing s_are_between) := by
  have nd : N_is_space_thing.Nodup := by decide +kernel
  exact (dss_cons (ds_if (dt_pw (dw_or (dt_not (dt_val (de_fz (do_call k_are_between hk_are_between (da_cons (de_nm (i := 1)) (da_cons de_int (da_cons (de_sub (de_shl de_int (de_nm (i := 0))) de_int) da_nil))))))) (dw_or (dt_cmp cm_notIn de_int (de_nm (i := 1))) (dw_or1 (dt_cmp cm_gt (de_fz (do_callB cd_lenD (ff.f_len) (by decide +kernel) (da_cons (de_nm (i := 1)) da_nil))) (de_shl de_int (de_nm (i := 0)))))))) (dss_one (ds_ret (do_fz de_bl))) dss_nil) (dss_cons (ds_if (dt_cmp cm_ne (de_fz (do_sortSetA (ff.f_sorted) (ff.f_set) (de_nm (i := 1)))) (de_fz (do_callTy cd_list (ff.f_list) (by decide +kernel) (da_cons (de_nm (i := 1)) da_nil)))) (dss_one (ds_ret (do_fz de_bl))) dss_nil) (dss_cons (ds_setDcC (i := 2) (do_dc (own := [("x", 3)]) (di_seq (de_nm (i := 1))) nd (by kernel_rfl) (dg_name (i := 3) nd) (by decide) dts_nil (de_nm (i := 3)) de_bl) nd) (dss_one (ds_ret (do_callB cd_all (ff.f_all) (by decide +kernel) (da_cons (de_fz (do_lc2 (own := [("x", 3), ("y", 4)]) (vs1 := [4]) (di_seq (de_nm (i := 1))) nd (by kernel_rfl) (dg_name (i := 3) nd) (by decide) dts_nil (di_seq (de_nm (i := 1))) (dg_name (i := 4) nd) (by decide) (by decide) dts_nil (de_din (de_xor (de_nm (i := 3)) (de_nm (i := 4))) (de_nm (i := 2))))) da_nil)))))))
def t_is_thing_value : Stmt := top 17
def N_is_thing_value : List Str := ["kind", "size", "thing"]
def P_is_thing_value : List Str := ["kind", "size", "thing"]
abbrev S_is_thing_value (B : Bs) (k : Nat) : Sta := { B with N := N_is_thing_value, names := (defScope t_is_thing_value).names, k := k, fc := fun _ => true }
theorem sc_is_thing_value : FnScope N_is_thing_value P_is_thing_value (defScope t_is_thing_value) := ⟨rfl, rfl, rfl, by decide +kernel, rfl, by decide +kernel, by decide +kernel⟩
def w_is_thing_value (s_is_parting_thing : FS) (s_is_space_thing : FS) (s_is_stretch_thing : FS) : WS := wSeq (wIfS (wtV (wOp oEq (wVar 0) (wC (.str "numbers")))) (wNever) (wNext)) (wSeq (wIfS (wtV (wOp oEq (wVar 0) (wC (.str "partings")))) (wRet (woCall s_is_parting_thing (waCons (wVar 1) (waCons (wVar 2) (waNil))))) (wNext)) (wRet (woIf (wtV (wOp oEq (wVar 0) (wC (.str "spaces")))) (woCall s_is_space_thing (waCons (wVar 1) (waCons (wVar 2) (waNil)))) (woCall s_is_stretch_thing (waCons (wVar 1) (waCons (wVar 2) (waNil)))))))
theorem d_is_thing_value {B : Bs} (ff : FF B) {k : Nat} {s_is_parting_thing : FS} {n_is_parting_thing : Nat} (k_is_parting_thing : Kn B n_is_parting_thing "is_parting_thing" t_is_parting_thing P_is_parting_thing s_is_parting_thing) (hk_is_parting_thing : n_is_parting_thing ≤ k) {s_is_space_thing : FS} {n_is_space_thing : Nat} (k_is_space_thing : Kn B n_is_space_thing "is_space_thing" t_is_space_thing P_is_space_thing s_is_space_thing) (hk_is_space_thing : n_is_space_thing ≤ k) {s_is_stretch_thing : FS} {n_is_stretch_thing : Nat} (k_is_stretch_thing : Kn B n_is_stretch_thing "is_stretch_thing" t_is_stretch_thing P_is_stretch_thing s_is_stretch_thing) (hk_is_stretch_thing : n_is_stretch_thing ≤ k) : DSs (S_is_thing_value B k) (defBody t_is_thing_value) (w_is_thing_value s_is_parting_thing s_is_space_thing s_is_stretch_thing) := by
  have nd : N_is_thing_value.Nodup := by decide +kernel
  exact (dss_cons (ds_if (dt_cmp cm_eq (de_nm (i := 0)) de_str) dss_never dss_nil) (dss_cons (ds_if (dt_cmp cm_eq (de_nm (i := 0)) de_str) (dss_one (ds_ret (do_call k_is_parting_thing hk_is_parting_thing (da_cons (de_nm (i := 1)) (da_cons (de_nm (i := 2)) da_nil))))) dss_nil) (dss_one (ds_ret (do_if (dt_cmp cm_eq (de_nm (i := 0)) de_str) (do_call k_is_space_thing hk_is_space_thing (da_cons (de_nm (i := 1)) (da_cons (de_nm (i := 2)) da_nil))) (do_call k_is_stretch_thing hk_is_stretch_thing (da_cons (de_nm (i := 1)) (da_cons (de_nm (i := 2)) da_nil))))))))
def t_told_anew : Stmt := top 18
def N_told_anew : List Str := ["blocks", "names", "found", "block"]
def P_told_anew : List Str := ["blocks"]
abbrev S_told_anew (B : Bs) (k : Nat) : Sta := { B with N := N_told_anew, names := (defScope t_told_anew).names, k := k, fc := fun _ => true }
theorem sc_told_anew : FnScope N_told_anew P_told_anew (defScope t_told_anew) := ⟨rfl, rfl, rfl, by decide +kernel, rfl, by decide +kernel, by decide +kernel⟩
def w_told_anew : WS := wSeq (wPar2 1 2 (woDnewA) (woLst (waNil))) (wSeq (wFor (wjSeq (wvVar 0)) (wgName 3) (wSeq (wIfS (wtV (wOp oDNotIn (wVar 3) (wVar 1))) (wStoreD 1 (wVar 3) (wvO (woCB oLenD (waCons (wVar 1) (waNil))))) (wNext)) (wApp 2 (wvO (woFz (wOp oDGet (wVar 1) (wVar 3))))))) (wRet (woCB (oTupX .tix) (waCons (wVar 2) (waNil)))))
theorem d_told_anew {B : Bs} (ff : FF B) {k : Nat} : DSs (S_told_anew B k) (defBody t_told_anew) (w_told_anew) := by
  have nd : N_told_anew.Nodup := by decide +kernel
  exact (dss_cons (ds_par2 (i := 1) (j := 2) do_dnewA (do_lst da_nil) nd (hw := swap2 (by kernel_rfl) (by kernel_rfl) (by rfl) (by rfl) (by kernel_rfl) (by kernel_rfl))) (dss_cons (ds_for (dj_seq (dv_var (i := 0))) (dg_name (i := 3) nd) (dss_cons (ds_if (dt_dnotin (de_nm (i := 3)) (de_nm (i := 1))) (dss_one (ds_storeD (i := 1) (dv_do (do_callB cd_lenD (ff.f_len) (by decide +kernel) (da_cons (de_nm (i := 1)) da_nil))) (de_nm (i := 3)))) dss_nil) (dss_one (ds_app (i := 2) (dv_do (do_fz (de_dget (de_nm (i := 1)) (de_nm (i := 3))))))))) (dss_one (ds_ret (do_callTy cd_tix (ff.f_tuple) (by decide +kernel) (da_cons (de_nm (i := 2)) da_nil))))))
def t_joined_parting : Stmt := top 19
def N_joined_parting : List Str := ["one", "other", "blocks", "at", "block", "first", "elder", "newer", "name"]
def P_joined_parting : List Str := ["one", "other"]
abbrev S_joined_parting (B : Bs) (k : Nat) : Sta := { B with N := N_joined_parting, names := (defScope t_joined_parting).names, k := k, fc := fun _ => true }
theorem sc_joined_parting : FnScope N_joined_parting P_joined_parting (defScope t_joined_parting) := ⟨rfl, rfl, rfl, by decide +kernel, rfl, by decide +kernel, by decide +kernel⟩
def w_joined_parting (s_told_anew : FS) : WS := wSeq (wSet 2 (woCB oList (waCons (wVar 0) (waNil)))) (wSeq (wFor (wjEnumA (wvVar 1)) (wgTup 2 (wgCons (wgName 3) (wgCons (wgName 4) (wgNil)))) (wSeq (wSetG 5 (wvO (woFz (wIxT (wVar 1) (wVar 4))))) (wIfS (wtV (wOp oNe (wOp oIx (wVar 2) (wVar 3)) (wOp oIx (wVar 2) (wVar 5)))) (wSeq (wPar2 6 7 (woFz (wOp oIx (wVar 2) (wVar 3))) (woFz (wOp oIx (wVar 2) (wVar 5)))) (wSet 2 (wComp (wiSeq (wVar 2)) (wgName 8) (wtTrue) (wIf (wtV (wOp oEq (wVar 8) (wVar 6))) (wVar 7) (wVar 8)) [8]))) (wNext)))) (wRet (woCall s_told_anew (waCons (wVar 2) (waNil)))))
theorem d_joined_parting {B : Bs} (ff : FF B) {k : Nat} {s_told_anew : FS} {n_told_anew : Nat} (k_told_anew : Kn B n_told_anew "told_anew" t_told_anew P_told_anew s_told_anew) (hk_told_anew : n_told_anew ≤ k) : DSs (S_joined_parting B k) (defBody t_joined_parting) (w_joined_parting s_told_anew) := by
  have nd : N_joined_parting.Nodup := by decide +kernel
  exact (dss_cons (ds_set (i := 2) (do_callTy cd_list (ff.f_list) (by decide +kernel) (da_cons (de_nm (i := 0)) da_nil)) nd) (dss_cons (ds_for (dj_enumA (ff.f_enumerate) (dv_var (i := 1))) (dg_tup (dgs_cons (dg_name (i := 3) nd) (dgs_cons (dg_name (i := 4) nd) dgs_nil))) (dss_cons (ds_setG (i := 5) (dv_do (do_fz (de_ixT (de_nm (i := 1)) (de_nm (i := 4))))) nd) (dss_one (ds_if (dt_cmp cm_ne (de_ix (de_nm (i := 2)) (de_nm (i := 3))) (de_ix (de_nm (i := 2)) (de_nm (i := 5)))) (dss_cons (ds_parT2 (i := 6) (j := 7) (do_fz (de_ix (de_nm (i := 2)) (de_nm (i := 3)))) (do_fz (de_ix (de_nm (i := 2)) (de_nm (i := 5)))) nd) (dss_one (ds_setLc (i := 2) (own := [("name", 8)]) (di_seq (de_nm (i := 2))) nd (by kernel_rfl) (dg_name (i := 8) nd) (by decide) dts_nil (de_if (dt_cmp cm_eq (de_nm (i := 8)) (de_nm (i := 6))) (de_nm (i := 7)) (de_nm (i := 8)))))) dss_nil)))) (dss_one (ds_ret (do_call k_told_anew hk_told_anew (da_cons (de_nm (i := 2)) da_nil))))))
def t_raw_both : Stmt := top 20
def N_raw_both : List Str := ["kind", "one", "other", "x"]
def P_raw_both : List Str := ["kind", "one", "other"]
abbrev S_raw_both (B : Bs) (k : Nat) : Sta := { B with N := N_raw_both, names := (defScope t_raw_both).names, k := k, fc := fun _ => true }
theorem sc_raw_both : FnScope N_raw_both P_raw_both (defScope t_raw_both) := ⟨rfl, rfl, rfl, by decide +kernel, rfl, by decide +kernel, by decide +kernel⟩
def w_raw_both (s_told_anew : FS) : WS := wSeq (wIfS (wtV (wOp oEq (wVar 0) (wC (.str "numbers")))) (wNever) (wNext)) (wSeq (wIfS (wtV (wOp oEq (wVar 0) (wC (.str "partings")))) (wRet (woCall s_told_anew (waCons (wFz (woListZip (waCons (wVar 1) (waCons (wVar 2) (waNil))))) (waNil)))) (wNext)) (wSeq (wIfS (wtV (wOp oEq (wVar 0) (wC (.str "spaces")))) (wRet (woCB oTuple (waCons (wFz (wComp (wiSeq (wVar 1)) (wgName 3) (wtV (wOp oIn (wVar 3) (wVar 2))) (wVar 3) [3])) (waNil)))) (wNext)) (wSeq (wIfS (wtOr (wtV (wOp oEq0 (wVar 1) (wTup (waNil)))) (wtOr (wtV (wOp oEq0 (wVar 2) (wTup (waNil)))) (wtV (wOp (oB0 fun i j => decide (j < i)) (wFz (woCB oMax (waCons (wOp oIx (wVar 1) (wC (.int 0))) (waCons (wOp oIx (wVar 2) (wC (.int 0))) (waNil))))) (wFz (woCB oMin (waCons (wOp oIx (wVar 1) (wC (.int 1))) (waCons (wOp oIx (wVar 2) (wC (.int 1))) (waNil))))))))) (wRet (woFz (wTup (waNil)))) (wNext)) (wRet (woFz (wTup (waCons (wFz (woCB oMax (waCons (wOp oIx (wVar 1) (wC (.int 0))) (waCons (wOp oIx (wVar 2) (wC (.int 0))) (waNil))))) (waCons (wFz (woCB oMin (waCons (wOp oIx (wVar 1) (wC (.int 1))) (waCons (wOp oIx (wVar 2) (wC (.int 1))) (waNil))))) (waNil)))))))))
theorem d_raw_both {B : Bs} (ff : FF B) {k : Nat} {s_told_anew : FS} {n_told_anew : Nat} (k_told_anew : Kn B n_told_anew "told_anew" t_told_anew P_told_anew s_told_anew) (hk_told_anew : n_told_anew ≤ k) : DSs (S_raw_both B k) (defBody t_raw_both) (w_raw_both s_told_anew) := by
  have nd : N_raw_both.Nodup := by decide +kernel
  exact (dss_cons (ds_if (dt_cmp cm_eq (de_nm (i := 0)) de_str) dss_never dss_nil) (dss_cons (ds_if (dt_cmp cm_eq (de_nm (i := 0)) de_str) (dss_one (ds_ret (do_call k_told_anew hk_told_anew (da_cons (de_fz (do_listZip (ff.f_list) (ff.f_zip) (da_cons (de_nm (i := 1)) (da_cons (de_nm (i := 2)) da_nil)))) da_nil)))) dss_nil) (dss_cons (ds_if (dt_cmp cm_eq (de_nm (i := 0)) de_str) (dss_one (ds_ret (do_callTy cd_tuple (ff.f_tuple) (by decide +kernel) (da_cons (de_fz (do_lc (own := [("x", 3)]) (di_seq (de_nm (i := 1))) nd (by kernel_rfl) (dg_name (i := 3) nd) (by decide) (dts_one (dt_cmp cm_in (de_nm (i := 3)) (de_nm (i := 2)))) (de_nm (i := 3)))) da_nil)))) dss_nil) (dss_cons (ds_if (dt_pw (dw_or (dt_cmp cm_eq0 (de_nm (i := 1)) (de_tup da_nil)) (dw_or (dt_cmp cm_eq0 (de_nm (i := 2)) (de_tup da_nil)) (dw_or1 (dt_cmp cm_gt (de_fz (do_callB cd_max (ff.f_max) (by decide +kernel) (da_cons (de_ix (de_nm (i := 1)) de_int) (da_cons (de_ix (de_nm (i := 2)) de_int) da_nil)))) (de_fz (do_callB cd_min (ff.f_min) (by decide +kernel) (da_cons (de_ix (de_nm (i := 1)) de_int) (da_cons (de_ix (de_nm (i := 2)) de_int) da_nil))))))))) (dss_one (ds_ret (do_fz (de_tup da_nil)))) dss_nil) (dss_one (ds_ret (do_fz (de_tup (da_cons (de_fz (do_callB cd_max (ff.f_max) (by decide +kernel) (da_cons (de_ix (de_nm (i := 1)) de_int) (da_cons (de_ix (de_nm (i := 2)) de_int) da_nil)))) (da_cons (de_fz (do_callB cd_min (ff.f_min) (by decide +kernel) (da_cons (de_ix (de_nm (i := 1)) de_int) (da_cons (de_ix (de_nm (i := 2)) de_int) da_nil)))) da_nil))))))))))
def t_raw_all : Stmt := top 21
def N_raw_all : List Str := ["kind", "one", "other", "x", "y"]
def P_raw_all : List Str := ["kind", "one", "other"]
abbrev S_raw_all (B : Bs) (k : Nat) : Sta := { B with N := N_raw_all, names := (defScope t_raw_all).names, k := k, fc := fun _ => true }
theorem sc_raw_all : FnScope N_raw_all P_raw_all (defScope t_raw_all) := ⟨rfl, rfl, rfl, by decide +kernel, rfl, by decide +kernel, by decide +kernel⟩
def w_raw_all (s_joined_parting : FS) : WS := wSeq (wIfS (wtV (wOp oEq (wVar 0) (wC (.str "numbers")))) (wNever) (wNext)) (wSeq (wIfS (wtV (wOp oEq (wVar 0) (wC (.str "partings")))) (wRet (woCall s_joined_parting (waCons (wVar 1) (waCons (wVar 2) (waNil))))) (wNext)) (wSeq (wIfS (wtV (wOp oEq (wVar 0) (wC (.str "spaces")))) (wRet (woCB oTuple (waCons (wFz (woSortSetA (wFz (wComp2 (wiSeq (wVar 1)) (wgName 3) (wtTrue) (wiSeq (wVar 2)) (wgName 4) (wtTrue) (wOp (oI0 Builtin.bitXor) (wVar 3) (wVar 4)) [3, 4] [4])))) (waNil)))) (wNext)) (wSeq (wIfS (wtOr (wtV (wOp oEq0 (wVar 1) (wTup (waNil)))) (wtV (wOp oEq0 (wVar 2) (wTup (waNil))))) (wRet (woIf (wtV (wOp oEq0 (wVar 2) (wTup (waNil)))) (woFz (wVar 1)) (woFz (wVar 2)))) (wNext)) (wRet (woFz (wTup (waCons (wFz (woCB oMin (waCons (wOp oIx (wVar 1) (wC (.int 0))) (waCons (wOp oIx (wVar 2) (wC (.int 0))) (waNil))))) (waCons (wFz (woCB oMax (waCons (wOp oIx (wVar 1) (wC (.int 1))) (waCons (wOp oIx (wVar 2) (wC (.int 1))) (waNil))))) (waNil)))))))))
theorem d_raw_all {B : Bs} (ff : FF B) {k : Nat} {s_joined_parting : FS} {n_joined_parting : Nat} (k_joined_parting : Kn B n_joined_parting "joined_parting" t_joined_parting P_joined_parting s_joined_parting) (hk_joined_parting : n_joined_parting ≤ k) : DSs (S_raw_all B k) (defBody t_raw_all) (w_raw_all s_joined_parting) := by
  have nd : N_raw_all.Nodup := by decide +kernel
  exact (dss_cons (ds_if (dt_cmp cm_eq (de_nm (i := 0)) de_str) dss_never dss_nil) (dss_cons (ds_if (dt_cmp cm_eq (de_nm (i := 0)) de_str) (dss_one (ds_ret (do_call k_joined_parting hk_joined_parting (da_cons (de_nm (i := 1)) (da_cons (de_nm (i := 2)) da_nil))))) dss_nil) (dss_cons (ds_if (dt_cmp cm_eq (de_nm (i := 0)) de_str) (dss_one (ds_ret (do_callTy cd_tuple (ff.f_tuple) (by decide +kernel) (da_cons (de_fz (do_sortSetA (ff.f_sorted) (ff.f_set) (de_fz (do_lc2 (own := [("x", 3), ("y", 4)]) (vs1 := [4]) (di_seq (de_nm (i := 1))) nd (by kernel_rfl) (dg_name (i := 3) nd) (by decide) dts_nil (di_seq (de_nm (i := 2))) (dg_name (i := 4) nd) (by decide) (by decide) dts_nil (de_xor (de_nm (i := 3)) (de_nm (i := 4))))))) da_nil)))) dss_nil) (dss_cons (ds_if (dt_pw (dw_or (dt_cmp cm_eq0 (de_nm (i := 1)) (de_tup da_nil)) (dw_or1 (dt_cmp cm_eq0 (de_nm (i := 2)) (de_tup da_nil))))) (dss_one (ds_ret (do_if (dt_cmp cm_eq0 (de_nm (i := 2)) (de_tup da_nil)) (do_fz (de_nm (i := 1))) (do_fz (de_nm (i := 2)))))) dss_nil) (dss_one (ds_ret (do_fz (de_tup (da_cons (de_fz (do_callB cd_min (ff.f_min) (by decide +kernel) (da_cons (de_ix (de_nm (i := 1)) de_int) (da_cons (de_ix (de_nm (i := 2)) de_int) da_nil)))) (da_cons (de_fz (do_callB cd_max (ff.f_max) (by decide +kernel) (da_cons (de_ix (de_nm (i := 1)) de_int) (da_cons (de_ix (de_nm (i := 2)) de_int) da_nil)))) da_nil))))))))))
def t_raw_within : Stmt := top 22
def N_raw_within : List Str := ["kind", "one", "other"]
def P_raw_within : List Str := ["kind", "one", "other"]
abbrev S_raw_within (B : Bs) (k : Nat) : Sta := { B with N := N_raw_within, names := (defScope t_raw_within).names, k := k, fc := fun _ => true }
theorem sc_raw_within : FnScope N_raw_within P_raw_within (defScope t_raw_within) := ⟨rfl, rfl, rfl, by decide +kernel, rfl, by decide +kernel, by decide +kernel⟩
def w_raw_within (s_raw_both : FS) : WS := wRet (woFz (wOp oEq (wFz (woCall s_raw_both (waCons (wVar 0) (waCons (wVar 1) (waCons (wVar 2) (waNil)))))) (wVar 1)))
theorem d_raw_within {B : Bs} (ff : FF B) {k : Nat} {s_raw_both : FS} {n_raw_both : Nat} (k_raw_both : Kn B n_raw_both "raw_both" t_raw_both P_raw_both s_raw_both) (hk_raw_both : n_raw_both ≤ k) : DSs (S_raw_within B k) (defBody t_raw_within) (w_raw_within s_raw_both) := by
  have nd : N_raw_within.Nodup := by decide +kernel
  exact (dss_one (ds_ret (do_fz (de_cmp cm_eq (de_fz (do_call k_raw_both hk_raw_both (da_cons (de_nm (i := 0)) (da_cons (de_nm (i := 1)) (da_cons (de_nm (i := 2)) da_nil))))) (de_nm (i := 1))))))
def t_is_size : Stmt := top 23
def N_is_size : List Str := ["kind", "thing"]
def P_is_size : List Str := ["kind", "thing"]
abbrev S_is_size (B : Bs) (k : Nat) : Sta := { B with N := N_is_size, names := (defScope t_is_size).names, k := k, fc := fun _ => true }
theorem sc_is_size : FnScope N_is_size P_is_size (defScope t_is_size) := ⟨rfl, rfl, rfl, by decide +kernel, rfl, by decide +kernel, by decide +kernel⟩
def w_is_size (s_is_integer : FS) : WS := wRet (woFz (wAnd (wFz (woCall s_is_integer (waCons (wVar 1) (waNil)))) (wChain (oB0 fun i j => decide (i ≤ j)) (oB0 fun i j => decide (i ≤ j)) (wC (.int 1)) (wVar 1) (wTab D_MOST_OF (wVar 0)))))
theorem d_is_size {B : Bs} (ff : FF B) {k : Nat} {s_is_integer : FS} {n_is_integer : Nat} (k_is_integer : Kn B n_is_integer "is_integer" t_is_integer P_is_integer s_is_integer) (hk_is_integer : n_is_integer ≤ k) : DSs (S_is_size B k) (defBody t_is_size) (w_is_size s_is_integer) := by
  have nd : N_is_size.Nodup := by decide +kernel
  exact (dss_one (ds_ret (do_fz (de_andV (de_fz (do_call k_is_integer hk_is_integer (da_cons (de_nm (i := 1)) da_nil))) (de_one (de_chain cm_le cm_le de_int (de_nm (i := 1)) (de_tab ff.d_MOST_OF (de_nm (i := 0)))))))))
def t_need_kind : Stmt := top 25
def N_need_kind : List Str := ["kind", "size"]
def P_need_kind : List Str := ["kind", "size"]
abbrev S_need_kind (B : Bs) (k : Nat) : Sta := { B with N := N_need_kind, names := (defScope t_need_kind).names, k := k, fc := fun _ => true }
theorem sc_need_kind : FnScope N_need_kind P_need_kind (defScope t_need_kind) := ⟨rfl, rfl, rfl, by decide +kernel, rfl, by decide +kernel, by decide +kernel⟩
def w_need_kind (s_is_size : FS) : WS := wSeq (wIfS (wtOr (wtNot (wtV (wIsi "str" (wVar 0)))) (wtV (wNotInG T_KINDS (wVar 0)))) (wNever) (wNext)) (wIfS (wtNot (wtV (wFz (woCall s_is_size (waCons (wVar 0) (waCons (wVar 1) (waNil))))))) (wNever) (wNext))
theorem d_need_kind {B : Bs} (ff : FF B) {k : Nat} {s_is_size : FS} {n_is_size : Nat} (k_is_size : Kn B n_is_size "is_size" t_is_size P_is_size s_is_size) (hk_is_size : n_is_size ≤ k) : DSs (S_need_kind B k) (defBody t_need_kind) (w_need_kind s_is_size) := by
  have nd : N_need_kind.Nodup := by decide +kernel
  exact (dss_cons (ds_if (dt_pw (dw_or (dt_not (dt_val (de_isi (ff.f_isinstance) (ff.f_str) (by decide +kernel) (by decide) (de_nm (i := 0))))) (dw_or1 (dt_notInG ff.t_KINDS (de_nm (i := 0)))))) (dss_one ds_never) dss_nil) (dss_one (ds_if (dt_not (dt_val (de_fz (do_call k_is_size hk_is_size (da_cons (de_nm (i := 0)) (da_cons (de_nm (i := 1)) da_nil)))))) (dss_one ds_never) dss_nil)))
def t_need_things : Stmt := top 26
def N_need_things : List Str := ["kind", "size", "things", "thing"]
def P_need_things : List Str := ["kind", "size", "things"]
abbrev S_need_things (B : Bs) (k : Nat) : Sta := { B with N := N_need_things, names := (defScope t_need_things).names, k := k, fc := fun _ => true }
theorem sc_need_things : FnScope N_need_things P_need_things (defScope t_need_things) := ⟨rfl, rfl, rfl, by decide +kernel, rfl, by decide +kernel, by decide +kernel⟩
def w_need_things (s_need_kind : FS) (s_is_thing_value : FS) : WS := wSeq (wExpr (wFz (woCall s_need_kind (waCons (wVar 0) (waCons (wVar 1) (waNil)))))) (wFor (wjSeq (wvVar 2)) (wgName 3) (wIfS (wtNot (wtV (wFz (woCall s_is_thing_value (waCons (wVar 0) (waCons (wVar 1) (waCons (wVar 3) (waNil)))))))) (wNever) (wNext)))
theorem d_need_things {B : Bs} (ff : FF B) {k : Nat} {s_need_kind : FS} {n_need_kind : Nat} (k_need_kind : Kn B n_need_kind "need_kind" t_need_kind P_need_kind s_need_kind) (hk_need_kind : n_need_kind ≤ k) {s_is_thing_value : FS} {n_is_thing_value : Nat} (k_is_thing_value : Kn B n_is_thing_value "is_thing_value" t_is_thing_value P_is_thing_value s_is_thing_value) (hk_is_thing_value : n_is_thing_value ≤ k) : DSs (S_need_things B k) (defBody t_need_things) (w_need_things s_need_kind s_is_thing_value) := by
  have nd : N_need_things.Nodup := by decide +kernel
  exact (dss_cons (ds_expr (de_fz (do_call k_need_kind hk_need_kind (da_cons (de_nm (i := 0)) (da_cons (de_nm (i := 1)) da_nil))))) (dss_one (ds_for (dj_seq (dv_var (i := 2))) (dg_name (i := 3) nd) (dss_one (ds_if (dt_not (dt_val (de_fz (do_call k_is_thing_value hk_is_thing_value (da_cons (de_nm (i := 0)) (da_cons (de_nm (i := 1)) (da_cons (de_nm (i := 3)) da_nil))))))) (dss_one ds_never) dss_nil)))))
def t_is_thing : Stmt := top 27
def N_is_thing : List Str := ["kind", "size", "thing"]
def P_is_thing : List Str := ["kind", "size", "thing"]
abbrev S_is_thing (B : Bs) (k : Nat) : Sta := { B with N := N_is_thing, names := (defScope t_is_thing).names, k := k, fc := fun _ => true }
theorem sc_is_thing : FnScope N_is_thing P_is_thing (defScope t_is_thing) := ⟨rfl, rfl, rfl, by decide +kernel, rfl, by decide +kernel, by decide +kernel⟩
def w_is_thing (s_need_kind : FS) (s_is_thing_value : FS) : WS := wSeq (wExpr (wFz (woCall s_need_kind (waCons (wVar 0) (waCons (wVar 1) (waNil)))))) (wRet (woCall s_is_thing_value (waCons (wVar 0) (waCons (wVar 1) (waCons (wVar 2) (waNil))))))
theorem d_is_thing {B : Bs} (ff : FF B) {k : Nat} {s_need_kind : FS} {n_need_kind : Nat} (k_need_kind : Kn B n_need_kind "need_kind" t_need_kind P_need_kind s_need_kind) (hk_need_kind : n_need_kind ≤ k) {s_is_thing_value : FS} {n_is_thing_value : Nat} (k_is_thing_value : Kn B n_is_thing_value "is_thing_value" t_is_thing_value P_is_thing_value s_is_thing_value) (hk_is_thing_value : n_is_thing_value ≤ k) : DSs (S_is_thing B k) (defBody t_is_thing) (w_is_thing s_need_kind s_is_thing_value) := by
  have nd : N_is_thing.Nodup := by decide +kernel
  exact (dss_cons (ds_expr (de_fz (do_call k_need_kind hk_need_kind (da_cons (de_nm (i := 0)) (da_cons (de_nm (i := 1)) da_nil))))) (dss_one (ds_ret (do_call k_is_thing_value hk_is_thing_value (da_cons (de_nm (i := 0)) (da_cons (de_nm (i := 1)) (da_cons (de_nm (i := 2)) da_nil)))))))
def t_both_things : Stmt := top 28
def N_both_things : List Str := ["kind", "size", "one", "other"]
def P_both_things : List Str := ["kind", "size", "one", "other"]
abbrev S_both_things (B : Bs) (k : Nat) : Sta := { B with N := N_both_things, names := (defScope t_both_things).names, k := k, fc := fun _ => true }
theorem sc_both_things : FnScope N_both_things P_both_things (defScope t_both_things) := ⟨rfl, rfl, rfl, by decide +kernel, rfl, by decide +kernel, by decide +kernel⟩
def w_both_things (s_need_things : FS) (s_raw_both : FS) : WS := wSeq (wExpr (wFz (woCall s_need_things (waCons (wVar 0) (waCons (wVar 1) (waCons (wTup (waCons (wVar 2) (waCons (wVar 3) (waNil)))) (waNil))))))) (wRet (woCall s_raw_both (waCons (wVar 0) (waCons (wVar 2) (waCons (wVar 3) (waNil))))))
theorem d_both_things {B : Bs} (ff : FF B) {k : Nat} {s_need_things : FS} {n_need_things : Nat} (k_need_things : Kn B n_need_things "need_things" t_need_things P_need_things s_need_things) (hk_need_things : n_need_things ≤ k) {s_raw_both : FS} {n_raw_both : Nat} (k_raw_both : Kn B n_raw_both "raw_both" t_raw_both P_raw_both s_raw_both) (hk_raw_both : n_raw_both ≤ k) : DSs (S_both_things B k) (defBody t_both_things) (w_both_things s_need_things s_raw_both) := by
  have nd : N_both_things.Nodup := by decide +kernel
  exact (dss_cons (ds_expr (de_fz (do_call k_need_things hk_need_things (da_cons (de_nm (i := 0)) (da_cons (de_nm (i := 1)) (da_cons (de_tup (da_cons (de_nm (i := 2)) (da_cons (de_nm (i := 3)) da_nil))) da_nil)))))) (dss_one (ds_ret (do_call k_raw_both hk_raw_both (da_cons (de_nm (i := 0)) (da_cons (de_nm (i := 2)) (da_cons (de_nm (i := 3)) da_nil)))))))
def t_all_things : Stmt := top 29
def N_all_things : List Str := ["kind", "size", "one", "other"]
def P_all_things : List Str := ["kind", "size", "one", "other"]
abbrev S_all_things (B : Bs) (k : Nat) : Sta := { B with N := N_all_things, names := (defScope t_all_things).names, k := k, fc := fun _ => true }
theorem sc_all_things : FnScope N_all_things P_all_things (defScope t_all_things) := ⟨rfl, rfl, rfl, by decide +kernel, rfl, by decide +kernel, by decide +kernel⟩
def w_all_things (s_need_things : FS) (s_raw_all : FS) : WS := wSeq (wExpr (wFz (woCall s_need_things (waCons (wVar 0) (waCons (wVar 1) (waCons (wTup (waCons (wVar 2) (waCons (wVar 3) (waNil)))) (waNil))))))) (wRet (woCall s_raw_all (waCons (wVar 0) (waCons (wVar 2) (waCons (wVar 3) (waNil))))))
theorem d_all_things {B : Bs} (ff : FF B) {k : Nat} {s_need_things : FS} {n_need_things : Nat} (k_need_things : Kn B n_need_things "need_things" t_need_things P_need_things s_need_things) (hk_need_things : n_need_things ≤ k) {s_raw_all : FS} {n_raw_all : Nat} (k_raw_all : Kn B n_raw_all "raw_all" t_raw_all P_raw_all s_raw_all) (hk_raw_all : n_raw_all ≤ k) : DSs (S_all_things B k) (defBody t_all_things) (w_all_things s_need_things s_raw_all) := by
  have nd : N_all_things.Nodup := by decide +kernel
  exact (dss_cons (ds_expr (de_fz (do_call k_need_things hk_need_things (da_cons (de_nm (i := 0)) (da_cons (de_nm (i := 1)) (da_cons (de_tup (da_cons (de_nm (i := 2)) (da_cons (de_nm (i := 3)) da_nil))) da_nil)))))) (dss_one (ds_ret (do_call k_raw_all hk_raw_all (da_cons (de_nm (i := 0)) (da_cons (de_nm (i := 2)) (da_cons (de_nm (i := 3)) da_nil)))))))
def t_is_within_thing : Stmt := top 30
def N_is_within_thing : List Str := ["kind", "size", "one", "other"]
def P_is_within_thing : List Str := ["kind", "size", "one", "other"]
abbrev S_is_within_thing (B : Bs) (k : Nat) : Sta := { B with N := N_is_within_thing, names := (defScope t_is_within_thing).names, k := k, fc := fun _ => true }
theorem sc_is_within_thing : FnScope N_is_within_thing P_is_within_thing (defScope t_is_within_thing) := ⟨rfl, rfl, rfl, by decide +kernel, rfl, by decide +kernel, by decide +kernel⟩
def w_is_within_thing (s_need_things : FS) (s_raw_within : FS) : WS := wSeq (wExpr (wFz (woCall s_need_things (waCons (wVar 0) (waCons (wVar 1) (waCons (wTup (waCons (wVar 2) (waCons (wVar 3) (waNil)))) (waNil))))))) (wRet (woCall s_raw_within (waCons (wVar 0) (waCons (wVar 2) (waCons (wVar 3) (waNil))))))
theorem d_is_within_thing {B : Bs} (ff : FF B) {k : Nat} {s_need_things : FS} {n_need_things : Nat} (k_need_things : Kn B n_need_things "need_things" t_need_things P_need_things s_need_things) (hk_need_things : n_need_things ≤ k) {s_raw_within : FS} {n_raw_within : Nat} (k_raw_within : Kn B n_raw_within "raw_within" t_raw_within P_raw_within s_raw_within) (hk_raw_within : n_raw_within ≤ k) : DSs (S_is_within_thing B k) (defBody t_is_within_thing) (w_is_within_thing s_need_things s_raw_within) := by
  have nd : N_is_within_thing.Nodup := by decide +kernel
  exact (dss_cons (ds_expr (de_fz (do_call k_need_things hk_need_things (da_cons (de_nm (i := 0)) (da_cons (de_nm (i := 1)) (da_cons (de_tup (da_cons (de_nm (i := 2)) (da_cons (de_nm (i := 3)) da_nil))) da_nil)))))) (dss_one (ds_ret (do_call k_raw_within hk_raw_within (da_cons (de_nm (i := 0)) (da_cons (de_nm (i := 2)) (da_cons (de_nm (i := 3)) da_nil)))))))
def t__law_pick : Stmt := top 34
def N__law_pick : List Str := ["_law_deck_here", "_law_some"]
def P__law_pick : List Str := ["_law_deck_here", "_law_some"]
abbrev S__law_pick (B : Bs) (k : Nat) : Sta := { B with N := N__law_pick, names := (defScope t__law_pick).names, k := k, fc := fun _ => true }
theorem sc__law_pick : FnScope N__law_pick P__law_pick (defScope t__law_pick) := ⟨rfl, rfl, rfl, by decide +kernel, rfl, by decide +kernel, by decide +kernel⟩
def w__law_pick (s__law_draw : FS) : WS := wRet (woFz (wOp oIx (wVar 1) (wFz (woCall s__law_draw (waCons (wVar 0) (waCons (wFz (woCB oLenD (waCons (wVar 1) (waNil)))) (waNil)))))))
theorem d__law_pick {B : Bs} (ff : FF B) {k : Nat} {s__law_draw : FS} {n__law_draw : Nat} (k__law_draw : Kn B n__law_draw "_law_draw" t__law_draw P__law_draw s__law_draw) (hk__law_draw : n__law_draw ≤ k) : DSs (S__law_pick B k) (defBody t__law_pick) (w__law_pick s__law_draw) := by
  have nd : N__law_pick.Nodup := by decide +kernel
  exact (dss_one (ds_ret (do_fz (de_ix (de_nm (i := 1)) (de_fz (do_call k__law_draw hk__law_draw (da_cons (de_nm (i := 0)) (da_cons (de_fz (do_callB cd_lenD (ff.f_len) (by decide +kernel) (da_cons (de_nm (i := 1)) da_nil))) da_nil))))))))
def t__law_size : Stmt := top 35
def N__law_size : List Str := ["_law_deck_here", "_law_kind"]
def P__law_size : List Str := ["_law_deck_here", "_law_kind"]
abbrev S__law_size (B : Bs) (k : Nat) : Sta := { B with N := N__law_size, names := (defScope t__law_size).names, k := k, fc := fun _ => true }
theorem sc__law_size : FnScope N__law_size P__law_size (defScope t__law_size) := ⟨rfl, rfl, rfl, by decide +kernel, rfl, by decide +kernel, by decide +kernel⟩
def w__law_size (s__law_pick : FS) : WS := wSeq (wIfS (wtV (wOp oEq (wVar 1) (wC (.str "partings")))) (wRet (woCall s__law_pick (waCons (wVar 0) (waCons (wFz (woLst (waCons (wC (.int 4)) (waCons (wC (.int 3)) (waCons (wC (.int 5)) (waCons (wC (.int 2)) (waCons (wC (.int 6)) (waCons (wC (.int 1)) (waNil))))))))) (waNil))))) (wNext)) (wRet (woCall s__law_pick (waCons (wVar 0) (waCons (wFz (woLst (waCons (wC (.int 3)) (waCons (wC (.int 2)) (waCons (wC (.int 4)) (waCons (wC (.int 1)) (waNil))))))) (waNil)))))
theorem d__law_size {B : Bs} (ff : FF B) {k : Nat} {s__law_pick : FS} {n__law_pick : Nat} (k__law_pick : Kn B n__law_pick "_law_pick" t__law_pick P__law_pick s__law_pick) (hk__law_pick : n__law_pick ≤ k) : DSs (S__law_size B k) (defBody t__law_size) (w__law_size s__law_pick) := by
  have nd : N__law_size.Nodup := by decide +kernel
  exact (dss_cons (ds_if (dt_cmp cm_eq (de_nm (i := 1)) de_str) (dss_one (ds_ret (do_call k__law_pick hk__law_pick (da_cons (de_nm (i := 0)) (da_cons (de_fz (do_lst (da_cons de_int (da_cons de_int (da_cons de_int (da_cons de_int (da_cons de_int (da_cons de_int da_nil)))))))) da_nil))))) dss_nil) (dss_one (ds_ret (do_call k__law_pick hk__law_pick (da_cons (de_nm (i := 0)) (da_cons (de_fz (do_lst (da_cons de_int (da_cons de_int (da_cons de_int (da_cons de_int da_nil)))))) da_nil))))))
def t__law_named : Stmt := top 36
def N__law_named : List Str := ["_law_blocks", "_law_found", "_law_names", "_law_block"]
def P__law_named : List Str := ["_law_blocks"]
abbrev S__law_named (B : Bs) (k : Nat) : Sta := { B with N := N__law_named, names := (defScope t__law_named).names, k := k, fc := fun _ => true }
theorem sc__law_named : FnScope N__law_named P__law_named (defScope t__law_named) := ⟨rfl, rfl, rfl, by decide +kernel, rfl, by decide +kernel, by decide +kernel⟩
def w__law_named : WS := wSeq (wPar2 1 2 (woLst (waNil)) (woDnewA)) (wSeq (wFor (wjSeq (wvVar 0)) (wgName 3) (wSeq (wIfS (wtV (wOp oDNotIn (wVar 3) (wVar 2))) (wStoreD 2 (wVar 3) (wvO (woCB oLenD (waCons (wVar 2) (waNil))))) (wNext)) (wApp 1 (wvO (woFz (wOp oDGet (wVar 2) (wVar 3))))))) (wRet (woCB (oTupX .tix) (waCons (wVar 1) (waNil)))))
theorem d__law_named {B : Bs} (ff : FF B) {k : Nat} : DSs (S__law_named B k) (defBody t__law_named) (w__law_named) := by
  have nd : N__law_named.Nodup := by decide +kernel
  exact (dss_cons (ds_par2 (i := 1) (j := 2) (do_lst da_nil) do_dnewA nd (hw := swap2 (by kernel_rfl) (by kernel_rfl) (by rfl) (by rfl) (by kernel_rfl) (by kernel_rfl))) (dss_cons (ds_for (dj_seq (dv_var (i := 0))) (dg_name (i := 3) nd) (dss_cons (ds_if (dt_dnotin (de_nm (i := 3)) (de_nm (i := 2))) (dss_one (ds_storeD (i := 2) (dv_do (do_callB cd_lenD (ff.f_len) (by decide +kernel) (da_cons (de_nm (i := 2)) da_nil))) (de_nm (i := 3)))) dss_nil) (dss_one (ds_app (i := 1) (dv_do (do_fz (de_dget (de_nm (i := 2)) (de_nm (i := 3))))))))) (dss_one (ds_ret (do_callTy cd_tix (ff.f_tuple) (by decide +kernel) (da_cons (de_nm (i := 1)) da_nil))))))
def t__law_sums : Stmt := top 37
def N__law_sums : List Str := ["_law_one", "_law_other", "_law_found", "_law_x", "_law_y"]
def P__law_sums : List Str := ["_law_one", "_law_other"]
abbrev S__law_sums (B : Bs) (k : Nat) : Sta := { B with N := N__law_sums, names := (defScope t__law_sums).names, k := k, fc := fun _ => true }
theorem sc__law_sums : FnScope N__law_sums P__law_sums (defScope t__law_sums) := ⟨rfl, rfl, rfl, by decide +kernel, rfl, by decide +kernel, by decide +kernel⟩
def w__law_sums : WS := wSeq (wSet 2 (woLst (waNil))) (wSeq (wFor (wjSeq (wvVar 0)) (wgName 3) (wExt 2 (wvO (wComp (wiSeq (wVar 1)) (wgName 4) (wtTrue) (wOp (oI0 Builtin.bitXor) (wVar 3) (wVar 4)) [4])))) (wRet (woCB oTuple (waCons (wFz (woSortSetA (wVar 2))) (waNil)))))
theorem d__law_sums {B : Bs} (ff : FF B) {k : Nat} : DSs (S__law_sums B k) (defBody t__law_sums) (w__law_sums) := by
  have nd : N__law_sums.Nodup := by decide +kernel
  exact (dss_cons (ds_set (i := 2) (do_lst da_nil) nd) (dss_cons (ds_for (dj_seq (dv_var (i := 0))) (dg_name (i := 3) nd) (dss_one (ds_ext (i := 2) (dv_do (do_lc (own := [("_law_y", 4)]) (di_seq (de_nm (i := 1))) nd (by kernel_rfl) (dg_name (i := 4) nd) (by decide) dts_nil (de_xor (de_nm (i := 3)) (de_nm (i := 4)))))))) (dss_one (ds_ret (do_callTy cd_tuple (ff.f_tuple) (by decide +kernel) (da_cons (de_fz (do_sortSetA (ff.f_sorted) (ff.f_set) (de_nm (i := 2)))) da_nil))))))
def t__law_thing : Stmt := top 38
def N__law_thing : List Str := ["_law_deck_here", "_law_kind", "_law_size_here", "_law_few", "_law_found", "_law_go", "_law_place"]
def P__law_thing : List Str := ["_law_deck_here", "_law_kind", "_law_size_here"]
abbrev S__law_thing (B : Bs) (k : Nat) : Sta := { B with N := N__law_thing, names := (defScope t__law_thing).names, k := k, fc := fun _ => true }
theorem sc__law_thing : FnScope N__law_thing P__law_thing (defScope t__law_thing) := ⟨rfl, rfl, rfl, by decide +kernel, rfl, by decide +kernel, by decide +kernel⟩
def w__law_thing (s__law_draw : FS) (s__law_named : FS) (s__law_sums : FS) : WS := wSeq (wIfS (wtV (wOp oEq (wVar 1) (wC (.str "partings")))) (wSeq (wSet 3 (wOpO oAdd (wC (.int 1)) (wFz (woCall s__law_draw (waCons (wVar 0) (waCons (wVar 2) (waNil))))))) (wRet (woCall s__law_named (waCons (wFz (wComp (wiRange1 (waCons (wVar 2) (waNil))) (wgName 6) (wtTrue) (wFz (woCall s__law_draw (waCons (wVar 0) (waCons (wVar 3) (waNil))))) [6])) (waNil))))) (wNext)) (wSeq (wSet 4 (woFz (wTup (waCons (wC (.int 0)) (waNil))))) (wSeq (wFor (wjRange1 (waCons (wFz (woCall s__law_draw (waCons (wVar 0) (waCons (wFz (wOpO oAdd (wVar 2) (wC (.int 1)))) (waNil))))) (waNil))) (wgName 5) (wSet 4 (woCall s__law_sums (waCons (wVar 4) (waCons (wTup (waCons (wC (.int 0)) (waCons (wFz (woCall s__law_draw (waCons (wVar 0) (waCons (wOp (oI CPow fun i j => i * 2 ^ j.toNat) (wC (.int 1)) (wVar 2)) (waNil))))) (waNil)))) (waNil)))))) (wRetV 4)))
theorem d__law_thing {B : Bs} (ff : FF B) {k : Nat} {s__law_draw : FS} {n__law_draw : Nat} (k__law_draw : Kn B n__law_draw "_law_draw" t__law_draw P__law_draw s__law_draw) (hk__law_draw : n__law_draw ≤ k) {s__law_named : FS} {n__law_named : Nat} (k__law_named : Kn B n__law_named "_law_named" t__law_named P__law_named s__law_named) (hk__law_named : n__law_named ≤ k) {s__law_sums : FS} {n__law_sums : Nat} (k__law_sums : Kn B n__law_sums "_law_sums" t__law_sums P__law_sums s__law_sums) (hk__law_sums : n__law_sums ≤ k) : DSs (S__law_thing B k) (defBody t__law_thing) (w__law_thing s__law_draw s__law_named s__law_sums) := by
  have nd : N__law_thing.Nodup := by decide +kernel
  exact (dss_cons (ds_if (dt_cmp cm_eq (de_nm (i := 1)) de_str) (dss_cons (ds_set (i := 3) (do_op od_add de_int (de_fz (do_call k__law_draw hk__law_draw (da_cons (de_nm (i := 0)) (da_cons (de_nm (i := 2)) da_nil))))) nd) (dss_one (ds_ret (do_call k__law_named hk__law_named (da_cons (de_fz (do_lc (own := [("_law_place", 6)]) (di_range1 (ff.f_range) (da_cons (de_nm (i := 2)) da_nil)) nd (by kernel_rfl) (dg_name (i := 6) nd) (by decide) dts_nil (de_fz (do_call k__law_draw hk__law_draw (da_cons (de_nm (i := 0)) (da_cons (de_nm (i := 3)) da_nil)))))) da_nil))))) dss_nil) (dss_cons (ds_set (i := 4) (do_fz (de_tup (da_cons de_int da_nil))) nd) (dss_cons (ds_for (dj_range1 (ff.f_range) (da_cons (de_fz (do_call k__law_draw hk__law_draw (da_cons (de_nm (i := 0)) (da_cons (de_fz (do_op od_add (de_nm (i := 2)) de_int)) da_nil)))) da_nil)) (dg_name (i := 5) nd) (dss_one (ds_set (i := 4) (do_call k__law_sums hk__law_sums (da_cons (de_nm (i := 4)) (da_cons (de_tup (da_cons de_int (da_cons (de_fz (do_call k__law_draw hk__law_draw (da_cons (de_nm (i := 0)) (da_cons (de_shl de_int (de_nm (i := 2))) da_nil)))) da_nil))) da_nil))) nd))) (dss_one (ds_retV (i := 4))))))
def t__law_both : Stmt := top 39
def N__law_both : List Str := ["_law_kind", "_law_one", "_law_other", "_law_x", "_law_y"]
def P__law_both : List Str := ["_law_kind", "_law_one", "_law_other"]
abbrev S__law_both (B : Bs) (k : Nat) : Sta := { B with N := N__law_both, names := (defScope t__law_both).names, k := k, fc := fun _ => true }
theorem sc__law_both : FnScope N__law_both P__law_both (defScope t__law_both) := ⟨rfl, rfl, rfl, by decide +kernel, rfl, by decide +kernel, by decide +kernel⟩
def w__law_both (s__law_named : FS) : WS := wSeq (wIfS (wtV (wOp oEq (wVar 0) (wC (.str "partings")))) (wRet (woCall s__law_named (waCons (wFz (wComp (wiZip (waCons (wVar 1) (waCons (wVar 2) (waNil)))) (wgTup 2 (wgCons (wgName 3) (wgCons (wgName 4) (wgNil)))) (wtTrue) (wTupK (waCons (wVar 3) (waCons (wVar 4) (waNil)))) [3, 4])) (waNil)))) (wNext)) (wRet (woCB oTuple (waCons (wFz (wComp (wiSeq (wVar 1)) (wgName 3) (wtV (wOp oIn (wVar 3) (wVar 2))) (wVar 3) [3])) (waNil))))
theorem d__law_both {B : Bs} (ff : FF B) {k : Nat} {s__law_named : FS} {n__law_named : Nat} (k__law_named : Kn B n__law_named "_law_named" t__law_named P__law_named s__law_named) (hk__law_named : n__law_named ≤ k) : DSs (S__law_both B k) (defBody t__law_both) (w__law_both s__law_named) := by
  have nd : N__law_both.Nodup := by decide +kernel
  exact (dss_cons (ds_if (dt_cmp cm_eq (de_nm (i := 0)) de_str) (dss_one (ds_ret (do_call k__law_named hk__law_named (da_cons (de_fz (do_lc (own := [("_law_x", 3), ("_law_y", 4)]) (di_zip (ff.f_zip) (da_cons (de_nm (i := 1)) (da_cons (de_nm (i := 2)) da_nil))) nd (by kernel_rfl) (dg_tup (dgs_cons (dg_name (i := 3) nd) (dgs_cons (dg_name (i := 4) nd) dgs_nil))) (by decide) dts_nil (de_tupK (da_cons (de_nm (i := 3)) (da_cons (de_nm (i := 4)) da_nil))))) da_nil)))) dss_nil) (dss_one (ds_ret (do_callTy cd_tuple (ff.f_tuple) (by decide +kernel) (da_cons (de_fz (do_lc (own := [("_law_x", 3)]) (di_seq (de_nm (i := 1))) nd (by kernel_rfl) (dg_name (i := 3) nd) (by decide) (dts_one (dt_cmp cm_in (de_nm (i := 3)) (de_nm (i := 2)))) (de_nm (i := 3)))) da_nil)))))
def t__law_joined : Stmt := top 40
def N__law_joined : List Str := ["_law_one", "_law_other", "_law_names", "_law_x", "_law_y", "_law_near", "_law_far", "_law_name"]
def P__law_joined : List Str := ["_law_one", "_law_other"]
abbrev S__law_joined (B : Bs) (k : Nat) : Sta := { B with N := N__law_joined, names := (defScope t__law_joined).names, k := k, fc := fun _ => true }
theorem sc__law_joined : FnScope N__law_joined P__law_joined (defScope t__law_joined) := ⟨rfl, rfl, rfl, by decide +kernel, rfl, by decide +kernel, by decide +kernel⟩
def w__law_joined (s__law_named : FS) : WS := wSeq (wSet 2 (woListRg1 (wFz (woCB oLenD (waCons (wVar 0) (waNil)))))) (wSeq (wFor (wjRange1 (waCons (wFz (woCB oLenD (waCons (wVar 0) (waNil)))) (waNil))) (wgName 3) (wFor (wjRange1 (waCons (wVar 3) (waNil))) (wgName 4) (wIfS (wtOr (wtV (wOp oEq (wOp oIx (wVar 0) (wVar 3)) (wOp oIx (wVar 0) (wVar 4)))) (wtV (wOp oEq (wOp oIx (wVar 1) (wVar 3)) (wOp oIx (wVar 1) (wVar 4))))) (wSeq (wPar2 5 6 (woFz (wOp oIx (wVar 2) (wVar 3))) (woFz (wOp oIx (wVar 2) (wVar 4)))) (wSet 2 (wComp (wiSeq (wVar 2)) (wgName 7) (wtTrue) (wIf (wtV (wOp oEq (wVar 7) (wVar 5))) (wVar 6) (wVar 7)) [7]))) (wNext)))) (wRet (woCall s__law_named (waCons (wVar 2) (waNil)))))
theorem d__law_joined {B : Bs} (ff : FF B) {k : Nat} {s__law_named : FS} {n__law_named : Nat} (k__law_named : Kn B n__law_named "_law_named" t__law_named P__law_named s__law_named) (hk__law_named : n__law_named ≤ k) : DSs (S__law_joined B k) (defBody t__law_joined) (w__law_joined s__law_named) := by
  have nd : N__law_joined.Nodup := by decide +kernel
  exact (dss_cons (ds_set (i := 2) (do_listRg1 (ff.f_list) (ff.f_range) (de_fz (do_callB cd_lenD (ff.f_len) (by decide +kernel) (da_cons (de_nm (i := 0)) da_nil)))) nd) (dss_cons (ds_for (dj_range1 (ff.f_range) (da_cons (de_fz (do_callB cd_lenD (ff.f_len) (by decide +kernel) (da_cons (de_nm (i := 0)) da_nil))) da_nil)) (dg_name (i := 3) nd) (dss_one (ds_for (dj_range1 (ff.f_range) (da_cons (de_nm (i := 3)) da_nil)) (dg_name (i := 4) nd) (dss_one (ds_if (dt_pw (dw_or (dt_cmp cm_eq (de_ix (de_nm (i := 0)) (de_nm (i := 3))) (de_ix (de_nm (i := 0)) (de_nm (i := 4)))) (dw_or1 (dt_cmp cm_eq (de_ix (de_nm (i := 1)) (de_nm (i := 3))) (de_ix (de_nm (i := 1)) (de_nm (i := 4))))))) (dss_cons (ds_parT2 (i := 5) (j := 6) (do_fz (de_ix (de_nm (i := 2)) (de_nm (i := 3)))) (do_fz (de_ix (de_nm (i := 2)) (de_nm (i := 4)))) nd) (dss_one (ds_setLc (i := 2) (own := [("_law_name", 7)]) (di_seq (de_nm (i := 2))) nd (by kernel_rfl) (dg_name (i := 7) nd) (by decide) dts_nil (de_if (dt_cmp cm_eq (de_nm (i := 7)) (de_nm (i := 5))) (de_nm (i := 6)) (de_nm (i := 7)))))) dss_nil))))) (dss_one (ds_ret (do_call k__law_named hk__law_named (da_cons (de_nm (i := 2)) da_nil))))))
def t__law_all : Stmt := top 41
def N__law_all : List Str := ["_law_kind", "_law_one", "_law_other"]
def P__law_all : List Str := ["_law_kind", "_law_one", "_law_other"]
abbrev S__law_all (B : Bs) (k : Nat) : Sta := { B with N := N__law_all, names := (defScope t__law_all).names, k := k, fc := fun _ => true }
theorem sc__law_all : FnScope N__law_all P__law_all (defScope t__law_all) := ⟨rfl, rfl, rfl, by decide +kernel, rfl, by decide +kernel, by decide +kernel⟩
def w__law_all (s__law_joined : FS) (s__law_sums : FS) : WS := wRet (woIf (wtV (wOp oEq (wVar 0) (wC (.str "partings")))) (woCall s__law_joined (waCons (wVar 1) (waCons (wVar 2) (waNil)))) (woCall s__law_sums (waCons (wVar 1) (waCons (wVar 2) (waNil)))))
theorem d__law_all {B : Bs} (ff : FF B) {k : Nat} {s__law_joined : FS} {n__law_joined : Nat} (k__law_joined : Kn B n__law_joined "_law_joined" t__law_joined P__law_joined s__law_joined) (hk__law_joined : n__law_joined ≤ k) {s__law_sums : FS} {n__law_sums : Nat} (k__law_sums : Kn B n__law_sums "_law_sums" t__law_sums P__law_sums s__law_sums) (hk__law_sums : n__law_sums ≤ k) : DSs (S__law_all B k) (defBody t__law_all) (w__law_all s__law_joined s__law_sums) := by
  have nd : N__law_all.Nodup := by decide +kernel
  exact (dss_one (ds_ret (do_if (dt_cmp cm_eq (de_nm (i := 0)) de_str) (do_call k__law_joined hk__law_joined (da_cons (de_nm (i := 1)) (da_cons (de_nm (i := 2)) da_nil))) (do_call k__law_sums hk__law_sums (da_cons (de_nm (i := 1)) (da_cons (de_nm (i := 2)) da_nil))))))
def t__law_same : Stmt := top 42
def N__law_same : List Str := ["_law_told", "_law_due"]
def P__law_same : List Str := ["_law_told", "_law_due"]
abbrev S__law_same (B : Bs) (k : Nat) : Sta := { B with N := N__law_same, names := (defScope t__law_same).names, k := k, fc := fun _ => true }
theorem sc__law_same : FnScope N__law_same P__law_same (defScope t__law_same) := ⟨rfl, rfl, rfl, by decide +kernel, rfl, by decide +kernel, by decide +kernel⟩
def w__law_same : WS := wRet (woFz (wOp oEqS (wFz (woCB oRepr (waCons (wVar 0) (waNil)))) (wFz (woCB oRepr (waCons (wVar 1) (waNil))))))
theorem d__law_same {B : Bs} (ff : FF B) {k : Nat} : DSs (S__law_same B k) (defBody t__law_same) (w__law_same) := by
  have nd : N__law_same.Nodup := by decide +kernel
  exact (dss_one (ds_ret (do_fz (de_cmp cm_eqS (de_fz (do_callB cd_repr (ff.f_repr) (by decide +kernel) (da_cons (de_nm (i := 0)) da_nil))) (de_fz (do_callB cd_repr (ff.f_repr) (by decide +kernel) (da_cons (de_nm (i := 1)) da_nil)))))))
def t__law_are_two_right : Stmt := top 43
def N__law_are_two_right : List Str := ["_law_kind", "_law_size_here", "_law_one", "_law_other", "_law_low", "_law_high", "_law_told"]
def P__law_are_two_right : List Str := ["_law_kind", "_law_size_here", "_law_one", "_law_other"]
abbrev S__law_are_two_right (B : Bs) (k : Nat) : Sta := { B with N := N__law_are_two_right, names := (defScope t__law_are_two_right).names, k := k, fc := fun _ => true }
theorem sc__law_are_two_right : FnScope N__law_are_two_right P__law_are_two_right (defScope t__law_are_two_right) := ⟨rfl, rfl, rfl, by decide +kernel, rfl, by decide +kernel, by decide +kernel⟩
def w__law_are_two_right (s__law_both : FS) (s__law_all : FS) (s_both_things : FS) (s__law_same : FS) (s_all_things : FS) (s_is_thing : FS) (s_is_within_thing : FS) : WS := wSeq (wPar2 4 5 (woCall s__law_both (waCons (wVar 0) (waCons (wVar 2) (waCons (wVar 3) (waNil))))) (woCall s__law_all (waCons (wVar 0) (waCons (wVar 2) (waCons (wVar 3) (waNil)))))) (wSeq (wSet 6 (woLst (waCons (wFz (woCall s_both_things (waCons (wVar 0) (waCons (wVar 1) (waCons (wVar 2) (waCons (wVar 3) (waNil))))))) (waCons (wFz (woCallK 4 [3, 2, 1, 0] s_both_things (waCons (wVar 2) (waCons (wVar 3) (waCons (wVar 1) (waCons (wVar 0) (waNil))))))) (waNil))))) (wSeq (wIfS (wtNot (wtV (wFz (woCall s__law_same (waCons (wVar 6) (waCons (wFz (wOpO oMul (wFz (woLst (waCons (wVar 4) (waNil)))) (wC (.int 2)))) (waNil))))))) (wRet (woFz (wC (.bl false)))) (wNext)) (wSeq (wSet 6 (woLst (waCons (wFz (woCall s_all_things (waCons (wVar 0) (waCons (wVar 1) (waCons (wVar 2) (waCons (wVar 3) (waNil))))))) (waCons (wFz (woCallK 4 [3, 2, 1, 0] s_all_things (waCons (wVar 2) (waCons (wVar 3) (waCons (wVar 1) (waCons (wVar 0) (waNil))))))) (waNil))))) (wSeq (wIfS (wtNot (wtV (wFz (woCall s__law_same (waCons (wVar 6) (waCons (wFz (wOpO oMul (wFz (woLst (waCons (wVar 5) (waNil)))) (wC (.int 2)))) (waNil))))))) (wRet (woFz (wC (.bl false)))) (wNext)) (wSeq (wIfS (wtOr (wtV (wOp oNotBl (wFz (woCall s_is_thing (waCons (wVar 0) (waCons (wVar 1) (waCons (wVar 4) (waNil)))))) (wC (.bl true)))) (wtV (wOp oNotBl (wFz (woCall s_is_thing (waCons (wVar 0) (waCons (wVar 1) (waCons (wVar 5) (waNil)))))) (wC (.bl true))))) (wRet (woFz (wC (.bl false)))) (wNext)) (wSeq (wSet 6 (woLst (waCons (wFz (woCall s_is_within_thing (waCons (wVar 0) (waCons (wVar 1) (waCons (wVar 2) (waCons (wVar 3) (waNil))))))) (waCons (wFz (woCallK 4 [2, 3, 1, 0] s_is_within_thing (waCons (wVar 2) (waCons (wVar 3) (waCons (wVar 0) (waCons (wVar 1) (waNil))))))) (waNil))))) (wSeq (wIfS (wtOr (wtNot (wtV (wFz (woCall s__law_same (waCons (wVar 6) (waCons (wFz (woLst (waCons (wOp oEq (wVar 4) (wVar 2)) (waCons (wOp oEq (wVar 4) (wVar 3)) (waNil))))) (waNil))))))) (wtV (wOp oNe (wOp oEq (wVar 4) (wVar 2)) (wOp oEq (wVar 5) (wVar 3))))) (wRet (woFz (wC (.bl false)))) (wNext)) (wSeq (wSet 6 (woLst (waCons (wFz (woCall s_is_within_thing (waCons (wVar 0) (waCons (wVar 1) (waCons (wVar 4) (waCons (wVar 2) (waNil))))))) (waCons (wFz (woCall s_is_within_thing (waCons (wVar 0) (waCons (wVar 1) (waCons (wVar 3) (waCons (wVar 5) (waNil))))))) (waNil))))) (wSeq (wIfS (wtOr (wtV (wOp oNe (wVar 6) (wFz (woLst (waCons (wC (.bl true)) (waCons (wC (.bl true)) (waNil))))))) (wtNot (wtV (wFz (woCall s__law_same (waCons (wFz (woCall s_both_things (waCons (wVar 0) (waCons (wVar 1) (waCons (wVar 2) (waCons (wVar 5) (waNil))))))) (waCons (wVar 2) (waNil)))))))) (wRet (woFz (wC (.bl false)))) (wNext)) (wRet (woFz (wAnd (wFz (woCall s__law_same (waCons (wFz (woCall s_all_things (waCons (wVar 0) (waCons (wVar 1) (waCons (wVar 2) (waCons (wVar 4) (waNil))))))) (waCons (wVar 2) (waNil))))) (wFz (woCall s__law_same (waCons (wFz (woCall s_all_things (waCons (wVar 0) (waCons (wVar 1) (waCons (wVar 2) (waCons (wVar 2) (waNil))))))) (waCons (wVar 2) (waNil)))))))))))))))))
theorem d__law_are_two_right {B : Bs} (ff : FF B) {k : Nat} {s__law_both : FS} {n__law_both : Nat} (k__law_both : Kn B n__law_both "_law_both" t__law_both P__law_both s__law_both) (hk__law_both : n__law_both ≤ k) {s__law_all : FS} {n__law_all : Nat} (k__law_all : Kn B n__law_all "_law_all" t__law_all P__law_all s__law_all) (hk__law_all : n__law_all ≤ k) {s_both_things : FS} {n_both_things : Nat} (k_both_things : Kn B n_both_things "both_things" t_both_things P_both_things s_both_things) (hk_both_things : n_both_things ≤ k) {s__law_same : FS} {n__law_same : Nat} (k__law_same : Kn B n__law_same "_law_same" t__law_same P__law_same s__law_same) (hk__law_same : n__law_same ≤ k) {s_all_things : FS} {n_all_things : Nat} (k_all_things : Kn B n_all_things "all_things" t_all_things P_all_things s_all_things) (hk_all_things : n_all_things ≤ k) {s_is_thing : FS} {n_is_thing : Nat} (k_is_thing : Kn B n_is_thing "is_thing" t_is_thing P_is_thing s_is_thing) (hk_is_thing : n_is_thing ≤ k) {s_is_within_thing : FS} {n_is_within_thing : Nat} (k_is_within_thing : Kn B n_is_within_thing "is_within_thing" t_is_within_thing P_is_within_thing s_is_within_thing) (hk_is_within_thing : n_is_within_thing ≤ k) : DSs (S__law_are_two_right B k) (defBody t__law_are_two_right) (w__law_are_two_right s__law_both s__law_all s_both_things s__law_same s_all_things s_is_thing s_is_within_thing) := by
  have nd : N__law_are_two_right.Nodup := by decide +kernel
  exact (dss_cons (ds_par2 (i := 4) (j := 5) (do_call k__law_both hk__law_both (da_cons (de_nm (i := 0)) (da_cons (de_nm (i := 2)) (da_cons (de_nm (i := 3)) da_nil)))) (do_call k__law_all hk__law_all (da_cons (de_nm (i := 0)) (da_cons (de_nm (i := 2)) (da_cons (de_nm (i := 3)) da_nil)))) nd (hw := swap2 (by kernel_rfl) (by kernel_rfl) (by rfl) (by rfl) (by kernel_rfl) (by kernel_rfl))) (dss_cons (ds_set (i := 6) (do_lst (da_cons (de_fz (do_call k_both_things hk_both_things (da_cons (de_nm (i := 0)) (da_cons (de_nm (i := 1)) (da_cons (de_nm (i := 2)) (da_cons (de_nm (i := 3)) da_nil)))))) (da_cons (de_fz (do_callK (is := [3, 2, 1, 0]) (ks := ["other", "one", "size", "kind"]) k_both_things hk_both_things (dk_cons (de_nm (i := 2)) (dk_cons (de_nm (i := 3)) (dk_cons (de_nm (i := 1)) (dk_cons (de_nm (i := 0)) dk_nil)))) (by simp [P_both_things]) (fun _ _ _ _ _ _ ws hl => match ws, hl with | [_, _, _, _], _ => rfl))) da_nil))) nd) (dss_cons (ds_if (dt_not (dt_val (de_fz (do_call k__law_same hk__law_same (da_cons (de_nm (i := 6)) (da_cons (de_fz (do_op od_mul (de_fz (do_lst (da_cons (de_nm (i := 4)) da_nil))) de_int)) da_nil)))))) (dss_one (ds_ret (do_fz de_bl))) dss_nil) (dss_cons (ds_set (i := 6) (do_lst (da_cons (de_fz (do_call k_all_things hk_all_things (da_cons (de_nm (i := 0)) (da_cons (de_nm (i := 1)) (da_cons (de_nm (i := 2)) (da_cons (de_nm (i := 3)) da_nil)))))) (da_cons (de_fz (do_callK (is := [3, 2, 1, 0]) (ks := ["other", "one", "size", "kind"]) k_all_things hk_all_things (dk_cons (de_nm (i := 2)) (dk_cons (de_nm (i := 3)) (dk_cons (de_nm (i := 1)) (dk_cons (de_nm (i := 0)) dk_nil)))) (by simp [P_all_things]) (fun _ _ _ _ _ _ ws hl => match ws, hl with | [_, _, _, _], _ => rfl))) da_nil))) nd) (dss_cons (ds_if (dt_not (dt_val (de_fz (do_call k__law_same hk__law_same (da_cons (de_nm (i := 6)) (da_cons (de_fz (do_op od_mul (de_fz (do_lst (da_cons (de_nm (i := 5)) da_nil))) de_int)) da_nil)))))) (dss_one (ds_ret (do_fz de_bl))) dss_nil) (dss_cons (ds_if (dt_pw (dw_or (dt_cmp cm_notB (de_fz (do_call k_is_thing hk_is_thing (da_cons (de_nm (i := 0)) (da_cons (de_nm (i := 1)) (da_cons (de_nm (i := 4)) da_nil))))) de_bl) (dw_or1 (dt_cmp cm_notB (de_fz (do_call k_is_thing hk_is_thing (da_cons (de_nm (i := 0)) (da_cons (de_nm (i := 1)) (da_cons (de_nm (i := 5)) da_nil))))) de_bl)))) (dss_one (ds_ret (do_fz de_bl))) dss_nil) (dss_cons (ds_set (i := 6) (do_lst (da_cons (de_fz (do_call k_is_within_thing hk_is_within_thing (da_cons (de_nm (i := 0)) (da_cons (de_nm (i := 1)) (da_cons (de_nm (i := 2)) (da_cons (de_nm (i := 3)) da_nil)))))) (da_cons (de_fz (do_callK (is := [2, 3, 1, 0]) (ks := ["other", "one", "kind", "size"]) k_is_within_thing hk_is_within_thing (dk_cons (de_nm (i := 2)) (dk_cons (de_nm (i := 3)) (dk_cons (de_nm (i := 0)) (dk_cons (de_nm (i := 1)) dk_nil)))) (by simp [P_is_within_thing]) (fun _ _ _ _ _ _ ws hl => match ws, hl with | [_, _, _, _], _ => rfl))) da_nil))) nd) (dss_cons (ds_if (dt_pw (dw_or (dt_not (dt_val (de_fz (do_call k__law_same hk__law_same (da_cons (de_nm (i := 6)) (da_cons (de_fz (do_lst (da_cons (de_cmp cm_eq (de_nm (i := 4)) (de_nm (i := 2))) (da_cons (de_cmp cm_eq (de_nm (i := 4)) (de_nm (i := 3))) da_nil)))) da_nil)))))) (dw_or1 (dt_cmp cm_ne (de_cmp cm_eq (de_nm (i := 4)) (de_nm (i := 2))) (de_cmp cm_eq (de_nm (i := 5)) (de_nm (i := 3))))))) (dss_one (ds_ret (do_fz de_bl))) dss_nil) (dss_cons (ds_set (i := 6) (do_lst (da_cons (de_fz (do_call k_is_within_thing hk_is_within_thing (da_cons (de_nm (i := 0)) (da_cons (de_nm (i := 1)) (da_cons (de_nm (i := 4)) (da_cons (de_nm (i := 2)) da_nil)))))) (da_cons (de_fz (do_call k_is_within_thing hk_is_within_thing (da_cons (de_nm (i := 0)) (da_cons (de_nm (i := 1)) (da_cons (de_nm (i := 3)) (da_cons (de_nm (i := 5)) da_nil)))))) da_nil))) nd) (dss_cons (ds_if (dt_pw (dw_or (dt_cmp cm_ne (de_nm (i := 6)) (de_fz (do_lst (da_cons de_bl (da_cons de_bl da_nil))))) (dw_or1 (dt_not (dt_val (de_fz (do_call k__law_same hk__law_same (da_cons (de_fz (do_call k_both_things hk_both_things (da_cons (de_nm (i := 0)) (da_cons (de_nm (i := 1)) (da_cons (de_nm (i := 2)) (da_cons (de_nm (i := 5)) da_nil)))))) (da_cons (de_nm (i := 2)) da_nil))))))))) (dss_one (ds_ret (do_fz de_bl))) dss_nil) (dss_one (ds_ret (do_fz (de_andV (de_fz (do_call k__law_same hk__law_same (da_cons (de_fz (do_call k_all_things hk_all_things (da_cons (de_nm (i := 0)) (da_cons (de_nm (i := 1)) (da_cons (de_nm (i := 2)) (da_cons (de_nm (i := 4)) da_nil)))))) (da_cons (de_nm (i := 2)) da_nil)))) (de_one (de_fz (do_call k__law_same hk__law_same (da_cons (de_fz (do_call k_all_things hk_all_things (da_cons (de_nm (i := 0)) (da_cons (de_nm (i := 1)) (da_cons (de_nm (i := 2)) (da_cons (de_nm (i := 2)) da_nil)))))) (da_cons (de_nm (i := 2)) da_nil)))))))))))))))))))
def t__law_are_three_right : Stmt := top 44
def N__law_are_three_right : List Str := ["_law_kind", "_law_size_here", "_law_x", "_law_y", "_law_z", "_law_told", "_law_near", "_law_far", "_law_inner", "_law_one", "_law_a", "_law_b"]
def P__law_are_three_right : List Str := ["_law_kind", "_law_size_here", "_law_x", "_law_y", "_law_z"]
abbrev S__law_are_three_right (B : Bs) (k : Nat) : Sta := { B with N := N__law_are_three_right, names := (defScope t__law_are_three_right).names, k := k, fc := fun _ => true }
theorem sc__law_are_three_right : FnScope N__law_are_three_right P__law_are_three_right (defScope t__law_are_three_right) := ⟨rfl, rfl, rfl, by decide +kernel, rfl, by decide +kernel, by decide +kernel⟩
def w__law_are_three_right (s_both_things : FS) (s__law_same : FS) (s_all_things : FS) (s_is_within_thing : FS) : WS := wSeq (wSet 5 (woCall s_both_things (waCons (wVar 0) (waCons (wVar 1) (waCons (wFz (woCall s_both_things (waCons (wVar 0) (waCons (wVar 1) (waCons (wVar 2) (waCons (wVar 3) (waNil))))))) (waCons (wVar 4) (waNil))))))) (wSeq (wIfS (wtNot (wtV (wFz (woCall s__law_same (waCons (wVar 5) (waCons (wFz (woCall s_both_things (waCons (wVar 0) (waCons (wVar 1) (waCons (wVar 2) (waCons (wFz (woCall s_both_things (waCons (wVar 0) (waCons (wVar 1) (waCons (wVar 3) (waCons (wVar 4) (waNil))))))) (waNil))))))) (waNil))))))) (wRet (woFz (wC (.bl false)))) (wNext)) (wSeq (wSet 5 (woCall s_all_things (waCons (wVar 0) (waCons (wVar 1) (waCons (wFz (woCall s_all_things (waCons (wVar 0) (waCons (wVar 1) (waCons (wVar 2) (waCons (wVar 3) (waNil))))))) (waCons (wVar 4) (waNil))))))) (wSeq (wIfS (wtNot (wtV (wFz (woCall s__law_same (waCons (wVar 5) (waCons (wFz (woCall s_all_things (waCons (wVar 0) (waCons (wVar 1) (waCons (wVar 2) (waCons (wFz (woCall s_all_things (waCons (wVar 0) (waCons (wVar 1) (waCons (wVar 3) (waCons (wVar 4) (waNil))))))) (waNil))))))) (waNil))))))) (wRet (woFz (wC (.bl false)))) (wNext)) (wSeq (wSet 6 (woCall s_all_things (waCons (wVar 0) (waCons (wVar 1) (waCons (wFz (woCall s_both_things (waCons (wVar 0) (waCons (wVar 1) (waCons (wVar 2) (waCons (wVar 3) (waNil))))))) (waCons (wFz (woCall s_both_things (waCons (wVar 0) (waCons (wVar 1) (waCons (wVar 2) (waCons (wVar 4) (waNil))))))) (waNil))))))) (wSeq (wSet 7 (woCall s_both_things (waCons (wVar 0) (waCons (wVar 1) (waCons (wVar 2) (waCons (wFz (woCall s_all_things (waCons (wVar 0) (waCons (wVar 1) (waCons (wVar 3) (waCons (wVar 4) (waNil))))))) (waNil))))))) (wSeq (wIfS (wtV (wOp oNotBl (wFz (woCall s_is_within_thing (waCons (wVar 0) (waCons (wVar 1) (waCons (wVar 6) (waCons (wVar 7) (waNil))))))) (wC (.bl true)))) (wRet (woFz (wC (.bl false)))) (wNext)) (wSeq (wIfS (wtV (wOp oEq (wVar 0) (wC (.str "spaces")))) (wSeq (wSet 8 (woCall s_both_things (waCons (wVar 0) (waCons (wVar 1) (waCons (wVar 2) (waCons (wVar 3) (waNil))))))) (wSeq (wSet 9 (woCall s_both_things (waCons (wVar 0) (waCons (wVar 1) (waCons (wVar 2) (waCons (wFz (woCall s_all_things (waCons (wVar 0) (waCons (wVar 1) (waCons (wVar 8) (waCons (wVar 4) (waNil))))))) (waNil))))))) (wRet (woCall s__law_same (waCons (wVar 9) (waCons (wFz (woCall s_all_things (waCons (wVar 0) (waCons (wVar 1) (waCons (wVar 8) (waCons (wFz (woCall s_both_things (waCons (wVar 0) (waCons (wVar 1) (waCons (wVar 2) (waCons (wVar 4) (waNil))))))) (waNil))))))) (waNil))))))) (wNext)) (wRet (woFz (wOp oEq (wFz (wComp (wiZip (waCons (wVar 6) (waCons (wVar 7) (waNil)))) (wgTup 2 (wgCons (wgName 10) (wgCons (wgName 11) (wgNil)))) (wtV (wOp (oB0 fun i j => decide (i < j)) (wVar 10) (wVar 11))) (wC (.int 1)) [10, 11])) (wFz (woLst (waNil)))))))))))))
theorem d__law_are_three_right {B : Bs} (ff : FF B) {k : Nat} {s_both_things : FS} {n_both_things : Nat} (k_both_things : Kn B n_both_things "both_things" t_both_things P_both_things s_both_things) (hk_both_things : n_both_things ≤ k) {s__law_same : FS} {n__law_same : Nat} (k__law_same : Kn B n__law_same "_law_same" t__law_same P__law_same s__law_same) (hk__law_same : n__law_same ≤ k) {s_all_things : FS} {n_all_things : Nat} (k_all_things : Kn B n_all_things "all_things" t_all_things P_all_things s_all_things) (hk_all_things : n_all_things ≤ k) {s_is_within_thing : FS} {n_is_within_thing : Nat} (k_is_within_thing : Kn B n_is_within_thing "is_within_thing" t_is_within_thing P_is_within_thing s_is_within_thing) (hk_is_within_thing : n_is_within_thing ≤ k) : DSs (S__law_are_three_right B k) (defBody t__law_are_three_right) (w__law_are_three_right s_both_things s__law_same s_all_things s_is_within_thing) := by
  have nd : N__law_are_three_right.Nodup := by decide +kernel
  exact (dss_cons (ds_set (i := 5) (do_call k_both_things hk_both_things (da_cons (de_nm (i := 0)) (da_cons (de_nm (i := 1)) (da_cons (de_fz (do_call k_both_things hk_both_things (da_cons (de_nm (i := 0)) (da_cons (de_nm (i := 1)) (da_cons (de_nm (i := 2)) (da_cons (de_nm (i := 3)) da_nil)))))) (da_cons (de_nm (i := 4)) da_nil))))) nd) (dss_cons (ds_if (dt_not (dt_val (de_fz (do_call k__law_same hk__law_same (da_cons (de_nm (i := 5)) (da_cons (de_fz (do_call k_both_things hk_both_things (da_cons (de_nm (i := 0)) (da_cons (de_nm (i := 1)) (da_cons (de_nm (i := 2)) (da_cons (de_fz (do_call k_both_things hk_both_things (da_cons (de_nm (i := 0)) (da_cons (de_nm (i := 1)) (da_cons (de_nm (i := 3)) (da_cons (de_nm (i := 4)) da_nil)))))) da_nil)))))) da_nil)))))) (dss_one (ds_ret (do_fz de_bl))) dss_nil) (dss_cons (ds_set (i := 5) (do_call k_all_things hk_all_things (da_cons (de_nm (i := 0)) (da_cons (de_nm (i := 1)) (da_cons (de_fz (do_call k_all_things hk_all_things (da_cons (de_nm (i := 0)) (da_cons (de_nm (i := 1)) (da_cons (de_nm (i := 2)) (da_cons (de_nm (i := 3)) da_nil)))))) (da_cons (de_nm (i := 4)) da_nil))))) nd) (dss_cons (ds_if (dt_not (dt_val (de_fz (do_call k__law_same hk__law_same (da_cons (de_nm (i := 5)) (da_cons (de_fz (do_call k_all_things hk_all_things (da_cons (de_nm (i := 0)) (da_cons (de_nm (i := 1)) (da_cons (de_nm (i := 2)) (da_cons (de_fz (do_call k_all_things hk_all_things (da_cons (de_nm (i := 0)) (da_cons (de_nm (i := 1)) (da_cons (de_nm (i := 3)) (da_cons (de_nm (i := 4)) da_nil)))))) da_nil)))))) da_nil)))))) (dss_one (ds_ret (do_fz de_bl))) dss_nil) (dss_cons (ds_set (i := 6) (do_call k_all_things hk_all_things (da_cons (de_nm (i := 0)) (da_cons (de_nm (i := 1)) (da_cons (de_fz (do_call k_both_things hk_both_things (da_cons (de_nm (i := 0)) (da_cons (de_nm (i := 1)) (da_cons (de_nm (i := 2)) (da_cons (de_nm (i := 3)) da_nil)))))) (da_cons (de_fz (do_call k_both_things hk_both_things (da_cons (de_nm (i := 0)) (da_cons (de_nm (i := 1)) (da_cons (de_nm (i := 2)) (da_cons (de_nm (i := 4)) da_nil)))))) da_nil))))) nd) (dss_cons (ds_set (i := 7) (do_call k_both_things hk_both_things (da_cons (de_nm (i := 0)) (da_cons (de_nm (i := 1)) (da_cons (de_nm (i := 2)) (da_cons (de_fz (do_call k_all_things hk_all_things (da_cons (de_nm (i := 0)) (da_cons (de_nm (i := 1)) (da_cons (de_nm (i := 3)) (da_cons (de_nm (i := 4)) da_nil)))))) da_nil))))) nd) (dss_cons (ds_if (dt_cmp cm_notB (de_fz (do_call k_is_within_thing hk_is_within_thing (da_cons (de_nm (i := 0)) (da_cons (de_nm (i := 1)) (da_cons (de_nm (i := 6)) (da_cons (de_nm (i := 7)) da_nil)))))) de_bl) (dss_one (ds_ret (do_fz de_bl))) dss_nil) (dss_cons (ds_if (dt_cmp cm_eq (de_nm (i := 0)) de_str) (dss_cons (ds_set (i := 8) (do_call k_both_things hk_both_things (da_cons (de_nm (i := 0)) (da_cons (de_nm (i := 1)) (da_cons (de_nm (i := 2)) (da_cons (de_nm (i := 3)) da_nil))))) nd) (dss_cons (ds_set (i := 9) (do_call k_both_things hk_both_things (da_cons (de_nm (i := 0)) (da_cons (de_nm (i := 1)) (da_cons (de_nm (i := 2)) (da_cons (de_fz (do_call k_all_things hk_all_things (da_cons (de_nm (i := 0)) (da_cons (de_nm (i := 1)) (da_cons (de_nm (i := 8)) (da_cons (de_nm (i := 4)) da_nil)))))) da_nil))))) nd) (dss_one (ds_ret (do_call k__law_same hk__law_same (da_cons (de_nm (i := 9)) (da_cons (de_fz (do_call k_all_things hk_all_things (da_cons (de_nm (i := 0)) (da_cons (de_nm (i := 1)) (da_cons (de_nm (i := 8)) (da_cons (de_fz (do_call k_both_things hk_both_things (da_cons (de_nm (i := 0)) (da_cons (de_nm (i := 1)) (da_cons (de_nm (i := 2)) (da_cons (de_nm (i := 4)) da_nil)))))) da_nil)))))) da_nil))))))) dss_nil) (dss_one (ds_ret (do_fz (de_cmp cm_eq (de_fz (do_lc (own := [("_law_a", 10), ("_law_b", 11)]) (di_zip (ff.f_zip) (da_cons (de_nm (i := 6)) (da_cons (de_nm (i := 7)) da_nil))) nd (by kernel_rfl) (dg_tup (dgs_cons (dg_name (i := 10) nd) (dgs_cons (dg_name (i := 11) nd) dgs_nil))) (by decide) (dts_one (dt_cmp cm_lt (de_nm (i := 10)) (de_nm (i := 11)))) de_int)) (de_fz (do_lst da_nil))))))))))))))
def t_law : Stmt := top 45
def N_law : List Str := ["_law_script", "_law_deck_here", "_law_go", "_law_kind", "_law_size_here", "_law_some", "_law_one", "_law_other", "_law_turn"]
def P_law : List Str := ["_law_script"]
abbrev S_law (B : Bs) (k : Nat) : Sta := { B with N := N_law, names := (defScope t_law).names, k := k, fc := fun _ => true }
theorem sc_law : FnScope N_law P_law (defScope t_law) := ⟨rfl, rfl, rfl, by decide +kernel, rfl, by decide +kernel, by decide +kernel⟩
def w_law (K : PySem.W.Frag) (s__law_pick : FS) (s__law_size : FS) (s__law_thing : FS) (s__law_draw : FS) (s__law_all : FS) (s__law_both : FS) (s__law_are_two_right : FS) (s__law_are_three_right : FS) : WS := wDeckS K 1 0 (wSeq (wFor (wjRange1 (waCons (wC (.int 4)) (waNil))) (wgName 2) (wSeq (wSet 3 (woCall s__law_pick (waCons (wVar 1) (waCons (wFz (woLst (waCons (wC (.str "partings")) (waCons (wC (.str "spaces")) (waNil))))) (waNil))))) (wSeq (wSet 4 (woCall s__law_size (waCons (wVar 1) (waCons (wVar 3) (waNil))))) (wSeq (wSet 5 (wComp (wiRange1 (waCons (wC (.int 3)) (waNil))) (wgName 8) (wtTrue) (wFz (woCall s__law_thing (waCons (wVar 1) (waCons (wVar 3) (waCons (wVar 4) (waNil)))))) [8])) (wSeq (wIfS (wtV (wOp oEq (wFz (woCall s__law_draw (waCons (wVar 1) (waCons (wC (.int 4)) (waNil))))) (wC (.int 0)))) (wStoreIx 5 (wC (.int 2)) (wvO (woCall s__law_pick (waCons (wVar 1) (waCons (wFz (woLst (waCons (wFz (woCall s__law_both (waCons (wVar 3) (waCons (wOp oIx (wVar 5) (wC (.int 0))) (waCons (wOp oIx (wVar 5) (wC (.int 1))) (waNil)))))) (waCons (wFz (woCall s__law_all (waCons (wVar 3) (waCons (wOp oIx (wVar 5) (wC (.int 0))) (waCons (wOp oIx (wVar 5) (wC (.int 1))) (waNil)))))) (waCons (wOp oIx (wVar 5) (wC (.int 0))) (waNil)))))) (waNil)))))) (wNext)) (wSeq (wFor (wjSeq (wvO (woFz (wTup (waCons (wTup (waCons (wOp oIx (wVar 5) (wC (.int 0))) (waCons (wOp oIx (wVar 5) (wC (.int 1))) (waNil)))) (waCons (wTup (waCons (wOp oIx (wVar 5) (wC (.int 1))) (waCons (wOp oIx (wVar 5) (wC (.int 2))) (waNil)))) (waNil))))))) (wgTup 2 (wgCons (wgName 6) (wgCons (wgName 7) (wgNil)))) (wIfS (wtNot (wtV (wFz (woCall s__law_are_two_right (waCons (wVar 3) (waCons (wVar 4) (waCons (wVar 6) (waCons (wVar 7) (waNil))))))))) (wRet (woFz (wC (.bl false)))) (wNext))) (wIfS (wtNot (wtV (wFz (woCall s__law_are_three_right (waCons (wVar 3) (waCons (wVar 4) (waCons (wOp oIx (wVar 5) (wC (.int 0))) (waCons (wOp oIx (wVar 5) (wC (.int 1))) (waCons (wOp oIx (wVar 5) (wC (.int 2))) (waNil)))))))))) (wRet (woFz (wC (.bl false)))) (wNext)))))))) (wRet (woFz (wC (.bl true)))))
theorem d_law {B : Bs} (ff : FF B) {k kD : Nat} {aD : Addr} {fD : FuncData} (FD : FnG B.P B.w B.K B.mg B.base CX0 kD aD fD P__law_deck (spDeck B.K)) (hmD : B.mg "_law_deck" = some (.ref aD)) (hkD : PySem.W.keepIn B.K (.ref aD) = true) (hbD : Binds B.K fD P__law_deck []) (hD : kD ≤ k) {s__law_pick : FS} {n__law_pick : Nat} (k__law_pick : Kn B n__law_pick "_law_pick" t__law_pick P__law_pick s__law_pick) (hk__law_pick : n__law_pick ≤ k) {s__law_size : FS} {n__law_size : Nat} (k__law_size : Kn B n__law_size "_law_size" t__law_size P__law_size s__law_size) (hk__law_size : n__law_size ≤ k) {s__law_thing : FS} {n__law_thing : Nat} (k__law_thing : Kn B n__law_thing "_law_thing" t__law_thing P__law_thing s__law_thing) (hk__law_thing : n__law_thing ≤ k) {s__law_draw : FS} {n__law_draw : Nat} (k__law_draw : Kn B n__law_draw "_law_draw" t__law_draw P__law_draw s__law_draw) (hk__law_draw : n__law_draw ≤ k) {s__law_all : FS} {n__law_all : Nat} (k__law_all : Kn B n__law_all "_law_all" t__law_all P__law_all s__law_all) (hk__law_all : n__law_all ≤ k) {s__law_both : FS} {n__law_both : Nat} (k__law_both : Kn B n__law_both "_law_both" t__law_both P__law_both s__law_both) (hk__law_both : n__law_both ≤ k) {s__law_are_two_right : FS} {n__law_are_two_right : Nat} (k__law_are_two_right : Kn B n__law_are_two_right "_law_are_two_right" t__law_are_two_right P__law_are_two_right s__law_are_two_right) (hk__law_are_two_right : n__law_are_two_right ≤ k) {s__law_are_three_right : FS} {n__law_are_three_right : Nat} (k__law_are_three_right : Kn B n__law_are_three_right "_law_are_three_right" t__law_are_three_right P__law_are_three_right s__law_are_three_right) (hk__law_are_three_right : n__law_are_three_right ≤ k) : DSs (S_law B k) (defBody t_law) (w_law B.K s__law_pick s__law_size s__law_thing s__law_draw s__law_all s__law_both s__law_are_two_right s__law_are_three_right) := by
  have nd : N_law.Nodup := by decide +kernel
  exact (dss_deck (i := 1) (j := 0) FD hmD hkD hbD hD (dss_cons (ds_for (dj_range1 (ff.f_range) (da_cons de_int da_nil)) (dg_name (i := 2) nd) (dss_cons (ds_set (i := 3) (do_call k__law_pick hk__law_pick (da_cons (de_nm (i := 1)) (da_cons (de_fz (do_lst (da_cons de_str (da_cons de_str da_nil)))) da_nil))) nd) (dss_cons (ds_set (i := 4) (do_call k__law_size hk__law_size (da_cons (de_nm (i := 1)) (da_cons (de_nm (i := 3)) da_nil))) nd) (dss_cons (ds_setLc (i := 5) (own := [("_law_turn", 8)]) (di_range1 (ff.f_range) (da_cons de_int da_nil)) nd (by kernel_rfl) (dg_name (i := 8) nd) (by decide) dts_nil (de_fz (do_call k__law_thing hk__law_thing (da_cons (de_nm (i := 1)) (da_cons (de_nm (i := 3)) (da_cons (de_nm (i := 4)) da_nil)))))) (dss_cons (ds_if (dt_cmp cm_eq (de_fz (do_call k__law_draw hk__law_draw (da_cons (de_nm (i := 1)) (da_cons de_int da_nil)))) de_int) (dss_one (ds_storeIx (i := 5) (dv_do (do_call k__law_pick hk__law_pick (da_cons (de_nm (i := 1)) (da_cons (de_fz (do_lst (da_cons (de_fz (do_call k__law_both hk__law_both (da_cons (de_nm (i := 3)) (da_cons (de_ix (de_nm (i := 5)) de_int) (da_cons (de_ix (de_nm (i := 5)) de_int) da_nil))))) (da_cons (de_fz (do_call k__law_all hk__law_all (da_cons (de_nm (i := 3)) (da_cons (de_ix (de_nm (i := 5)) de_int) (da_cons (de_ix (de_nm (i := 5)) de_int) da_nil))))) (da_cons (de_ix (de_nm (i := 5)) de_int) da_nil))))) da_nil)))) de_int)) dss_nil) (dss_cons (ds_for (dj_seq (dv_do (do_fz (de_tup (da_cons (de_tup (da_cons (de_ix (de_nm (i := 5)) de_int) (da_cons (de_ix (de_nm (i := 5)) de_int) da_nil))) (da_cons (de_tup (da_cons (de_ix (de_nm (i := 5)) de_int) (da_cons (de_ix (de_nm (i := 5)) de_int) da_nil))) da_nil)))))) (dg_tup (dgs_cons (dg_name (i := 6) nd) (dgs_cons (dg_name (i := 7) nd) dgs_nil))) (dss_one (ds_if (dt_not (dt_val (de_fz (do_call k__law_are_two_right hk__law_are_two_right (da_cons (de_nm (i := 3)) (da_cons (de_nm (i := 4)) (da_cons (de_nm (i := 6)) (da_cons (de_nm (i := 7)) da_nil)))))))) (dss_one (ds_ret (do_fz de_bl))) dss_nil))) (dss_one (ds_if (dt_not (dt_val (de_fz (do_call k__law_are_three_right hk__law_are_three_right (da_cons (de_nm (i := 3)) (da_cons (de_nm (i := 4)) (da_cons (de_ix (de_nm (i := 5)) de_int) (da_cons (de_ix (de_nm (i := 5)) de_int) (da_cons (de_ix (de_nm (i := 5)) de_int) da_nil))))))))) (dss_one (ds_ret (do_fz de_bl))) dss_nil)))))))) (dss_one (ds_ret (do_fz de_bl)))) nd)
end K79
set_option maxHeartbeats 4000000
namespace K79
open PySem PySem.Spec PyProof.Rows L2 DL
theorem iteB {b : Bool} {p q : Prop} (h : b = true) (hp : p) : if b = true then p else q := by rw [if_pos h]; exact hp
abbrev int1 : List V → Hp → VK → Prop := fun xs H Q => (∃ i, xs = [V.int i] ∧ Q (V.int i) H) ∨ ∃ k, xs = [V.bl k] ∧ Q (V.int (if k = true then 1 else 0)) H
abbrev md : R2 := rI (fun _ j => 0 < j) fun i j => V.int (i % j)
def tailK79b : TS :=
  tSeq (tAsg (tOp md (tCB int1 (tCons (tOp (rI0 fun i j => V.int (i + j)) (tOp (rI0 fun i j => V.int (i + j)) (tOp (rI CMul fun i j => V.int (i * j)) (tVar 2) (tVar 2)) (tOp (rI CMul fun i j => V.int (i * j)) (tC (V.int 58391)) (tDGet (tVar 0) (tC (V.str (Str.ofString "turn")))))) (tC (V.int 79))) tNil)) (tC (V.int 2147483579))) (gName 2))
    (tSeq (tAsg (tOp md (tCB int1 (tCons (tOp (rI CMul fun i j => V.int (i * j)) (tVar 2) (tC (V.int 39373))) tNil)) (tC (V.int 2147483579))) (gName 2))
      (tRet (tOp md (tCB int1 (tCons (tOp (rI CDiv fun i j => V.int (i / j)) (tVar 2) (tC (V.int 64))) tNil)) (tVar 1))))
def tailK79 : TS := tSeq (tAsg (tOp md (tCB int1 (tCons (tOp (rI0 fun i j => V.int (i + j)) (tOp (rI CMul fun i j => V.int (i * j)) (tVar 2) (tC (V.int 48271))) (tC (V.int 79))) tNil)) (tC (V.int 2147483629))) (gName 2)) tailK79b
theorem kn_draw {B : Bs} (hmax : B.mg "max" = none) (hint : B.mg "int" = none) {k : Nat} {f : Addr} {fd : FuncData} (F : FunD B.K "_law_draw" "_law_draw" (defArgs t__law_draw) (defBody t__law_draw) (defScope t__law_draw) [] [] f fd) (hm : B.mg "_law_draw" = some (.ref f)) (hb : Binds B.K fd P__law_draw []) :
    Kn B (k + 1) "_law_draw" t__law_draw P__law_draw s_draw := by
  refine kn_raw F sc__law_draw hm hb (fun G ds Q ⟨da, n, e, _⟩ => by rw [e]; rfl) fun X fX vs H Q E ⟨G, F, ds, Qd, sF, sR, sW, r, ⟨da, n, e, ⟨ca, dk⟩, hn0, hn1, hQ⟩, g⟩ => ?_
  subst e
  obtain ⟨u, u2, rfl, ra, rb⟩ := r.two
  have e2 := rb.intI
  subst e2
  cases ra
  have nd : X.N.Nodup := by rw [fX.N]; exact (by decide +kernel : N__law_draw.Nodup)
  have hu : X.A.units + 1 < cLine := by have := fX.room.un; omega
  have hu64 : X.A.units + 64 < cLine := by have := fX.room.un; omega
  have hc := fX.calm
  have nm : ∀ {i : Nat} {x : Str} {p : Pos}, (N__law_draw[i]? == some x) = true → ((defScope t__law_draw).names.lookup x == some .local || (defScope t__law_draw).names.lookup x == some .cell || (defScope t__law_draw).names.lookup x == some .free) = true → (x == ("__debug__" : Str)) = false → (x == ("__classdict__" : Str)) = false → PE X (.Name x p) (tVar i) :=
    fun h1 h2 h3 h4 => pvN fX h1 h2 h3 h4
  have st : ∀ {i : Nat} {x : Str} {e : Expr} {te : TE} {pos pos' : Pos}, PE X e te → (N__law_draw[i]? == some x) = true → ((defScope t__law_draw).names.lookup x == some .local || ((defScope t__law_draw).names.lookup x == some .cell && true)) = true → (∀ env, swapsWith e (some (.Name x pos')) pos.line env = pure false) → PS X (.Assign [.Name x pos'] e pos) (tAsg te (gName i)) :=
    fun he h1 h2 h3 => ps_set nd (by rw [fX.N]; exact beq_iff_eq.mp h1) (locOf fX h2).1 he (h3 _) (locOf fX h2).2
  have n0 : ∀ {p : Pos}, PE X (.Name "_law_deck_here" p) (tVar 0) := fun {p} => nm (by kernel_rfl) (by kernel_rfl) (by kernel_rfl) (by kernel_rfl)
  have n1 : ∀ {p : Pos}, PE X (.Name "_law_below" p) (tVar 1) := fun {p} => nm (by kernel_rfl) (by kernel_rfl) (by kernel_rfl) (by kernel_rfl)
  have n2 : ∀ {p : Pos}, PE X (.Name "_law_figure" p) (tVar 2) := fun {p} => nm (by kernel_rfl) (by kernel_rfl) (by kernel_rfl) (by kernel_rfl)
  have n3 : ∀ {p : Pos}, PE X (.Name "_law_cell" p) (tVar 3) := fun {p} => nm (by kernel_rfl) (by kernel_rfl) (by kernel_rfl) (by kernel_rfl)
  have dg : ∀ {x : Str} {p p2 pos : Pos} {j : Nat}, PE X (.Subscript (.Name "_law_deck_here" p) (.Constant (.str x) j p2) pos) (tDGet (tVar 0) (tC (.str x))) := fun {x p p2 pos j} => pe_dget hu n0 pe_str fun _ _ => rfl
  have gi : Gl X "int" := glOf fX (by kernel_rfl)
  have gm : Gl X "max" := glOf fX (by kernel_rfl)
  have mi : X.mg "int" = none := by rw [fX.mg]; exact hint
  have mm : X.mg "max" = none := by rw [fX.mg]; exact hmax
  have ci : ∀ {e : Expr} {te : TE} {p pos : Pos}, PE X e te → (∀ env, starEach [e] env = (false, eval e env) :: starEach [] env) → PE X (.Call (.Name "int" p) [e] [] pos) (tCB _ (tCons te tNil)) := fun he hs => pe_callTy call_int1 gi mi (by decide +kernel) (pa_cons he pa_nil (hs _)) (by decide) (by decide) (hs _) rfl
  refine ⟨_, pss_cons (ps_dput hu n0 pe_str (pe_op op_add dg pe_int) (by rfl)) <|
    pss_cons (st (i := 2) (pe_op op_add dg (pe_op op_mul pe_int dg)) (by kernel_rfl) (by kernel_rfl) (by intro _; rfl)) <|
    pss_cons (ps_if (pt_cmpR (op_neD hu64) dg (pe_lst pa_nil) (nomark _)) (
      pss_cons (st (i := 3) (pe_bm0 PySem.F.plainAttrs_list PySem.F.slot_list_pop PySem.F.type_list_pop mt_pop dg (by rfl) (by kernel_rfl)) (by kernel_rfl) (by kernel_rfl) (by intro _; rfl)) <|
      pss_cons (ps_if (pt_cmpR op_ge n3 (pe_op op_pow pe_int pe_int) (nomark _)) (
        pss_cons (ps_expr (pe_bm PySem.F.plainAttrs_list PySem.F.slot_list_append PySem.F.type_list_append mt_append dg (pa_cons (pe_op op_fdiv n3 (pe_callB (call_max2 hc) gm mm (by decide +kernel) (pa_cons pe_int (pa_cons n1 pa_nil)) (by decide) (by decide))) pa_nil) (by rfl) (by rfl) (by kernel_rfl)) (by rfl)) <|
        pss_one (ps_ret (pe_op op_mod (ci n3 (by intro _; rfl)) n1))) pss_nil) <|
      pss_one (st (i := 2) (pe_op op_add n2 (pe_op op_mod (ci n3 (by intro _; rfl)) pe_int)) (by kernel_rfl) (by kernel_rfl) (by intro _; rfl))) pss_nil) <|
    pss_cons (st (i := 2) (pe_op op_mod (ci (pe_op op_add (pe_op op_mul n2 pe_int) pe_int) (by intro _; rfl)) pe_int) (by kernel_rfl) (by kernel_rfl) (by intro _; rfl)) <|
    pss_cons (st (i := 2) (pe_op op_mod (ci (pe_op op_add (pe_op op_add (pe_op op_mul n2 n2) (pe_op op_mul pe_int dg)) pe_int) (by intro _; rfl)) pe_int) (by kernel_rfl) (by kernel_rfl) (by intro _; rfl)) <|
    pss_cons (st (i := 2) (pe_op op_mod (ci (pe_op op_mul n2 pe_int) (by intro _; rfl)) pe_int) (by kernel_rfl) (by kernel_rfl) (by intro _; rfl)) <|
    pss_one (ps_ret (pe_op op_mod (ci (pe_op op_fdiv n2 pe_int) (by intro _; rfl)) n1)), ?_⟩
  obtain ⟨m, t, cs, hcs, hd, hl⟩ := dk.at_ _ sW
  have J0 : DkAt H H da ca m t cs := ⟨hd, hl, fun _ _ _ _ h => h⟩
  have fin : ∀ {H' : Hp} {m t : Int} {cs : List Int}, cs.length < 100 → DkAt H H' da ca m t cs → ∀ k : Int, 0 ≤ k → k < n → Q (.int k) H' := fun hl J k h0 h1 => J.fin dk hl sF sR sW (hQ k h0 h1) g
  refine ⟨.ref da, rfl, da, .int t, rfl, J0.turn, t, _, rfl, rfl, .ref da, rfl, da, _, rfl, J0.put _, ?_⟩
  have J1 := J0.after (t + 1)
  refine ⟨.ref da, rfl, da, .int m, rfl, J1.mixed, .ref da, rfl, da, .int (t + 1), rfl, J1.turn, _, t + 1, rfl, rfl, .inl ⟨by decide, by decide⟩, m, _, rfl, rfl, ?_⟩
  refine ⟨.ref da, rfl, da, .ref ca, rfl, J1.cells, by decide, fun p hp => ?_⟩
  have J2 := J1.new (o := .lst []) hp
  refine ⟨.list (cs.map .int), .list [], .lst (SqL.of J2.c) (dp_ints cs), .lst (SqL.of upd_same) .nil, shaped_ints cs, shaped_ints [], _, rfl, ?_⟩
  have pos : ∀ {j : Int}, 0 < j → ∀ i : Int, (fun (_ j : Int) => 0 < j) i j := fun h _ => h
  have tb : ∀ {H' : Hp} {m t : Int} {cs : List Int}, cs.length < 100 → DkAt H H' da ca m t cs → ∀ (x : Int) (y : Option V), 0 ≤ x → x < 2147483648 → tailK79b { nx := fun _ H' => Q .non H', rt := Q } [some (.ref da), some (.int n), some (.int x), y] H' := fun {H' m t cs} hl J x1 y b1 b2 => by
    refine ⟨.int x1, rfl, .int x1, rfl, x1, x1, rfl, rfl, .inl ⟨by omega, by omega⟩, .ref da, rfl, da, .int t, rfl, J.turn, _, t, rfl, rfl, .inl ⟨by decide, by decide⟩, _, _, rfl, rfl, _, _, rfl, rfl, .inl ⟨_, rfl, _, _, rfl, rfl, (by show (0 : Int) < _; decide), ?_⟩⟩
    refine ⟨.int _, rfl, _, _, rfl, rfl, .inr ⟨by decide, by decide⟩, .inl ⟨_, rfl, _, _, rfl, rfl, (by show (0 : Int) < _; decide), ?_⟩⟩
    refine ⟨.int _, rfl, _, _, rfl, rfl, ⟨by decide, by decide⟩, .inl ⟨_, rfl, .int n, rfl, _, n, rfl, rfl, hn0, ?_⟩⟩
    exact fin hl J _ (Int.emod_nonneg _ (by omega)) (Int.emod_lt_of_pos _ hn0)
  have tail : ∀ {H' : Hp} {m t : Int} {cs : List Int}, cs.length < 100 → DkAt H H' da ca m t cs → ∀ (x : Int) (y : Option V), tailK79 { nx := fun _ H' => Q .non H', rt := Q } [some (.ref da), some (.int n), some (.int x), y] H' := fun {H' m t cs} hl J x y =>
    ⟨.int x, rfl, x, _, rfl, rfl, .inr ⟨by decide, by decide⟩, _, _, rfl, rfl, .inl ⟨_, rfl, _, _, rfl, rfl, (by show (0 : Int) < _; decide),
      tb hl J _ y (Int.emod_nonneg _ (by decide)) (Int.lt_of_lt_of_le (Int.emod_lt_of_pos _ (by decide)) (by decide))⟩⟩
  have hcc : cs = [] ∨ ∃ l c, cs = l ++ [c] := by
    rcases List.eq_nil_or_concat cs with h | ⟨l, c, h⟩
    · exact .inl h
    · exact .inr ⟨l, c, by rw [h, List.concat_eq_append]⟩
  rcases hcc with rfl | ⟨l, c, rfl⟩
  · exact tail hcs J2 _ none
  · have hlen : l.length < 99 := by simp at hcs; omega
    have he : (!PyData.eqv (.list ((l ++ [c]).map .int)) (.list [])) = true := by
      cases l <;> simp [PyData.eqv, PyData.eqvAll]
    refine iteB he ?_
    refine ⟨.ref da, rfl, da, .ref ca, rfl, J2.cells, .inl ⟨rfl, _, .inl (.inl J2.c)⟩, ca, _, .int c, rfl, rfl, J2.c, by simp, ?_⟩
    have J3 := J2.set l (vs := ((l ++ [c]).map V.int).dropLast) (by simp)
    refine ⟨.int c, rfl, _, _, rfl, rfl, ⟨by decide, by decide, by decide⟩, c, _, rfl, rfl, _, rfl, ?_⟩
    cases decide ((10 : Int) ^ (18 : Int).toNat ≤ c) with
    | true =>
      refine ⟨.ref da, rfl, da, .ref ca, rfl, J3.cells, .inl ⟨rfl, _, .inl (.inl J3.c)⟩, .int c, rfl, .int n, rfl, 2, n, rfl, c, _, rfl, rfl, ⟨by split <;> omega, by split <;> omega⟩, ca, _, _, rfl, rfl, J3.c, by rw [List.length_map, sizeLine_eq]; omega, ?_⟩
      have J4 := J3.set (l ++ [c / (if n > 2 then n else 2)]) (vs := l.map V.int ++ [.int (c / (if n > 2 then n else 2))]) (by simp)
      exact ⟨.int c, rfl, .inl ⟨c, rfl, .int n, rfl, c, n, rfl, rfl, hn0, fin (by simp; omega) J4 _ (Int.emod_nonneg _ (by omega)) (Int.emod_lt_of_pos _ hn0)⟩⟩
    | false =>
      exact ⟨.int _, rfl, .int c, rfl, .inl ⟨c, rfl, c, _, rfl, rfl, (by show (0 : Int) < _; decide), _, _, rfl, rfl, tail (by omega) J3 _ _⟩⟩
end K79
set_option maxHeartbeats 4000000
namespace K79
open PySem PySem.Spec PyProof.Rows L2 DL
abbrev S__law_deck (B : Bs) (k : Nat) : Sta := { B with N := N__law_deck, names := (defScope t__law_deck).names, k := k, fc := fun _ => true }
theorem kn_deck {B : Bs} (hint : B.mg "int" = none) {k : Nat} {f : Addr} {fd : FuncData} (F : FunD B.K "_law_deck" "_law_deck" (defArgs t__law_deck) (defBody t__law_deck) (defScope t__law_deck) [] [] f fd) :
    FnG B.P B.w B.K B.mg B.base CX0 (k + 1) f fd P__law_deck (spDeck B.K) := by
  refine F.okG sc__law_deck (fun vs H Q E ⟨a, ns, e, _⟩ => by rw [e]; rfl) (fun cdv A outer s H vs Q E hr hn h => ?_)
  have fX : Fam (S__law_deck B k) (Cx.nox (cxOf CX0 B.P B.w B.K B.mg B.base N__law_deck "_law_deck" (defScope t__law_deck) f cdv A outer s H E)) := ⟨rfl, rfl, rfl, rfl, rfl, rfl, rfl, rfl, hr, PassesOwn.never, fun _ _ => rfl, sc__law_deck.kind, hn⟩
  have nd : (S__law_deck B k).N.Nodup := (by decide +kernel : N__law_deck.Nodup)
  suffices hs : ∃ t, PSs (Cx.nox (cxOf CX0 B.P B.w B.K B.mg B.base N__law_deck "_law_deck" (defScope t__law_deck) f cdv A outer s H E)) (defBody t__law_deck) t ∧ t { nx := fun _ H' => Q .non H', rt := Q } (L2.start N__law_deck vs) H by
    obtain ⟨t, h1, h2⟩ := hs
    exact ⟨t, PSs.nox h1, h2⟩
  generalize Cx.nox (cxOf CX0 B.P B.w B.K B.mg B.base N__law_deck "_law_deck" (defScope t__law_deck) f cdv A outer s H E) = X at fX
  obtain ⟨a, ns, rfl, hlen, hsq, hQ⟩ := h
  have dsX : ∀ {st : Stmt} {w : WS}, DS (S__law_deck B k) st w → PS X st (tS B.K w) := fun h => h X fX
  have doX : ∀ {e : Expr} {w : WO}, DO (S__law_deck B k) e w → PE X e (tO B.K w) := fun h => h X fX
  have deX : ∀ {e : Expr} {w : W}, DE (S__law_deck B k) e w → PE X e (tD B.K w) := fun h => h X fX
  refine ⟨_, pss_cons (dsX (ds_set (i := 1) (do_fz de_int) nd)) <|
    pss_cons (dsX (ds_for (dj_seq (dv_do (do_scr (i := 0)))) (dg_name (i := 2) nd) (dss_one (ds_set (i := 1) (do_fz (de_mod (de_fz (do_callTy cd_int hint (by decide +kernel) (da_cons (de_fz (do_op od_add (de_fz (do_op od_add (de_fz (do_op od_mul (de_nm (i := 1)) de_int)) (de_mod (de_fz (do_callTy cd_int hint (by decide +kernel) (da_cons (de_nm (i := 2)) da_nil))) de_int))) de_int)) da_nil))) de_int)) nd)))) <|
    pss_one (ps_ret (pe_disp (pps_cons pe_str (doX (do_rev (de_fz (do_lc (own := [("_law_cell", 2)]) (di_seq (de_fz (do_scr (i := 0)))) nd (by kernel_rfl) (dg_name (i := 2) nd) (by decide) dts_nil (de_fz (do_callTy cd_int hint (by decide +kernel) (da_cons (de_nm (i := 2)) da_nil))))))) (pps_cons pe_str (deX (de_nm (i := 1))) (pps_cons pe_str pe_int pps_nil))) rfl rfl (by simp) (by decide))), ?_⟩
  obtain ⟨G, gw, gR, gs⟩ := script_gc hsq
  have fresh : ∀ {H' : Hp} {b : Addr}, G.Wd H' → DL.Fr G H H' → H' b = none → H b = none := fun {H' b} w fr h => by
    cases e : H b with
    | none => rfl
    | some o =>
      by_cases r : G.R b
      · have := gR b H' r w
        rw [h, e] at this; cases this
      · rw [fr b o e r] at h; cases h
  have ev0 : Ev B.K G H noHp noHp H (L2.start N__law_deck [V.ref a]) [some (.fz (.ob a)), none, none] := by
    refine ⟨⟨noHp_same, fun _ _ => rfl, gw, fun i sv h => ?_, rfl⟩, Same.refl _, Fr.refl, fun i sv b h ho => ?_, fun i j sv sw b _ h ho => ?_⟩
    · match i, h with
      | 0, h => cases h; exact ⟨_, rfl, Rp.ob a⟩
      | 1, h => cases h
      | 2, h => cases h
      | (i + 3), h => simp at h
    · match i, h with
      | 0, h => cases h; cases ho
      | 1, h => cases h
      | 2, h => cases h
      | (i + 3), h => simp at h
    · match i, h with
      | 0, h => cases h; cases ho
      | 1, h => cases h
      | 2, h => cases h
      | (i + 3), h => simp at h
  refine ⟨G, H, noHp, noHp, _, { nx := fun ρ' => ∃ c : Int, ρ' = [some (.fz (.ob a)), some (.fz (.int c)), none], rt := fun _ => False }, ev0, ⟨by show 1 < 3; decide, _, rfl⟩, ⟨fun σ1 H1 F1 ρ1 ev1 s1 ⟨c1, e1⟩ => ?_, fun _ _ _ _ _ _ q => q.elim, fun _ _ _ _ _ _ q => q.elim, fun _ _ _ _ _ _ _ _ _ _ q => q.elim⟩⟩
  subst e1
  refine ⟨G, H, noHp, F1, _, { nx := fun ρ' => ∃ (c : Int) (y : Option SV), ρ' = [some (.fz (.ob a)), some (.fz (.int c)), y], rt := fun _ => False }, ev1, ?_, ⟨fun σ2 H2 F2 ρ2 ev2 s2 ⟨c, y, e2⟩ => ?_, fun _ _ _ _ _ _ q => q.elim, fun _ _ _ _ _ _ q => q.elim, fun _ _ _ _ _ _ _ _ _ _ q => q.elim⟩⟩
  · refine ⟨a, ns, rfl, gs, ?_⟩
    refine ⟨_, rfl, ?_⟩
    rw [cutD_ints, immL_ints, if_pos rfl]
    generalize cutI ns none (some 63) = l
    clear ev1
    generalize (none : Option SV) = y
    induction l generalizing c1 y with
    | nil => exact ⟨c1, y, rfl⟩
    | cons x l ih =>
      refine ⟨by show 2 < 3; decide, by show 1 < 3; decide, .fz (.int c1), rfl, .inl ⟨c1, _, rfl, rfl, .inr ⟨by decide, by decide⟩, .fz (.int x), rfl, x, rfl, x, _, rfl, rfl, (by show (0 : Int) < _; decide), .inl ⟨_, _, rfl, rfl, .inl ⟨_, _, rfl, rfl, _, rfl, _, _, rfl, rfl, (by show (0 : Int) < _; decide), ?_⟩⟩⟩⟩
      exact ih _ ⟨_, rfl⟩ (some (.fz (.int x)))
  · subst e2
    intro p hp
    have e1 := evr_more (ev2.r.liveO (o := .dK []) hp) upd_same rfl (ev2.r.fnone hp) (ev2.ne hp)
    refine ⟨_, F2, _, fun sv => sv = .ow (((cutI ns none (some 63)).map D.int).reverse), e1, ⟨a, ns, rfl, fun H' w => gs H' w.1, ?_⟩, fun v H3 F3 sv s3 e3 f3 r3 q3 => ?_⟩
    · show ∃ ds, itemsOf (.lst (cutD (ns.map D.int) none (some 63))) = some ds ∧ _
      rw [cutD_ints]
      refine ⟨_, rfl, ?_⟩
      have hl := cutI_len ns none (some 63)
      generalize cutI ns none (some 63) = l at hl ⊢
      have h63 : l.length + 0 ≤ 63 := by omega
      have go : ∀ (l acc : List Int), l.length + acc.length ≤ 63 → ∀ Qf : List D → Prop, Qf ((acc ++ l).map D.int) → wcL (wgName 2) wtTrue (wFz (woCB oInt (waCons (wVar 2) waNil))) [2] (G.more p (.dK [])) [some (.fz (.ob a)), some (.fz (.int c)), y] (l.map D.int) (acc.map D.int) Qf := fun l => by
        induction l with
        | nil => intro acc _ Qf q; rw [List.append_nil] at q; exact q
        | cons x l ih =>
          intro acc hz Qf q G' _
          refine ⟨by show 2 < 3; decide, ?_⟩
          refine ⟨.fz (.int x), rfl, x, rfl, by rw [List.length_map, sizeLine_eq]; simp at hz; omega, ?_⟩
          have := ih (acc ++ [x]) (by simp at hz ⊢; omega) Qf (by rw [List.append_assoc]; exact q)
          rw [List.map_append] at this
          exact this
      exact go l [] (by simp only [List.length_nil]; omega) _ ⟨_, rfl, rfl⟩
    · subst q3
      obtain ⟨ca, vs, rfl, h1, h2, h3, h4, h5⟩ := r3
      refine ⟨_, F3, _, fun d => d = .int c, e3, ⟨.fz (.int c), rfl, rfl⟩, fun u H4 F4 d s4 e4 f4 r4 q4 => ?_⟩
      subst q4
      have eu := r4.intI
      subst eu
      have hp4 := e4.wd.2.1
      have hc4 : H4 ca = some (.lst vs) := f4 _ _ h1 h3
      have nep : ca ≠ p := fun z => by rw [z, upd_same] at h4; cases h4
      have frA : ∀ b o, H b = some o → H4 b = some o := fun b o hb => by
        by_cases r : G.R b
        · rw [gR b H4 r e4.wd.1]; exact hb
        · have hb2 := ev2.fr b o hb r
          have nb : b ≠ p := ne_of_none hb2 hp
          have nr : ¬ (G.more p (.dK [])).R b := fun z => z.elim r nb
          exact f4 b o (f3 b o (by rw [upd_ne nb]; exact hb2) nr) nr
      have hp0 : H p = none := fresh ev2.r.wd ev2.fr hp
      have hc0 : H ca = none := by
        cases e : H ca with
        | none => rfl
        | some o =>
          by_cases r : G.R ca
          · exact absurd (.inl r) h3
          · have q := ev2.fr ca o e r
            rw [upd_ne nep, q] at h4; cases h4
      refine ⟨hp4, dkV (.ref ca) (.int c) (.int 0), rfl, by show 3 ≤ 15; decide, ?_⟩
      have em : mergeK [] (dkV (.ref ca) (.int c) (.int 0)) = dkV (.ref ca) (.int c) (.int 0) := by first | rfl | kernel_rfl
      rw [em]
      refine hQ p ca _ hp0 hc0 (fun b o hb => by rw [upd_ne (ne_of_none hb hp0)]; exact frA b o hb) ⟨c, 0, (cutI ns none (some 63)).reverse, ?_, upd_same, ?_⟩
      · have := cutI_len ns none (some 63)
        rw [List.length_reverse]; omega
      · rw [upd_ne nep, hc4]
        rw [← List.map_reverse] at h2
        rw [h2.ints]
end K79
set_option maxHeartbeats 4000000
namespace K79
open PySem PySem.Spec PyProof.Rows L2 DL

/-! ### partings: the plain law -/
section
variable {α β : Type} [DecidableEq α] [DecidableEq β]
/-- the blocks told by numbers in the order in which they come, those of acc having come -/
def canonA : List α → List α → List Nat
  | _, [] => []
  | acc, a :: l => if a ∈ acc then acc.idxOf a :: canonA acc l else acc.length :: canonA (acc ++ [a]) l
def canon (l : List α) : List Nat := canonA [] l
def firsts : List α → List α → List α
  | acc, [] => acc
  | acc, a :: l => if a ∈ acc then firsts acc l else firsts (acc ++ [a]) l
theorem idx_app {F r : List α} {a : α} (h : a ∈ F) : (F ++ r).idxOf a = F.idxOf a := by rw [List.idxOf_append, if_pos h]
theorem firsts_pre : ∀ (l acc : List α), ∃ r, firsts acc l = acc ++ r
  | [], acc => ⟨[], by simp [firsts]⟩
  | a :: l, acc => by
    unfold firsts
    split
    · exact firsts_pre l acc
    · obtain ⟨r, e⟩ := firsts_pre l (acc ++ [a])
      exact ⟨a :: r, by rw [e, List.append_assoc]; rfl⟩
theorem firsts_mem : ∀ (l acc : List α), ∀ a ∈ l, a ∈ firsts acc l
  | b :: l, acc, a, h => by
    unfold firsts
    rcases List.mem_cons.mp h with rfl | h
    · split
      · rename_i hm
        obtain ⟨r, e⟩ := firsts_pre l acc
        rw [e]; exact List.mem_append_left _ hm
      · obtain ⟨r, e⟩ := firsts_pre l (acc ++ [a])
        rw [e]; simp
    · split
      · exact firsts_mem l acc a h
      · exact firsts_mem l _ a h
theorem canonA_map : ∀ (l acc : List α), canonA acc l = l.map fun a => (firsts acc l).idxOf a
  | [], _ => rfl
  | a :: l, acc => by
    unfold canonA firsts
    split
    · rename_i hm
      obtain ⟨r, e⟩ := firsts_pre l acc
      rw [List.map_cons, canonA_map l acc]
      congr 1
      rw [e, idx_app hm]
    · rename_i hm
      obtain ⟨r, e⟩ := firsts_pre l (acc ++ [a])
      rw [List.map_cons, canonA_map l (acc ++ [a])]
      congr 1
      rw [e, List.append_assoc, List.idxOf_append, if_neg hm]
      simp
theorem canonA_len : ∀ (l acc : List α), (canonA acc l).length = l.length := fun l acc => by rw [canonA_map, List.length_map]
theorem canon_len (l : List α) : (canon l).length = l.length := canonA_len l []
theorem idx_inj {F : List α} {a b : α} (ha : a ∈ F) (hb : b ∈ F) (h : F.idxOf a = F.idxOf b) : a = b := by
  have h1 := List.getElem_idxOf (List.idxOf_lt_length_iff.mpr ha)
  have h2 := List.getElem_idxOf (List.idxOf_lt_length_iff.mpr hb)
  rw [← h1, ← h2]
  simp only [h]
/-- finer -/
def Le (t : List α) (u : List β) : Prop := ∀ i j : Nat, t[i]? = t[j]? → u[i]? = u[j]?
theorem Le.refl (t : List α) : Le t t := fun _ _ h => h
theorem Le.trans {γ : Type} {t : List α} {u : List β} {v : List γ} (a : Le t u) (b : Le u v) : Le t v := fun i j h => b i j (a i j h)
theorem le_canon (l : List α) : Le l (canon l) := fun i j h => by
  unfold canon
  rw [canonA_map, List.getElem?_map, List.getElem?_map, h]
theorem canon_le (l : List α) : Le (canon l) l := fun i j h => by
  unfold canon at h
  rw [canonA_map, List.getElem?_map, List.getElem?_map] at h
  cases hi : l[i]? with
  | none =>
    rw [hi] at h
    cases hj : l[j]? with
    | none => rfl
    | some b => rw [hj] at h; cases h
  | some a =>
    rw [hi] at h
    cases hj : l[j]? with
    | none => rw [hj] at h; cases h
    | some b =>
      rw [hj] at h
      have h := Option.some.inj h
      rw [idx_inj (firsts_mem l [] a (List.mem_of_getElem? hi)) (firsts_mem l [] b (List.mem_of_getElem? hj)) h]
theorem idx_eq {p : α × β} : ∀ (z : List (α × β)), (∀ q ∈ z, q.1 = p.1 ↔ q.2 = p.2) → (z.map (·.1)).idxOf p.1 = (z.map (·.2)).idxOf p.2
  | [], _ => rfl
  | q :: z, h => by
    have e := h q List.mem_cons_self
    rw [List.map_cons, List.map_cons, List.idxOf_cons, List.idxOf_cons, idx_eq z fun q hq => h q (List.mem_cons_of_mem _ hq)]
    by_cases c : q.1 = p.1
    · have c2 := e.mp c
      simp [c, c2]
    · have c2 : ¬ q.2 = p.2 := fun z => c (e.mpr z)
      have d1 : (q.1 == p.1) = false := beq_eq_false_iff_ne.mpr c
      have d2 : (q.2 == p.2) = false := beq_eq_false_iff_ne.mpr c2
      rw [d1, d2]
theorem canonA_congr : ∀ (zl za : List (α × β)), (∀ p ∈ za ++ zl, ∀ q ∈ za ++ zl, p.1 = q.1 ↔ p.2 = q.2) → canonA (za.map (·.1)) (zl.map (·.1)) = canonA (za.map (·.2)) (zl.map (·.2))
  | [], _, _ => rfl
  | p :: zl, za, h => by
    have hp : p ∈ za ++ p :: zl := List.mem_append_right _ List.mem_cons_self
    have hz : ∀ q ∈ za, q.1 = p.1 ↔ q.2 = p.2 := fun q hq => h q (List.mem_append_left _ hq) p hp
    have hm : p.1 ∈ za.map (·.1) ↔ p.2 ∈ za.map (·.2) := by
      simp only [List.mem_map]
      exact ⟨fun ⟨q, h1, h2⟩ => ⟨q, h1, (hz q h1).mp h2⟩, fun ⟨q, h1, h2⟩ => ⟨q, h1, (hz q h1).mpr h2⟩⟩
    rw [List.map_cons, List.map_cons]
    unfold canonA
    by_cases c : p.1 ∈ za.map (·.1)
    · rw [if_pos c, if_pos (hm.mp c), idx_eq za hz, canonA_congr zl za fun a ha b hb => h a ?_ b ?_]
      · rcases List.mem_append.mp ha with ha | ha
        · exact List.mem_append_left _ ha
        · exact List.mem_append_right _ (List.mem_cons_of_mem _ ha)
      · rcases List.mem_append.mp hb with hb | hb
        · exact List.mem_append_left _ hb
        · exact List.mem_append_right _ (List.mem_cons_of_mem _ hb)
    · rw [if_neg c, if_neg fun z => c (hm.mpr z)]
      have e1 : za.map (·.1) ++ [p.1] = (za ++ [p]).map (·.1) := by rw [List.map_append]; rfl
      have e2 : za.map (·.2) ++ [p.2] = (za ++ [p]).map (·.2) := by rw [List.map_append]; rfl
      have ih := canonA_congr zl (za ++ [p]) (by rw [List.append_assoc]; exact h)
      simp only [e1, e2, ih, List.length_map]
theorem canon_congr {t : List α} {u : List β} (hl : t.length = u.length) (h1 : Le t u) (h2 : Le u t) : canon t = canon u := by
  have hz : ∀ p ∈ t.zip u, ∃ i : Nat, t[i]? = some p.1 ∧ u[i]? = some p.2 := fun p hp => by
    obtain ⟨i, hi⟩ := List.mem_iff_getElem?.mp hp
    rw [List.getElem?_zip_eq_some] at hi
    exact ⟨i, hi⟩
  have := canonA_congr (t.zip u) [] fun p hp q hq => by
    obtain ⟨i, i1, i2⟩ := hz p hp
    obtain ⟨j, j1, j2⟩ := hz q hq
    constructor
    · intro e
      have := h1 i j (by rw [i1, j1, e])
      rw [i2, j2] at this
      exact Option.some.inj this
    · intro e
      have := h2 i j (by rw [i2, j2, e])
      rw [i1, j1] at this
      exact Option.some.inj this
  have e1 : (t.zip u).map (·.1) = t := by
    have := List.map_fst_zip (l₁ := t) (l₂ := u) (by omega)
    exact this
  have e2 : (t.zip u).map (·.2) = u := by
    have := List.map_snd_zip (l₁ := t) (l₂ := u) (by omega)
    exact this
  rw [e1, e2] at this
  exact this
theorem canon_step (v : Nat) : ∀ (l acc : List α) (i : Nat), (canonA acc l)[i]? = some v → v ≤ acc.length ∨ ∃ j, j < i ∧ ∃ w, (canonA acc l)[j]? = some w ∧ v ≤ w + 1
  | [], _, i, h => by simp [canonA] at h
  | a :: l, acc, i, h => by
    unfold canonA at h ⊢
    by_cases c : a ∈ acc
    · rw [if_pos c] at h ⊢
      cases i with
      | zero =>
        simp at h
        have := List.idxOf_lt_length_iff.mpr c
        exact .inl (by omega)
      | succ i =>
        rcases canon_step v l acc i (by simpa using h) with z | ⟨j, hj, w, h1, h2⟩
        · exact .inl z
        · exact .inr ⟨j + 1, by omega, w, by simpa using h1, h2⟩
    · rw [if_neg c] at h ⊢
      cases i with
      | zero => simp at h; exact .inl (by omega)
      | succ i =>
        rcases canon_step v l (acc ++ [a]) i (by simpa using h) with z | ⟨j, hj, w, h1, h2⟩
        · rw [List.length_append, List.length_singleton] at z
          exact .inr ⟨0, by omega, acc.length, rfl, by omega⟩
        · exact .inr ⟨j + 1, by omega, w, by simpa using h1, h2⟩
theorem canon_lt : ∀ (l acc : List α) (v : Nat), v ∈ canonA acc l → v < acc.length + l.length
  | a :: l, acc, v, h => by
    unfold canonA at h
    rw [List.length_cons]
    by_cases c : a ∈ acc
    · rw [if_pos c] at h
      have := List.idxOf_lt_length_iff.mpr c
      rcases List.mem_cons.mp h with e | h
      · omega
      · have := canon_lt l acc v h; omega
    · rw [if_neg c] at h
      rcases List.mem_cons.mp h with e | h
      · omega
      · have := canon_lt l _ v h
        rw [List.length_append, List.length_singleton] at this
        omega
/-- a finer parting's numbers are not less -/
theorem canonA_mono : ∀ (zl zd : List (α × β)) (aT : List α) (aU : List β), (∀ p ∈ zd ++ zl, ∀ q ∈ zd ++ zl, p.1 = q.1 → p.2 = q.2) → (∀ p ∈ zd, p.1 ∈ aT ∧ p.2 ∈ aU ∧ aU.idxOf p.2 ≤ aT.idxOf p.1) → (∀ a ∈ aT, ∃ p ∈ zd, p.1 = a) → aU.length ≤ aT.length →
    ∀ (i v w : Nat), (canonA aT (zl.map (·.1)))[i]? = some v → (canonA aU (zl.map (·.2)))[i]? = some w → w ≤ v
  | [], _, _, _, _, _, _, _, i, v, w, h, _ => by simp [canonA] at h
  | p :: zl, zd, aT, aU, h, h1, h2, hl, i, v, w, hv, hw => by
    rw [List.map_cons] at hv hw
    unfold canonA at hv hw
    have hs : ∀ x ∈ (zd ++ [p]) ++ zl, ∀ y ∈ (zd ++ [p]) ++ zl, x.1 = y.1 → x.2 = y.2 := by rw [List.append_assoc]; exact h
    have hp : p ∈ zd ++ p :: zl := List.mem_append_right _ List.mem_cons_self
    by_cases c : p.1 ∈ aT
    · obtain ⟨q, hq, e⟩ := h2 _ c
      have e2 := h q (List.mem_append_left _ hq) p hp e
      obtain ⟨_, q2, q3⟩ := h1 q hq
      rw [e, e2] at q3
      rw [e2] at q2
      rw [if_pos c] at hv
      rw [if_pos q2] at hw
      cases i with
      | zero => simp at hv hw; omega
      | succ i =>
        refine canonA_mono zl (zd ++ [p]) aT aU hs (fun x hx => ?_) (fun a ha => ?_) hl i v w (by simpa using hv) (by simpa using hw)
        · rcases List.mem_append.mp hx with hx | hx
          · exact h1 x hx
          · rw [List.mem_singleton.mp hx]; exact ⟨c, q2, q3⟩
        · obtain ⟨x, x1, x2⟩ := h2 a ha
          exact ⟨x, List.mem_append_left _ x1, x2⟩
    · rw [if_neg c] at hv
      have late : ∀ x ∈ zd, (aT ++ [p.1]).idxOf x.1 = aT.idxOf x.1 := fun x hx => idx_app (h1 x hx).1
      have newT : (aT ++ [p.1]).idxOf p.1 = aT.length := by rw [List.idxOf_append, if_neg c]; simp
      have cov : ∀ a ∈ aT ++ [p.1], ∃ q ∈ zd ++ [p], q.1 = a := fun a ha => by
        rcases List.mem_append.mp ha with ha | ha
        · obtain ⟨x, x1, x2⟩ := h2 a ha
          exact ⟨x, List.mem_append_left _ x1, x2⟩
        · exact ⟨p, List.mem_append_right _ List.mem_cons_self, (List.mem_singleton.mp ha).symm⟩
      by_cases d : p.2 ∈ aU
      · rw [if_pos d] at hw
        have := List.idxOf_lt_length_iff.mpr d
        cases i with
        | zero => simp at hv hw; omega
        | succ i =>
          refine canonA_mono zl (zd ++ [p]) (aT ++ [p.1]) aU hs (fun x hx => ?_) cov (by rw [List.length_append, List.length_singleton]; omega) i v w (by simpa using hv) (by simpa using hw)
          rcases List.mem_append.mp hx with hx | hx
          · obtain ⟨x1, x2, x3⟩ := h1 x hx
            exact ⟨List.mem_append_left _ x1, x2, by rw [late x hx]; exact x3⟩
          · rw [List.mem_singleton.mp hx]; exact ⟨by simp, d, by rw [newT]; exact Nat.le_of_lt (Nat.lt_of_lt_of_le this hl)⟩
      · rw [if_neg d] at hw
        cases i with
        | zero => simp at hv hw; omega
        | succ i =>
          refine canonA_mono zl (zd ++ [p]) (aT ++ [p.1]) (aU ++ [p.2]) hs (fun x hx => ?_) cov (by simp; omega) i v w (by simpa using hv) (by simpa using hw)
          rcases List.mem_append.mp hx with hx | hx
          · obtain ⟨x1, x2, x3⟩ := h1 x hx
            exact ⟨List.mem_append_left _ x1, List.mem_append_left _ x2, by rw [late x hx, idx_app x2]; exact x3⟩
          · rw [List.mem_singleton.mp hx]
            have newU : (aU ++ [p.2]).idxOf p.2 = aU.length := by rw [List.idxOf_append, if_neg d]; simp
            exact ⟨by simp, by simp, by rw [newT, newU]; exact hl⟩
/-! #### both of two partings -/
theorem zip_get {t : List α} {u : List β} (hl : t.length = u.length) (i : Nat) : (∃ a b, t[i]? = some a ∧ u[i]? = some b ∧ (t.zip u)[i]? = some (a, b)) ∨ (t[i]? = none ∧ u[i]? = none ∧ (t.zip u)[i]? = none) := by
  by_cases h : i < t.length
  · have h1 := List.getElem?_eq_getElem h
    have h2 := List.getElem?_eq_getElem (l := u) (i := i) (by omega)
    exact .inl ⟨_, _, h1, h2, List.getElem?_zip_eq_some.mpr ⟨h1, h2⟩⟩
  · exact .inr ⟨List.getElem?_eq_none (by omega), List.getElem?_eq_none (by omega), List.getElem?_eq_none (by rw [List.length_zip]; omega)⟩
theorem zip_le1 {t : List α} {u : List β} (hl : t.length = u.length) : Le (t.zip u) t := fun i j h => by
  rcases zip_get hl i with ⟨a, b, h1, h2, h3⟩ | ⟨h1, h2, h3⟩ <;> rcases zip_get hl j with ⟨c, d, k1, k2, k3⟩ | ⟨k1, k2, k3⟩ <;> rw [h3, k3] at h
  · cases h; rw [h1, k1]
  · cases h
  · cases h
  · rw [h1, k1]
theorem zip_le2 {t : List α} {u : List β} (hl : t.length = u.length) : Le (t.zip u) u := fun i j h => by
  rcases zip_get hl i with ⟨a, b, h1, h2, h3⟩ | ⟨h1, h2, h3⟩ <;> rcases zip_get hl j with ⟨c, d, k1, k2, k3⟩ | ⟨k1, k2, k3⟩ <;> rw [h3, k3] at h
  · cases h; rw [h2, k2]
  · cases h
  · cases h
  · rw [h2, k2]
theorem le_zip {γ : Type} {w : List γ} {t : List α} {u : List β} (hl : t.length = u.length) (h1 : Le w t) (h2 : Le w u) : Le w (t.zip u) := fun i j h => by
  have e1 := h1 i j h
  have e2 := h2 i j h
  rcases zip_get hl i with ⟨a, b, q1, q2, q3⟩ | ⟨q1, q2, q3⟩ <;> rcases zip_get hl j with ⟨c, d, k1, k2, k3⟩ | ⟨k1, k2, k3⟩ <;> rw [q1, k1] at e1 <;> rw [q2, k2] at e2 <;> rw [q3, k3]
  · cases e1; cases e2; rfl
  · cases e1
  · cases e1
/-! #### all of two partings: blocks are put together one by one -/
def mrg (b : List Nat) (x y : Nat) : List Nat := b.map fun n => if some n = b[x]? then (b[y]?).getD 0 else n
def mrgs (b : List Nat) : List (Nat × Nat) → List Nat
  | [] => b
  | p :: s => mrgs (mrg b p.1 p.2) s
theorem mrg_len (b : List Nat) (x y : Nat) : (mrg b x y).length = b.length := by unfold mrg; rw [List.length_map]
theorem mrgs_len : ∀ (s : List (Nat × Nat)) (b : List Nat), (mrgs b s).length = b.length
  | [], _ => rfl
  | p :: s, b => by unfold mrgs; rw [mrgs_len s, mrg_len]
theorem le_mrg (b : List Nat) (x y : Nat) : Le b (mrg b x y) := fun i j h => by
  unfold mrg
  rw [List.getElem?_map, List.getElem?_map, h]
theorem mrg_at {b : List Nat} {x y : Nat} (hx : x < b.length) (hy : y < b.length) : (mrg b x y)[x]? = (mrg b x y)[y]? := by
  have h1 := List.getElem?_eq_getElem hx
  have h2 := List.getElem?_eq_getElem hy
  unfold mrg
  rw [List.getElem?_map, List.getElem?_map, h1, h2]
  simp only [Option.map_some, Option.getD_some, if_true]
  by_cases c : (some b[y] : Option Nat) = some b[x]
  · rw [if_pos c]
  · rw [if_neg c]
theorem mrg_le {w : List β} {b : List Nat} {x y : Nat} (hx : x < b.length) (hy : y < b.length) (h : Le b w) (e : w[x]? = w[y]?) : Le (mrg b x y) w := fun i j q => by
  unfold mrg at q
  rw [List.getElem?_map, List.getElem?_map] at q
  have h1 := List.getElem?_eq_getElem hx
  have h2 := List.getElem?_eq_getElem hy
  cases hi : b[i]? with
  | none =>
    rw [hi] at q
    cases hj : b[j]? with
    | none => exact h i j (by rw [hi, hj])
    | some c => rw [hj] at q; cases q
  | some a =>
    rw [hi] at q
    cases hj : b[j]? with
    | none => rw [hj] at q; cases q
    | some c =>
      rw [hj] at q
      have q := Option.some.inj q
      rw [h1, h2] at q
      simp only [Option.getD_some] at q
      by_cases c1 : some a = some b[x]
      · have w1 : w[i]? = w[x]? := h i x (by rw [hi, h1, c1])
        rw [if_pos c1] at q
        by_cases c2 : some c = some b[x]
        · have w2 : w[j]? = w[x]? := h j x (by rw [hj, h1, c2])
          rw [w1, w2]
        · rw [if_neg c2] at q
          have w2 : w[j]? = w[y]? := h j y (by rw [hj, h2, q])
          rw [w1, w2, e]
      · rw [if_neg c1] at q
        by_cases c2 : some c = some b[x]
        · have w2 : w[j]? = w[x]? := h j x (by rw [hj, h1, c2])
          rw [if_pos c2] at q
          have w1 : w[i]? = w[y]? := h i y (by rw [hi, h2, q])
          rw [w1, w2, e]
        · rw [if_neg c2] at q
          exact h i j (by rw [hi, hj, q])
theorem le_mrgs : ∀ (s : List (Nat × Nat)) (b : List Nat), Le b (mrgs b s)
  | [], b => Le.refl b
  | p :: s, b => (le_mrg b p.1 p.2).trans (le_mrgs s _)
theorem mrgs_at : ∀ (s : List (Nat × Nat)) (b : List Nat), (∀ p ∈ s, p.1 < b.length ∧ p.2 < b.length) → ∀ p ∈ s, (mrgs b s)[p.1]? = (mrgs b s)[p.2]?
  | q :: s, b, h, p, hp => by
    unfold mrgs
    obtain ⟨q1, q2⟩ := h q List.mem_cons_self
    rcases List.mem_cons.mp hp with rfl | hp
    · exact le_mrgs s _ _ _ (mrg_at q1 q2)
    · exact mrgs_at s _ (fun p hp => by rw [mrg_len]; exact h p (List.mem_cons_of_mem _ hp)) p hp
theorem mrgs_le {w : List β} : ∀ (s : List (Nat × Nat)) (b : List Nat), (∀ p ∈ s, p.1 < b.length ∧ p.2 < b.length) → Le b w → (∀ p ∈ s, w[p.1]? = w[p.2]?) → Le (mrgs b s) w
  | [], _, _, h, _ => h
  | q :: s, b, hl, h, hw => by
    unfold mrgs
    obtain ⟨q1, q2⟩ := hl q List.mem_cons_self
    exact mrgs_le s _ (fun p hp => by rw [mrg_len]; exact hl p (List.mem_cons_of_mem _ hp)) (mrg_le q1 q2 h (hw q List.mem_cons_self)) fun p hp => hw p (List.mem_cons_of_mem _ hp)
end
end K79
set_option maxHeartbeats 4000000
namespace K79
open PySem PySem.Spec PyProof.Rows L2 DL

/-! ### things: partings and spaces -/
inductive Kd where
  | par
  | spa
deriving DecidableEq
def Kd.w : Kd → Str
  | .par => "partings"
  | .spa => "spaces"
abbrev Th := List Nat
def szOk : Kd → Nat → Prop
  | .par, m => 1 ≤ m ∧ m ≤ 6
  | .spa, m => 1 ≤ m ∧ m ≤ 4
def good : Kd → Nat → Th → Prop
  | .par, m, t => t.length = m ∧ canon t = t
  | .spa, m, t => t.Pairwise (· < ·) ∧ 0 ∈ t ∧ (∀ x ∈ t, x < 2 ^ m) ∧ ∀ x ∈ t, ∀ y ∈ t, x ^^^ y ∈ t
def ok (k : Kd) (m : Nat) (t : Th) : Prop := szOk k m ∧ good k m t
/-- where each place's block begins -/
def prs (u : Th) : List (Nat × Nat) := (List.range u.length).map fun i => (i, u.idxOf (u.getD i 0))
def both : Kd → Th → Th → Th
  | .par, t, u => canon (t.zip u)
  | .spa, t, u => t.filter fun x => decide (x ∈ u)
def all : Kd → Th → Th → Th
  | .par, t, u => canon (mrgs t (prs u))
  | .spa, t, u => (List.range 16).filter fun n => t.any fun x => u.any fun y => (x ^^^ y) == n
def le : Kd → Th → Th → Prop
  | .par, t, u => Le t u
  | .spa, t, u => ∀ x ∈ t, x ∈ u
theorem le_refl (k : Kd) (t : Th) : le k t t := by cases k; exact Le.refl t; exact fun x h => h
theorem le_trans {k : Kd} {t u v : Th} (h : le k t u) (h' : le k u v) : le k t v := by
  cases k with
  | par => exact Le.trans h h'
  | spa => exact fun x hx => h' x (h x hx)
theorem sorted_eq : ∀ {l m : List Nat}, l.Pairwise (· < ·) → m.Pairwise (· < ·) → (∀ x, x ∈ l ↔ x ∈ m) → l = m
  | [], [], _, _, _ => rfl
  | [], y :: m, _, _, h => absurd ((h y).mpr List.mem_cons_self) (by simp)
  | x :: l, [], _, _, h => absurd ((h x).mp List.mem_cons_self) (by simp)
  | x :: l, y :: m, h1, h2, h => by
    rw [List.pairwise_cons] at h1 h2
    have e : x = y := by
      rcases List.mem_cons.mp ((h x).mp List.mem_cons_self) with e | hx
      · exact e
      · rcases List.mem_cons.mp ((h y).mpr List.mem_cons_self) with e | hy
        · exact e.symm
        · have := h1.1 y hy
          have := h2.1 x hx
          omega
    subst e
    rw [sorted_eq h1.2 h2.2 fun z => ?_]
    constructor
    · intro hz
      rcases List.mem_cons.mp ((h z).mp (List.mem_cons_of_mem _ hz)) with e | h3
      · have := h1.1 z hz; omega
      · exact h3
    · intro hz
      rcases List.mem_cons.mp ((h z).mpr (List.mem_cons_of_mem _ hz)) with e | h3
      · have := h2.1 z hz; omega
      · exact h3
theorem le_anti {k : Kd} {m : Nat} {t u : Th} (ht : ok k m t) (hu : ok k m u) (h : le k t u) (h' : le k u t) : t = u := by
  cases k with
  | par =>
    obtain ⟨_, t1, t2⟩ := ht
    obtain ⟨_, u1, u2⟩ := hu
    rw [← t2, ← u2]
    exact canon_congr (by rw [t1, u1]) h h'
  | spa => exact sorted_eq ht.2.1 hu.2.1 fun x => ⟨h x, h' x⟩
theorem canon_canon {α : Type} [DecidableEq α] (l : List α) : canon (canon l) = canon l := canon_congr (canon_len l) (canon_le l) (le_canon l)
theorem idx_self {u : Th} {i : Nat} (h : i < u.length) : u.idxOf (u.getD i 0) < u.length ∧ u[u.idxOf (u.getD i 0)]? = u[i]? := by
  have e : u.getD i 0 = u[i] := by rw [List.getD_eq_getElem?_getD, List.getElem?_eq_getElem h]; rfl
  rw [e]
  have hm : u[i] ∈ u := List.getElem_mem h
  have hl := List.idxOf_lt_length_iff.mpr hm
  exact ⟨hl, by rw [List.getElem?_eq_getElem hl, List.getElem_idxOf hl, List.getElem?_eq_getElem h]⟩
theorem prs_mem {u : Th} {p : Nat × Nat} (h : p ∈ prs u) : p.1 < u.length ∧ p.2 < u.length ∧ u[p.1]? = u[p.2]? := by
  unfold prs at h
  obtain ⟨i, hi, rfl⟩ := List.mem_map.mp h
  rw [List.mem_range] at hi
  obtain ⟨h1, h2⟩ := idx_self hi
  exact ⟨hi, h1, h2.symm⟩
theorem le_join {t u : Th} (hl : t.length = u.length) : Le u (mrgs t (prs u)) := fun i j h => by
  by_cases hi : i < u.length
  · have hj : j < u.length := by
      rw [List.getElem?_eq_getElem hi] at h
      cases hu : u[j]? with
      | none => rw [hu] at h; cases h
      | some _ => exact (List.getElem?_eq_some_iff.mp hu).1
    have at' : ∀ x, x < u.length → (mrgs t (prs u))[x]? = (mrgs t (prs u))[u.idxOf (u.getD x 0)]? := fun x hx => mrgs_at (prs u) t (fun p hp => by
        obtain ⟨p1, p2, _⟩ := prs_mem hp
        rw [hl]; exact ⟨p1, p2⟩) (x, u.idxOf (u.getD x 0)) (by unfold prs; exact List.mem_map.mpr ⟨x, List.mem_range.mpr hx, rfl⟩)
    rw [at' i hi, at' j hj]
    have e : u.getD i 0 = u.getD j 0 := by rw [List.getD_eq_getElem?_getD, List.getD_eq_getElem?_getD, h]
    rw [e]
  · have hj : ¬ j < u.length := fun hj => by
      rw [List.getElem?_eq_none (by omega), List.getElem?_eq_getElem hj] at h
      cases h
    rw [List.getElem?_eq_none (by rw [mrgs_len]; omega), List.getElem?_eq_none (by rw [mrgs_len]; omega)]
theorem join_le {t u w : Th} (hl : t.length = u.length) (h1 : Le t w) (h2 : Le u w) : Le (mrgs t (prs u)) w := mrgs_le (prs u) t (fun p hp => by
  obtain ⟨p1, p2, _⟩ := prs_mem hp
  rw [hl]; exact ⟨p1, p2⟩) h1 fun p hp => h2 _ _ (prs_mem hp).2.2
theorem both_le1 {k : Kd} {m : Nat} {t u : Th} (ht : ok k m t) (hu : ok k m u) : le k (both k t u) t := by
  cases k with
  | par => exact (canon_le _).trans (zip_le1 (by rw [ht.2.1, hu.2.1]))
  | spa => exact fun x hx => (List.mem_filter.mp hx).1
theorem both_le2 {k : Kd} {m : Nat} {t u : Th} (ht : ok k m t) (hu : ok k m u) : le k (both k t u) u := by
  cases k with
  | par => exact (canon_le _).trans (zip_le2 (by rw [ht.2.1, hu.2.1]))
  | spa => exact fun x hx => of_decide_eq_true (List.mem_filter.mp hx).2
theorem le_both {k : Kd} {m : Nat} {w t u : Th} (ht : ok k m t) (hu : ok k m u) (h1 : le k w t) (h2 : le k w u) : le k w (both k t u) := by
  cases k with
  | par => exact (le_zip (by rw [ht.2.1, hu.2.1]) h1 h2).trans (le_canon _)
  | spa => exact fun x hx => List.mem_filter.mpr ⟨h1 x hx, decide_eq_true (h2 x hx)⟩
theorem ok_both {k : Kd} {m : Nat} {t u : Th} (ht : ok k m t) (hu : ok k m u) : ok k m (both k t u) := by
  refine ⟨ht.1, ?_⟩
  cases k with
  | par =>
    have e1 : t.length = m := ht.2.1
    have e2 : u.length = m := hu.2.1
    exact ⟨by show (canon (t.zip u)).length = m; rw [canon_len, List.length_zip, e1, e2, Nat.min_self], canon_canon _⟩
  | spa =>
    obtain ⟨_, t1, t2, t3, t4⟩ := ht
    obtain ⟨_, u1, u2, u3, u4⟩ := hu
    refine ⟨t1.filter _, List.mem_filter.mpr ⟨t2, decide_eq_true u2⟩, fun x hx => t3 x (List.mem_filter.mp hx).1, fun x hx y hy => ?_⟩
    obtain ⟨x1, x2⟩ := List.mem_filter.mp hx
    obtain ⟨y1, y2⟩ := List.mem_filter.mp hy
    exact List.mem_filter.mpr ⟨t4 x x1 y y1, decide_eq_true (u4 x (of_decide_eq_true x2) y (of_decide_eq_true y2))⟩
theorem mem_all {t u : Th} {n : Nat} : n ∈ all .spa t u ↔ n < 16 ∧ ∃ x ∈ t, ∃ y ∈ u, x ^^^ y = n := by
  unfold all
  rw [List.mem_filter, List.mem_range]
  simp [List.any_eq_true]
theorem xor_lt {m x y : Nat} (hx : x < 2 ^ m) (hy : y < 2 ^ m) : x ^^^ y < 2 ^ m := Nat.xor_lt_two_pow hx hy
theorem pow16 {m : Nat} (h : m ≤ 4) : 2 ^ m ≤ 16 := by
  have := Nat.pow_le_pow_right (show 0 < 2 by decide) h
  exact this
theorem mem_all' {m : Nat} {t u : Th} (ht : ok .spa m t) (hu : ok .spa m u) {n : Nat} : n ∈ all .spa t u ↔ ∃ x ∈ t, ∃ y ∈ u, x ^^^ y = n := by
  rw [mem_all]
  refine ⟨fun h => h.2, fun ⟨x, hx, y, hy, e⟩ => ⟨?_, x, hx, y, hy, e⟩⟩
  have := xor_lt (ht.2.2.2.1 x hx) (hu.2.2.2.1 y hy)
  have := pow16 ht.1.2
  omega
theorem le_all1 {k : Kd} {m : Nat} {t u : Th} (ht : ok k m t) (hu : ok k m u) : le k t (all k t u) := by
  cases k with
  | par => exact (le_mrgs _ _).trans (le_canon _)
  | spa => exact fun x hx => (mem_all' ht hu).mpr ⟨x, hx, 0, hu.2.2.1, Nat.xor_zero x⟩
theorem le_all2 {k : Kd} {m : Nat} {t u : Th} (ht : ok k m t) (hu : ok k m u) : le k u (all k t u) := by
  cases k with
  | par => exact (le_join (by rw [ht.2.1, hu.2.1])).trans (le_canon _)
  | spa => exact fun x hx => (mem_all' ht hu).mpr ⟨0, ht.2.2.1, x, hx, Nat.zero_xor x⟩
theorem all_le {k : Kd} {m : Nat} {t u w : Th} (ht : ok k m t) (hu : ok k m u) (hw : ok k m w) (h1 : le k t w) (h2 : le k u w) : le k (all k t u) w := by
  cases k with
  | par => exact (canon_le _).trans (join_le (by rw [ht.2.1, hu.2.1]) h1 h2)
  | spa =>
    intro n hn
    obtain ⟨x, hx, y, hy, rfl⟩ := (mem_all' ht hu).mp hn
    exact hw.2.2.2.2 x (h1 x hx) y (h2 y hy)
theorem ok_all {k : Kd} {m : Nat} {t u : Th} (ht : ok k m t) (hu : ok k m u) : ok k m (all k t u) := by
  refine ⟨ht.1, ?_⟩
  cases k with
  | par =>
    have e1 : t.length = m := ht.2.1
    exact ⟨by show (canon (mrgs t (prs u))).length = m; rw [canon_len, mrgs_len, e1], canon_canon _⟩
  | spa =>
    refine ⟨List.Pairwise.filter _ List.pairwise_lt_range, (mem_all' ht hu).mpr ⟨0, ht.2.2.1, 0, hu.2.2.1, rfl⟩, fun n hn => ?_, fun n hn n' hn' => ?_⟩
    · obtain ⟨x, hx, y, hy, rfl⟩ := (mem_all' ht hu).mp hn
      exact xor_lt (ht.2.2.2.1 x hx) (hu.2.2.2.1 y hy)
    · obtain ⟨x, hx, y, hy, rfl⟩ := (mem_all' ht hu).mp hn
      obtain ⟨x', hx', y', hy', rfl⟩ := (mem_all' ht hu).mp hn'
      refine (mem_all' ht hu).mpr ⟨x ^^^ x', ht.2.2.2.2 x hx x' hx', y ^^^ y', hu.2.2.2.2 y hy y' hy', ?_⟩
      rw [Nat.xor_assoc, Nat.xor_assoc]
      congr 1
      rw [← Nat.xor_assoc, Nat.xor_comm x' y, Nat.xor_assoc]
/-! #### what is asked -/
section
variable {k : Kd} {m : Nat} {t u w : Th}
theorem both_comm (ht : ok k m t) (hu : ok k m u) : both k t u = both k u t :=
  le_anti (ok_both ht hu) (ok_both hu ht) (le_both hu ht (both_le2 ht hu) (both_le1 ht hu)) (le_both ht hu (both_le2 hu ht) (both_le1 hu ht))
theorem all_comm (ht : ok k m t) (hu : ok k m u) : all k t u = all k u t :=
  le_anti (ok_all ht hu) (ok_all hu ht) (all_le ht hu (ok_all hu ht) (le_all2 hu ht) (le_all1 hu ht)) (all_le hu ht (ok_all ht hu) (le_all2 ht hu) (le_all1 ht hu))
theorem both_iff (ht : ok k m t) (hu : ok k m u) : both k t u = t ↔ le k t u :=
  ⟨fun e => by have := both_le2 ht hu; rw [e] at this; exact this, fun h => le_anti (ok_both ht hu) ht (both_le1 ht hu) (le_both ht hu (le_refl k t) h)⟩
theorem all_iff (ht : ok k m t) (hu : ok k m u) : all k t u = u ↔ le k t u :=
  ⟨fun e => by have := le_all1 ht hu; rw [e] at this; exact this, fun h => le_anti (ok_all ht hu) hu (all_le ht hu hu h (le_refl k u)) (le_all2 ht hu)⟩
theorem two_iff (ht : ok k m t) (hu : ok k m u) : both k t u = t ↔ all k t u = u := (both_iff ht hu).trans (all_iff ht hu).symm
theorem absorb1 (ht : ok k m t) (hu : ok k m u) : both k t (all k t u) = t := (both_iff ht (ok_all ht hu)).mpr (le_all1 ht hu)
theorem absorb2 (ht : ok k m t) (hu : ok k m u) : all k t (both k t u) = t := by
  rw [all_comm ht (ok_both ht hu)]
  exact (all_iff (ok_both ht hu) ht).mpr (both_le1 ht hu)
theorem all_self (ht : ok k m t) : all k t t = t := (all_iff ht ht).mpr (le_refl k t)
theorem in_low (ht : ok k m t) (hu : ok k m u) : both k (both k t u) t = both k t u := (both_iff (ok_both ht hu) ht).mpr (both_le1 ht hu)
theorem in_high (ht : ok k m t) (hu : ok k m u) : both k u (all k t u) = u := (both_iff hu (ok_all ht hu)).mpr (le_all2 ht hu)
theorem both_assoc (ht : ok k m t) (hu : ok k m u) (hw : ok k m w) : both k (both k t u) w = both k t (both k u w) := by
  have a := ok_both ht hu
  have b := ok_both hu hw
  refine le_anti (ok_both a hw) (ok_both ht b) (le_both ht b ?_ (le_both hu hw ?_ ?_)) (le_both a hw (le_both ht hu ?_ ?_) ?_)
  · exact le_trans (both_le1 a hw) (both_le1 ht hu)
  · exact le_trans (both_le1 a hw) (both_le2 ht hu)
  · exact both_le2 a hw
  · exact both_le1 ht b
  · exact le_trans (both_le2 ht b) (both_le1 hu hw)
  · exact le_trans (both_le2 ht b) (both_le2 hu hw)
theorem all_assoc (ht : ok k m t) (hu : ok k m u) (hw : ok k m w) : all k (all k t u) w = all k t (all k u w) := by
  have a := ok_all ht hu
  have b := ok_all hu hw
  have c := ok_all a hw
  have d := ok_all ht b
  refine le_anti c d (all_le a hw d (all_le ht hu d ?_ ?_) ?_) (all_le ht b c ?_ (all_le hu hw c ?_ ?_))
  · exact le_all1 ht b
  · exact le_trans (le_all1 hu hw) (le_all2 ht b)
  · exact le_trans (le_all2 hu hw) (le_all2 ht b)
  · exact le_trans (le_all1 ht hu) (le_all1 a hw)
  · exact le_trans (le_all2 ht hu) (le_all1 a hw)
  · exact le_all2 a hw
theorem near_far (ht : ok k m t) (hu : ok k m u) (hw : ok k m w) : le k (all k (both k t u) (both k t w)) (both k t (all k u w)) := by
  have a := ok_both ht hu
  have b := ok_both ht hw
  have c := ok_all hu hw
  refine le_both ht c (all_le a b ht (both_le1 ht hu) (both_le1 ht hw)) (all_le a b c ?_ ?_)
  · exact le_trans (both_le2 ht hu) (le_all1 hu hw)
  · exact le_trans (both_le2 ht hw) (le_all2 hu hw)
end
/-- a finer parting's numbers are not less, place by place -/
theorem par_mono {m : Nat} {t u : Th} (ht : ok .par m t) (hu : ok .par m u) (h : le .par t u) {i v w : Nat} (hv : t[i]? = some v) (hw : u[i]? = some w) : w ≤ v := by
  have hl : t.length = u.length := by rw [ht.2.1, hu.2.1]
  have e1 : (t.zip u).map (·.1) = t := List.map_fst_zip (l₁ := t) (l₂ := u) (by omega)
  have e2 : (t.zip u).map (·.2) = u := List.map_snd_zip (l₁ := t) (l₂ := u) (by omega)
  refine canonA_mono (t.zip u) [] [] [] (fun p hp q hq e => ?_) (fun p hp => by cases hp) (fun a ha => by cases ha) (Nat.le_refl _) i v w ?_ ?_
  · obtain ⟨i, hi⟩ := List.mem_iff_getElem?.mp hp
    obtain ⟨j, hj⟩ := List.mem_iff_getElem?.mp hq
    rw [List.nil_append] at *
    rw [List.getElem?_zip_eq_some] at hi hj
    have := h i j (by rw [hi.1, hj.1, e])
    rw [hi.2, hj.2] at this
    exact Option.some.inj this
  · rw [e1]
    show (canon t)[i]? = some v
    rw [ht.2.2]; exact hv
  · rw [e2]
    show (canon u)[i]? = some w
    rw [hu.2.2]; exact hw
/-- spaces: x around y -/
theorem modular {m : Nat} {x y z : Th} (hx : ok .spa m x) (hy : ok .spa m y) (hz : ok .spa m z) (h : le .spa y x) : both .spa x (all .spa y z) = all .spa y (both .spa x z) := by
  have a := ok_all hy hz
  have b := ok_both hx hz
  refine le_anti (ok_both hx a) (ok_all hy b) (fun n hn => ?_) (all_le hy b (ok_both hx a) (le_both hx a h (le_all1 hy hz)) (le_both hx a (both_le1 hx hz) (le_trans (both_le2 hx hz) (le_all2 hy hz))))
  obtain ⟨n1, n2⟩ := List.mem_filter.mp hn
  obtain ⟨p, hp, q, hq, rfl⟩ := (mem_all' hy hz).mp (of_decide_eq_true n2)
  refine (mem_all' hy b).mpr ⟨p, hp, q, List.mem_filter.mpr ⟨?_, decide_eq_true hq⟩, rfl⟩
  have := hx.2.2.2.2 p (h p hp) _ n1
  rw [← Nat.xor_assoc, Nat.xor_self, Nat.zero_xor] at this
  exact this
end K79
set_option maxHeartbeats 4000000
namespace K79
open PySem PySem.Spec PyProof.Rows L2 DL

/-! ### words, numbers, tuples of numbers as data -/
abbrev eI (n : Nat) : D := .int (n : Int)
def Kd.d : Kd → Th → D
  | .par, t => .tix (t.map eI)
  | .spa, t => .tup (t.map eI)
def iL (t : Th) : List Int := t.map fun n : Nat => (n : Int)
theorem eI_map (t : Th) : t.map eI = (iL t).map .int := by unfold iL; rw [List.map_map]; rfl
theorem iL_inj : ∀ {t u : Th}, iL t = iL u ↔ t = u := by
  intro t u
  constructor
  · intro h
    induction t generalizing u with
    | nil => cases u with
      | nil => rfl
      | cons y u => cases h
    | cons x t ih => cases u with
      | nil => cases h
      | cons y u =>
        have h : (x : Int) :: iL t = (y : Int) :: iL u := h
        injection h with h1 h2
        rw [ih h2, show x = y by omega]
  · rintro rfl; rfl
@[simp] theorem iL_len (t : Th) : (iL t).length = t.length := by unfold iL; rw [List.length_map]
theorem mem_iL {t : Th} {n : Nat} : ((n : Int) ∈ iL t) ↔ n ∈ t := by
  unfold iL
  rw [List.mem_map]
  exact ⟨fun ⟨a, h1, h2⟩ => by rw [show n = a by omega]; exact h1, fun h => ⟨n, h, rfl⟩⟩
theorem lay_k : ∀ k : Kd, PyData.canLay0 (.str k.w) = true
  | .par => by decide +kernel
  | .spa => by decide +kernel
theorem k_word {k : Kd} {x : Str} {b : Bool} (hx : PyData.canLay0 (.str x) = true) (hb : (k.w == x) = b) {Q : D → Prop} : oEq (.str k.w) (.str x) Q ↔ Q (.bl b) := ⟨fun ⟨p, q, e1, e2, _, _, z⟩ => by
  cases e1; cases e2
  rw [eqv_str, hb] at z
  exact z, fun q => oEq_str (lay_k k) hx (by rw [hb]; exact q)⟩
@[simp ↓] theorem k_num {k : Kd} {Q : D → Prop} : oEq (.str k.w) (.str "numbers") Q ↔ Q (.bl false) := k_word (by decide +kernel) (by cases k <;> decide +kernel)
@[simp ↓] theorem k_par {k : Kd} {Q : D → Prop} : oEq (.str k.w) (.str "partings") Q ↔ Q (.bl (decide (k = .par))) := k_word (by decide +kernel) (by cases k <;> decide +kernel)
@[simp ↓] theorem k_spa {k : Kd} {Q : D → Prop} : oEq (.str k.w) (.str "spaces") Q ↔ Q (.bl (decide (k = .spa))) := k_word (by decide +kernel) (by cases k <;> decide +kernel)
@[simp] theorem w_inj {k k' : Kd} : k.w = k'.w ↔ k = k' := by cases k <;> cases k' <;> simp [Kd.w] <;> decide +kernel
theorem imm_ints (t : Th) : immL (t.map eI) = true := immL_all fun x hx => by
  obtain ⟨n, _, rfl⟩ := List.mem_map.mp hx
  rfl
@[simp] theorem imm_d (k : Kd) (t : Th) : imm (k.d t) = true := by cases k <;> simp [Kd.d, imm_ints]
theorem toPy_d (k : Kd) (t : Th) : toPy (k.d t) = some (.tuple ((iL t).map .int)) := by
  cases k
  · show (toPyL (t.map eI)).map PyData.tuple = _
    rw [eI_map, toPyL_ints]; rfl
  · show toPy (.tup (t.map eI)) = _
    rw [eI_map, toPy_tupI]
@[simp ↓] theorem d_eq {k k' : Kd} {t u : Th} {Q : D → Prop} : oEq (k.d t) (k'.d u) Q ↔ Q (.bl (decide (t = u))) := by
  have e : PyData.eqv (.tuple ((iL t).map .int)) (.tuple ((iL u).map .int)) = decide (t = u) := by
    rw [eqv_tupI]
    exact decide_eq_decide.mpr iL_inj
  constructor
  · rintro ⟨p, q, e1, e2, _, _, z⟩
    rw [toPy_d] at e1 e2
    cases e1; cases e2
    rw [e] at z; exact z
  · intro z
    exact ⟨_, _, toPy_d k t, toPy_d k' u, shaped_tupI _, shaped_tupI _, by rw [e]; exact z⟩

/-! ### looks -/
def s_is_integer : FS := fun _ ds Q => ∃ i : Int, ds = [.int i] ∧ Q (.fz (.bl true))
@[simp ↓] theorem c_is_integer {G : Gc} {i : Int} {Q : SV → Prop} : s_is_integer G [.int i] Q ↔ Q (.fz (.bl true)) := by simp [s_is_integer]
theorem p_is_integer : Keeps P_is_integer N_is_integer s_is_integer w_is_integer := fun G ds Qd h => by
  obtain ⟨i, rfl, q⟩ := h
  refine ⟨rfl, ?_⟩
  simp [N_is_integer, w_is_integer, startD, q]
def s_is_between : FS := fun _ ds Q => ∃ i lo hi : Int, ds = [.int i, .int lo, .int hi] ∧ lo ≤ i ∧ i ≤ hi ∧ Q (.fz (.bl true))
@[simp ↓] theorem c_is_between {G : Gc} {i lo hi : Int} {Q : SV → Prop} : s_is_between G [.int i, .int lo, .int hi] Q ↔ lo ≤ i ∧ i ≤ hi ∧ Q (.fz (.bl true)) := ⟨fun ⟨_, _, _, e, h⟩ => by cases e; exact h, fun h => ⟨_, _, _, rfl, h⟩⟩
theorem p_is_between : Keeps P_is_between N_is_between s_is_between (w_is_between s_is_integer) := fun G ds Qd h => by
  obtain ⟨i, lo, hi, rfl, h1, h2, q⟩ := h
  refine ⟨rfl, ?_⟩
  simp [N_is_between, w_is_between, startD, h1, h2, q]
def s_are_between : FS := fun _ ds Q => ∃ (k : Kd) (t : Th) (hi : Int), ds = [k.d t, .int 0, .int hi] ∧ t.length ≤ 1000 ∧ (∀ x ∈ t, (x : Int) ≤ hi) ∧ Q (.fz (.bl true))
theorem d_inj {k : Kd} {t u : Th} (h : k.d t = k.d u) : t = u := by
  have e := toPy_d k t
  rw [h, toPy_d] at e
  have e := Option.some.inj e
  injection e with e
  have : ∀ {a b : List Int}, a.map PyData.int = b.map PyData.int → a = b := fun {a b} h => by
    induction a generalizing b with
    | nil => cases b with
      | nil => rfl
      | cons y b => cases h
    | cons x a ih => cases b with
      | nil => cases h
      | cons y b =>
        rw [List.map_cons, List.map_cons] at h
        injection h with h1 h2
        injection h1 with h1
        rw [h1, ih h2]
  exact (iL_inj.mp (this e)).symm
theorem d_inj2 {k k' : Kd} {t u : Th} (h : k.d t = k'.d u) : t = u := by
  cases k <;> cases k'
  · exact d_inj h
  · cases h
  · cases h
  · exact d_inj h
@[simp ↓] theorem c_are_between {G : Gc} {k : Kd} {t : Th} {hi : Int} {Q : SV → Prop} : s_are_between G [k.d t, .int 0, .int hi] Q ↔ t.length ≤ 1000 ∧ (∀ x ∈ t, (x : Int) ≤ hi) ∧ Q (.fz (.bl true)) := ⟨fun ⟨_, u, _, e, h⟩ => by
  injection e with e1 e
  injection e with _ e
  injection e with e2 _
  injection e2 with e2
  have e1 := d_inj2 e1
  subst e1 e2
  exact h, fun h => ⟨k, t, hi, rfl, h⟩⟩
theorem map_true {α : Type} (xs : List α) : xs.map (fun _ => D.bl true) = (xs.map fun _ => true).map D.bl := by rw [List.map_map]; rfl
theorem all_true {α : Type} (xs : List α) : (xs.map fun _ => true).all id = true := by simp
theorem allT {α : Type} (xs : List α) {Q : SV → Prop} (q : Q (.fz (.bl true))) : oAll [.lst (xs.map fun _ => D.bl true)] Q := by
  rw [map_true, s_allB, all_true]; exact q
theorem p_are_between : Keeps P_are_between N_are_between s_are_between (w_are_between s_is_between) := fun G ds Qd h => by
  obtain ⟨k, t, hi, rfl, hl, hx, q⟩ := h
  refine ⟨rfl, ?_⟩
  have step : ∀ (xs : List D) (x : D), xs = t.map eI → wcL (wgName 3) wtTrue (wFz (woCall s_is_between (waCons (wVar 3) (waCons (wVar 1) (waCons (wVar 2) waNil))))) [3] G [some (.fz x), some (.fz (.int 0)), some (.fz (.int hi)), none] xs [] fun acc => oAll [.lst acc] Qd := fun xs x e => by
    subst e
    refine wcL_map (fun _ => .bl true) _ _ (fun d hm G' hG Qy hy => ?_) (len_small (by rw [List.length_map]; omega)) (allT _ q)
    obtain ⟨n, hn, rfl⟩ := List.mem_map.mp hm
    simp [wipeD, hx n hn, hy]
  cases k <;> simp [N_are_between, w_are_between, startD, Kd.d] <;> exact step _ _ rfl
end K79
set_option maxHeartbeats 4000000
namespace K79
open PySem PySem.Spec PyProof.Rows L2 DL

/-! ### names of blocks, as they come -/
def ix {α : Type} [DecidableEq α] (l : List α) (a : α) : Nat := l.idxOf a
section
variable {α κ : Type} [DecidableEq α] [DecidableEq κ]
def nmO (ky : α → κ) : Nat → List α → List (κ × D)
  | _, [] => []
  | o, a :: l => (ky a, eI o) :: nmO ky (o + 1) l
theorem nmO_len (ky : α → κ) : ∀ (l : List α) (o : Nat), (nmO ky o l).length = l.length
  | [], _ => rfl
  | a :: l, o => by unfold nmO; rw [List.length_cons, List.length_cons, nmO_len ky l]
theorem nmO_app (ky : α → κ) (a : α) : ∀ (l : List α) (o : Nat), nmO ky o (l ++ [a]) = nmO ky o l ++ [(ky a, eI (o + l.length))]
  | [], o => rfl
  | b :: l, o => by
    rw [List.cons_append]
    unfold nmO
    rw [nmO_app ky a l (o + 1), List.length_cons, show o + 1 + l.length = o + (l.length + 1) by omega]
    rfl
theorem nmO_look {ky : α → κ} (hk : ∀ a b, ky a = ky b → a = b) (a : α) : ∀ (l : List α) (o : Nat), lookD (nmO ky o l) (ky a) = if a ∈ l then some (eI (o + ix l a)) else none
  | [], o => rfl
  | b :: l, o => by
    have ih := nmO_look hk a l (o + 1)
    unfold ix at ih ⊢
    unfold lookD at ih ⊢
    unfold nmO
    rw [List.find?_cons]
    by_cases e : b = a
    · subst e
      simp
    · have ne : ¬ ky b = ky a := fun z => e (hk _ _ z)
      have ne2 : ¬ a = b := fun z => e z.symm
      have d1 : (b == a) = false := beq_eq_false_iff_ne.mpr e
      simp only [ne, decide_false]
      rw [ih]
      by_cases m : a ∈ l
      · rw [if_pos m, if_pos (List.mem_cons_of_mem _ m), List.idxOf_cons, d1]
        simp only [cond_false]
        rw [show o + 1 + l.idxOf a = o + (l.idxOf a + 1) by omega]
      · rw [if_neg m, if_neg fun z => (List.mem_cons.mp z).elim ne2 m]
theorem nmO_any {ky : α → κ} (hk : ∀ a b, ky a = ky b → a = b) {a : α} : ∀ (l : List α) (o : Nat), a ∉ l → ((nmO ky o l).any fun kv => decide (kv.1 = ky a)) = false
  | [], _, _ => rfl
  | b :: l, o, h => by
    unfold nmO
    rw [List.any_cons, nmO_any hk l (o + 1) fun z => h (List.mem_cons_of_mem _ z), Bool.or_false]
    exact decide_eq_false fun z => h (by rw [hk _ _ z]; exact List.mem_cons_self)
def nm (ky : α → κ) (l : List α) : List (κ × D) := nmO ky 0 l
theorem nm_look {ky : α → κ} (hk : ∀ a b, ky a = ky b → a = b) (a : α) (l : List α) : lookD (nm ky l) (ky a) = if a ∈ l then some (eI (ix l a)) else none := by
  have := nmO_look hk a l 0
  rw [Nat.zero_add] at this
  exact this
theorem nm_lookT {ky : α → κ} (hk : ∀ a b, ky a = ky b → a = b) {a : α} {l : List α} (c : a ∈ l) : lookD (nm ky l) (ky a) = some (eI (ix l a)) := by
  have := nm_look hk a l
  rw [if_pos c] at this
  exact this
theorem nm_lookF {ky : α → κ} (hk : ∀ a b, ky a = ky b → a = b) {a : α} {l : List α} (c : a ∉ l) : lookD (nm ky l) (ky a) = none := by
  have := nm_look hk a l
  rw [if_neg c] at this
  exact this
theorem ix_new {a : α} {acc : List α} (c : a ∉ acc) : ix (acc ++ [a]) a = acc.length := by unfold ix; rw [List.idxOf_append, if_neg c]; simp
theorem nm_put {ky : α → κ} (hk : ∀ a b, ky a = ky b → a = b) {a : α} {l : List α} (h : a ∉ l) : putD (nm ky l) (ky a) (eI l.length) = nm ky (l ++ [a]) := by
  unfold putD
  have e := nmO_any hk l 0 h
  have e2 : ((nm ky l).any fun kv => decide (kv.1 = ky a)) = false := e
  rw [e2]
  have := nmO_app ky a l 0
  rw [Nat.zero_add] at this
  exact this.symm
theorem nm_len (ky : α → κ) (l : List α) : (nm ky l).length = l.length := nmO_len ky l 0
end
def kyI (n : Nat) : Key := .inl (n : Int)
theorem kyI_inj : ∀ a b, kyI a = kyI b → a = b := fun a b h => by
  unfold kyI at h
  injection h with h
  omega
def kyP (p : Nat × Nat) : List Key := [.inl (p.1 : Int), .inl (p.2 : Int)]
theorem kyP_inj : ∀ a b, kyP a = kyP b → a = b := fun a b h => by
  unfold kyP at h
  injection h with h1 h2
  injection h2 with h2 _
  injection h1 with h1
  injection h2 with h2
  exact Prod.ext (by omega) (by omega)
abbrev eP (p : Nat × Nat) : D := .tky [eI p.1, eI p.2]
theorem firsts_len {α : Type} [DecidableEq α] : ∀ (l acc : List α), (firsts acc l).length ≤ acc.length + l.length
  | [], _ => Nat.le_refl _
  | a :: l, acc => by
    unfold firsts
    rw [List.length_cons]
    split
    · have := firsts_len l acc; omega
    · have := firsts_len l (acc ++ [a])
      rw [List.length_append, List.length_singleton] at this
      omega
theorem nm_imm {α κ : Type} [DecidableEq α] [DecidableEq κ] (ky : α → κ) : ∀ (l : List α) (o : Nat), immL ((nmO ky o l).map (·.2)) = true
  | [], _ => rfl
  | a :: l, o => by
    unfold nmO
    rw [List.map_cons, immL_cons, nm_imm ky l (o + 1)]
    rfl

theorem told_F {G : Gc} {E : EndsD} {x : Option SV} : ∀ (l acc : List (Nat)) (done : List Nat) (y : Option SV), acc.length + l.length ≤ 1000 → done.length + l.length ≤ 1000 → (∀ z, E.nx [x, some (.od false (sg (nm kyI (firsts acc l)))), some (.ow (List.map eI (done ++ canonA acc l))), z]) →
    wForL (wgName 3) (wSeq (wIfS (wtV (wOp oDNotIn (wVar 3) (wVar 1))) (wStoreD 1 (wVar 3) (wvO (woCB oLenD (waCons (wVar 1) (waNil))))) (wNext)) (wApp 2 (wvO (woFz (wOp oDGet (wVar 1) (wVar 3)))))) G E (l.map eI) [x, some (.od false (sg (nm kyI acc))), some (.ow (List.map eI done)), y]
  | [], acc, done, y, _, _, q => by
    have := q y
    unfold firsts canonA at this
    rw [List.append_nil] at this
    exact this
  | a :: l, acc, done, y, h1, h2, q => by
    rw [List.length_cons] at h1 h2
    rw [List.map_cons, s_for1]
    have s1 : (nm kyI acc).length < sizeLine := lt_small (by rw [nm_len]; omega)
    have s2 : (List.map eI done).length < sizeLine := lt_small (by rw [List.length_map]; omega)
    have lkT : a ∈ acc → lookD (nm kyI acc) (.inl (a : Int)) = some (eI (ix acc a)) := fun c => nm_lookT kyI_inj c
    have lkF : a ∉ acc → lookD (nm kyI acc) (.inl (a : Int)) = none := fun c => nm_lookF kyI_inj c
    by_cases c : a ∈ acc
    · have lk := lkT c
      have ih := told_F (x := x) (G := G) (E := E) l acc (done ++ [ix acc a]) (some (.fz (eI a))) (by omega) (by rw [List.length_append, List.length_singleton]; omega) fun z => by
        have := q z
        unfold firsts canonA at this
        rw [if_pos c, if_pos c] at this
        rw [List.append_assoc]
        exact this
      rw [List.map_append] at ih
      have s2' : done.length < sizeLine := by rw [List.length_map] at s2; exact s2
      simp [lk, s2', k_get lk]
      exact ih
    · have lk := lkF c
      have pt : putD (nm kyI acc) (.inl (a : Int)) (eI acc.length) = nm kyI (acc ++ [a]) := nm_put kyI_inj c
      have lk2 : lookD (nm kyI (acc ++ [a])) (.inl (a : Int)) = some (eI acc.length) := by
        have := nm_lookT kyI_inj (a := a) (l := acc ++ [a]) (by simp)
        rw [ix_new c] at this
        exact this
      have ih := told_F (x := x) (G := G) (E := E) l (acc ++ [a]) (done ++ [acc.length]) (some (.fz (eI a))) (by rw [List.length_append, List.length_singleton]; omega) (by rw [List.length_append, List.length_singleton]; omega) fun z => by
        have := q z
        unfold firsts canonA at this
        rw [if_neg c, if_neg c] at this
        rw [List.append_assoc]
        exact this
      rw [List.map_append] at ih
      have s2' : done.length < sizeLine := by rw [List.length_map] at s2; exact s2
      have s3 : (sg (nm kyI ([] : List Nat))).length = 0 := rfl
      have nl : (nm kyI acc).length = acc.length := nm_len kyI acc
      have nl2 : (sg (nm kyI acc)).length = acc.length := by unfold sg; rw [List.length_map, nl]
      have s4 : acc.length < sizeLine := lt_small (by omega)
      simp [lk, s1, s2', s4, nl, nl2, pt, k_get lk2]
      exact ih

theorem told_P {G : Gc} {E : EndsD} {x : Option SV} : ∀ (l acc : List (Nat × Nat)) (done : List Nat) (y : Option SV), acc.length + l.length ≤ 1000 → done.length + l.length ≤ 1000 → (∀ z, E.nx [x, some (.od true (nm kyP (firsts acc l))), some (.ow (List.map eI (done ++ canonA acc l))), z]) →
    wForL (wgName 3) (wSeq (wIfS (wtV (wOp oDNotIn (wVar 3) (wVar 1))) (wStoreD 1 (wVar 3) (wvO (woCB oLenD (waCons (wVar 1) (waNil))))) (wNext)) (wApp 2 (wvO (woFz (wOp oDGet (wVar 1) (wVar 3)))))) G E (l.map eP) [x, some (.od true (nm kyP acc)), some (.ow (List.map eI done)), y]
  | [], acc, done, y, _, _, q => by
    have := q y
    unfold firsts canonA at this
    rw [List.append_nil] at this
    exact this
  | a :: l, acc, done, y, h1, h2, q => by
    rw [List.length_cons] at h1 h2
    rw [List.map_cons, s_for1]
    have s1 : (nm kyP acc).length < sizeLine := lt_small (by rw [nm_len]; omega)
    have s2 : (List.map eI done).length < sizeLine := lt_small (by rw [List.length_map]; omega)
    have lkT : a ∈ acc → lookD (nm kyP acc) [.inl (a.1 : Int), .inl (a.2 : Int)] = some (eI (ix acc a)) := fun c => nm_lookT kyP_inj c
    have lkF : a ∉ acc → lookD (nm kyP acc) [.inl (a.1 : Int), .inl (a.2 : Int)] = none := fun c => nm_lookF kyP_inj c
    by_cases c : a ∈ acc
    · have lk := lkT c
      have ih := told_P (x := x) (G := G) (E := E) l acc (done ++ [ix acc a]) (some (.fz (eP a))) (by omega) (by rw [List.length_append, List.length_singleton]; omega) fun z => by
        have := q z
        unfold firsts canonA at this
        rw [if_pos c, if_pos c] at this
        rw [List.append_assoc]
        exact this
      rw [List.map_append] at ih
      have s2' : done.length < sizeLine := by rw [List.length_map] at s2; exact s2
      simp [lk, s2', k_get lk]
      exact ih
    · have lk := lkF c
      have pt : putD (nm kyP acc) [.inl (a.1 : Int), .inl (a.2 : Int)] (eI acc.length) = nm kyP (acc ++ [a]) := nm_put kyP_inj c
      have lk2 : lookD (nm kyP (acc ++ [a])) [.inl (a.1 : Int), .inl (a.2 : Int)] = some (eI acc.length) := by
        have := nm_lookT kyP_inj (a := a) (l := acc ++ [a]) (by simp)
        rw [ix_new c] at this
        exact this
      have ih := told_P (x := x) (G := G) (E := E) l (acc ++ [a]) (done ++ [acc.length]) (some (.fz (eP a))) (by rw [List.length_append, List.length_singleton]; omega) (by rw [List.length_append, List.length_singleton]; omega) fun z => by
        have := q z
        unfold firsts canonA at this
        rw [if_neg c, if_neg c] at this
        rw [List.append_assoc]
        exact this
      rw [List.map_append] at ih
      have s2' : done.length < sizeLine := by rw [List.length_map] at s2; exact s2
      have s3 : (sg (nm kyI ([] : List Nat))).length = 0 := rfl
      have nl : (nm kyP acc).length = acc.length := nm_len kyP acc
      have nl2 : (nm kyP acc).length = acc.length := by exact nl
      have s4 : acc.length < sizeLine := lt_small (by omega)
      simp [lk, s1, s2', s4, nl, nl2, pt, k_get lk2]
      exact ih

theorem named_F {G : Gc} {E : EndsD} {x : Option SV} : ∀ (l acc : List (Nat)) (done : List Nat) (y : Option SV), acc.length + l.length ≤ 1000 → done.length + l.length ≤ 1000 → (∀ z, E.nx [x, some (.ow (List.map eI (done ++ canonA acc l))), some (.od false (sg (nm kyI (firsts acc l)))), z]) →
    wForL (wgName 3) (wSeq (wIfS (wtV (wOp oDNotIn (wVar 3) (wVar 2))) (wStoreD 2 (wVar 3) (wvO (woCB oLenD (waCons (wVar 2) (waNil))))) (wNext)) (wApp 1 (wvO (woFz (wOp oDGet (wVar 2) (wVar 3)))))) G E (l.map eI) [x, some (.ow (List.map eI done)), some (.od false (sg (nm kyI acc))), y]
  | [], acc, done, y, _, _, q => by
    have := q y
    unfold firsts canonA at this
    rw [List.append_nil] at this
    exact this
  | a :: l, acc, done, y, h1, h2, q => by
    rw [List.length_cons] at h1 h2
    rw [List.map_cons, s_for1]
    have s1 : (nm kyI acc).length < sizeLine := lt_small (by rw [nm_len]; omega)
    have s2 : (List.map eI done).length < sizeLine := lt_small (by rw [List.length_map]; omega)
    have lkT : a ∈ acc → lookD (nm kyI acc) (.inl (a : Int)) = some (eI (ix acc a)) := fun c => nm_lookT kyI_inj c
    have lkF : a ∉ acc → lookD (nm kyI acc) (.inl (a : Int)) = none := fun c => nm_lookF kyI_inj c
    by_cases c : a ∈ acc
    · have lk := lkT c
      have ih := named_F (x := x) (G := G) (E := E) l acc (done ++ [ix acc a]) (some (.fz (eI a))) (by omega) (by rw [List.length_append, List.length_singleton]; omega) fun z => by
        have := q z
        unfold firsts canonA at this
        rw [if_pos c, if_pos c] at this
        rw [List.append_assoc]
        exact this
      rw [List.map_append] at ih
      have s2' : done.length < sizeLine := by rw [List.length_map] at s2; exact s2
      simp [lk, s2', k_get lk]
      exact ih
    · have lk := lkF c
      have pt : putD (nm kyI acc) (.inl (a : Int)) (eI acc.length) = nm kyI (acc ++ [a]) := nm_put kyI_inj c
      have lk2 : lookD (nm kyI (acc ++ [a])) (.inl (a : Int)) = some (eI acc.length) := by
        have := nm_lookT kyI_inj (a := a) (l := acc ++ [a]) (by simp)
        rw [ix_new c] at this
        exact this
      have ih := named_F (x := x) (G := G) (E := E) l (acc ++ [a]) (done ++ [acc.length]) (some (.fz (eI a))) (by rw [List.length_append, List.length_singleton]; omega) (by rw [List.length_append, List.length_singleton]; omega) fun z => by
        have := q z
        unfold firsts canonA at this
        rw [if_neg c, if_neg c] at this
        rw [List.append_assoc]
        exact this
      rw [List.map_append] at ih
      have s2' : done.length < sizeLine := by rw [List.length_map] at s2; exact s2
      have s3 : (sg (nm kyI ([] : List Nat))).length = 0 := rfl
      have nl : (nm kyI acc).length = acc.length := nm_len kyI acc
      have nl2 : (sg (nm kyI acc)).length = acc.length := by unfold sg; rw [List.length_map, nl]
      have s4 : acc.length < sizeLine := lt_small (by omega)
      simp [lk, s1, s2', s4, nl, nl2, pt, k_get lk2]
      exact ih

theorem named_P {G : Gc} {E : EndsD} {x : Option SV} : ∀ (l acc : List (Nat × Nat)) (done : List Nat) (y : Option SV), acc.length + l.length ≤ 1000 → done.length + l.length ≤ 1000 → (∀ z, E.nx [x, some (.ow (List.map eI (done ++ canonA acc l))), some (.od true (nm kyP (firsts acc l))), z]) →
    wForL (wgName 3) (wSeq (wIfS (wtV (wOp oDNotIn (wVar 3) (wVar 2))) (wStoreD 2 (wVar 3) (wvO (woCB oLenD (waCons (wVar 2) (waNil))))) (wNext)) (wApp 1 (wvO (woFz (wOp oDGet (wVar 2) (wVar 3)))))) G E (l.map eP) [x, some (.ow (List.map eI done)), some (.od true (nm kyP acc)), y]
  | [], acc, done, y, _, _, q => by
    have := q y
    unfold firsts canonA at this
    rw [List.append_nil] at this
    exact this
  | a :: l, acc, done, y, h1, h2, q => by
    rw [List.length_cons] at h1 h2
    rw [List.map_cons, s_for1]
    have s1 : (nm kyP acc).length < sizeLine := lt_small (by rw [nm_len]; omega)
    have s2 : (List.map eI done).length < sizeLine := lt_small (by rw [List.length_map]; omega)
    have lkT : a ∈ acc → lookD (nm kyP acc) [.inl (a.1 : Int), .inl (a.2 : Int)] = some (eI (ix acc a)) := fun c => nm_lookT kyP_inj c
    have lkF : a ∉ acc → lookD (nm kyP acc) [.inl (a.1 : Int), .inl (a.2 : Int)] = none := fun c => nm_lookF kyP_inj c
    by_cases c : a ∈ acc
    · have lk := lkT c
      have ih := named_P (x := x) (G := G) (E := E) l acc (done ++ [ix acc a]) (some (.fz (eP a))) (by omega) (by rw [List.length_append, List.length_singleton]; omega) fun z => by
        have := q z
        unfold firsts canonA at this
        rw [if_pos c, if_pos c] at this
        rw [List.append_assoc]
        exact this
      rw [List.map_append] at ih
      have s2' : done.length < sizeLine := by rw [List.length_map] at s2; exact s2
      simp [lk, s2', k_get lk]
      exact ih
    · have lk := lkF c
      have pt : putD (nm kyP acc) [.inl (a.1 : Int), .inl (a.2 : Int)] (eI acc.length) = nm kyP (acc ++ [a]) := nm_put kyP_inj c
      have lk2 : lookD (nm kyP (acc ++ [a])) [.inl (a.1 : Int), .inl (a.2 : Int)] = some (eI acc.length) := by
        have := nm_lookT kyP_inj (a := a) (l := acc ++ [a]) (by simp)
        rw [ix_new c] at this
        exact this
      have ih := named_P (x := x) (G := G) (E := E) l (acc ++ [a]) (done ++ [acc.length]) (some (.fz (eP a))) (by rw [List.length_append, List.length_singleton]; omega) (by rw [List.length_append, List.length_singleton]; omega) fun z => by
        have := q z
        unfold firsts canonA at this
        rw [if_neg c, if_neg c] at this
        rw [List.append_assoc]
        exact this
      rw [List.map_append] at ih
      have s2' : done.length < sizeLine := by rw [List.length_map] at s2; exact s2
      have s3 : (sg (nm kyI ([] : List Nat))).length = 0 := rfl
      have nl : (nm kyP acc).length = acc.length := nm_len kyP acc
      have nl2 : (nm kyP acc).length = acc.length := by exact nl
      have s4 : acc.length < sizeLine := lt_small (by omega)
      simp [lk, s1, s2', s4, nl, nl2, pt, k_get lk2]
      exact ih

def s_told_anew : FS := fun _ ds Q => (∃ l : List Nat, ds = [.lst (l.map eI)] ∧ l.length ≤ 100 ∧ Q (.fz (.tix ((canon l).map eI)))) ∨ (∃ l : List (Nat × Nat), ds = [.lst (l.map eP)] ∧ l.length ≤ 100 ∧ Q (.fz (.tix ((canon l).map eI))))
theorem p_told_anew : Keeps P_told_anew N_told_anew s_told_anew w_told_anew := fun G ds Qd h => by
  rcases h with ⟨l, rfl, hl, q⟩ | ⟨l, rfl, hl, q⟩
  · refine ⟨rfl, ?_⟩
    simp [N_told_anew, w_told_anew, startD, oK, sg]
    refine Or.inl fun G2 hG => ?_
    exact told_F l [] [] none (by simp; omega) (by simp; omega) fun z => by
      simp
      exact q
  · refine ⟨rfl, ?_⟩
    simp [N_told_anew, w_told_anew, startD, oK, sg]
    refine Or.inr fun G2 hG => ?_
    exact told_P l [] [] none (by simp; omega) (by simp; omega) fun z => by
      simp
      exact q

def s__law_named : FS := fun _ ds Q => (∃ l : List Nat, ds = [.lst (l.map eI)] ∧ l.length ≤ 100 ∧ Q (.fz (.tix ((canon l).map eI)))) ∨ (∃ l : List (Nat × Nat), ds = [.lst (l.map eP)] ∧ l.length ≤ 100 ∧ Q (.fz (.tix ((canon l).map eI))))
theorem p__law_named : Keeps P__law_named N__law_named s__law_named w__law_named := fun G ds Qd h => by
  rcases h with ⟨l, rfl, hl, q⟩ | ⟨l, rfl, hl, q⟩
  · refine ⟨rfl, ?_⟩
    simp [N__law_named, w__law_named, startD, oK, sg]
    refine fun G2 hG => Or.inl ?_
    exact named_F l [] [] none (by simp; omega) (by simp; omega) fun z => by
      simp
      exact q
  · refine ⟨rfl, ?_⟩
    simp [N__law_named, w__law_named, startD, oK, sg]
    refine fun G2 hG => Or.inr ?_
    exact named_P l [] [] none (by simp; omega) (by simp; omega) fun z => by
      simp
      exact q
end K79
set_option maxHeartbeats 4000000
namespace K79
open PySem PySem.Spec PyProof.Rows L2 DL

theorem fold_max : ∀ (ns : List Int) (n : Int), (ns.foldl max n ∈ n :: ns) ∧ ∀ y ∈ n :: ns, y ≤ ns.foldl max n
  | [], n => ⟨by simp, fun y hy => by rw [List.mem_singleton.mp hy]; exact Int.le_refl _⟩
  | m :: ns, n => by
    obtain ⟨h1, h2⟩ := fold_max ns (max n m)
    rw [List.foldl_cons]
    refine ⟨?_, fun y hy => ?_⟩
    · rcases List.mem_cons.mp h1 with e | e
      · rw [e]
        rcases Int.le_total n m with c | c
        · rw [Int.max_eq_right c]; simp
        · rw [Int.max_eq_left c]; simp
      · exact List.mem_cons_of_mem _ (List.mem_cons_of_mem _ e)
    · have h0 := h2 (max n m) List.mem_cons_self
      rcases List.mem_cons.mp hy with rfl | hy
      · omega
      · rcases List.mem_cons.mp hy with rfl | hy
        · omega
        · exact h2 y (List.mem_cons_of_mem _ hy)
theorem max1_of {L : List Int} {Q : SV → Prop} (h : L ≠ []) (q : ∀ m, m ∈ L → (∀ y ∈ L, y ≤ m) → Q (.fz (.int m))) : oMax1 max [.tup (L.map .int)] Q := by
  cases L with
  | nil => exact absurd rfl h
  | cons n ns =>
    obtain ⟨h1, h2⟩ := fold_max ns n
    exact ⟨_, n, ns, rfl, rfl, q _ h1 h2⟩
theorem rangeD_mem {d : D} {n : Nat} (h : d ∈ rangeD 0 n) : ∃ i, i < n ∧ d = eI i := by
  unfold rangeD at h
  obtain ⟨i, hi, rfl⟩ := List.mem_map.mp h
  exact ⟨i, List.mem_range.mp hi, by rw [Int.zero_add]⟩
theorem cut_take {xs : List D} {i : Nat} (h : i ≤ xs.length) : DL.cutD xs none (some (i : Int)) = xs.take i := by
  unfold DL.cutD
  have e1 : HT.sIx xs.length 0 none = 0 := rfl
  have e2 : HT.sIx xs.length xs.length (some (i : Int)) = i := by
    unfold HT.sIx
    simp
    rw [if_neg (by omega)]
    omega
  rw [e1, e2]
  simp
theorem at_eI {t : Th} {i v : Nat} (h : t[i]? = some v) : atI (t.map eI) (i : Int) = some (eI v) := DL.atI_nat (by rw [List.getElem?_map, h]; rfl)
def s_is_parting_thing : FS := fun _ ds Q => ∃ (m : Nat) (t : Th), ds = [.int (m : Int), .tix (t.map eI)] ∧ ok .par m t ∧ Q (.fz (.bl true))
theorem nat_inj {m n : Nat} : D.int (m : Int) = D.int (n : Int) ↔ m = n := ⟨fun e => by injection e with e; omega, fun e => by rw [e]⟩
theorem tix_inj {t u : Th} : D.tix (t.map eI) = D.tix (u.map eI) ↔ t = u := ⟨fun e => d_inj (k := .par) e, fun e => by rw [e]⟩
theorem tup_inj {t u : Th} : D.tup (t.map eI) = D.tup (u.map eI) ↔ t = u := ⟨fun e => d_inj (k := .spa) e, fun e => by rw [e]⟩
@[simp ↓] theorem c_is_parting_thing {G : Gc} {m : Nat} {t : Th} {Q : SV → Prop} : s_is_parting_thing G [.int (m : Int), .tix (t.map eI)] Q ↔ ok .par m t ∧ Q (.fz (.bl true)) := ⟨fun ⟨m', u, e, h⟩ => by
  injection e with e1 e
  injection e with e2 _
  rw [nat_inj.mp e1, tix_inj.mp e2]
  exact h, fun h => ⟨m, t, rfl, h⟩⟩
theorem ok_vals {k : Kd} {m : Nat} {t : Th} (h : ok .par m t) : ∀ v ∈ t, v < m := fun v hv => by
  have e := h.2.2
  rw [← e] at hv
  have := canon_lt t [] v hv
  have e2 := h.2.1
  simp at this
  omega
theorem p_is_parting_thing : Keeps P_is_parting_thing N_is_parting_thing s_is_parting_thing (w_is_parting_thing s_are_between) := fun G ds Qd h => by
  obtain ⟨m, t, rfl, h, q⟩ := h
  refine ⟨rfl, ?_⟩
  have hl : t.length = m := h.2.1
  have hz := h.1.2
  have hm := h.1.1
  have bt : ∀ {Q : SV → Prop}, Q (.fz (.bl true)) → s_are_between G [.tix (t.map eI), .int 0, .int ((m : Int) - 1)] Q := fun q => ⟨.par, t, _, rfl, by omega, fun x hx => by have := ok_vals (k := .par) h x hx; omega, q⟩
  simp [N_is_parting_thing, w_is_parting_thing, startD]
  refine bt ?_
  simp [hl]
  refine ⟨by omega, ?_⟩
  refine wcL_map (fun _ => .bl true) _ _ (fun d hd G' hG Qy hy => ?_) (len_small (by rw [rangeD_len]; omega)) (allT _ q)
  obtain ⟨i, hi, rfl⟩ := rangeD_mem hd
  have hi : i < t.length := by omega
  have hg := at_eI (List.getElem?_eq_getElem hi)
  simp [wipeD, k_at hg]
  rw [cut_take (by rw [List.length_map]; omega)]
  refine ⟨len_small (by rw [List.length_take, List.length_map]; omega), ?_⟩
  have e : List.take i (t.map eI) ++ [.int (-1)] = (iL (t.take i) ++ [-1]).map D.int := by
    rw [← List.map_take, eI_map, List.map_append]; rfl
  rw [e]
  refine max1_of (by simp) fun M h1 h2 => ?_
  have le : ((t[i] : Nat) : Int) ≤ M + 1 := by
    have hc : (canonA [] t)[i]? = some t[i] := by
      have e2 : canonA [] t = t := h.2.2
      rw [e2]; exact List.getElem?_eq_getElem hi
    have hneg := h2 (-1) (by simp)
    rcases canon_step _ t [] i hc with z | ⟨j, hj, w, h3, h4⟩
    · simp at z; omega
    · have e2 : canonA [] t = t := h.2.2
      rw [e2] at h3
      have : (w : Int) ∈ iL (t.take i) ++ [-1] := List.mem_append_left _ (mem_iL.mpr (List.mem_of_getElem? (i := j) (by rw [List.getElem?_take, if_pos hj]; exact h3)))
      have := h2 _ this
      omega
  simp [le, hy]
end K79
set_option maxHeartbeats 4000000
namespace K79
open PySem PySem.Spec PyProof.Rows L2 DL

theorem sorted_eqI : ∀ {l m : List Int}, l.Pairwise (· < ·) → m.Pairwise (· < ·) → (∀ x, x ∈ l ↔ x ∈ m) → l = m
  | [], [], _, _, _ => rfl
  | [], y :: m, _, _, h => absurd ((h y).mpr List.mem_cons_self) (by simp)
  | x :: l, [], _, _, h => absurd ((h x).mp List.mem_cons_self) (by simp)
  | x :: l, y :: m, h1, h2, h => by
    rw [List.pairwise_cons] at h1 h2
    have e : x = y := by
      rcases List.mem_cons.mp ((h x).mp List.mem_cons_self) with e | hx
      · exact e
      · rcases List.mem_cons.mp ((h y).mpr List.mem_cons_self) with e | hy
        · exact e.symm
        · have := h1.1 y hy
          have := h2.1 x hx
          omega
    subst e
    rw [sorted_eqI h1.2 h2.2 fun z => ?_]
    constructor
    · intro hz
      rcases List.mem_cons.mp ((h z).mp (List.mem_cons_of_mem _ hz)) with e | h3
      · have := h1.1 z hz; omega
      · exact h3
    · intro hz
      rcases List.mem_cons.mp ((h z).mpr (List.mem_cons_of_mem _ hz)) with e | h3
      · have := h2.1 z hz; omega
      · exact h3
def srt (l : List Nat) : List Nat := (List.range 16).filter fun n => decide (n ∈ l)
theorem srt_sorted (l : List Nat) : (srt l).Pairwise (· < ·) := List.Pairwise.filter _ List.pairwise_lt_range
theorem srt_mem {l : List Nat} (h : ∀ n ∈ l, n < 16) {n : Nat} : n ∈ srt l ↔ n ∈ l := by
  unfold srt
  rw [List.mem_filter, List.mem_range]
  exact ⟨fun z => of_decide_eq_true z.2, fun z => ⟨h n z, decide_eq_true z⟩⟩
theorem iL_sorted {l : List Nat} (h : l.Pairwise (· < ·)) : (iL l).Pairwise (· < ·) := by
  unfold iL
  rw [List.pairwise_map]
  exact h.imp fun {a b} z => by omega
theorem iL_mem {l : List Nat} {k : Int} : k ∈ iL l ↔ ∃ n ∈ l, k = (n : Int) := by
  unfold iL
  rw [List.mem_map]
  exact ⟨fun ⟨n, h, e⟩ => ⟨n, h, e.symm⟩, fun ⟨n, h, e⟩ => ⟨n, h, e.symm⟩⟩
theorem kSS_nat {d : D} {l : List Nat} {Q : SV → Prop} (e : itemsOf d = some (l.map eI)) (hl : l.length < 4000) (h : ∀ n ∈ l, n < 16) (q : Q (.ow ((srt l).map eI))) : kSS d Q := by
  refine ⟨iL l, by rw [e, eI_map], ⟨by rw [iL_len]; exact hl, iL (List.range 16), by rw [iL_len, List.length_range]; decide, fun k hk => ?_⟩, fun ms h1 h2 => ?_⟩
  · obtain ⟨n, hn, rfl⟩ := iL_mem.mp hk
    exact mem_iL.mpr (List.mem_range.mpr (h n hn))
  · have : ms = iL (srt l) := sorted_eqI h1 (iL_sorted (srt_sorted l)) fun k => by
      rw [h2]
      constructor
      · intro hk
        obtain ⟨n, hn, rfl⟩ := iL_mem.mp hk
        exact mem_iL.mpr ((srt_mem h).mpr hn)
      · intro hk
        obtain ⟨n, hn, rfl⟩ := iL_mem.mp hk
        exact mem_iL.mpr ((srt_mem h).mp hn)
    rw [this, ← eI_map]
    exact q
@[simp ↓] theorem s_notInT {i : Int} {t : Th} {Q : D → Prop} : oNotIn (.int i) (.tup (t.map eI)) Q ↔ Q (.bl (!decide (i ∈ iL t))) := by
  rw [eI_map]
  constructor
  · rintro ⟨ys, p, q, e0, e1, e2, _, _, z⟩
    cases e0; cases e1
    rw [toPyL_ints] at e2
    cases e2
    rw [DL.any_ints] at z; exact z
  · intro z
    exact ⟨_, _, _, rfl, rfl, toPyL_ints _, shaped_int i, shaped_tupI _, by rw [DL.any_ints]; exact z⟩
@[simp ↓] theorem s_inT {i : Int} {t : Th} {Q : D → Prop} : oIn (.int i) (.tup (t.map eI)) Q ↔ Q (.bl (decide (i ∈ iL t))) := by
  rw [eI_map]
  constructor
  · rintro ⟨ys, p, q, e0, e1, e2, _, _, z⟩
    cases e0; cases e1
    rw [toPyL_ints] at e2
    cases e2
    rw [DL.any_ints] at z; exact z
  · intro z
    exact ⟨_, _, _, rfl, rfl, toPyL_ints _, shaped_int i, shaped_tupI _, by rw [DL.any_ints]; exact z⟩
theorem ne_self {t : Th} {Q : D → Prop} (q : Q (.bl false)) : oNe (.lst (t.map eI)) (.lst (t.map eI)) Q := by
  rw [eI_map]
  exact oNe_lstI (by simpa using q)
/-- a dict of a tuple's numbers -/
theorem look_put {kvs : List (Key × D)} {k k2 : Key} {d : D} : lookD (putD kvs k d) k2 = if k = k2 then some d else lookD kvs k2 := by
  have hput : ∀ kvs : List (Key × D), (kvs.map fun kv => if kv.1 = k then (kv.1, d) else kv).find? (fun kv => decide (kv.1 = k2)) = (kvs.find? fun kv => decide (kv.1 = k2)).map fun kv => if kv.1 = k then (kv.1, d) else kv := fun kvs => by
    induction kvs with
    | nil => rfl
    | cons p kvs ih =>
      have e : (if p.1 = k then (p.1, d) else p).1 = p.1 := by split <;> rfl
      rw [List.map_cons, List.find?_cons, List.find?_cons, e]
      by_cases c2 : p.1 = k2
      · rw [decide_eq_true c2]; rfl
      · rw [decide_eq_false c2]; exact ih
  unfold putD lookD
  split
  · rename_i ha
    rw [hput, Option.map_map]
    by_cases c : k = k2
    · rw [if_pos c]
      obtain ⟨p, hp, hk⟩ := List.any_eq_true.mp ha
      have hk := of_decide_eq_true hk
      cases hf : kvs.find? (fun kv => decide (kv.1 = k2)) with
      | none =>
        have := List.find?_eq_none.mp hf p hp
        exact absurd (decide_eq_true (hk.trans c)) this
      | some q =>
        have := List.find?_some hf
        have := of_decide_eq_true this
        simp [this, c]
    · rw [if_neg c]
      cases hf : kvs.find? (fun kv => decide (kv.1 = k2)) with
      | none => rfl
      | some q =>
        have := List.find?_some hf
        have := of_decide_eq_true this
        have ne : ¬ q.1 = k := fun z => c (z.symm.trans this)
        simp [ne]
  · rename_i ha
    rw [List.find?_append]
    by_cases c : k = k2
    · rw [if_pos c]
      have : kvs.find? (fun kv => decide (kv.1 = k2)) = none := List.find?_eq_none.mpr fun p hp z => ha (List.any_eq_true.mpr ⟨p, hp, by rw [c]; exact z⟩)
      rw [this]
      simp [c]
    · rw [if_neg c]
      simp [c]
def knows (t : List Nat) (acc : List (Key × D)) : List (Key × D) := t.foldl (fun (a : List (Key × D)) (n : Nat) => putD a (.inl (n : Int)) (.bl true)) acc
theorem knows_look : ∀ (t : List Nat) (acc : List (Key × D)) (n : Nat), (lookD (knows t acc) (.inl (n : Int))).isSome = (decide (n ∈ t) || (lookD acc (.inl (n : Int))).isSome)
  | [], acc, n => by simp [knows]
  | a :: t, acc, n => by
    have ih := knows_look t (putD acc (.inl (a : Int)) (.bl true)) n
    show (lookD (knows t (putD acc (.inl (a : Int)) (.bl true))) (.inl (n : Int))).isSome = _
    rw [ih, look_put]
    by_cases c : a = n
    · subst c
      simp
    · have : ¬ ((Sum.inl (a : Int) : Key) = Sum.inl (n : Int)) := fun z => c (by injection z with z; omega)
      rw [if_neg this]
      have c2 : ¬ n = a := fun z => c z.symm
      simp [c2]
theorem knows_imm : ∀ (t : List Nat) (acc : List (Key × D)), immL (acc.map (·.2)) = true → immL ((knows t acc).map (·.2)) = true
  | [], acc, h => h
  | a :: t, acc, h => by
    refine knows_imm t (putD acc (.inl (a : Int)) (.bl true)) ?_
    have all : ∀ x ∈ acc.map (·.2), imm x = true := by
      clear knows_imm
      generalize acc.map (·.2) = l at h
      induction l with
      | nil => intro x hx; cases hx
      | cons y l ih =>
        rw [immL_cons, Bool.and_eq_true] at h
        intro x hx
        rcases List.mem_cons.mp hx with rfl | hx
        · exact h.1
        · exact ih h.2 x hx
    refine immL_all fun x hx => ?_
    obtain ⟨p, hp, rfl⟩ := List.mem_map.mp hx
    unfold putD at hp
    split at hp
    · obtain ⟨q, hq, rfl⟩ := List.mem_map.mp hp
      split
      · rfl
      · exact all _ (List.mem_map.mpr ⟨q, hq, rfl⟩)
    · rcases List.mem_append.mp hp with hp | hp
      · exact all _ (List.mem_map.mpr ⟨p, hp, rfl⟩)
      · rw [List.mem_singleton.mp hp]; rfl
theorem xor_eI (x y : Nat) : Builtin.bitXor (x : Int) (y : Int) = ((x ^^^ y : Nat) : Int) := by
  rw [Bits.bitXor_pp (by omega) (by omega)]
  simp
theorem spa_len {m : Nat} {t : Th} (h : ok .spa m t) : t.length ≤ 2 ^ m := by
  have : t = (List.range (2 ^ m)).filter fun n => decide (n ∈ t) := sorted_eq h.2.1 (List.Pairwise.filter _ List.pairwise_lt_range) fun x => by
    rw [List.mem_filter, List.mem_range]
    exact ⟨fun z => ⟨h.2.2.2.1 x z, decide_eq_true z⟩, fun z => of_decide_eq_true z.2⟩
  rw [this]
  have := List.length_filter_le (fun n => decide (n ∈ t)) (List.range (2 ^ m))
  rw [List.length_range] at this
  exact this
theorem spa_small {m : Nat} {t : Th} (h : ok .spa m t) : t.length ≤ 16 ∧ ∀ n ∈ t, n < 16 := by
  have h1 := spa_len h
  have h2 := pow16 h.1.2
  exact ⟨by omega, fun n hn => by have := h.2.2.2.1 n hn; omega⟩
theorem srt_self {m : Nat} {t : Th} (h : ok .spa m t) : srt t = t := sorted_eq (srt_sorted t) h.2.1 fun x => srt_mem (spa_small h).2
def s_is_space_thing : FS := fun _ ds Q => ∃ (m : Nat) (t : Th), ds = [.int (m : Int), .tup (t.map eI)] ∧ ok .spa m t ∧ Q (.fz (.bl true))
@[simp ↓] theorem c_is_space_thing {G : Gc} {m : Nat} {t : Th} {Q : SV → Prop} : s_is_space_thing G [.int (m : Int), .tup (t.map eI)] Q ↔ ok .spa m t ∧ Q (.fz (.bl true)) := ⟨fun ⟨m', u, e, h⟩ => by
  injection e with e1 e
  injection e with e2 _
  rw [nat_inj.mp e1, tup_inj.mp e2]
  exact h, fun h => ⟨m, t, rfl, h⟩⟩
theorem pow_int (m : Nat) : (2 : Int) ^ m = ((2 ^ m : Nat) : Int) := by simp
theorem p_is_space_thing : Keeps P_is_space_thing N_is_space_thing s_is_space_thing (w_is_space_thing s_are_between) := fun G ds Qd h => by
  obtain ⟨m, t, rfl, h, q⟩ := h
  refine ⟨rfl, ?_⟩
  obtain ⟨hl, hs⟩ := spa_small h
  have hm := h.1
  have cp : CPow 1 (m : Int) := ⟨by omega, by have := hm.2; omega, by decide⟩
  have vals : ∀ x ∈ t, (x : Int) ≤ 2 ^ m - 1 := fun x hx => by
    have := h.2.2.2.1 x hx
    rw [pow_int]; omega
  have bt : ∀ {Q : SV → Prop}, Q (.fz (.bl true)) → s_are_between G [.tup (t.map eI), .int 0, .int (2 ^ m - 1)] Q := fun q => ⟨.spa, t, _, rfl, by omega, vals, q⟩
  have z0 : (0 : Int) ∈ iL t := iL_mem.mpr ⟨0, h.2.2.1, rfl⟩
  have hlen : ¬ ((2 : Int) ^ m < (t.length : Int)) := by
    have := spa_len h
    rw [pow_int]; omega
  simp [N_is_space_thing, w_is_space_thing, startD, cp]
  refine bt ?_
  simp [z0, cp, hlen]
  refine kSS_nat (l := t) rfl (by omega) hs ?_
  rw [srt_self h]
  simp
  refine ne_self ?_
  simp
  refine wdL_map (fun d => match d with | .int i => (.inl i, .bl true) | d => (.inl 0, d)) _ _ _ (fun d hd G' hG Qy hy => ?_) (by rw [List.length_map]; exact len_small (by simp; omega)) ?_
  · obtain ⟨n, hn, rfl⟩ := List.mem_map.mp hd
    simp [wipeD]
    exact ⟨.inl (n : Int), rfl, hy⟩
  have e : (t.map eI).foldl (fun a d => putD a (match d with | .int i => ((.inl i, .bl true) : Key × D) | d => (.inl 0, d)).1 (match d with | .int i => ((.inl i, .bl true) : Key × D) | d => (.inl 0, d)).2) [] = knows t [] := by
    unfold knows
    rw [List.foldl_map]
  rw [e]
  have im : immL ((sg (knows t [])).map (·.2)) = true := by
    rw [sg_vals]; exact knows_imm t [] rfl
  simp [oK, im]
  refine wcL2_map (fun _ => (t.map eI).map fun _ => .bl true) _ _ _ (fun d hd G' hG acc Q' hl2 hq => ?_) ?_ ?_
  · obtain ⟨x, hx, rfl⟩ := List.mem_map.mp hd
    simp [wipeD]
    refine wcL_mapA (fun _ => .bl true) _ _ _ (fun d2 hd2 G2 hG2 Qy hy => ?_) (by simpa using hl2) (by simpa using hq)
    obtain ⟨y, hy2, rfl⟩ := List.mem_map.mp hd2
    have mem : (lookD (knows t []) (.inl ((x ^^^ y : Nat) : Int))).isSome = true := by
      rw [knows_look]
      simp [h.2.2.2.2 x hx y hy2]
    simp [wipeD, xor_eI, mem, hy]
  · refine len_small ?_
    have : ((t.map eI).flatMap fun _ => (t.map eI).map fun _ => D.bl true).length = t.length * t.length := by
      rw [List.length_flatMap]
      have sm : ∀ (l : List Nat) (c : Nat), (l.map ((fun _ : D => c) ∘ eI)).sum = l.length * c := fun l c => by
        induction l with
        | nil => simp
        | cons a l ih => rw [List.map_cons, List.sum_cons, ih, List.length_cons, Nat.succ_mul, Nat.add_comm]; rfl
      simp
      exact sm t _
    rw [this]
    have : t.length * t.length ≤ 16 * 16 := Nat.mul_le_mul hl hl
    simp; omega
  · have : ((t.map eI).flatMap fun _ => (t.map eI).map fun _ => D.bl true) = ((t.flatMap fun _ => t)).map fun _ => D.bl true := by
      rw [List.map_flatMap, List.flatMap_map]
      simp [List.map_map, Function.comp_def]
    rw [List.nil_append, this]
    exact allT _ q
end K79
set_option maxHeartbeats 4000000
namespace K79
open PySem PySem.Spec PyProof.Rows L2 DL

def s_never : FS := fun _ _ _ => False
def s_is_thing_value : FS := fun _ ds Q => ∃ (k : Kd) (m : Nat) (t : Th), ds = [.str k.w, .int (m : Int), k.d t] ∧ ok k m t ∧ Q (.fz (.bl true))
@[simp ↓] theorem c_is_thing_value {G : Gc} {k : Kd} {m : Nat} {t : Th} {Q : SV → Prop} : s_is_thing_value G [.str k.w, .int (m : Int), k.d t] Q ↔ ok k m t ∧ Q (.fz (.bl true)) := ⟨fun ⟨k', m', u, e, h⟩ => by
  injection e with e1 e
  injection e with e2 e
  injection e with e3 _
  injection e1 with e1
  have e1 := w_inj.mp e1
  subst e1
  rw [nat_inj.mp e2, d_inj e3]
  exact h, fun h => ⟨k, m, t, rfl, h⟩⟩
theorem p_is_thing_value : Keeps P_is_thing_value N_is_thing_value s_is_thing_value (w_is_thing_value s_is_parting_thing s_is_space_thing s_never) := fun G ds Qd h => by
  obtain ⟨k, m, t, rfl, h, q⟩ := h
  refine ⟨rfl, ?_⟩
  cases k <;> simp [N_is_thing_value, w_is_thing_value, startD, Kd.d, h, q]
/-! ### all of two partings -/
def prsF (u : Th) : Nat → List Nat → List (Nat × Nat)
  | _, [] => []
  | k, n :: l => (k, u.idxOf n) :: prsF u (k + 1) l
theorem prs_eq (u : Th) : prs u = prsF u 0 u := by
  have gen : ∀ (l : List Nat) (k : Nat), (List.range l.length).map (fun i => (k + i, u.idxOf (l.getD i 0))) = prsF u k l := fun l => by
    induction l with
    | nil => intro k; rfl
    | cons n l ih =>
      intro k
      rw [List.length_cons, List.range_succ_eq_map, List.map_cons, List.map_map]
      unfold prsF
      rw [← ih (k + 1)]
      congr 1
      refine List.map_congr_left fun i _ => ?_
      show (k + (i + 1), u.idxOf ((n :: l).getD (i + 1) 0)) = _
      rw [show k + (i + 1) = k + 1 + i by omega]
      rfl
  have := gen u 0
  unfold prs
  rw [← this]
  refine List.map_congr_left fun i _ => ?_
  rw [Nat.zero_add]
theorem mrg_id {b : List Nat} {x y n : Nat} (h1 : b[x]? = some n) (h2 : b[y]? = some n) : mrg b x y = b := by
  unfold mrg
  rw [h1, h2]
  have : ∀ l : List Nat, l.map (fun m => if some m = some n then (some n).getD 0 else m) = l := fun l => by
    induction l with
    | nil => rfl
    | cons a l ih =>
      rw [List.map_cons, ih]
      by_cases c : a = n
      · subst c; simp
      · rw [if_neg fun z => c (Option.some.inj z)]
  exact this b
def rnD (p q : Nat) : D → D
  | .int i => if i = (p : Int) then eI q else .int i
  | d => d
theorem rnD_eI (p q m : Nat) : rnD p q (eI m) = if m = p then eI q else eI m := by
  show (if (m : Int) = (p : Int) then eI q else eI m) = _
  by_cases c : m = p
  · rw [if_pos c, if_pos (by omega)]
  · rw [if_neg c, if_neg (by omega)]
theorem mrg_eI {b : List Nat} {x y p q : Nat} (h1 : b[x]? = some p) (h2 : b[y]? = some q) : (mrg b x y).map eI = (b.map eI).map (rnD p q) := by
  unfold mrg
  rw [h1, h2, List.map_map, List.map_map]
  refine List.map_congr_left fun m _ => ?_
  simp only [Function.comp, rnD_eI]
  by_cases c : m = p
  · subst c
    simp
  · rw [if_neg c, if_neg fun z => c (Option.some.inj z)]
theorem kIxT_of {u : Th} {n : Nat} {Q : D → Prop} (h : n ∈ u) (q : Q (eI (u.idxOf n))) : kIxT (.tix (u.map eI)) (fun P => P (eI n)) Q := by
  have hl := List.idxOf_lt_length_iff.mpr h
  refine ⟨iL u, by rw [eI_map], (n : Int), u.idxOf n, rfl, ?_, fun m hm z => ?_, q⟩
  · unfold iL
    rw [List.getElem?_map, List.getElem?_eq_getElem hl, List.getElem_idxOf hl]; rfl
  · unfold iL at z
    rw [List.getElem?_map, List.getElem?_eq_getElem (show m < u.length by omega)] at z
    have z := Option.some.inj z
    have z : ((u[m]'(by omega) : Nat) : Int) = (n : Int) := z
    have e : u[m]'(by omega) = n := by omega
    have := List.not_of_lt_findIdx (p := fun x => x == n) (xs := u) (i := m) hm
    simp [e] at this
def jB : WS := wIfS (wtV (wOp oNe (wOp oIx (wVar 2) (wVar 3)) (wOp oIx (wVar 2) (wVar 5)))) (wSeq (wPar2 6 7 (woFz (wOp oIx (wVar 2) (wVar 3))) (woFz (wOp oIx (wVar 2) (wVar 5)))) (wSet 2 (wComp (wiSeq (wVar 2)) (wgName 8) (wtTrue) (wIf (wtV (wOp oEq (wVar 8) (wVar 6))) (wVar 7) (wVar 8)) [8]))) (wNext)
theorem join_step {G : Gc} {E : EndsD} {x y : Option SV} {b : List Nat} {k f p q : Nat} {s4 s6 s7 s8 : Option SV} (h1 : b[k]? = some p) (h2 : b[f]? = some q) (hl : b.length ≤ 100)
    (hn : ∀ z6 z7 z8, E.nx [x, y, some (.ow ((mrg b k f).map eI)), some (.fz (eI k)), s4, some (.fz (eI f)), z6, z7, z8]) :
    jB G E
      [x, y, some (.ow (b.map eI)), some (.fz (eI k)), s4, some (.fz (eI f)), s6, s7, s8] := by
  have a1 := at_eI h1
  have a2 := at_eI h2
  unfold jB
  simp [k_at a1, k_at a2]
  by_cases c : p = q
  · subst c
    rw [mrg_id h1 h2] at hn
    simp [hn]
  · have c2 : ¬ ((p : Int) = (q : Int)) := by omega
    simp [c2]
    refine fun G2 hG => ?_
    refine wcL_map (rnD p q) _ _ (fun d hd G3 hG3 Qy hy => ?_) (len_small (by rw [List.length_map]; omega)) ?_
    · obtain ⟨m, hm, rfl⟩ := List.mem_map.mp hd
      rw [rnD_eI] at hy
      by_cases c3 : m = p
      · rw [if_pos c3] at hy
        subst c3
        simp [wipeD, hy]
      · have c4 : ¬ ((m : Int) = (p : Int)) := by omega
        rw [if_neg c3] at hy
        simp [wipeD, c4, hy]
    · rw [← mrg_eI h1 h2]
      simp [imm_ints]
      exact hn _ _ _
theorem join_loop {G : Gc} {E : EndsD} {x : Option SV} {u : Th} : ∀ (l : List Nat) (k : Nat) (b : List Nat) (s3 s4 s5 s6 s7 s8 : Option SV), u.drop k = l → b.length = u.length → u.length ≤ 100 →
    (∀ z3 z4 z5 z6 z7 z8, E.nx [x, some (.fz (.tix (u.map eI))), some (.ow ((mrgs b (prsF u k l)).map eI)), z3, z4, z5, z6, z7, z8]) →
    wForL (wgTup 2 (wgCons (wgName 3) (wgCons (wgName 4) (wgNil)))) (wSeq (wSetG 5 (wvO (woFz (wIxT (wVar 1) (wVar 4))))) jB) G E (enumD k (l.map eI))
      [x, some (.fz (.tix (u.map eI))), some (.ow (b.map eI)), s3, s4, s5, s6, s7, s8]
  | [], k, b, s3, s4, s5, s6, s7, s8, _, _, _, q => by
    have := q s3 s4 s5 s6 s7 s8
    unfold prsF mrgs at this
    simpa [enumD] using this
  | n :: l, k, b, s3, s4, s5, s6, s7, s8, hd, hb, hu, q => by
    have hn : u[k]? = some n := by
      have := congrArg (fun l => l[0]?) hd
      simpa using this
    have hk : k < u.length := (List.getElem?_eq_some_iff.mp hn).1
    have hm : n ∈ u := List.mem_of_getElem? hn
    have hf := List.idxOf_lt_length_iff.mpr hm
    have hd2 : u.drop (k + 1) = l := by
      have := congrArg List.tail hd
      simpa using this
    have g1 := List.getElem?_eq_getElem (l := b) (i := k) (by omega)
    have g2 := List.getElem?_eq_getElem (l := b) (i := u.idxOf n) (by omega)
    rw [List.map_cons]
    unfold enumD
    rw [s_for1]
    simp
    refine kIxT_of hm ?_
    simp
    refine join_step g1 g2 (by omega) fun z6 z7 z8 => ?_
    refine join_loop l (k + 1) (mrg b k (u.idxOf n)) _ _ _ _ _ _ hd2 (by rw [mrg_len, hb]) hu fun a3 a4 a5 a6 a7 a8 => ?_
    have := q a3 a4 a5 a6 a7 a8
    unfold prsF mrgs at this
    exact this
def s_joined_parting : FS := fun _ ds Q => ∃ (m : Nat) (t u : Th), ds = [.tix (t.map eI), .tix (u.map eI)] ∧ ok .par m t ∧ ok .par m u ∧ Q (.fz (.tix ((all .par t u).map eI)))
theorem p_joined_parting : Keeps P_joined_parting N_joined_parting s_joined_parting (w_joined_parting s_told_anew) := fun G ds Qd h => by
  obtain ⟨m, t, u, rfl, ht, hu, q⟩ := h
  refine ⟨rfl, ?_⟩
  have l1 : t.length = m := ht.2.1
  have l2 : u.length = m := hu.2.1
  have hm := ht.1.2
  simp [N_joined_parting, w_joined_parting, startD, imm_ints]
  refine join_loop u 0 t _ _ _ _ _ _ rfl (by rw [l1, l2]) (by omega) fun z3 z4 z5 z6 z7 z8 => ?_
  rw [← prs_eq]
  simp
  exact .inl ⟨_, rfl, by rw [mrgs_len]; omega, q⟩
/-! ### both, all, within -/
def s_raw_both : FS := fun _ ds Q => ∃ (k : Kd) (m : Nat) (t u : Th), ds = [.str k.w, k.d t, k.d u] ∧ ok k m t ∧ ok k m u ∧ Q (.fz (k.d (both k t u)))
theorem zipK_eI : ∀ (t u : Th), zipK (t.map eI) (u.map eI) = (t.zip u).map eP
  | [], _ => rfl
  | _ :: _, [] => rfl
  | a :: t, b :: u => by
    show D.tky [eI a, eI b] :: zipK (t.map eI) (u.map eI) = _
    rw [zipK_eI t u]; rfl
theorem filter_eI (p : Nat → Bool) (g : D → Bool) (h : ∀ n, g (eI n) = p n) : ∀ t : Th, (t.map eI).filter g = (t.filter p).map eI
  | [] => rfl
  | a :: t => by
    rw [List.map_cons, List.filter_cons, List.filter_cons, h, filter_eI p g h t]
    split <;> rfl
def inD (u : Th) : D → Bool
  | .int i => decide (i ∈ iL u)
  | _ => false
theorem inD_eI (u : Th) (n : Nat) : inD u (eI n) = decide (n ∈ u) := decide_eq_decide.mpr mem_iL
theorem p_raw_both : Keeps P_raw_both N_raw_both s_raw_both (w_raw_both s_told_anew) := fun G ds Qd h => by
  obtain ⟨k, m, t, u, rfl, ht, hu, q⟩ := h
  refine ⟨rfl, ?_⟩
  cases k with
  | par =>
    have l1 : t.length = m := ht.2.1
    have hm := ht.1.2
    simp [N_raw_both, w_raw_both, startD, Kd.d, tupsOf]
    rw [zipK_eI]
    exact .inr ⟨_, rfl, by rw [List.length_zip]; omega, q⟩
  | spa =>
    obtain ⟨hl, hs⟩ := spa_small ht
    simp [N_raw_both, w_raw_both, startD, Kd.d]
    refine wcL_fm (inD u) (fun d => d) _ _ _ (fun d hd G' hG Qy Qn hy hn => ?_) (len_small (by rw [List.length_map]; simp; omega)) ?_
    · obtain ⟨n, hn2, rfl⟩ := List.mem_map.mp hd
      rw [inD_eI] at hy hn
      simp [wipeD, mem_iL]
      by_cases c : n ∈ u
      · simp [c] at hy ⊢
        exact hy
      · simp [c] at hn ⊢
        exact hn
    · rw [filter_eI (fun n => decide (n ∈ u)) _ (inD_eI u)]
      simp
      exact q
def s_raw_all : FS := fun _ ds Q => ∃ (k : Kd) (m : Nat) (t u : Th), ds = [.str k.w, k.d t, k.d u] ∧ ok k m t ∧ ok k m u ∧ Q (.fz (k.d (all k t u)))
def sums (t u : Th) : List Nat := t.flatMap fun x => u.map fun y => x ^^^ y
theorem srt_sums {m : Nat} {t u : Th} (ht : ok .spa m t) (hu : ok .spa m u) : srt (sums t u) = all .spa t u := by
  refine sorted_eq (srt_sorted _) (ok_all ht hu).2.1 fun n => ?_
  rw [srt_mem fun n hn => ?_, mem_all' ht hu]
  · unfold sums
    simp [List.mem_flatMap]
  · unfold sums at hn
    rw [List.mem_flatMap] at hn
    obtain ⟨x, hx, hn⟩ := hn
    obtain ⟨y, hy, rfl⟩ := List.mem_map.mp hn
    have := xor_lt (ht.2.2.2.1 x hx) (hu.2.2.2.1 y hy)
    have := pow16 ht.1.2
    omega
theorem sums_len : ∀ (t u : Th), (sums t u).length = t.length * u.length
  | [], _ => by simp [sums]
  | a :: t, u => by
    have ih := sums_len t u
    unfold sums at ih ⊢
    rw [List.flatMap_cons, List.length_append, List.length_map, ih, List.length_cons, Nat.succ_mul, Nat.add_comm]
theorem sums_small {m : Nat} {t u : Th} (ht : ok .spa m t) (hu : ok .spa m u) : (sums t u).length ≤ 256 ∧ ∀ n ∈ sums t u, n < 16 := by
  refine ⟨?_, fun n hn => ?_⟩
  · rw [sums_len]
    exact Nat.mul_le_mul (spa_small ht).1 (spa_small hu).1
  · unfold sums at hn
    rw [List.mem_flatMap] at hn
    obtain ⟨x, hx, hn⟩ := hn
    obtain ⟨y, hy, rfl⟩ := List.mem_map.mp hn
    have := xor_lt (ht.2.2.2.1 x hx) (hu.2.2.2.1 y hy)
    have := pow16 ht.1.2
    omega
def xrow (u : Th) : D → List D
  | .int i => u.map fun y : Nat => .int (Builtin.bitXor i (y : Int))
  | _ => []
theorem xrow_eI (u : Th) (x : Nat) : xrow u (eI x) = (u.map fun y => x ^^^ y).map eI := by
  show (u.map fun y : Nat => D.int (Builtin.bitXor (x : Int) (y : Int))) = _
  rw [List.map_map]
  refine List.map_congr_left fun y _ => ?_
  simp only [Function.comp]
  rw [xor_eI]
theorem xrows (u : Th) : ∀ t : Th, (t.map eI).flatMap (xrow u) = (sums t u).map eI
  | [] => rfl
  | a :: t => by
    have ih := xrows u t
    unfold sums at ih ⊢
    rw [List.map_cons, List.flatMap_cons, List.flatMap_cons, List.map_append, ← ih, xrow_eI]
theorem p_raw_all : Keeps P_raw_all N_raw_all s_raw_all (w_raw_all s_joined_parting) := fun G ds Qd h => by
  obtain ⟨k, m, t, u, rfl, ht, hu, q⟩ := h
  refine ⟨rfl, ?_⟩
  cases k with
  | par =>
    simp [N_raw_all, w_raw_all, startD, Kd.d]
    exact ⟨m, t, u, rfl, ht, hu, q⟩
  | spa =>
    obtain ⟨hl, hs⟩ := spa_small ht
    obtain ⟨hl2, hs2⟩ := spa_small hu
    obtain ⟨g1, g2⟩ := sums_small ht hu
    simp [N_raw_all, w_raw_all, startD, Kd.d]
    refine wcL2_map (xrow u) _ _ _ (fun d hd G' hG acc Q' hl3 hq => ?_) ?_ ?_
    · obtain ⟨x, hx, rfl⟩ := List.mem_map.mp hd
      rw [xrow_eI, List.map_map] at hq hl3
      simp [wipeD]
      refine wcL_mapA (fun d => match d with | .int i => .int (Builtin.bitXor (x : Int) i) | d => d) _ _ _ (fun d2 hd2 G2 hG2 Qy hy => ?_) (by simpa using hl3) ?_
      · obtain ⟨y, hy2, rfl⟩ := List.mem_map.mp hd2
        simp [wipeD]
        exact hy
      · rw [List.map_map]
        have e : (u.map ((fun d => match d with | .int i => D.int (Builtin.bitXor (x : Int) i) | d => d) ∘ eI)) = u.map (eI ∘ fun y => x ^^^ y) := List.map_congr_left fun y _ => by
          simp only [Function.comp]
          rw [xor_eI]
        rw [e]
        exact hq
    · rw [xrows]
      exact len_small (by simp; omega)
    · rw [xrows, List.nil_append]
      refine kSS_nat (l := sums t u) rfl (by omega) g2 ?_
      rw [srt_sums ht hu]
      simp
      exact q
def s_raw_within : FS := fun _ ds Q => ∃ (k : Kd) (m : Nat) (t u : Th), ds = [.str k.w, k.d t, k.d u] ∧ ok k m t ∧ ok k m u ∧ Q (.fz (.bl (decide (both k t u = t))))
theorem both_call {G : Gc} {k : Kd} {m : Nat} {t u : Th} {Q : SV → Prop} (ht : ok k m t) (hu : ok k m u) (q : Q (.fz (k.d (both k t u)))) : s_raw_both G [.str k.w, k.d t, k.d u] Q := ⟨k, m, t, u, rfl, ht, hu, q⟩
theorem p_raw_within : Keeps P_raw_within N_raw_within s_raw_within (w_raw_within s_raw_both) := fun G ds Qd h => by
  obtain ⟨k, m, t, u, rfl, ht, hu, q⟩ := h
  refine ⟨rfl, ?_⟩
  simp [N_raw_within, w_raw_within, startD]
  refine both_call ht hu ?_
  simp
  exact q
end K79
set_option maxHeartbeats 4000000
namespace K79
open PySem PySem.Spec PyProof.Rows L2 DL

@[simp] theorem d_injI {k : Kd} {t u : Th} : k.d t = k.d u ↔ t = u := ⟨d_inj, fun e => by rw [e]⟩
@[simp] theorem int_nat_inj {m n : Nat} : ((m : Int) = (n : Int)) ↔ m = n := by omega
def s_is_size : FS := fun _ ds Q => ∃ (k : Kd) (m : Nat), ds = [.str k.w, .int (m : Int)] ∧ szOk k m ∧ Q (.fz (.bl true))
def topOf : Kd → Int
  | .par => 6
  | .spa => 4
theorem tab_of (k : Kd) : D_MOST_OF.lookup k.w = some (.int (topOf k)) := by cases k <;> first | rfl | kernel_rfl
theorem p_is_size : Keeps P_is_size N_is_size s_is_size (w_is_size s_is_integer) := fun G ds Qd h => by
  obtain ⟨k, m, rfl, h, q⟩ := h
  refine ⟨rfl, ?_⟩
  have e1 : (1 : Int) ≤ (m : Int) := by cases k <;> (have := h.1; omega)
  have e2 : (m : Int) ≤ topOf k := by cases k <;> (have := h.2; simp only [topOf]; omega)
  simp [N_is_size, w_is_size, startD, e1, k_tabs (tab_of k), e2, q]
@[simp ↓] theorem c_is_size {G : Gc} {k : Kd} {m : Nat} {Q : SV → Prop} : s_is_size G [.str k.w, .int (m : Int)] Q ↔ szOk k m ∧ Q (.fz (.bl true)) := by simp [s_is_size, and_assoc]
theorem in_kinds (k : Kd) {Q : D → Prop} (q : Q (.bl false)) : oNotIn (.str k.w) (.tup T_KINDS) Q := by
  refine ⟨_, _, _, rfl, rfl, rfl, shaped_str (lay_k k), by decide +kernel, ?_⟩
  have e : ([PyData.str "numbers", .str "partings", .str "spaces", .str "stretches"].any fun z => PyData.eqv z (.str k.w)) = true := by cases k <;> decide +kernel
  rw [e]
  exact q
@[simp ↓] theorem s_notInG {ds : List D} {wa : W} {G : Gc} {ρ : En} {Q : D → Prop} : wNotInG ds wa G ρ Q ↔ wa G ρ fun d => oNotIn d (.tup ds) Q := Iff.rfl
def s_need_kind : FS := fun _ ds Q => ∃ (k : Kd) (m : Nat), ds = [.str k.w, .int (m : Int)] ∧ szOk k m ∧ Q (.fz .non)
theorem p_need_kind : Keeps P_need_kind N_need_kind s_need_kind (w_need_kind s_is_size) := fun G ds Qd h => by
  obtain ⟨k, m, rfl, h, q⟩ := h
  refine ⟨rfl, ?_⟩
  simp [N_need_kind, w_need_kind, startD]
  exact in_kinds k (by simp [h, q])
@[simp ↓] theorem c_need_kind {G : Gc} {k : Kd} {m : Nat} {Q : SV → Prop} : s_need_kind G [.str k.w, .int (m : Int)] Q ↔ szOk k m ∧ Q (.fz .non) := by simp [s_need_kind, and_assoc]
def s_need_things : FS := fun _ ds Q => ∃ (k : Kd) (m : Nat) (t u : Th), ds = [.str k.w, .int (m : Int), .tup [k.d t, k.d u]] ∧ ok k m t ∧ ok k m u ∧ Q (.fz .non)
theorem p_need_things : Keeps P_need_things N_need_things s_need_things (w_need_things s_need_kind s_is_thing_value) := fun G ds Qd h => by
  obtain ⟨k, m, t, u, rfl, h, h', q⟩ := h
  refine ⟨rfl, ?_⟩
  simp [N_need_things, w_need_things, startD, h.1, s_for1, h, h', q]
theorem need2 {G : Gc} {k : Kd} {m : Nat} {t u : Th} {Q : SV → Prop} (h : ok k m t) (h' : ok k m u) (q : Q (.fz .non)) : s_need_things G [.str k.w, .int (m : Int), .tup [k.d t, k.d u]] Q := ⟨k, m, t, u, rfl, h, h', q⟩
theorem k3_inj {k k' : Kd} {m m' : Nat} {t t' u u' : Th} (e : [D.str k'.w, .int (m' : Int), k'.d t', k'.d u'] = [D.str k.w, .int (m : Int), k.d t, k.d u]) : k' = k ∧ m' = m ∧ t' = t ∧ u' = u := by
  injection e with e1 e
  injection e with e2 e
  injection e with e3 e
  injection e with e4 _
  injection e1 with e1
  have e1 := w_inj.mp e1
  subst e1
  exact ⟨rfl, nat_inj.mp e2, d_inj e3, d_inj e4⟩
def s_is_thing : FS := fun _ ds Q => ∃ (k : Kd) (m : Nat) (t : Th), ds = [.str k.w, .int (m : Int), k.d t] ∧ ok k m t ∧ Q (.fz (.bl true))
theorem p_is_thing : Keeps P_is_thing N_is_thing s_is_thing (w_is_thing s_need_kind s_is_thing_value) := fun G ds Qd h => by
  obtain ⟨k, m, t, rfl, h, q⟩ := h
  refine ⟨rfl, ?_⟩
  simp [N_is_thing, w_is_thing, startD, h.1, h, q]
@[simp ↓] theorem c_is_thing {G : Gc} {k : Kd} {m : Nat} {t : Th} {Q : SV → Prop} : s_is_thing G [.str k.w, .int (m : Int), k.d t] Q ↔ ok k m t ∧ Q (.fz (.bl true)) := c_is_thing_value (G := G)
def s_both_things : FS := fun _ ds Q => ∃ (k : Kd) (m : Nat) (t u : Th), ds = [.str k.w, .int (m : Int), k.d t, k.d u] ∧ ok k m t ∧ ok k m u ∧ Q (.fz (k.d (both k t u)))
theorem p_both_things : Keeps P_both_things N_both_things s_both_things (w_both_things s_need_things s_raw_both) := fun G ds Qd h => by
  obtain ⟨k, m, t, u, rfl, h, h', q⟩ := h
  refine ⟨rfl, ?_⟩
  simp [N_both_things, w_both_things, startD]
  refine need2 h h' ?_
  simp
  exact ⟨k, m, t, u, rfl, h, h', q⟩
@[simp ↓] theorem c_both_things {G : Gc} {k : Kd} {m : Nat} {t u : Th} {Q : SV → Prop} : s_both_things G [.str k.w, .int (m : Int), k.d t, k.d u] Q ↔ ok k m t ∧ ok k m u ∧ Q (.fz (k.d (both k t u))) := ⟨fun ⟨k', m', t', u', e, h⟩ => by
  obtain ⟨rfl, rfl, rfl, rfl⟩ := k3_inj e.symm
  exact h, fun h => ⟨k, m, t, u, rfl, h⟩⟩
def s_all_things : FS := fun _ ds Q => ∃ (k : Kd) (m : Nat) (t u : Th), ds = [.str k.w, .int (m : Int), k.d t, k.d u] ∧ ok k m t ∧ ok k m u ∧ Q (.fz (k.d (all k t u)))
theorem p_all_things : Keeps P_all_things N_all_things s_all_things (w_all_things s_need_things s_raw_all) := fun G ds Qd h => by
  obtain ⟨k, m, t, u, rfl, h, h', q⟩ := h
  refine ⟨rfl, ?_⟩
  simp [N_all_things, w_all_things, startD]
  refine need2 h h' ?_
  simp
  exact ⟨k, m, t, u, rfl, h, h', q⟩
@[simp ↓] theorem c_all_things {G : Gc} {k : Kd} {m : Nat} {t u : Th} {Q : SV → Prop} : s_all_things G [.str k.w, .int (m : Int), k.d t, k.d u] Q ↔ ok k m t ∧ ok k m u ∧ Q (.fz (k.d (all k t u))) := ⟨fun ⟨k', m', t', u', e, h⟩ => by
  obtain ⟨rfl, rfl, rfl, rfl⟩ := k3_inj e.symm
  exact h, fun h => ⟨k, m, t, u, rfl, h⟩⟩
def s_is_within_thing : FS := fun _ ds Q => ∃ (k : Kd) (m : Nat) (t u : Th), ds = [.str k.w, .int (m : Int), k.d t, k.d u] ∧ ok k m t ∧ ok k m u ∧ Q (.fz (.bl (decide (both k t u = t))))
theorem p_is_within_thing : Keeps P_is_within_thing N_is_within_thing s_is_within_thing (w_is_within_thing s_need_things s_raw_within) := fun G ds Qd h => by
  obtain ⟨k, m, t, u, rfl, h, h', q⟩ := h
  refine ⟨rfl, ?_⟩
  simp [N_is_within_thing, w_is_within_thing, startD]
  refine need2 h h' ?_
  simp
  exact ⟨k, m, t, u, rfl, h, h', q⟩
@[simp ↓] theorem c_is_within_thing {G : Gc} {k : Kd} {m : Nat} {t u : Th} {Q : SV → Prop} : s_is_within_thing G [.str k.w, .int (m : Int), k.d t, k.d u] Q ↔ ok k m t ∧ ok k m u ∧ Q (.fz (.bl (decide (both k t u = t)))) := ⟨fun ⟨k', m', t', u', e, h⟩ => by
  obtain ⟨rfl, rfl, rfl, rfl⟩ := k3_inj e.symm
  exact h, fun h => ⟨k, m, t, u, rfl, h⟩⟩
end K79
set_option maxHeartbeats 4000000
namespace K79
open PySem PySem.Spec PyProof.Rows L2 DL

theorem p__law_pick : Keeps P__law_pick N__law_pick s_pick (w__law_pick s_draw) := fun G ds Qd h => by
  obtain ⟨da, xs, rfl, dk, h0, h1, q⟩ := h
  refine ⟨rfl, ?_⟩
  simp [N__law_pick, w__law_pick, startD, dk, h0]
  refine ⟨by omega, fun k k0 k1 => ?_⟩
  obtain ⟨x, e1, e2⟩ := atI_ok k0 k1
  rw [k_at e1]
  exact q x (List.mem_of_getElem? e2)
theorem sp_ok : ∀ x ∈ ([.int 4, .int 3, .int 5, .int 2, .int 6, .int 1] : List D), ∃ m : Nat, x = .int (m : Int) ∧ szOk .par m := by
  intro x hx
  simp only [List.mem_cons, List.not_mem_nil, or_false] at hx
  rcases hx with rfl | rfl | rfl | rfl | rfl | rfl
  · exact ⟨4, rfl, by decide, by decide⟩
  · exact ⟨3, rfl, by decide, by decide⟩
  · exact ⟨5, rfl, by decide, by decide⟩
  · exact ⟨2, rfl, by decide, by decide⟩
  · exact ⟨6, rfl, by decide, by decide⟩
  · exact ⟨1, rfl, by decide, by decide⟩
theorem ss_ok : ∀ x ∈ ([.int 3, .int 2, .int 4, .int 1] : List D), ∃ m : Nat, x = .int (m : Int) ∧ szOk .spa m := by
  intro x hx
  simp only [List.mem_cons, List.not_mem_nil, or_false] at hx
  rcases hx with rfl | rfl | rfl | rfl
  · exact ⟨3, rfl, by decide, by decide⟩
  · exact ⟨2, rfl, by decide, by decide⟩
  · exact ⟨4, rfl, by decide, by decide⟩
  · exact ⟨1, rfl, by decide, by decide⟩
def s__law_size : FS := fun G ds Q => ∃ (da : Addr) (k : Kd), ds = [.ob da, .str k.w] ∧ IsDeck G da ∧ ∀ m : Nat, szOk k m → Q (.fz (.int (m : Int)))
theorem p__law_size : Keeps P__law_size N__law_size s__law_size (w__law_size s_pick) := fun G ds Qd h => by
  obtain ⟨da, k, rfl, dk, q⟩ := h
  refine ⟨rfl, ?_⟩
  cases k with
  | par =>
    simp [N__law_size, w__law_size, startD, dk]
    refine fun x hx => ?_
    obtain ⟨m, rfl, hm⟩ := sp_ok x hx
    exact q m hm
  | spa =>
    simp [N__law_size, w__law_size, startD, dk]
    refine fun x hx => ?_
    obtain ⟨m, rfl, hm⟩ := ss_ok x hx
    exact q m hm
@[simp ↓] theorem c_size {G : Gc} {da : Addr} {k : Kd} {Q : SV → Prop} : s__law_size G [.ob da, .str k.w] Q ↔ IsDeck G da ∧ ∀ m : Nat, szOk k m → Q (.fz (.int (m : Int))) := by simp [s__law_size, and_assoc]
/-! ### sums -/
def kExt (ρ : En) (i : Nat) (d : D) (K : En → Prop) : Prop := ∃ xs ys, ρ[i]? = some (some (.ow xs)) ∧ d = .lst ys ∧ xs.length + ys.length ≤ sizeLine ∧ K (ρ.set i (some (.ow (xs ++ ys))))
@[simp ↓] theorem s_ext {i : Nat} {wv : WV} {G : Gc} {E : EndsD} {ρ : En} : wExt i wv G E ρ ↔ kOw ρ i ∧ wv G ρ fun d ρ' => kExt ρ' i d E.nx := Iff.rfl
@[simp ↓] theorem k_ext1 {i : Nat} {o : Option SV} {ρ : En} {d : D} {K : En → Prop} : kExt (o :: ρ) (i + 1) d K ↔ kExt ρ i d fun ρ' => K (o :: ρ') := Iff.rfl
@[simp ↓] theorem k_ext0 {xs ys : List D} {ρ : En} {K : En → Prop} : kExt (some (.ow xs) :: ρ) 0 (.lst ys) K ↔ xs.length + ys.length ≤ sizeLine ∧ K (some (.ow (xs ++ ys)) :: ρ) := ⟨fun ⟨_, _, e, e2, h⟩ => by cases e; cases e2; exact h, fun h => ⟨xs, ys, rfl, rfl, h⟩⟩
def xD (x : Nat) : D → D
  | .int i => .int (Builtin.bitXor (x : Int) i)
  | d => d
theorem xD_map (x : Nat) (u : Th) : (u.map eI).map (xD x) = (u.map fun y => x ^^^ y).map eI := by
  rw [List.map_map, List.map_map]
  refine List.map_congr_left fun y _ => ?_
  simp only [Function.comp]
  show D.int (Builtin.bitXor (x : Int) (y : Int)) = _
  rw [xor_eI]
theorem sums_loop {G : Gc} {E : EndsD} {o : Option SV} {u : Th} (hu : u.length ≤ 16) : ∀ (l acc : List Nat) (a3 a4 : Option SV), acc.length + l.length * 16 ≤ 1000 → (∀ z3 z4, E.nx [o, some (.fz (.tup (u.map eI))), some (.ow ((acc ++ sums l u).map eI)), z3, z4]) →
    wForL (wgName 3) (wExt 2 (wvO (wComp (wiSeq (wVar 1)) (wgName 4) (wtTrue) (wOp (oI0 Builtin.bitXor) (wVar 3) (wVar 4)) [4]))) G E (l.map eI) [o, some (.fz (.tup (u.map eI))), some (.ow (acc.map eI)), a3, a4]
  | [], acc, a3, a4, _, q => by
    have := q a3 a4
    unfold sums at this
    simpa using this
  | x :: l, acc, a3, a4, hl, q => by
    rw [List.length_cons] at hl
    rw [List.map_cons, s_for1]
    simp
    refine wcL_map (xD x) _ _ (fun d hd G' hG Qy hy => ?_) (len_small (by rw [List.length_map]; omega)) ?_
    · obtain ⟨y, hy2, rfl⟩ := List.mem_map.mp hd
      simp [wipeD]
      exact hy
    · rw [xD_map]
      have im := imm_ints (u.map fun y => x ^^^ y)
      have sz : acc.length + u.length ≤ sizeLine := len_small (by omega)
      rw [k_voow im]
      simp [sz]
      have ih := sums_loop (G := G) (E := E) (o := o) hu l (acc ++ u.map fun y => x ^^^ y) (some (.fz (eI x))) a4 (by rw [List.length_append, List.length_map]; omega) fun z3 z4 => by
        have := q z3 z4
        unfold sums at this ⊢
        rw [List.flatMap_cons] at this
        rw [List.append_assoc]
        exact this
      rw [List.map_append, List.map_map] at ih
      exact ih
def s__law_sums : FS := fun _ ds Q => ∃ t u : Th, ds = [.tup (t.map eI), .tup (u.map eI)] ∧ t.length ≤ 16 ∧ u.length ≤ 16 ∧ (∀ n ∈ sums t u, n < 16) ∧ Q (.fz (.tup ((srt (sums t u)).map eI)))
theorem p__law_sums : Keeps P__law_sums N__law_sums s__law_sums w__law_sums := fun G ds Qd h => by
  obtain ⟨t, u, rfl, h1, h2, h3, q⟩ := h
  refine ⟨rfl, ?_⟩
  simp [N__law_sums, w__law_sums, startD]
  refine sums_loop h2 t [] _ _ (by simp; omega) fun z3 z4 => ?_
  simp
  refine kSS_nat (l := sums t u) rfl ?_ h3 ?_
  · rw [sums_len]
    have := Nat.mul_le_mul h1 h2
    omega
  · simp
    exact q
theorem ok_gen {m d : Nat} {t : Th} (h : ok .spa m t) (hd : d < 2 ^ m) : (sums t [0, d]).length ≤ 1000 ∧ (∀ n ∈ sums t [0, d], n < 16) ∧ ok .spa m (srt (sums t [0, d])) := by
  have hm : ∀ n, n ∈ sums t [0, d] ↔ ∃ x ∈ t, n = x ∨ n = x ^^^ d := fun n => by
    unfold sums
    simp only [List.mem_flatMap, List.map_cons, List.map_nil, Nat.xor_zero, List.mem_cons, List.not_mem_nil, or_false]
  have p := pow16 h.1.2
  have lt : ∀ n ∈ sums t [0, d], n < 2 ^ m := fun n hn => by
    obtain ⟨x, hx, rfl | rfl⟩ := (hm n).mp hn
    · exact h.2.2.2.1 _ hx
    · exact xor_lt (h.2.2.2.1 x hx) hd
  have lt16 : ∀ n ∈ sums t [0, d], n < 16 := fun n hn => by have := lt n hn; omega
  refine ⟨by rw [sums_len]; have := (spa_small h).1; simp; omega, lt16, h.1, srt_sorted _, (srt_mem lt16).mpr ((hm 0).mpr ⟨0, h.2.2.1, .inl rfl⟩), fun n hn => lt n ((srt_mem lt16).mp hn), fun a ha b hb => ?_⟩
  have ha := (hm a).mp ((srt_mem lt16).mp ha)
  have hb := (hm b).mp ((srt_mem lt16).mp hb)
  refine (srt_mem lt16).mpr ((hm _).mpr ?_)
  obtain ⟨x, hx, ea⟩ := ha
  obtain ⟨y, hy, eb⟩ := hb
  refine ⟨x ^^^ y, h.2.2.2.2 x hx y hy, ?_⟩
  rcases ea with rfl | rfl <;> rcases eb with rfl | rfl
  · exact .inl rfl
  · exact .inr (by rw [Nat.xor_assoc])
  · refine .inr ?_
    rw [Nat.xor_assoc, Nat.xor_assoc, Nat.xor_comm d]
  · refine .inl ?_
    rw [Nat.xor_assoc, ← Nat.xor_assoc d, Nat.xor_comm d y, Nat.xor_assoc y, Nat.xor_self, Nat.xor_zero]
/-! ### drawn things -/
theorem named_F_call {G : Gc} {l : List Nat} {Q : SV → Prop} (hl : l.length ≤ 100) (q : Q (.fz (.tix ((canon l).map eI)))) : s__law_named G [.lst (l.map eI)] Q := .inl ⟨l, rfl, hl, q⟩
theorem all_eI : ∀ {ys : List D}, (∀ y ∈ ys, ∃ n : Nat, y = eI n) → ∃ l : List Nat, ys = l.map eI
  | [], _ => ⟨[], rfl⟩
  | y :: ys, h => by
    obtain ⟨n, rfl⟩ := h y List.mem_cons_self
    obtain ⟨l, rfl⟩ := all_eI fun z hz => h z (List.mem_cons_of_mem _ hz)
    exact ⟨n :: l, rfl⟩
def s__law_thing : FS := fun G ds Q => ∃ (da : Addr) (k : Kd) (m : Nat), ds = [.ob da, .str k.w, .int (m : Int)] ∧ IsDeck G da ∧ szOk k m ∧ ∀ t : Th, ok k m t → Q (.fz (k.d t))
theorem p__law_thing : Keeps P__law_thing N__law_thing s__law_thing (w__law_thing s_draw s__law_named s__law_sums) := fun G ds Qd h => by
  obtain ⟨da, k, m, rfl, dk, hm, q⟩ := h
  refine ⟨rfl, ?_⟩
  cases k with
  | par =>
    have m1 : 1 ≤ m := hm.1
    have m2 : m ≤ 6 := hm.2
    simp [N__law_thing, w__law_thing, startD, dk]
    refine ⟨by omega, by omega, fun f f0 f1 => ?_⟩
    refine ⟨by omega, wcL_any (fun y => ∃ n : Nat, y = eI n) _ [] _ (fun d hd G2 hG2 Qy hy => ?_) (len_small (by rw [rangeD_len]; simp; omega)) fun ys hl hj => ?_⟩
    · simp [wipeD, dk.ext hG2]
      refine ⟨by omega, by omega, fun n n0 n1 => hy _ ⟨n.toNat, congrArg D.int (by omega)⟩⟩
    · rw [rangeD_len] at hl
      obtain ⟨l, rfl⟩ := all_eI hj
      rw [List.length_map] at hl
      simp
      exact named_F_call (by omega) (q _ ⟨hm, by rw [canon_len, hl], canon_canon l⟩)
  | spa =>
    have m1 : 1 ≤ m := hm.1
    have m2 : m ≤ 4 := hm.2
    have cp : CPow 1 (m : Int) := ⟨by omega, by omega, by decide⟩
    have pw : (2 : Int) ^ m = ((2 ^ m : Nat) : Int) := pow_int m
    have p16 := pow16 m2
    have p1 : 0 < 2 ^ m := Nat.pow_pos (by decide)
    simp [N__law_thing, w__law_thing, startD, dk]
    refine ⟨by omega, fun r r0 r1 => ⟨by omega, by omega, ?_⟩⟩
    have z : ok .spa m [0] := ⟨hm, by simp, by simp, fun x hx => by rw [List.mem_singleton.mp hx]; exact p1, fun x hx y hy => by rw [List.mem_singleton.mp hx, List.mem_singleton.mp hy]; simp⟩
    refine wFor_inv (fun _ ρ => ∃ (t : Th) (a3 a5 a6 : Option SV), ok .spa m t ∧ ρ = [some (.fz (.ob da)), some (.fz (.str Kd.spa.w)), some (.fz (.int (m : Int))), a3, some (.fz (.tup (t.map eI))), a5, a6]) _ 0 _ ⟨[0], _, _, _, z, rfl⟩ (fun i d ρ N _ ⟨t, a3, a5, a6, ht, e⟩ hN => ?_) (fun ρ ⟨t, a3, a5, a6, ht, e⟩ => ?_)
    · subst e
      simp [dk, cp]
      refine ⟨by rw [pw]; omega, by rw [pw]; omega, fun n n0 n1 => ?_⟩
      have hn : n.toNat < 2 ^ m := by rw [pw] at n1; omega
      obtain ⟨g1, g2, g3⟩ := ok_gen ht hn
      have en : D.int n = eI n.toNat := congrArg D.int (by omega)
      rw [en]
      refine ⟨t, [0, n.toNat], rfl, (spa_small ht).1, by simp, g2, ?_⟩
      simp [imm_ints]
      exact hN _ ⟨_, _, _, _, g3, rfl⟩
    · subst e
      simp
      exact q t ht
@[simp ↓] theorem c_thing {G : Gc} {da : Addr} {k : Kd} {m : Nat} {Q : SV → Prop} : s__law_thing G [.ob da, .str k.w, .int (m : Int)] Q ↔ IsDeck G da ∧ szOk k m ∧ ∀ t : Th, ok k m t → Q (.fz (k.d t)) := by simp [s__law_thing, and_assoc]
end K79
set_option maxHeartbeats 4000000
namespace K79
open PySem PySem.Spec PyProof.Rows L2 DL

def s__law_both : FS := fun _ ds Q => ∃ (k : Kd) (m : Nat) (t u : Th), ds = [.str k.w, k.d t, k.d u] ∧ ok k m t ∧ ok k m u ∧ Q (.fz (k.d (both k t u)))
theorem zipD_eI : ∀ (t u : Th), zipD (t.map eI) (u.map eI) = (t.zip u).map fun p => D.tup [eI p.1, eI p.2]
  | [], _ => rfl
  | _ :: _, [] => rfl
  | a :: t, b :: u => by
    show D.tup [eI a, eI b] :: zipD (t.map eI) (u.map eI) = _
    rw [zipD_eI t u]; rfl
def toK : D → D
  | .tup xs => .tky xs
  | d => d
theorem p__law_both : Keeps P__law_both N__law_both s__law_both (w__law_both s__law_named) := fun G ds Qd h => by
  obtain ⟨k, m, t, u, rfl, ht, hu, q⟩ := h
  refine ⟨rfl, ?_⟩
  cases k with
  | par =>
    have l1 : t.length = m := ht.2.1
    have hm := ht.1.2
    simp [N__law_both, w__law_both, startD, Kd.d]
    rw [k_zp rfl rfl, zipD_eI]
    refine wcL_map toK _ _ (fun d hd G' hG Qy hy => ?_) (len_small (by rw [List.length_map, List.length_zip]; omega)) ?_
    · obtain ⟨p, hp, rfl⟩ := List.mem_map.mp hd
      simp [wipeD]
      exact hy
    · rw [List.map_map]
      have e : (t.zip u).map (toK ∘ fun p => D.tup [eI p.1, eI p.2]) = (t.zip u).map eP := List.map_congr_left fun p _ => rfl
      rw [e]
      exact .inr ⟨_, rfl, by rw [List.length_zip]; omega, q⟩
  | spa =>
    obtain ⟨hl, hs⟩ := spa_small ht
    simp [N__law_both, w__law_both, startD, Kd.d]
    refine wcL_fm (inD u) (fun d => d) _ _ _ (fun d hd G' hG Qy Qn hy hn => ?_) (len_small (by rw [List.length_map]; simp; omega)) ?_
    · obtain ⟨n, hn2, rfl⟩ := List.mem_map.mp hd
      rw [inD_eI] at hy hn
      simp [wipeD, mem_iL]
      by_cases c : n ∈ u
      · simp [c] at hy ⊢
        exact hy
      · simp [c] at hn ⊢
        exact hn
    · rw [filter_eI (fun n => decide (n ∈ u)) _ (inD_eI u)]
      simp
      exact q
/-! ### the law's all of two partings -/
theorem mrgs_app : ∀ (a b : List (Nat × Nat)) (l : List Nat), mrgs l (a ++ b) = mrgs (mrgs l a) b
  | [], _, _ => rfl
  | p :: a, b, l => by
    show mrgs (mrg l p.1 p.2) (a ++ b) = mrgs (mrgs (mrg l p.1 p.2) a) b
    exact mrgs_app a b _
def near (t u : Th) (x y : Nat) : Bool := decide (t[x]? = t[y]?) || decide (u[x]? = u[y]?)
def row (t u : Th) (x : Nat) (l : List Nat) : List (Nat × Nat) := (l.filter fun y => near t u x y).map fun y => (x, y)
def rows (t u : Th) (l : List Nat) : List (Nat × Nat) := l.flatMap fun x => row t u x (List.range x)
def lB : WS := wIfS (wtOr (wtV (wOp oEq (wOp oIx (wVar 0) (wVar 3)) (wOp oIx (wVar 0) (wVar 4)))) (wtV (wOp oEq (wOp oIx (wVar 1) (wVar 3)) (wOp oIx (wVar 1) (wVar 4))))) (wSeq (wPar2 5 6 (woFz (wOp oIx (wVar 2) (wVar 3))) (woFz (wOp oIx (wVar 2) (wVar 4)))) (wSet 2 (wComp (wiSeq (wVar 2)) (wgName 7) (wtTrue) (wIf (wtV (wOp oEq (wVar 7) (wVar 5))) (wVar 6) (wVar 7)) [7]))) (wNext)
theorem lB_step {G : Gc} {E : EndsD} {t u b : List Nat} {x y : Nat} {a5 a6 a7 : Option SV} (hx : x < b.length) (hy : y < b.length) (ht : t.length = b.length) (hu : u.length = b.length) (hl : b.length ≤ 100)
    (hn : ∀ z5 z6 z7, E.nx [some (.fz (.tix (t.map eI))), some (.fz (.tix (u.map eI))), some (.ow ((if near t u x y = true then mrg b x y else b).map eI)), some (.fz (eI x)), some (.fz (eI y)), z5, z6, z7]) :
    lB G E [some (.fz (.tix (t.map eI))), some (.fz (.tix (u.map eI))), some (.ow (b.map eI)), some (.fz (eI x)), some (.fz (eI y)), a5, a6, a7] := by
  have b1 := List.getElem?_eq_getElem hx
  have b2 := List.getElem?_eq_getElem hy
  have t1 := List.getElem?_eq_getElem (l := t) (i := x) (by omega)
  have t2 := List.getElem?_eq_getElem (l := t) (i := y) (by omega)
  have u1 := List.getElem?_eq_getElem (l := u) (i := x) (by omega)
  have u2 := List.getElem?_eq_getElem (l := u) (i := y) (by omega)
  have A1 := at_eI b1
  have A2 := at_eI b2
  have A3 := at_eI t1
  have A4 := at_eI t2
  have A5 := at_eI u1
  have A6 := at_eI u2
  have en : near t u x y = (decide (t[x]'(by omega) = t[y]'(by omega)) || decide (u[x]'(by omega) = u[y]'(by omega))) := by
    unfold near
    rw [t1, t2, u1, u2]
    simp
  have go : ∀ (hm : near t u x y = true), (∀ z5 z6 z7, E.nx [some (.fz (.tix (t.map eI))), some (.fz (.tix (u.map eI))), some (.ow ((mrg b x y).map eI)), some (.fz (eI x)), some (.fz (eI y)), z5, z6, z7]) := fun hm z5 z6 z7 => by
    have := hn z5 z6 z7
    rw [if_pos hm] at this
    exact this
  have part : (∀ z5 z6 z7, E.nx [some (.fz (.tix (t.map eI))), some (.fz (.tix (u.map eI))), some (.ow ((mrg b x y).map eI)), some (.fz (eI x)), some (.fz (eI y)), z5, z6, z7]) → wcL (wgName 7) wtTrue (wIf (wtV (wOp oEq (wVar 7) (wVar 5))) (wVar 6) (wVar 7)) [7] G [some (.fz (.tix (t.map eI))), some (.fz (.tix (u.map eI))), some (.ow (b.map eI)), some (.fz (eI x)), some (.fz (eI y)), some (.fz (eI b[x])), some (.fz (eI b[y])), a7] (b.map eI) [] fun acc =>
      kPut [some (.fz (.tix (t.map eI))), some (.fz (.tix (u.map eI))), some (.ow (b.map eI)), some (.fz (eI x)), some (.fz (eI y)), some (.fz (eI b[x])), some (.fz (eI b[y])), a7] 2 (.ow acc) E.nx := fun h => by
    refine wcL_map (rnD b[x] b[y]) _ _ (fun d hd G3 hG3 Qy hy => ?_) (len_small (by rw [List.length_map]; omega)) ?_
    · obtain ⟨m, hm, rfl⟩ := List.mem_map.mp hd
      rw [rnD_eI] at hy
      by_cases c3 : m = b[x]
      · rw [if_pos c3] at hy
        subst c3
        simp [wipeD, hy]
      · rw [if_neg c3] at hy
        simp [wipeD, c3, hy]
    · rw [← mrg_eI b1 b2]
      simp [imm_ints]
      exact h _ _ _
  unfold lB
  simp [k_at A1, k_at A2, k_at A3, k_at A4, k_at A5, k_at A6]
  by_cases c : t[x]'(by omega) = t[y]'(by omega)
  · simp [c]
    exact fun G2 hG => part (go (by rw [en]; simp [c]))
  · by_cases c2 : u[x]'(by omega) = u[y]'(by omega)
    · simp [c, c2]
      exact fun G2 hG => part (go (by rw [en]; simp [c2]))
    · have ef : near t u x y = false := by rw [en]; simp [c, c2]
      rw [ef] at hn
      simp [c, c2]
      exact hn _ _ _
theorem in_loop {G : Gc} {E : EndsD} {t u : List Nat} {x : Nat} : ∀ (l b : List Nat) (a4 a5 a6 a7 : Option SV), x < b.length → (∀ y ∈ l, y < b.length) → t.length = b.length → u.length = b.length → b.length ≤ 100 →
    (∀ z4 z5 z6 z7, E.nx [some (.fz (.tix (t.map eI))), some (.fz (.tix (u.map eI))), some (.ow ((mrgs b (row t u x l)).map eI)), some (.fz (eI x)), z4, z5, z6, z7]) →
    wForL (wgName 4) lB G E (l.map eI) [some (.fz (.tix (t.map eI))), some (.fz (.tix (u.map eI))), some (.ow (b.map eI)), some (.fz (eI x)), a4, a5, a6, a7]
  | [], b, a4, a5, a6, a7, _, _, _, _, _, q => by
    have := q a4 a5 a6 a7
    unfold row mrgs at this
    simpa using this
  | y :: l, b, a4, a5, a6, a7, hx, hy, ht, hu, hl, q => by
    rw [List.map_cons, s_for1]
    simp
    refine lB_step hx (hy y List.mem_cons_self) ht hu hl fun z5 z6 z7 => ?_
    have lb : ∀ c : Bool, (if c = true then mrg b x y else b).length = b.length := fun c => by cases c <;> simp [mrg_len]
    refine in_loop l _ _ _ _ _ (by rw [lb]; exact hx) (fun y hy2 => by rw [lb]; exact hy y (List.mem_cons_of_mem _ hy2)) (by rw [lb, ht]) (by rw [lb, hu]) (by rw [lb]; exact hl) fun c4 c5 c6 c7 => ?_
    have := q c4 c5 c6 c7
    unfold row at this ⊢
    rw [List.filter_cons] at this
    by_cases c : near t u x y = true
    · rw [if_pos c, List.map_cons] at this
      rw [if_pos c]
      unfold mrgs at this
      exact this
    · rw [if_neg c] at this
      rw [if_neg c]
      exact this
theorem range_eI (n : Nat) : rangeD 0 n = (List.range n).map eI := by
  unfold rangeD
  refine List.map_congr_left fun i _ => ?_
  rw [Int.zero_add]
theorem out_loop {G : Gc} {E : EndsD} {t u : List Nat} : ∀ (l b : List Nat) (a3 a4 a5 a6 a7 : Option SV), (∀ x ∈ l, x < b.length) → t.length = b.length → u.length = b.length → b.length ≤ 100 →
    (∀ z3 z4 z5 z6 z7, E.nx [some (.fz (.tix (t.map eI))), some (.fz (.tix (u.map eI))), some (.ow ((mrgs b (rows t u l)).map eI)), z3, z4, z5, z6, z7]) →
    wForL (wgName 3) (wFor (wjRange1 (waCons (wVar 3) (waNil))) (wgName 4) lB) G E (l.map eI) [some (.fz (.tix (t.map eI))), some (.fz (.tix (u.map eI))), some (.ow (b.map eI)), a3, a4, a5, a6, a7]
  | [], b, a3, a4, a5, a6, a7, _, _, _, _, q => by
    have := q a3 a4 a5 a6 a7
    unfold rows mrgs at this
    simpa using this
  | x :: l, b, a3, a4, a5, a6, a7, hx, ht, hu, hl, q => by
    have hx0 := hx x List.mem_cons_self
    rw [List.map_cons, s_for1]
    simp
    refine ⟨by omega, ?_⟩
    rw [range_eI]
    refine in_loop (List.range x) b _ _ _ _ hx0 (fun y hy => by have := List.mem_range.mp hy; omega) ht hu hl fun z4 z5 z6 z7 => ?_
    have lb := mrgs_len (row t u x (List.range x)) b
    refine out_loop l _ _ _ _ _ _ (fun y hy => by rw [lb]; exact hx y (List.mem_cons_of_mem _ hy)) (by rw [lb, ht]) (by rw [lb, hu]) (by rw [lb]; exact hl) fun c3 c4 c5 c6 c7 => ?_
    have := q c3 c4 c5 c6 c7
    unfold rows at this ⊢
    rw [List.flatMap_cons, mrgs_app] at this
    exact this
theorem rows_mem {t u : Th} {n : Nat} {p : Nat × Nat} : p ∈ rows t u (List.range n) ↔ p.1 < n ∧ p.2 < p.1 ∧ near t u p.1 p.2 = true := by
  unfold rows row
  simp only [List.mem_flatMap, List.mem_map, List.mem_filter, List.mem_range]
  constructor
  · rintro ⟨x, hx, y, ⟨hy, hn⟩, rfl⟩
    exact ⟨hx, hy, hn⟩
  · rintro ⟨h1, h2, h3⟩
    exact ⟨p.1, h1, p.2, ⟨h2, h3⟩, rfl⟩
theorem join_eq {m : Nat} {t u : Th} (ht : ok .par m t) (hu : ok .par m u) : canon (mrgs (List.range m) (rows t u (List.range m))) = all .par t u := by
  have l1 : t.length = m := ht.2.1
  have l2 : u.length = m := hu.2.1
  have hl : t.length = u.length := by omega
  have len1 : (mrgs (List.range m) (rows t u (List.range m))).length = m := by rw [mrgs_len, List.length_range]
  have len2 : (mrgs t (prs u)).length = m := by rw [mrgs_len, l1]
  have sd : ∀ p ∈ rows t u (List.range m), p.1 < (List.range m).length ∧ p.2 < (List.range m).length := fun p hp => by
    obtain ⟨h1, h2, _⟩ := rows_mem.mp hp
    rw [List.length_range]
    omega
  refine canon_congr (by rw [len1, len2]) (mrgs_le _ _ sd (fun i j h => ?_) fun p hp => ?_) (join_le hl ?_ ?_)
  · by_cases hi : i < m
    · have e1 : (List.range m)[i]? = some i := by rw [List.getElem?_range hi]
      by_cases hj : j < m
      · have e2 : (List.range m)[j]? = some j := by rw [List.getElem?_range hj]
        rw [e1, e2] at h
        rw [Option.some.inj h]
      · rw [e1, List.getElem?_eq_none (by rw [List.length_range]; omega)] at h
        cases h
    · by_cases hj : j < m
      · rw [List.getElem?_eq_none (by rw [List.length_range]; omega), List.getElem?_range hj] at h
        cases h
      · rw [List.getElem?_eq_none (by omega), List.getElem?_eq_none (by omega)]
  · obtain ⟨h1, h2, h3⟩ := rows_mem.mp hp
    unfold near at h3
    rcases Bool.or_eq_true_iff.mp h3 with h3 | h3
    · exact le_mrgs _ _ _ _ (of_decide_eq_true h3)
    · exact le_join hl _ _ (of_decide_eq_true h3)
  all_goals
    have gen : ∀ w : Th, w.length = m → (∀ x y : Nat, w[x]? = w[y]? → near t u x y = true) → Le w (mrgs (List.range m) (rows t u (List.range m))) := fun w lw hw i j h => by
      by_cases hi : i < m
      · have hj : j < m := by
          rw [List.getElem?_eq_getElem (show i < w.length by omega)] at h
          cases hu2 : w[j]? with
          | none => rw [hu2] at h; cases h
          | some _ => have := (List.getElem?_eq_some_iff.mp hu2).1; omega
        have at' := mrgs_at (rows t u (List.range m)) (List.range m) sd
        rcases Nat.lt_trichotomy i j with c | c | c
        · exact (at' (j, i) (rows_mem.mpr ⟨hj, c, hw _ _ h.symm⟩)).symm
        · rw [c]
        · exact at' (i, j) (rows_mem.mpr ⟨hi, c, hw _ _ h⟩)
      · have hj : ¬ j < m := fun hj => by
          rw [List.getElem?_eq_none (by omega), List.getElem?_eq_getElem (show j < w.length by omega)] at h
          cases h
        rw [List.getElem?_eq_none (by omega), List.getElem?_eq_none (by omega)]
  · exact gen t l1 fun x y h => by unfold near; rw [decide_eq_true h]; rfl
  · exact gen u l2 fun x y h => by unfold near; rw [decide_eq_true h, Bool.or_true]
def s__law_joined : FS := fun _ ds Q => ∃ (m : Nat) (t u : Th), ds = [.tix (t.map eI), .tix (u.map eI)] ∧ ok .par m t ∧ ok .par m u ∧ Q (.fz (.tix ((all .par t u).map eI)))
def kRg (d : D) (Q : SV → Prop) : Prop := ∃ n : Int, d = .int n ∧ -(2 ^ 62) ≤ n ∧ n ≤ 2 ^ 24 ∧ Q (.ow (rangeD 0 n.toNat))
@[simp ↓] theorem s_lrg {wa : W} {G : Gc} {ρ : En} {Qo : SV → Prop} : woListRg1 wa G ρ Qo ↔ wa G ρ fun d => kRg d Qo := Iff.rfl
theorem k_rg {n : Nat} {Q : SV → Prop} (h : n ≤ 1000) : kRg (.int (n : Int)) Q ↔ Q (.ow ((List.range n).map eI)) := by
  constructor
  · rintro ⟨k, e, _, _, q⟩
    cases e
    rw [Int.toNat_natCast, range_eI] at q
    exact q
  · intro q
    exact ⟨(n : Int), rfl, by omega, by omega, by rw [Int.toNat_natCast, range_eI]; exact q⟩
theorem p__law_joined : Keeps P__law_joined N__law_joined s__law_joined (w__law_joined s__law_named) := fun G ds Qd h => by
  obtain ⟨m, t, u, rfl, ht, hu, q⟩ := h
  refine ⟨rfl, ?_⟩
  have l1 : t.length = m := ht.2.1
  have l2 : u.length = m := hu.2.1
  have hm := ht.1.2
  have hk : t.length ≤ 1000 := by omega
  simp [N__law_joined, w__law_joined, startD, k_rg hk, imm_ints]
  refine ⟨by omega, ?_⟩
  rw [range_eI, l1]
  refine out_loop (List.range m) (List.range m) _ _ _ _ _ (fun x hx => by rw [List.length_range]; exact List.mem_range.mp hx) (by rw [List.length_range, l1]) (by rw [List.length_range, l2]) (by rw [List.length_range]; omega) fun z3 z4 z5 z6 z7 => ?_
  simp
  refine named_F_call (by rw [mrgs_len, List.length_range]; omega) ?_
  rw [join_eq ht hu]
  exact q
def s__law_all : FS := fun _ ds Q => ∃ (k : Kd) (m : Nat) (t u : Th), ds = [.str k.w, k.d t, k.d u] ∧ ok k m t ∧ ok k m u ∧ Q (.fz (k.d (all k t u)))
theorem p__law_all : Keeps P__law_all N__law_all s__law_all (w__law_all s__law_joined s__law_sums) := fun G ds Qd h => by
  obtain ⟨k, m, t, u, rfl, ht, hu, q⟩ := h
  refine ⟨rfl, ?_⟩
  cases k with
  | par =>
    simp [N__law_all, w__law_all, startD, Kd.d]
    exact ⟨m, t, u, rfl, ht, hu, q⟩
  | spa =>
    simp [N__law_all, w__law_all, startD, Kd.d]
    exact ⟨t, u, rfl, (spa_small ht).1, (spa_small hu).1, (sums_small ht hu).2, by rw [srt_sums ht hu]; exact q⟩
end K79
set_option maxHeartbeats 4000000
namespace K79
open PySem PySem.Spec PyProof.Rows L2 DL

/-- two equal values are shown alike -/
def s__law_same : FS := fun _ ds Q => ∃ x : D, ds = [x, x] ∧ Shw x ∧ Q (.fz (.bl true))
theorem p__law_same : Keeps P__law_same N__law_same s__law_same w__law_same := fun G ds Qd h => by
  obtain ⟨x, rfl, hx, q⟩ := h
  refine ⟨rfl, ?_⟩
  simp [N__law_same, w__law_same, startD]
  refine oRepr_of hx fun p e => ?_
  simp
  refine oRepr_of hx fun p' e' => ?_
  rw [e] at e'
  cases e'
  simp [q]
theorem c_same_iff {G : Gc} {x y : D} {Q : SV → Prop} (e : x = y) (hx : Shw x) : s__law_same G [x, y] Q ↔ Q (.fz (.bl true)) := by
  subst e
  constructor
  · rintro ⟨z, e, _, q⟩
    exact q
  · intro q
    exact ⟨x, rfl, hx, q⟩
theorem fit_nats : ∀ t : Th, (∀ n ∈ t, n < 100) → fitL (t.map eI) = true ∧ wtL (t.map eI) ≤ t.length ∧ dpL (t.map eI) = 0
  | [], _ => ⟨rfl, Nat.le_refl _, rfl⟩
  | n :: t, h => by
    obtain ⟨h1, h2, h3⟩ := fit_nats t fun m hm => h m (List.mem_cons_of_mem _ hm)
    have hn := h n List.mem_cons_self
    refine ⟨?_, ?_, ?_⟩
    · show (decide (((n : Nat) : Int).natAbs < 2 ^ 500) && fitL (t.map eI)) = true
      rw [h1, Bool.and_true]
      exact decide_eq_true (by rw [Int.natAbs_natCast]; exact Nat.lt_of_lt_of_le hn (by decide))
    · show 0 + 1 + wtL (t.map eI) ≤ t.length + 1
      omega
    · show max 0 (dpL (t.map eI)) = 0
      rw [h3]; rfl
theorem th_small {k : Kd} {m : Nat} {t : Th} (h : ok k m t) : t.length ≤ 16 ∧ ∀ n ∈ t, n < 100 := by
  cases k with
  | par =>
    have l1 : t.length = m := h.2.1
    have hm := h.1.2
    exact ⟨by omega, fun n hn => by have := ok_vals (k := .par) h n hn; omega⟩
  | spa =>
    obtain ⟨h1, h2⟩ := spa_small h
    exact ⟨h1, fun n hn => by have := h2 n hn; omega⟩
theorem fit_th {k : Kd} {m : Nat} {t : Th} (h : ok k m t) : fitD (k.d t) = true ∧ wtD (k.d t) ≤ 16 ∧ dpD (k.d t) ≤ 1 := by
  obtain ⟨s1, s2⟩ := th_small h
  obtain ⟨h1, h2, h3⟩ := fit_nats t s2
  cases k with
  | par => exact ⟨h1, by show wtL (t.map eI) ≤ 16; omega, by show dpL (t.map eI) + 1 ≤ 1; omega⟩
  | spa => exact ⟨h1, by show wtL (t.map eI) ≤ 16; omega, by show dpL (t.map eI) + 1 ≤ 1; omega⟩
theorem shw_th {k : Kd} {m : Nat} {t : Th} (h : ok k m t) : Shw (k.d t) := by
  obtain ⟨h1, h2, h3⟩ := fit_th h
  exact ⟨h1, by omega, by omega⟩
theorem shw_two {k : Kd} {m : Nat} {t u : Th} (h : ok k m t) (h' : ok k m u) : Shw (.lst [k.d t, k.d u]) := by
  obtain ⟨h1, h2, h3⟩ := fit_th h
  obtain ⟨k1, k2, k3⟩ := fit_th h'
  refine ⟨?_, ?_, ?_⟩
  · show (fitD (k.d t) && (fitD (k.d u) && true)) = true
    rw [h1, k1]; rfl
  · show wtD (k.d t) + 1 + (wtD (k.d u) + 1 + 0) ≤ 20000
    omega
  · show max (dpD (k.d t)) (max (dpD (k.d u)) 0) + 1 ≤ 60
    omega
theorem shw_bb (a b : Bool) : Shw (.lst [.bl a, .bl b]) := ⟨by decide +revert, by decide +revert, by decide +revert⟩
theorem k2_inj {k k' : Kd} {t t' u u' : Th} (e : [D.str k.w, k.d t, k.d u] = [D.str k'.w, k'.d t', k'.d u']) : k' = k ∧ t' = t ∧ u' = u := by
  injection e with e1 e
  injection e with e3 e
  injection e with e4 _
  injection e1 with e1
  have e1 := w_inj.mp e1
  subst e1
  exact ⟨rfl, (d_inj e3).symm, (d_inj e4).symm⟩
theorem l_bothI {G : Gc} {k : Kd} {m : Nat} {t u : Th} (h : ok k m t) (h' : ok k m u) {Q : SV → Prop} : s__law_both G [.str k.w, k.d t, k.d u] Q ↔ Q (.fz (k.d (both k t u))) := by
  constructor
  · rintro ⟨k', m', t', u', e, _, _, q⟩
    obtain ⟨rfl, rfl, rfl⟩ := k2_inj e
    exact q
  · exact fun q => ⟨k, m, t, u, rfl, h, h', q⟩
theorem l_allI {G : Gc} {k : Kd} {m : Nat} {t u : Th} (h : ok k m t) (h' : ok k m u) {Q : SV → Prop} : s__law_all G [.str k.w, k.d t, k.d u] Q ↔ Q (.fz (k.d (all k t u))) := by
  constructor
  · rintro ⟨k', m', t', u', e, _, _, q⟩
    obtain ⟨rfl, rfl, rfl⟩ := k2_inj e
    exact q
  · exact fun q => ⟨k, m, t, u, rfl, h, h', q⟩
def s__law_are_two_right : FS := fun _ ds Q => ∃ (k : Kd) (m : Nat) (t u : Th), ds = [.str k.w, .int (m : Int), k.d t, k.d u] ∧ ok k m t ∧ ok k m u ∧ Q (.fz (.bl true))
theorem p__law_are_two_right : Keeps P__law_are_two_right N__law_are_two_right s__law_are_two_right (w__law_are_two_right s__law_both s__law_all s_both_things s__law_same s_all_things s_is_thing s_is_within_thing) := fun G ds Qd hh => by
  obtain ⟨k, m, t, u, rfl, h, h', q⟩ := hh
  refine ⟨rfl, ?_⟩
  have hb := ok_both h h'
  have ha := ok_all h h'
  have e1 : both k u t = both k t u := both_comm h' h
  have e2 : all k u t = all k t u := all_comm h' h
  have e4 := in_low h h'
  have e5 := in_high h h'
  have e6 := absorb1 h h'
  have e7 := absorb2 h h'
  have e8 := all_self h
  have w1 : (both k t u = t) = (all k t u = u) := propext (two_iff h h')
  have f1 := shw_two hb hb
  have f2 := shw_two ha ha
  have f3 : ∀ a b : Bool, Shw (.lst [.bl a, .bl b]) := shw_bb
  have f4 := shw_th h
  have cs : ∀ {G : Gc} {x : D} {Q : SV → Prop}, Shw x → (s__law_same G [x, x] Q ↔ Q (.fz (.bl true))) := fun hx => c_same_iff rfl hx
  simp [N__law_are_two_right, w__law_are_two_right, startD, l_bothI h h', l_allI h h', h, h', hb, ha, permL, e1, e2, e4, e5, e6, e7, e8, w1, f1, f2, f3, f4, cs, q]
theorem l_twoI {G : Gc} {k : Kd} {m : Nat} {t u : Th} {Q : SV → Prop} : s__law_are_two_right G [.str k.w, .int (m : Int), k.d t, k.d u] Q ↔ ok k m t ∧ ok k m u ∧ Q (.fz (.bl true)) := ⟨fun ⟨k', m', t', u', e, h⟩ => by
  obtain ⟨rfl, rfl, rfl, rfl⟩ := k3_inj e.symm
  exact h, fun h => ⟨k, m, t, u, rfl, h⟩⟩
def s__law_are_three_right : FS := fun _ ds Q => ∃ (k : Kd) (m : Nat) (x y z : Th), ds = [.str k.w, .int (m : Int), k.d x, k.d y, k.d z] ∧ ok k m x ∧ ok k m y ∧ ok k m z ∧ Q (.fz (.bl true))
theorem l_threeI {G : Gc} {k : Kd} {m : Nat} {x y z : Th} {Q : SV → Prop} : s__law_are_three_right G [.str k.w, .int (m : Int), k.d x, k.d y, k.d z] Q ↔ ok k m x ∧ ok k m y ∧ ok k m z ∧ Q (.fz (.bl true)) := ⟨fun ⟨k', m', x', y', z', e, h⟩ => by
  injection e with e1 e
  injection e with e2 e
  injection e with e3 e
  injection e with e4 e
  injection e with e5 _
  injection e1 with e1
  have e1 := w_inj.mp e1
  subst e1
  rw [nat_inj.mp e2, d_inj e3, d_inj e4, d_inj e5]
  exact h, fun h => ⟨k, m, x, y, z, rfl, h⟩⟩
theorem p__law_are_three_right : Keeps P__law_are_three_right N__law_are_three_right s__law_are_three_right (w__law_are_three_right s_both_things s__law_same s_all_things s_is_within_thing) := fun G ds Qd hh => by
  obtain ⟨k, m, x, y, z, rfl, hx, hy, hz, q⟩ := hh
  refine ⟨rfl, ?_⟩
  have b1 := ok_both hx hy
  have b2 := ok_both hy hz
  have b3 := ok_both hx hz
  have b4 := ok_both hx b2
  have a1 := ok_all hx hy
  have a2 := ok_all hy hz
  have a3 := ok_all hx a2
  have n1 := ok_all b1 b3
  have n2 := ok_both hx a2
  have e1 := both_assoc hx hy hz
  have e2 := all_assoc hx hy hz
  have e3 : both k (all k (both k x y) (both k x z)) (both k x (all k y z)) = all k (both k x y) (both k x z) := (both_iff n1 n2).mpr (near_far hx hy hz)
  have f1 := shw_th b4
  have f2 := shw_th a3
  have cs : ∀ {G : Gc} {x : D} {Q : SV → Prop}, Shw x → (s__law_same G [x, x] Q ↔ Q (.fz (.bl true))) := fun hx => c_same_iff rfl hx
  cases k with
  | spa =>
    have g1 := ok_all b1 hz
    have g2 := ok_both hx g1
    have g3 := ok_all b1 b3
    have e4 := modular hx b1 hz (both_le1 hx hy)
    have f3 := shw_th g3
    simp [N__law_are_three_right, w__law_are_three_right, startD, hx, hy, hz, b1, b2, b3, b4, a1, a2, a3, n1, n2, e1, e2, e3, f1, f2, f3, cs, g1, g2, e4, q]
  | par =>
    have lf := near_far hx hy hz
    simp [N__law_are_three_right, w__law_are_three_right, startD, hx, hy, hz, b1, b2, b3, b4, a1, a2, a3, n1, n2, e1, e2, e3, f1, f2, cs]
    have mono := fun (i v w : Nat) => par_mono (i := i) (v := v) (w := w) n1 n2 lf
    have hl := n1.2.1
    have hl2 := n2.2.1
    have hm6 := hx.1.2
    generalize all Kd.par (both Kd.par x y) (both Kd.par x z) = t at *
    generalize both Kd.par x (all Kd.par y z) = u at *
    rw [show Kd.par.d t = .tix (t.map eI) from rfl, show Kd.par.d u = .tix (u.map eI) from rfl, k_zp rfl rfl, zipD_eI]
    refine wcL_fm (fun _ => false) (fun d => d) _ _ _ (fun d hd G' hG Qy Qn hy hn => ?_) (len_small (by rw [List.length_map, List.length_zip]; simp; omega)) ?_
    · obtain ⟨p, hp, rfl⟩ := List.mem_map.mp hd
      obtain ⟨i, hi⟩ := List.mem_iff_getElem?.mp hp
      rw [List.getElem?_zip_eq_some] at hi
      have := mono i p.1 p.2 hi.1 hi.2
      have c : ¬ ((p.1 : Int) < (p.2 : Int)) := by omega
      simp [wipeD, c]
      exact hn rfl
    · rw [List.filter_eq_nil_iff.mpr fun a _ => Bool.false_ne_true]
      simp
      exact oEq_lstI (a := []) (b := []) (by simpa using q)
/-! ### the law -/
def s_law (K : PySem.W.Frag) : FS := fun G ds Q => ∃ (a : Addr) (ns : List Int), ds = [.ob a] ∧ ns.length ≤ 63 ∧ (∀ H, G.Wd H → SqL K H a (ns.map V.int)) ∧ Q (.fz (.bl true))
theorem p_law (K : PySem.W.Frag) : Keeps P_law N_law (s_law K) (w_law K s_pick s__law_size s__law_thing s_draw s__law_all s__law_both s__law_are_two_right s__law_are_three_right) := fun G ds Qd hh => by
  obtain ⟨a, ns, rfl, hl, hs, q⟩ := hh
  refine ⟨rfl, by show 1 < 9; decide, ?_, ⟨a, ns, rfl, hl, hs⟩, ?_⟩
  · intro k sv h
    obtain ⟨d, rfl, _⟩ := startD_get h
    rfl
  · intro da G' hG dk
    simp [N_law, startD]
    refine wFor_inv (fun _ ρ => ∃ o2 o3 o4 o5 o6 o7 o8 : Option SV, ρ = [some (.fz (.ob a)), some (.fz (.ob da)), o2, o3, o4, o5, o6, o7, o8]) _ 0 _ ⟨_, _, _, _, _, _, _, rfl⟩ (fun i d ρ N _ ⟨o2, o3, o4, o5, o6, o7, o8, e⟩ hN => ?_) (fun ρ _ => q)
    subst e
    have done : ∀ o2 o3 o4 o5 o6 o7 o8 : Option SV, N [some (.fz (.ob a)), some (.fz (.ob da)), o2, o3, o4, o5, o6, o7, o8] := fun o2 o3 o4 o5 o6 o7 o8 => hN _ ⟨o2, o3, o4, o5, o6, o7, o8, rfl⟩
    simp [dk]
    intro x hx
    obtain ⟨k, rfl⟩ : ∃ k : Kd, x = .str k.w := by
      simp only [List.mem_cons, List.not_mem_nil, or_false] at hx
      rcases hx with rfl | rfl
      · exact ⟨.par, rfl⟩
      · exact ⟨.spa, rfl⟩
    simp [dk, c_size]
    intro m hm
    refine wcL_any (fun y => ∃ t : Th, y = k.d t ∧ ok k m t) _ [] _ (fun d hd G2 hG2 Qy hy => ?_) (len_small (by rw [rangeD_len]; decide)) fun ys hl hj => ?_
    · simp [wipeD, dk.ext hG2, hm, c_thing]
      exact fun t ht => hy _ ⟨t, rfl, ht⟩
    · rw [rangeD_len] at hl
      obtain ⟨y0, y1, y2, rfl⟩ : ∃ y0 y1 y2, ys = [y0, y1, y2] := by
        match ys, hl with
        | [y0, y1, y2], _ => exact ⟨y0, y1, y2, rfl⟩
      obtain ⟨t0, rfl, h0⟩ := hj y0 (by simp)
      obtain ⟨t1, rfl, h1⟩ := hj y1 (by simp)
      obtain ⟨t2, rfl, h2⟩ := hj y2 (by simp)
      have hb := ok_both h0 h1
      have ha := ok_all h0 h1
      have ix : ixN 3 2 = some 2 := by decide
      simp [dk]
      intro c c0 c1
      by_cases z : c = 0
      · rw [if_pos z]
        simp [dk, l_bothI h0 h1, l_allI h0 h1]
        intro x hx
        obtain ⟨t3, rfl, h3⟩ : ∃ t : Th, x = k.d t ∧ ok k m t := by
          simp only [List.mem_cons, List.not_mem_nil, or_false] at hx
          rcases hx with rfl | rfl | rfl
          · exact ⟨_, rfl, hb⟩
          · exact ⟨_, rfl, ha⟩
          · exact ⟨_, rfl, h0⟩
        simp [k_sto, ix, s_for1, l_twoI, l_threeI, h0, h1, h3, done]
      · rw [if_neg z]
        simp [s_for1, l_twoI, l_threeI, h0, h1, h2, done]
end K79
set_option maxHeartbeats 0
namespace K79
open PySem PySem.Spec PyProof.Rows L2
def dd (x : Str) (i : Nat) : He.DefD := ⟨(x, none), x, x, defArgs (top i), defBody (top i), defScope (top i), [], []⟩
def fn0 : List He.DefD := [dd "is_integer" 7, dd "is_between" 8, dd "are_between" 9, dd "is_number_thing" 13, dd "is_parting_thing" 14, dd "is_space_thing" 15, dd "is_stretch_thing" 16, dd "is_thing_value" 17, dd "told_anew" 18, dd "joined_parting" 19, dd "raw_both" 20, dd "raw_all" 21, dd "raw_within" 22, dd "is_size" 23, dd "need_kind" 25, dd "need_things" 26, dd "is_thing" 27, dd "both_things" 28, dd "all_things" 29, dd "is_within_thing" 30]
def fn1 : List He.DefD := [dd "_law_deck" 32, dd "_law_draw" 33, dd "_law_pick" 34, dd "_law_size" 35, dd "_law_named" 36, dd "_law_sums" 37, dd "_law_thing" 38, dd "_law_both" 39, dd "_law_joined" 40, dd "_law_all" 41, dd "_law_same" 42, dd "_law_are_two_right" 43, dd "_law_are_three_right" 44, dd "law" 45]
def fn : List He.DefD := fn0 ++ fn1
def fa0 : List He.Fa := [.glo "is_integer", .glo "is_between", .glo "are_between", .glo "is_number_thing", .glo "is_parting_thing", .glo "is_space_thing", .glo "is_stretch_thing", .glo "is_thing_value", .glo "told_anew", .glo "joined_parting", .glo "raw_both", .glo "raw_all", .glo "raw_within", .glo "is_size", .glo "need_kind", .glo "need_things", .glo "is_thing", .glo "both_things", .glo "all_things", .glo "is_within_thing", .glo "_law_deck", .glo "_law_draw", .glo "_law_pick", .glo "_law_size", .glo "_law_named", .glo "_law_sums", .glo "_law_thing", .glo "_law_both", .glo "_law_joined", .glo "_law_all"]
def fa1 : List He.Fa := [.glo "_law_same", .glo "_law_are_two_right", .glo "_law_are_three_right", .glo "law", .glo "KINDS", .glo "MOST_OF", .free "all", .free "bool", .free "enumerate", .free "int", .free "isinstance", .free "len", .free "list", .free "max", .free "min", .free "range", .free "repr", .free "set", .free "sorted", .free "str", .free "tuple", .free "zip"]
def fa : List He.Fa := fa0 ++ fa1
def loose0 : List Str := ["HouseError", "BadNumber", "BadThing", "BadWay", "is_integer", "is_between", "are_between", "KINDS", "MOST_OF", "is_number_thing", "is_parting_thing", "is_space_thing", "is_stretch_thing", "is_thing_value", "told_anew", "joined_parting", "raw_both", "raw_all", "raw_within", "is_size", "need_kind", "need_things", "is_thing", "both_things", "all_things", "is_within_thing", "_law_deck", "_law_draw", "_law_pick", "_law_size"]
def loose1 : List Str := ["_law_named", "_law_sums", "_law_thing", "_law_both", "_law_joined", "_law_all", "_law_same", "_law_are_two_right", "_law_are_three_right"]
abbrev loose : List Str := loose0 ++ loose1
def ts : List He.Tab := [(fun K => He.ga K "MOST_OF", ["numbers", "partings", "spaces", "stretches"])]
def ex (K : PySem.W.Frag) : Bool := (He.tupB K "KINDS" [.str "numbers", .str "partings", .str "spaces", .str "stretches"]) && (He.valsB K (He.ga K "MOST_OF") [("numbers", .int 1000000000000), ("partings", .int 6), ("spaces", .int 4), ("stretches", .int 20)]) && (He.eqO (PySem.W.nsIn K mainGlobals "gcd") (some (some (.builtin "math.gcd"))))
abbrev R : PySem.W.OpenRow := PySem.W.OpenLaw.row PySem.Challenge.rw_bothandall_k79_whole_partings_and_spaces
abbrev hk : PySem.W.Hook := He.hookX 4 fa fn ts [] ex
def ob (s : PySem.W.SharedT) : He.AlX := He.obsX 4 fa fn ts [] ex (HandSHeadRun.getT s)
theorem ob_eq (s : PySem.W.SharedT) : ob s = hk.obs s.abs := He.obsX_eq (HandSHeadRun.getT_eq s)
theorem run1 (w : World) : HandSHeadRun.RunEqI R (PySem.W.view R.prog [0, 45]) hk ob 4000 loose (w.withFollow "special-get-raises" false) := by
  unfold HandSHeadRun.RunEqI
  kernel_rfl
theorem run2 (w : World) : HandSHeadRun.RunEqI R (PySem.W.view R.prog [0, 45]) hk ob 4000 loose (w.withFollow "special-get-raises" true) := by
  unfold HandSHeadRun.RunEqI
  kernel_rfl
theorem run (w : World) : HandSHeadRun.RunEqI R (PySem.W.view R.prog [0, 45]) hk ob 4000 loose w := PySem.W.byRow2 "special-get-raises" (P := fun w => HandSHeadRun.RunEqI R (PySem.W.view R.prog [0, 45]) hk ob 4000 loose w) run1 run2 w
end K79
set_option maxHeartbeats 4000000
namespace K79
open PySem PySem.Spec PyProof.Rows L2 DL
abbrev Fact (B : Bs) (x : Str) (st : Stmt) (P : List Str) : Prop := ∃ f fd, FunD B.K x x (defArgs st) (defBody st) (defScope st) [] [] f fd ∧ B.mg x = some (.ref f) ∧ Binds B.K fd P []
theorem chain {B : Bs} (ff : FF B) {aD : Addr} {fD : FuncData} (FD : FnG B.P B.w B.K B.mg B.base CX0 1 aD fD P__law_deck (spDeck B.K)) (hmD : B.mg "_law_deck" = some (.ref aD)) (hkD : PySem.W.keepIn B.K (.ref aD) = true) (hbD : Binds B.K fD P__law_deck [])
    (k__law_draw : Kn B 1 "_law_draw" t__law_draw P__law_draw s_draw) (k_is_stretch_thing : Kn B 1 "is_stretch_thing" t_is_stretch_thing P_is_stretch_thing s_never)
    (h_is_integer : Fact B "is_integer" t_is_integer P_is_integer) (h_is_between : Fact B "is_between" t_is_between P_is_between) (h_are_between : Fact B "are_between" t_are_between P_are_between) (h_is_parting_thing : Fact B "is_parting_thing" t_is_parting_thing P_is_parting_thing) (h_is_space_thing : Fact B "is_space_thing" t_is_space_thing P_is_space_thing) (h_is_thing_value : Fact B "is_thing_value" t_is_thing_value P_is_thing_value) (h_told_anew : Fact B "told_anew" t_told_anew P_told_anew) (h_joined_parting : Fact B "joined_parting" t_joined_parting P_joined_parting) (h_raw_both : Fact B "raw_both" t_raw_both P_raw_both) (h_raw_all : Fact B "raw_all" t_raw_all P_raw_all) (h_raw_within : Fact B "raw_within" t_raw_within P_raw_within) (h_is_size : Fact B "is_size" t_is_size P_is_size) (h_need_kind : Fact B "need_kind" t_need_kind P_need_kind) (h_need_things : Fact B "need_things" t_need_things P_need_things) (h_is_thing : Fact B "is_thing" t_is_thing P_is_thing) (h_both_things : Fact B "both_things" t_both_things P_both_things) (h_all_things : Fact B "all_things" t_all_things P_all_things) (h_is_within_thing : Fact B "is_within_thing" t_is_within_thing P_is_within_thing) (h__law_pick : Fact B "_law_pick" t__law_pick P__law_pick) (h__law_size : Fact B "_law_size" t__law_size P__law_size) (h__law_named : Fact B "_law_named" t__law_named P__law_named) (h__law_sums : Fact B "_law_sums" t__law_sums P__law_sums) (h__law_thing : Fact B "_law_thing" t__law_thing P__law_thing) (h__law_both : Fact B "_law_both" t__law_both P__law_both) (h__law_joined : Fact B "_law_joined" t__law_joined P__law_joined) (h__law_all : Fact B "_law_all" t__law_all P__law_all) (h__law_same : Fact B "_law_same" t__law_same P__law_same) (h__law_are_two_right : Fact B "_law_are_two_right" t__law_are_two_right P__law_are_two_right) (h__law_are_three_right : Fact B "_law_are_three_right" t__law_are_three_right P__law_are_three_right) (h_law : Fact B "law" t_law P_law) : Kn B 9 "law" t_law P_law (s_law B.K) := by
  have k_is_integer : Kn B 1 "is_integer" t_is_integer P_is_integer s_is_integer := by
    obtain ⟨f, fd, F, hm, hb⟩ := h_is_integer
    exact kn_of F sc_is_integer hm hb (d_is_integer ff ) p_is_integer
  have k_is_between : Kn B 2 "is_between" t_is_between P_is_between s_is_between := by
    obtain ⟨f, fd, F, hm, hb⟩ := h_is_between
    exact kn_of F sc_is_between hm hb (d_is_between ff k_is_integer (by decide)) p_is_between
  have k_are_between : Kn B 3 "are_between" t_are_between P_are_between s_are_between := by
    obtain ⟨f, fd, F, hm, hb⟩ := h_are_between
    exact kn_of F sc_are_between hm hb (d_are_between ff k_is_between (by decide)) p_are_between
  have k_is_parting_thing : Kn B 4 "is_parting_thing" t_is_parting_thing P_is_parting_thing s_is_parting_thing := by
    obtain ⟨f, fd, F, hm, hb⟩ := h_is_parting_thing
    exact kn_of F sc_is_parting_thing hm hb (d_is_parting_thing ff k_are_between (by decide)) p_is_parting_thing
  have k_is_space_thing : Kn B 4 "is_space_thing" t_is_space_thing P_is_space_thing s_is_space_thing := by
    obtain ⟨f, fd, F, hm, hb⟩ := h_is_space_thing
    exact kn_of F sc_is_space_thing hm hb (d_is_space_thing ff k_are_between (by decide)) p_is_space_thing
  have k_is_thing_value : Kn B 5 "is_thing_value" t_is_thing_value P_is_thing_value s_is_thing_value := by
    obtain ⟨f, fd, F, hm, hb⟩ := h_is_thing_value
    exact kn_of F sc_is_thing_value hm hb (d_is_thing_value ff k_is_parting_thing (by decide) k_is_space_thing (by decide) k_is_stretch_thing (by decide)) p_is_thing_value
  have k_told_anew : Kn B 1 "told_anew" t_told_anew P_told_anew s_told_anew := by
    obtain ⟨f, fd, F, hm, hb⟩ := h_told_anew
    exact kn_of F sc_told_anew hm hb (d_told_anew ff ) p_told_anew
  have k_joined_parting : Kn B 2 "joined_parting" t_joined_parting P_joined_parting s_joined_parting := by
    obtain ⟨f, fd, F, hm, hb⟩ := h_joined_parting
    exact kn_of F sc_joined_parting hm hb (d_joined_parting ff k_told_anew (by decide)) p_joined_parting
  have k_raw_both : Kn B 2 "raw_both" t_raw_both P_raw_both s_raw_both := by
    obtain ⟨f, fd, F, hm, hb⟩ := h_raw_both
    exact kn_of F sc_raw_both hm hb (d_raw_both ff k_told_anew (by decide)) p_raw_both
  have k_raw_all : Kn B 3 "raw_all" t_raw_all P_raw_all s_raw_all := by
    obtain ⟨f, fd, F, hm, hb⟩ := h_raw_all
    exact kn_of F sc_raw_all hm hb (d_raw_all ff k_joined_parting (by decide)) p_raw_all
  have k_raw_within : Kn B 3 "raw_within" t_raw_within P_raw_within s_raw_within := by
    obtain ⟨f, fd, F, hm, hb⟩ := h_raw_within
    exact kn_of F sc_raw_within hm hb (d_raw_within ff k_raw_both (by decide)) p_raw_within
  have k_is_size : Kn B 2 "is_size" t_is_size P_is_size s_is_size := by
    obtain ⟨f, fd, F, hm, hb⟩ := h_is_size
    exact kn_of F sc_is_size hm hb (d_is_size ff k_is_integer (by decide)) p_is_size
  have k_need_kind : Kn B 3 "need_kind" t_need_kind P_need_kind s_need_kind := by
    obtain ⟨f, fd, F, hm, hb⟩ := h_need_kind
    exact kn_of F sc_need_kind hm hb (d_need_kind ff k_is_size (by decide)) p_need_kind
  have k_need_things : Kn B 6 "need_things" t_need_things P_need_things s_need_things := by
    obtain ⟨f, fd, F, hm, hb⟩ := h_need_things
    exact kn_of F sc_need_things hm hb (d_need_things ff k_need_kind (by decide) k_is_thing_value (by decide)) p_need_things
  have k_is_thing : Kn B 6 "is_thing" t_is_thing P_is_thing s_is_thing := by
    obtain ⟨f, fd, F, hm, hb⟩ := h_is_thing
    exact kn_of F sc_is_thing hm hb (d_is_thing ff k_need_kind (by decide) k_is_thing_value (by decide)) p_is_thing
  have k_both_things : Kn B 7 "both_things" t_both_things P_both_things s_both_things := by
    obtain ⟨f, fd, F, hm, hb⟩ := h_both_things
    exact kn_of F sc_both_things hm hb (d_both_things ff k_need_things (by decide) k_raw_both (by decide)) p_both_things
  have k_all_things : Kn B 7 "all_things" t_all_things P_all_things s_all_things := by
    obtain ⟨f, fd, F, hm, hb⟩ := h_all_things
    exact kn_of F sc_all_things hm hb (d_all_things ff k_need_things (by decide) k_raw_all (by decide)) p_all_things
  have k_is_within_thing : Kn B 7 "is_within_thing" t_is_within_thing P_is_within_thing s_is_within_thing := by
    obtain ⟨f, fd, F, hm, hb⟩ := h_is_within_thing
    exact kn_of F sc_is_within_thing hm hb (d_is_within_thing ff k_need_things (by decide) k_raw_within (by decide)) p_is_within_thing
  have k__law_pick : Kn B 2 "_law_pick" t__law_pick P__law_pick s_pick := by
    obtain ⟨f, fd, F, hm, hb⟩ := h__law_pick
    exact kn_of F sc__law_pick hm hb (d__law_pick ff k__law_draw (by decide)) p__law_pick
  have k__law_size : Kn B 3 "_law_size" t__law_size P__law_size s__law_size := by
    obtain ⟨f, fd, F, hm, hb⟩ := h__law_size
    exact kn_of F sc__law_size hm hb (d__law_size ff k__law_pick (by decide)) p__law_size
  have k__law_named : Kn B 1 "_law_named" t__law_named P__law_named s__law_named := by
    obtain ⟨f, fd, F, hm, hb⟩ := h__law_named
    exact kn_of F sc__law_named hm hb (d__law_named ff ) p__law_named
  have k__law_sums : Kn B 1 "_law_sums" t__law_sums P__law_sums s__law_sums := by
    obtain ⟨f, fd, F, hm, hb⟩ := h__law_sums
    exact kn_of F sc__law_sums hm hb (d__law_sums ff ) p__law_sums
  have k__law_thing : Kn B 2 "_law_thing" t__law_thing P__law_thing s__law_thing := by
    obtain ⟨f, fd, F, hm, hb⟩ := h__law_thing
    exact kn_of F sc__law_thing hm hb (d__law_thing ff k__law_draw (by decide) k__law_named (by decide) k__law_sums (by decide)) p__law_thing
  have k__law_both : Kn B 2 "_law_both" t__law_both P__law_both s__law_both := by
    obtain ⟨f, fd, F, hm, hb⟩ := h__law_both
    exact kn_of F sc__law_both hm hb (d__law_both ff k__law_named (by decide)) p__law_both
  have k__law_joined : Kn B 2 "_law_joined" t__law_joined P__law_joined s__law_joined := by
    obtain ⟨f, fd, F, hm, hb⟩ := h__law_joined
    exact kn_of F sc__law_joined hm hb (d__law_joined ff k__law_named (by decide)) p__law_joined
  have k__law_all : Kn B 3 "_law_all" t__law_all P__law_all s__law_all := by
    obtain ⟨f, fd, F, hm, hb⟩ := h__law_all
    exact kn_of F sc__law_all hm hb (d__law_all ff k__law_joined (by decide) k__law_sums (by decide)) p__law_all
  have k__law_same : Kn B 1 "_law_same" t__law_same P__law_same s__law_same := by
    obtain ⟨f, fd, F, hm, hb⟩ := h__law_same
    exact kn_of F sc__law_same hm hb (d__law_same ff ) p__law_same
  have k__law_are_two_right : Kn B 8 "_law_are_two_right" t__law_are_two_right P__law_are_two_right s__law_are_two_right := by
    obtain ⟨f, fd, F, hm, hb⟩ := h__law_are_two_right
    exact kn_of F sc__law_are_two_right hm hb (d__law_are_two_right ff k__law_both (by decide) k__law_all (by decide) k_both_things (by decide) k__law_same (by decide) k_all_things (by decide) k_is_thing (by decide) k_is_within_thing (by decide)) p__law_are_two_right
  have k__law_are_three_right : Kn B 8 "_law_are_three_right" t__law_are_three_right P__law_are_three_right s__law_are_three_right := by
    obtain ⟨f, fd, F, hm, hb⟩ := h__law_are_three_right
    exact kn_of F sc__law_are_three_right hm hb (d__law_are_three_right ff k_both_things (by decide) k__law_same (by decide) k_all_things (by decide) k_is_within_thing (by decide)) p__law_are_three_right
  have k_law : Kn B 9 "law" t_law P_law (s_law B.K) := by
    obtain ⟨f, fd, F, hm, hb⟩ := h_law
    exact kn_of F sc_law hm hb (d_law ff FD hmD hkD hbD (by decide) k__law_pick (by decide) k__law_size (by decide) k__law_thing (by decide) k__law_draw (by decide) k__law_all (by decide) k__law_both (by decide) k__law_are_two_right (by decide) k__law_are_three_right (by decide)) (p_law B.K)
  exact k_law
end K79
set_option maxHeartbeats 4000000
namespace K79
open PySem PySem.Spec PyProof.Rows L2 DL
theorem rp_lits {K : PySem.W.Frag} {F : Hp} : ∀ xs : List Str, RpL K F ((xs.map He.Dv.str).map (He.Dv.v K)) (xs.map D.str)
  | [] => .nil
  | x :: xs => .cons (.str x) (rp_lits xs)
def dvD : He.Dv → Option D
  | .int i => some (.int i)
  | .str x => some (.str x)
  | _ => none
theorem dv_rp {K : PySem.W.Frag} {F : Hp} {v : He.Dv} {d : D} (h : dvD v = some d) : Rp K F (v.v K) d := by
  cases v <;> simp only [dvD] at h <;> cases h
  · exact .int _
  · exact .str _
def dvAll : List (Str × He.Dv) → Option (List (Str × D))
  | [] => some []
  | (k, v) :: r => match dvD v, dvAll r with
    | some d, some r => some ((k, d) :: r)
    | _, _ => none
theorem dvAll_look : ∀ {kvs : List (Str × He.Dv)} {kds : List (Str × D)}, dvAll kvs = some kds → ∀ k z, kds.lookup k = some z → ∃ v, (k, v) ∈ kvs ∧ dvD v = some z
  | [], _, h, k, z, e => by cases h; cases e
  | (k0, v0) :: r, kds, h, k, z, e => by
    unfold dvAll at h
    cases e1 : dvD v0 with
    | none => rw [e1] at h; cases h
    | some d =>
      cases e2 : dvAll r with
      | none => rw [e1, e2] at h; cases h
      | some r' =>
        rw [e1, e2] at h
        cases h
        rw [List.lookup_cons] at e
        by_cases q : k = k0
        · subst q
          rw [beq_self_eq_true] at e
          cases e
          exact ⟨v0, List.mem_cons_self, e1⟩
        · rw [show (k == k0) = false from beq_eq_false_iff_ne.mpr q] at e
          obtain ⟨v, h1, h2⟩ := dvAll_look e2 k z e
          exact ⟨v, List.mem_cons_of_mem _ h1, h2⟩
theorem gtab_of {B : Bs} {x : Str} {kvs : List (Str × He.Dv)} {kds : List (Str × D)} (hm : B.mg x = some (.ref (He.ga B.K x))) (ht : ∃ es n, KDict B.K B.w (He.ga B.K x) es n) (hv : He.valsB B.K (He.ga B.K x) kvs = true) (e : dvAll kvs = some kds) : GTab B x kds := by
  refine ⟨_, hm, fun k z hz => ?_⟩
  obtain ⟨v, h1, h2⟩ := dvAll_look e k z hz
  obtain ⟨es, n, hk⟩ := ht
  obtain ⟨u, h3, h4⟩ := He.valsB_ok hv h1
  exact ⟨v.v B.K, ⟨es, n, u, hk.at_, hk.lit, h3, h4⟩, dv_rp h2⟩
theorem chained {P : Program} {w : World} {K : PySem.W.Frag} {h : Heap} {mg : Str → Option Value} {base : Heap} (X : K.In h) (G : h.Ns mainGlobals mg) (c : He.SaysX fa fn ts [] ex w h K) : Kn ⟨P, w, K, mg, base⟩ 9 "law" t_law P_law (s_law K) := by
  have ff : FF ⟨P, w, K, mg, base⟩ := ⟨He.free_ok X G (c.t.d.fact 36 (f := .free "all") rfl), He.free_ok X G (c.t.d.fact 37 (f := .free "bool") rfl), gtab_of (He.glo_ok X G (c.t.d.fact 35 (f := .glo "MOST_OF") rfl)) (c.t.tab 0 rfl) ((He.ba (He.ba c.more).1).2) rfl, He.free_ok X G (c.t.d.fact 38 (f := .free "enumerate") rfl), He.free_ok X G (c.t.d.fact 39 (f := .free "int") rfl), He.free_ok X G (c.t.d.fact 40 (f := .free "isinstance") rfl), He.free_ok X G (c.t.d.fact 41 (f := .free "len") rfl), He.free_ok X G (c.t.d.fact 42 (f := .free "list") rfl), He.free_ok X G (c.t.d.fact 43 (f := .free "max") rfl), He.free_ok X G (c.t.d.fact 44 (f := .free "min") rfl), He.free_ok X G (c.t.d.fact 45 (f := .free "range") rfl), He.free_ok X G (c.t.d.fact 46 (f := .free "repr") rfl), He.free_ok X G (c.t.d.fact 47 (f := .free "set") rfl), He.free_ok X G (c.t.d.fact 48 (f := .free "sorted") rfl), He.free_ok X G (c.t.d.fact 49 (f := .free "str") rfl), ⟨_, _, He.glo_ok X G (c.t.d.fact 34 (f := .glo "KINDS") rfl), He.tupB_ok ((He.ba (He.ba c.more).1).1), rp_lits ["numbers", "partings", "spaces", "stretches"]⟩, He.free_ok X G (c.t.d.fact 50 (f := .free "tuple") rfl), He.free_ok X G (c.t.d.fact 51 (f := .free "zip") rfl)⟩
  have h_is_integer : Fact ⟨P, w, K, mg, base⟩ "is_integer" t_is_integer P_is_integer := by
    obtain ⟨fd, F⟩ := c.t.d.def_ 0 (d := dd "is_integer" 7) rfl
    exact ⟨_, fd, F, He.glo_ok X G (c.t.d.fact 0 (f := .glo "is_integer") rfl), F.bindsN fun _ _ _ _ _ _ us hl => match us, hl with | [_], _ => rfl⟩
  have h_is_between : Fact ⟨P, w, K, mg, base⟩ "is_between" t_is_between P_is_between := by
    obtain ⟨fd, F⟩ := c.t.d.def_ 1 (d := dd "is_between" 8) rfl
    exact ⟨_, fd, F, He.glo_ok X G (c.t.d.fact 1 (f := .glo "is_between") rfl), F.bindsN fun _ _ _ _ _ _ us hl => match us, hl with | [_, _, _], _ => rfl⟩
  have h_are_between : Fact ⟨P, w, K, mg, base⟩ "are_between" t_are_between P_are_between := by
    obtain ⟨fd, F⟩ := c.t.d.def_ 2 (d := dd "are_between" 9) rfl
    exact ⟨_, fd, F, He.glo_ok X G (c.t.d.fact 2 (f := .glo "are_between") rfl), F.bindsN fun _ _ _ _ _ _ us hl => match us, hl with | [_, _, _], _ => rfl⟩
  have h_is_parting_thing : Fact ⟨P, w, K, mg, base⟩ "is_parting_thing" t_is_parting_thing P_is_parting_thing := by
    obtain ⟨fd, F⟩ := c.t.d.def_ 4 (d := dd "is_parting_thing" 14) rfl
    exact ⟨_, fd, F, He.glo_ok X G (c.t.d.fact 4 (f := .glo "is_parting_thing") rfl), F.bindsN fun _ _ _ _ _ _ us hl => match us, hl with | [_, _], _ => rfl⟩
  have h_is_space_thing : Fact ⟨P, w, K, mg, base⟩ "is_space_thing" t_is_space_thing P_is_space_thing := by
    obtain ⟨fd, F⟩ := c.t.d.def_ 5 (d := dd "is_space_thing" 15) rfl
    exact ⟨_, fd, F, He.glo_ok X G (c.t.d.fact 5 (f := .glo "is_space_thing") rfl), F.bindsN fun _ _ _ _ _ _ us hl => match us, hl with | [_, _], _ => rfl⟩
  have h_is_thing_value : Fact ⟨P, w, K, mg, base⟩ "is_thing_value" t_is_thing_value P_is_thing_value := by
    obtain ⟨fd, F⟩ := c.t.d.def_ 7 (d := dd "is_thing_value" 17) rfl
    exact ⟨_, fd, F, He.glo_ok X G (c.t.d.fact 7 (f := .glo "is_thing_value") rfl), F.bindsN fun _ _ _ _ _ _ us hl => match us, hl with | [_, _, _], _ => rfl⟩
  have h_told_anew : Fact ⟨P, w, K, mg, base⟩ "told_anew" t_told_anew P_told_anew := by
    obtain ⟨fd, F⟩ := c.t.d.def_ 8 (d := dd "told_anew" 18) rfl
    exact ⟨_, fd, F, He.glo_ok X G (c.t.d.fact 8 (f := .glo "told_anew") rfl), F.bindsN fun _ _ _ _ _ _ us hl => match us, hl with | [_], _ => rfl⟩
  have h_joined_parting : Fact ⟨P, w, K, mg, base⟩ "joined_parting" t_joined_parting P_joined_parting := by
    obtain ⟨fd, F⟩ := c.t.d.def_ 9 (d := dd "joined_parting" 19) rfl
    exact ⟨_, fd, F, He.glo_ok X G (c.t.d.fact 9 (f := .glo "joined_parting") rfl), F.bindsN fun _ _ _ _ _ _ us hl => match us, hl with | [_, _], _ => rfl⟩
  have h_raw_both : Fact ⟨P, w, K, mg, base⟩ "raw_both" t_raw_both P_raw_both := by
    obtain ⟨fd, F⟩ := c.t.d.def_ 10 (d := dd "raw_both" 20) rfl
    exact ⟨_, fd, F, He.glo_ok X G (c.t.d.fact 10 (f := .glo "raw_both") rfl), F.bindsN fun _ _ _ _ _ _ us hl => match us, hl with | [_, _, _], _ => rfl⟩
  have h_raw_all : Fact ⟨P, w, K, mg, base⟩ "raw_all" t_raw_all P_raw_all := by
    obtain ⟨fd, F⟩ := c.t.d.def_ 11 (d := dd "raw_all" 21) rfl
    exact ⟨_, fd, F, He.glo_ok X G (c.t.d.fact 11 (f := .glo "raw_all") rfl), F.bindsN fun _ _ _ _ _ _ us hl => match us, hl with | [_, _, _], _ => rfl⟩
  have h_raw_within : Fact ⟨P, w, K, mg, base⟩ "raw_within" t_raw_within P_raw_within := by
    obtain ⟨fd, F⟩ := c.t.d.def_ 12 (d := dd "raw_within" 22) rfl
    exact ⟨_, fd, F, He.glo_ok X G (c.t.d.fact 12 (f := .glo "raw_within") rfl), F.bindsN fun _ _ _ _ _ _ us hl => match us, hl with | [_, _, _], _ => rfl⟩
  have h_is_size : Fact ⟨P, w, K, mg, base⟩ "is_size" t_is_size P_is_size := by
    obtain ⟨fd, F⟩ := c.t.d.def_ 13 (d := dd "is_size" 23) rfl
    exact ⟨_, fd, F, He.glo_ok X G (c.t.d.fact 13 (f := .glo "is_size") rfl), F.bindsN fun _ _ _ _ _ _ us hl => match us, hl with | [_, _], _ => rfl⟩
  have h_need_kind : Fact ⟨P, w, K, mg, base⟩ "need_kind" t_need_kind P_need_kind := by
    obtain ⟨fd, F⟩ := c.t.d.def_ 14 (d := dd "need_kind" 25) rfl
    exact ⟨_, fd, F, He.glo_ok X G (c.t.d.fact 14 (f := .glo "need_kind") rfl), F.bindsN fun _ _ _ _ _ _ us hl => match us, hl with | [_, _], _ => rfl⟩
  have h_need_things : Fact ⟨P, w, K, mg, base⟩ "need_things" t_need_things P_need_things := by
    obtain ⟨fd, F⟩ := c.t.d.def_ 15 (d := dd "need_things" 26) rfl
    exact ⟨_, fd, F, He.glo_ok X G (c.t.d.fact 15 (f := .glo "need_things") rfl), F.bindsN fun _ _ _ _ _ _ us hl => match us, hl with | [_, _, _], _ => rfl⟩
  have h_is_thing : Fact ⟨P, w, K, mg, base⟩ "is_thing" t_is_thing P_is_thing := by
    obtain ⟨fd, F⟩ := c.t.d.def_ 16 (d := dd "is_thing" 27) rfl
    exact ⟨_, fd, F, He.glo_ok X G (c.t.d.fact 16 (f := .glo "is_thing") rfl), F.bindsN fun _ _ _ _ _ _ us hl => match us, hl with | [_, _, _], _ => rfl⟩
  have h_both_things : Fact ⟨P, w, K, mg, base⟩ "both_things" t_both_things P_both_things := by
    obtain ⟨fd, F⟩ := c.t.d.def_ 17 (d := dd "both_things" 28) rfl
    exact ⟨_, fd, F, He.glo_ok X G (c.t.d.fact 17 (f := .glo "both_things") rfl), F.bindsN fun _ _ _ _ _ _ us hl => match us, hl with | [_, _, _, _], _ => rfl⟩
  have h_all_things : Fact ⟨P, w, K, mg, base⟩ "all_things" t_all_things P_all_things := by
    obtain ⟨fd, F⟩ := c.t.d.def_ 18 (d := dd "all_things" 29) rfl
    exact ⟨_, fd, F, He.glo_ok X G (c.t.d.fact 18 (f := .glo "all_things") rfl), F.bindsN fun _ _ _ _ _ _ us hl => match us, hl with | [_, _, _, _], _ => rfl⟩
  have h_is_within_thing : Fact ⟨P, w, K, mg, base⟩ "is_within_thing" t_is_within_thing P_is_within_thing := by
    obtain ⟨fd, F⟩ := c.t.d.def_ 19 (d := dd "is_within_thing" 30) rfl
    exact ⟨_, fd, F, He.glo_ok X G (c.t.d.fact 19 (f := .glo "is_within_thing") rfl), F.bindsN fun _ _ _ _ _ _ us hl => match us, hl with | [_, _, _, _], _ => rfl⟩
  have h__law_pick : Fact ⟨P, w, K, mg, base⟩ "_law_pick" t__law_pick P__law_pick := by
    obtain ⟨fd, F⟩ := c.t.d.def_ 22 (d := dd "_law_pick" 34) rfl
    exact ⟨_, fd, F, He.glo_ok X G (c.t.d.fact 22 (f := .glo "_law_pick") rfl), F.bindsN fun _ _ _ _ _ _ us hl => match us, hl with | [_, _], _ => rfl⟩
  have h__law_size : Fact ⟨P, w, K, mg, base⟩ "_law_size" t__law_size P__law_size := by
    obtain ⟨fd, F⟩ := c.t.d.def_ 23 (d := dd "_law_size" 35) rfl
    exact ⟨_, fd, F, He.glo_ok X G (c.t.d.fact 23 (f := .glo "_law_size") rfl), F.bindsN fun _ _ _ _ _ _ us hl => match us, hl with | [_, _], _ => rfl⟩
  have h__law_named : Fact ⟨P, w, K, mg, base⟩ "_law_named" t__law_named P__law_named := by
    obtain ⟨fd, F⟩ := c.t.d.def_ 24 (d := dd "_law_named" 36) rfl
    exact ⟨_, fd, F, He.glo_ok X G (c.t.d.fact 24 (f := .glo "_law_named") rfl), F.bindsN fun _ _ _ _ _ _ us hl => match us, hl with | [_], _ => rfl⟩
  have h__law_sums : Fact ⟨P, w, K, mg, base⟩ "_law_sums" t__law_sums P__law_sums := by
    obtain ⟨fd, F⟩ := c.t.d.def_ 25 (d := dd "_law_sums" 37) rfl
    exact ⟨_, fd, F, He.glo_ok X G (c.t.d.fact 25 (f := .glo "_law_sums") rfl), F.bindsN fun _ _ _ _ _ _ us hl => match us, hl with | [_, _], _ => rfl⟩
  have h__law_thing : Fact ⟨P, w, K, mg, base⟩ "_law_thing" t__law_thing P__law_thing := by
    obtain ⟨fd, F⟩ := c.t.d.def_ 26 (d := dd "_law_thing" 38) rfl
    exact ⟨_, fd, F, He.glo_ok X G (c.t.d.fact 26 (f := .glo "_law_thing") rfl), F.bindsN fun _ _ _ _ _ _ us hl => match us, hl with | [_, _, _], _ => rfl⟩
  have h__law_both : Fact ⟨P, w, K, mg, base⟩ "_law_both" t__law_both P__law_both := by
    obtain ⟨fd, F⟩ := c.t.d.def_ 27 (d := dd "_law_both" 39) rfl
    exact ⟨_, fd, F, He.glo_ok X G (c.t.d.fact 27 (f := .glo "_law_both") rfl), F.bindsN fun _ _ _ _ _ _ us hl => match us, hl with | [_, _, _], _ => rfl⟩
  have h__law_joined : Fact ⟨P, w, K, mg, base⟩ "_law_joined" t__law_joined P__law_joined := by
    obtain ⟨fd, F⟩ := c.t.d.def_ 28 (d := dd "_law_joined" 40) rfl
    exact ⟨_, fd, F, He.glo_ok X G (c.t.d.fact 28 (f := .glo "_law_joined") rfl), F.bindsN fun _ _ _ _ _ _ us hl => match us, hl with | [_, _], _ => rfl⟩
  have h__law_all : Fact ⟨P, w, K, mg, base⟩ "_law_all" t__law_all P__law_all := by
    obtain ⟨fd, F⟩ := c.t.d.def_ 29 (d := dd "_law_all" 41) rfl
    exact ⟨_, fd, F, He.glo_ok X G (c.t.d.fact 29 (f := .glo "_law_all") rfl), F.bindsN fun _ _ _ _ _ _ us hl => match us, hl with | [_, _, _], _ => rfl⟩
  have h__law_same : Fact ⟨P, w, K, mg, base⟩ "_law_same" t__law_same P__law_same := by
    obtain ⟨fd, F⟩ := c.t.d.def_ 30 (d := dd "_law_same" 42) rfl
    exact ⟨_, fd, F, He.glo_ok X G (c.t.d.fact 30 (f := .glo "_law_same") rfl), F.bindsN fun _ _ _ _ _ _ us hl => match us, hl with | [_, _], _ => rfl⟩
  have h__law_are_two_right : Fact ⟨P, w, K, mg, base⟩ "_law_are_two_right" t__law_are_two_right P__law_are_two_right := by
    obtain ⟨fd, F⟩ := c.t.d.def_ 31 (d := dd "_law_are_two_right" 43) rfl
    exact ⟨_, fd, F, He.glo_ok X G (c.t.d.fact 31 (f := .glo "_law_are_two_right") rfl), F.bindsN fun _ _ _ _ _ _ us hl => match us, hl with | [_, _, _, _], _ => rfl⟩
  have h__law_are_three_right : Fact ⟨P, w, K, mg, base⟩ "_law_are_three_right" t__law_are_three_right P__law_are_three_right := by
    obtain ⟨fd, F⟩ := c.t.d.def_ 32 (d := dd "_law_are_three_right" 44) rfl
    exact ⟨_, fd, F, He.glo_ok X G (c.t.d.fact 32 (f := .glo "_law_are_three_right") rfl), F.bindsN fun _ _ _ _ _ _ us hl => match us, hl with | [_, _, _, _, _], _ => rfl⟩
  have h_law : Fact ⟨P, w, K, mg, base⟩ "law" t_law P_law := by
    obtain ⟨fd, F⟩ := c.t.d.def_ 33 (d := dd "law" 45) rfl
    exact ⟨_, fd, F, He.glo_ok X G (c.t.d.fact 33 (f := .glo "law") rfl), F.bindsN fun _ _ _ _ _ _ us hl => match us, hl with | [_], _ => rfl⟩
  obtain ⟨fd__law_draw, F__law_draw⟩ := c.t.d.def_ 21 (d := dd "_law_draw" 33) rfl
  have m__law_draw := He.glo_ok X G (c.t.d.fact 21 (f := .glo "_law_draw") rfl)
  have b__law_draw : Binds K fd__law_draw P__law_draw [] := F__law_draw.bindsN fun _ _ _ _ _ _ us hl => match us, hl with | [_, _], _ => rfl
  obtain ⟨fd__law_deck, F__law_deck⟩ := c.t.d.def_ 20 (d := dd "_law_deck" 32) rfl
  have m__law_deck := He.glo_ok X G (c.t.d.fact 20 (f := .glo "_law_deck") rfl)
  have b__law_deck : Binds K fd__law_deck P__law_deck [] := F__law_deck.bindsN fun _ _ _ _ _ _ us hl => match us, hl with | [_], _ => rfl
  obtain ⟨fd_is_stretch_thing, F_is_stretch_thing⟩ := c.t.d.def_ 6 (d := dd "is_stretch_thing" 16) rfl
  have m_is_stretch_thing := He.glo_ok X G (c.t.d.fact 6 (f := .glo "is_stretch_thing") rfl)
  have b_is_stretch_thing : Binds K fd_is_stretch_thing P_is_stretch_thing [] := F_is_stretch_thing.bindsN fun _ _ _ _ _ _ us hl => match us, hl with | [_, _], _ => rfl
  have k_is_stretch_thing : Kn ⟨P, w, K, mg, base⟩ 1 "is_stretch_thing" t_is_stretch_thing P_is_stretch_thing s_never := kn_raw (k := 0) F_is_stretch_thing sc_is_stretch_thing m_is_stretch_thing b_is_stretch_thing (fun _ _ _ z => z.elim) fun _ _ _ _ _ _ ⟨_, _, _, _, _, _, _, _, z, _⟩ => z.elim
  have k_dr := kn_draw (B := ⟨P, w, K, mg, base⟩) ff.f_max ff.f_int (k := 0) F__law_draw m__law_draw b__law_draw
  have k_de := kn_deck (B := ⟨P, w, K, mg, base⟩) ff.f_int (k := 0) F__law_deck
  exact chain ff k_de m__law_deck F__law_deck.kp b__law_deck k_dr k_is_stretch_thing h_is_integer h_is_between h_are_between h_is_parting_thing h_is_space_thing h_is_thing_value h_told_anew h_joined_parting h_raw_both h_raw_all h_raw_within h_is_size h_need_kind h_need_things h_is_thing h_both_things h_all_things h_is_within_thing h__law_pick h__law_size h__law_named h__law_sums h__law_thing h__law_both h__law_joined h__law_all h__law_same h__law_are_two_right h__law_are_three_right h_law
abbrev spL (K : PySem.W.Frag) : Sp := spV K (s_law K)
theorem fd_eq {K : PySem.W.Frag} {x q : Str} {a : Arguments} {b : List Stmt} {s : Scope} {f : Addr} {fd fd' : FuncData} (F : FunD K x q a b s [] [] f fd) (F' : FunD K x q a b s [] [] f fd') : fd = fd' := by
  obtain ⟨_, _, _, _, _, _, _, _, _, _, _, lk, _⟩ := F.ex
  obtain ⟨_, _, _, _, _, _, _, _, _, _, _, lk', _⟩ := F'.ex
  have e := lk.symm.trans lk'
  injection e with e
  injection e with _ _ e _
  injection e
theorem facts {P : Program} {w : World} {K : PySem.W.Frag} {h : Heap} {mg : Str → Option Value} {f : Addr} (X : K.In h) (G : h.Ns mainGlobals mg) (hfa : mg ("law" : Str) = some (.ref f)) (c : He.SaysX fa fn ts [] ex w h K) :
    ∃ fd : FuncData, (∀ (s : Shared) (v : Value), BindsTo s fd ⟨[v], []⟩ [("_law_script", v)]) ∧ ∀ base : Heap, K.In base → base.Ns mainGlobals mg → FnG P w K mg base CX0 9 f fd ["_law_script"] (spL K) := by
  obtain ⟨fd, F⟩ := c.t.d.def_ 33 (d := dd "law" 45) rfl
  have e := hfa.symm.trans (He.glo_ok X G (c.t.d.fact 33 (f := .glo "law") rfl))
  cases e
  have b := FunD.bindsA (ps := ["_law_script"]) F fun _ _ _ _ _ _ us hl => match us, hl with | [_], _ => rfl
  refine ⟨fd, fun s v => b s [v] rfl, fun base _ _ => ?_⟩
  obtain ⟨f0, fd0, F0, hm, FD, hb⟩ := (chained (P := P) (w := w) (base := base) X G c).ex
  have e1 := hfa.symm.trans hm
  cases e1
  have e2 := fd_eq F FD
  subst e2
  exact F0
end K79
set_option maxHeartbeats 0
open PySem PySem.W PySem.Calls PyProof.Rows
theorem PySem.Challenge.cw_bothandall_k79_whole_partings_and_spaces_holds : PySem.Challenge.rw_bothandall_k79_whole_partings_and_spaces.Holds := by
  w_on; o_law
  refine HandSHeadRun.head_imp (r := OpenLaw.row PySem.Challenge.rw_bothandall_k79_whole_partings_and_spaces) (q := view (OpenLaw.row PySem.Challenge.rw_bothandall_k79_whole_partings_and_spaces).prog [0, 45]) (H := K79.hk) (ob := K79.ob) (M := 4000) (loose := K79.loose) (d := HandSHeadRun.topDef (OpenLaw.row PySem.Challenge.rw_bothandall_k79_whole_partings_and_spaces).prog 45) (kwd := []) K79.ob_eq K79.run
    (by kernel_rfl) (by kernel_rfl) (by kernel_rfl) (by rfl) (by first | assumption | decide +kernel) (by decide +kernel) ⟨rfl, rfl, rfl, rfl, rfl, by decide +kernel⟩ ?hw ?hc
  case hw => w_witness2
  case hc =>
    refine DL.walk_ofG (l := PySem.Challenge.rw_bothandall_k79_whole_partings_and_spaces) (n := 63) (k := 9) (x := "_law_script") (CX := L2.CX0) rfl (by decide) (by kernel_rfl) ⟨rfl, by decide, by decide⟩ ?F (fun _ _ _ _ z => z)
    intro w mg fa h Y G hmg0
    obtain ⟨K, KX, c⟩ := Y
    have hmg : mg ("law" : PySem.Str) = some (.ref fa) := by
      have e : (HandSHeadRun.topDef (OpenLaw.row PySem.Challenge.rw_bothandall_k79_whole_partings_and_spaces).prog 45).name = ("law" : PySem.Str) := by kernel_rfl
      rw [← e]
      exact hmg0
    obtain ⟨fd, hb, hF⟩ := K79.facts (P := (PySem.Challenge.rw_bothandall_k79_whole_partings_and_spaces).prog) (w := w) KX G hmg c
    refine ⟨K, fd, K79.spL K, KX, hb, fun H a ns hl _ hS => ?_, hF⟩
    obtain ⟨G0, gw, gR, gs⟩ := DL.script_gc hS
    exact ⟨G0, DL.noHp, [.ob a], fun sv => sv = .fz (.bl true), DL.noHp_same, fun _ _ => rfl, gw, .cons (.ob a) .nil, ⟨a, ns, rfl, hl, gs, rfl⟩, fun v H' F' sv _ _ _ _ _ r e => by subst e; cases r; rfl⟩
