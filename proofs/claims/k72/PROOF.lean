import PyProof.Rows.All
import Wide.All
import OpenK.AllK
import Wide.FinOn
import KE.KStateDown
import HandS.ForMost
import HandS.Zip
import HandS.Conv
import HandS.Strs
import HandS.IsInst
import HandS.Deep
import HandS.TupAny
import HandS.Style
import HandS.Flow
import HandS.Wide
import HandS.Defaults
import HandS.SetFor
import KE.SortData
import PyProof.Transfer
import PyProof.Rows.NestShow
import HandS.SortInts
import HandS.TupMul
import HandS.TupSets
import OpenK.KMore
import PyProof.ReprRoads
import HandS.Small
import KE.KRevSl
import KE.KDictZip
import PySem.Challenge.RW_bothandall_k72_any_values_as_certificate
import HandS.Head0
import HandS.Head1
import HandS.Head2
import HandS.Head3
import HandS.HeadEnd
import HandS.HeadHook1
import HandS.HeadHook2
import HandS.HeadHook3
import HandS.HeadHook4
set_option Elab.async false
set_option linter.all false
set_option maxRecDepth 100000
set_option maxHeartbeats 4000000
namespace DL
open PySem PySem.Spec PyProof.Rows L2
abbrev St := L2.St

/-! ### data -/
inductive D where
  | non
  | bl (b : Bool)
  | int (i : Int)
  | str (s : Str)
  | tup (xs : List D)
  | lst (xs : List D)
  | dic (kvs : List (Key × D))
  | ob (a : Addr)

mutual
inductive Rp (K : PySem.W.Frag) (F : Hp) : V → D → Prop
  | non : Rp K F .non .non
  | bl (b : Bool) : Rp K F (.bl b) (.bl b)
  | int (i : Int) : Rp K F (.int i) (.int i)
  | str (x : Str) : Rp K F (.str x) (.str x)
  | tup {a : Addr} {vs : List V} {ds : List D} : SqT K F a vs → RpL K F vs ds → Rp K F (.ref a) (.tup ds)
  | lst {a : Addr} {vs : List V} {ds : List D} : F a = some (.lst vs) → RpL K F vs ds → Rp K F (.ref a) (.lst ds)
  | dic {a : Addr} {kvs : List (Key × V)} {kds : List (Key × D)} : F a = some (.dK kvs) → RpK K F kvs kds → Rp K F (.ref a) (.dic kds)
  | ob (a : Addr) : Rp K F (.ref a) (.ob a)
inductive RpL (K : PySem.W.Frag) (F : Hp) : List V → List D → Prop
  | nil : RpL K F [] []
  | cons {v : V} {vs : List V} {d : D} {ds : List D} : Rp K F v d → RpL K F vs ds → RpL K F (v :: vs) (d :: ds)
inductive RpK (K : PySem.W.Frag) (F : Hp) : List (Key × V) → List (Key × D) → Prop
  | nil : RpK K F [] []
  | cons {k : Key} {v : V} {vs : List (Key × V)} {d : D} {ds : List (Key × D)} : Rp K F v d → RpK K F vs ds → RpK K F ((k, v) :: vs) ((k, d) :: ds)
end

section
variable {K : PySem.W.Frag} {F F' : Hp}
theorem Same.sqt {a : Addr} {xs : List V} (e : Same F F') (h : SqT K F a xs) : SqT K F' a xs := by
  rcases h with (h | ⟨o, h⟩) | h
  · exact .inl (.inl (e _ _ h))
  · exact .inl (.inr ⟨o, e _ _ h⟩)
  · exact .inr h
mutual
theorem Rp.mono (e : Same F F') : ∀ {v : V} {d : D}, Rp K F v d → Rp K F' v d
  | _, _, .non => .non
  | _, _, .bl b => .bl b
  | _, _, .int i => .int i
  | _, _, .str x => .str x
  | _, _, .tup h r => .tup (Same.sqt e h) (RpL.mono e r)
  | _, _, .lst h r => .lst (e _ _ h) (RpL.mono e r)
  | _, _, .dic h r => .dic (e _ _ h) (RpK.mono e r)
  | _, _, .ob a => .ob a
theorem RpL.mono (e : Same F F') : ∀ {vs : List V} {ds : List D}, RpL K F vs ds → RpL K F' vs ds
  | _, _, .nil => .nil
  | _, _, .cons h r => .cons (Rp.mono e h) (RpL.mono e r)
theorem RpK.mono (e : Same F F') : ∀ {vs : List (Key × V)} {ds : List (Key × D)}, RpK K F vs ds → RpK K F' vs ds
  | _, _, .nil => .nil
  | _, _, .cons h r => .cons (Rp.mono e h) (RpK.mono e r)
end
theorem RpL.len : ∀ {vs : List V} {ds : List D}, RpL K F vs ds → vs.length = ds.length
  | _, _, .nil => rfl
  | _, _, .cons _ r => by rw [List.length_cons, List.length_cons, RpL.len r]
theorem RpL.append : ∀ {vs us : List V} {ds es : List D}, RpL K F vs ds → RpL K F us es → RpL K F (vs ++ us) (ds ++ es)
  | _, _, _, _, .nil, r => r
  | _, _, _, _, .cons h r, r' => .cons h (RpL.append r r')
theorem RpL.get : ∀ {vs : List V} {ds : List D} {i : Nat} {d : D}, RpL K F vs ds → ds[i]? = some d → ∃ v, vs[i]? = some v ∧ Rp K F v d
  | _, _, _, _, .nil, e => by simp at e
  | _, _, 0, _, .cons h _, e => by simp at e; subst e; exact ⟨_, rfl, h⟩
  | _, _, i + 1, d, .cons _ r, e => by
    obtain ⟨v, h1, h2⟩ := RpL.get (i := i) (d := d) r (by simpa using e)
    exact ⟨v, by simpa using h1, h2⟩
theorem RpL.getV : ∀ {vs : List V} {ds : List D} {i : Nat} {v : V}, RpL K F vs ds → vs[i]? = some v → ∃ d, ds[i]? = some d ∧ Rp K F v d
  | _, _, _, _, .nil, e => by simp at e
  | _, _, 0, _, .cons h _, e => by simp at e; subst e; exact ⟨_, rfl, h⟩
  | _, _, i + 1, v, .cons _ r, e => by
    obtain ⟨d, h1, h2⟩ := RpL.getV (i := i) (v := v) r (by simpa using e)
    exact ⟨d, by simpa using h1, h2⟩
theorem RpL.set {v : V} {d : D} (h : Rp K F v d) : ∀ {vs : List V} {ds : List D} (i : Nat), RpL K F vs ds → RpL K F (vs.set i v) (ds.set i d)
  | _, _, _, .nil => .nil
  | _, _, 0, .cons _ r => .cons h r
  | _, _, i + 1, .cons q r => .cons q (RpL.set h i r)
theorem RpL.take : ∀ {vs : List V} {ds : List D} (n : Nat), RpL K F vs ds → RpL K F (vs.take n) (ds.take n)
  | _, _, 0, _ => .nil
  | _, _, _ + 1, .nil => .nil
  | _, _, n + 1, .cons h r => .cons h (RpL.take n r)
theorem RpL.drop : ∀ {vs : List V} {ds : List D} (n : Nat), RpL K F vs ds → RpL K F (vs.drop n) (ds.drop n)
  | _, _, 0, r => r
  | _, _, _ + 1, .nil => .nil
  | _, _, n + 1, .cons _ r => RpL.drop n r
theorem RpL.dropLast : ∀ {vs : List V} {ds : List D}, RpL K F vs ds → RpL K F vs.dropLast ds.dropLast := fun {vs ds} r => by
  rw [List.dropLast_eq_take, List.dropLast_eq_take, r.len]
  exact r.take _
theorem RpL.eraseIdx : ∀ {vs : List V} {ds : List D} (i : Nat), RpL K F vs ds → RpL K F (vs.eraseIdx i) (ds.eraseIdx i)
  | _, _, _, .nil => .nil
  | _, _, 0, .cons _ r => r
  | _, _, i + 1, .cons h r => .cons h (RpL.eraseIdx i r)
theorem RpL.reverse : ∀ {vs : List V} {ds : List D}, RpL K F vs ds → RpL K F vs.reverse ds.reverse
  | _, _, .nil => .nil
  | _, _, .cons h r => by
    rw [List.reverse_cons, List.reverse_cons]
    exact RpL.append (RpL.reverse r) (.cons h .nil)
theorem RpL.rep {vs : List V} {ds : List D} (h : RpL K F vs ds) : ∀ k : Nat, RpL K F (List.replicate k vs).flatten (List.replicate k ds).flatten
  | 0 => .nil
  | k + 1 => by
    rw [List.replicate_succ, List.replicate_succ, List.flatten_cons, List.flatten_cons]
    exact h.append (RpL.rep h k)
theorem RpL.ints : ∀ {vs : List V} {ns : List Int}, RpL K F vs (ns.map D.int) → vs = ns.map V.int
  | vs, [], r => by cases r; rfl
  | vs, n :: ns, r => by
    cases r with
    | cons h r =>
      cases h
      rw [RpL.ints r]
      rfl
theorem RpL.of_ints : ∀ {ns : List Int}, RpL K F (ns.map V.int) (ns.map D.int)
  | [] => .nil
  | n :: ns => .cons (.int n) RpL.of_ints
theorem RpL.bls : ∀ {vs : List V} {bs : List Bool}, RpL K F vs (bs.map D.bl) → vs = bs.map V.bl
  | vs, [], r => by cases r; rfl
  | vs, n :: ns, r => by
    cases r with
    | cons h r =>
      cases h
      rw [RpL.bls r]
      rfl
end

/-! ### what a caller keeps for itself -/
def isMutO : HO → Bool
  | .tup _ => false
  | .frz _ _ => false
  | _ => true
structure Gc where
  R : Addr → Prop
  Wd : Hp → Prop
  live : ∀ H a, Wd H → R a → H a ≠ none
  nt : ∀ H a xs, Wd H → R a → H a ≠ some (.tup xs)
  st : ∀ H H', Wd H → (∀ a, R a → H' a = H a) → Wd H'

/-- what a name holds: a value that is never changed any more; a list of this frame's own, a dict of its own -/
inductive SV where
  | fz (d : D)
  | ow (xs : List D)
  | od (kvs : List (List Key × D))
abbrev En := List (Option SV)

/-- all that stood and isn't the caller's own stands -/
def Fr (G : Gc) (H H' : Hp) : Prop := ∀ b o, H b = some o → ¬ G.R b → H' b = some o
theorem Fr.refl {G : Gc} {H : Hp} : Fr G H H := fun _ _ h _ => h
theorem Fr.trans {G : Gc} {H H1 H2 : Hp} (a : Fr G H H1) (b : Fr G H1 H2) : Fr G H H2 := fun c o h n => b c o (a c o h n) n
theorem Fr.free {G : Gc} {H H' : Hp} (e : Fr G H H') {a : Addr} (n : ¬ G.R a) (h : H' a = none) : H a = none := by
  cases q : H a with
  | none => rfl
  | some o =>
    rw [e a o q n] at h
    cases h
theorem Fr.upd {G : Gc} {H : Hp} {p : Addr} {o : HO} (h : H p = none) : Fr G H (upd H p o) := fun b x e _ => by
  rw [upd_ne (ne_of_none e h)]
  exact e
theorem same_upd {H : Hp} {p : Addr} {o : HO} (h : H p = none) : Same H (upd H p o) := fun b x e => by
  rw [upd_ne (ne_of_none e h)]
  exact e

section
variable (K : PySem.W.Frag) (G : Gc) (F H : Hp)
def RpS (v : V) : SV → Prop
  | .fz d => Rp K F v d
  | .ow xs => ∃ a vs, v = .ref a ∧ H a = some (.lst vs) ∧ RpL K F vs xs ∧ ¬ G.R a
  | .od kds => ∃ a kvs, v = .ref a ∧ H a = some (.dT kvs) ∧ kvs.map (·.1) = kds.map (·.1) ∧ RpL K F (kvs.map (·.2)) (kds.map (·.2)) ∧ ¬ G.R a
structure EvR (σ : St) (ρ : En) : Prop where
  sub : Same F H
  res : ∀ a, G.R a → F a = none
  wd : G.Wd H
  slot : ∀ (i : Nat) (sv : SV), ρ[i]? = some (some sv) → ∃ v, σ[i]? = some (some v) ∧ RpS K G F H v sv
  len : σ.length = ρ.length
end

section
variable {K : PySem.W.Frag} {G : Gc} {F F' H H' : Hp} {σ : St} {ρ : En}
theorem RpS.go {v : V} {sv : SV} (h : RpS K G F H v sv) (s : Same F F') (fr : Fr G H H') : RpS K G F' H' v sv := by
  cases sv with
  | fz d => exact Rp.mono s h
  | ow xs =>
    obtain ⟨a, vs, e, h1, h2, h3⟩ := h
    exact ⟨a, vs, e, fr _ _ h1 h3, RpL.mono s h2, h3⟩
  | od kds =>
    obtain ⟨a, vs, e, h1, h0, h2, h3⟩ := h
    exact ⟨a, vs, e, fr _ _ h1 h3, h0, RpL.mono s h2, h3⟩
/-- the state goes on: more is known for good, nothing of ours is touched -/
theorem EvR.go (e : EvR K G F H σ ρ) (s : Same F F') (s' : Same F' H') (fr : Fr G H H') (res : ∀ a, G.R a → F' a = none) (wd : G.Wd H') : EvR K G F' H' σ ρ :=
  ⟨s', res, wd, fun i sv h => let ⟨v, h1, h2⟩ := e.slot i sv h; ⟨v, h1, h2.go s fr⟩, e.len⟩
theorem EvR.nr (e : EvR K G F H σ ρ) {p : Addr} (h : H p = none) : ¬ G.R p := fun r => G.live _ _ e.wd r h
end
end DL
set_option maxHeartbeats 4000000
namespace DL
open PySem PySem.Spec PyProof.Rows L2

/-! ### what is written of a def: its names, what its module's names stand for -/
structure Bs where
  P : Program
  w : World
  K : PySem.W.Frag
  mg : Str → Option Value
  base : Heap
structure Sta extends Bs where
  N : List Str
  names : List (Str × NameKind)
  k : Nat
  fc : Str → Bool

structure Fam (S : Sta) (X : Cx) : Prop where
  P : X.prog = S.P
  w : X.w = S.w
  K : X.K = S.K
  mg : X.mg = S.mg
  base : X.base = S.base
  N : X.N = S.N
  look : X.env.scope.names = S.names
  calm : X.calm = true
  room : Room S.k X.A
  xe : X.xe = fun _ _ => False
  fn : ∀ x, S.fc x = true → X.fn x = true
  kind : X.env.scope.kind = .function

/-! ### the meanings -/
abbrev W := Gc → En → (D → Prop) → Prop
abbrev WO := Gc → En → (SV → Prop) → Prop
abbrev WT := Gc → En → (Bool → Prop) → Prop
abbrev WA := Gc → En → (List D → Prop) → Prop

/-- a value just made: a list of our own, at a new address -/
def RpO (K : PySem.W.Frag) (G : Gc) (F' H H' : Hp) (v : V) : SV → Prop
  | .fz d => Rp K F' v d
  | .ow xs => ∃ a vs, v = .ref a ∧ H' a = some (.lst vs) ∧ RpL K F' vs xs ∧ ¬ G.R a ∧ H a = none ∧ F' a = none
  | .od kds => ∃ a kvs, v = .ref a ∧ H' a = some (.dT kvs) ∧ kvs.map (·.1) = kds.map (·.1) ∧ RpL K F' (kvs.map (·.2)) (kds.map (·.2)) ∧ ¬ G.R a ∧ H a = none ∧ F' a = none

section
variable (K : PySem.W.Frag)
def tD (w : W) : TE := fun σ H Q => ∃ G F ρ Qd, EvR K G F H σ ρ ∧ w G ρ Qd ∧ ∀ v H' F' d, Same F F' → EvR K G F' H' σ ρ → Fr G H H' → Rp K F' v d → Qd d → Q v H'
def tO (w : WO) : TE := fun σ H Q => ∃ G F ρ Qd, EvR K G F H σ ρ ∧ w G ρ Qd ∧ ∀ v H' F' sv, Same F F' → EvR K G F' H' σ ρ → Fr G H H' → RpO K G F' H H' v sv → Qd sv → Q v H'
def tT (w : WT) : TT := fun σ H Q => ∃ G F ρ Qd, EvR K G F H σ ρ ∧ w G ρ Qd ∧ ∀ b H' F', Same F F' → EvR K G F' H' σ ρ → Fr G H H' → Qd b → Q b H'
def tA (w : WA) : TA := fun σ H Q => ∃ G F ρ Qd, EvR K G F H σ ρ ∧ w G ρ Qd ∧ ∀ vs H' F' ds, Same F F' → EvR K G F' H' σ ρ → Fr G H H' → RpL K F' vs ds → Qd ds → Q vs H'
end
def DE (S : Sta) (e : Expr) (w : W) : Prop := ∀ X, Fam S X → PE X e (tD S.K w)
def DO (S : Sta) (e : Expr) (w : WO) : Prop := ∀ X, Fam S X → PE X e (tO S.K w)
def DT (S : Sta) (e : Expr) (w : WT) : Prop := ∀ X, Fam S X → PT X e (tT S.K w)
def DW (S : Sta) (e : Expr) (w : WT) : Prop := ∀ X, Fam S X → PW X e (tT S.K w)
def DA (S : Sta) (es : List Expr) (w : WA) : Prop := ∀ X, Fam S X → PA X es (tA S.K w)

theorem _root_.L2.PE.imp {X : Cx} {e : Expr} {t t' : TE} (h : PE X e t) (i : ∀ σ H Q, t' σ H Q → t σ H Q) : PE X e t' := ⟨fun pins s σ H Q I q => h.run pins s σ H Q I (i σ H Q q)⟩
theorem _root_.L2.PT.imp {X : Cx} {e : Expr} {t t' : TT} (h : PT X e t) (i : ∀ σ H Q, t' σ H Q → t σ H Q) : PT X e t' := ⟨fun pins s σ H Q I q => h.run pins s σ H Q I (i σ H Q q)⟩
theorem _root_.L2.PW.imp {X : Cx} {e : Expr} {t t' : TT} (h : PW X e t) (i : ∀ σ H Q, t' σ H Q → t σ H Q) : PW X e t' := ⟨fun wh pins s σ H Q I q => h.run wh pins s σ H Q I (i σ H Q q)⟩
theorem _root_.L2.PA.imp {X : Cx} {es : List Expr} {t t' : TA} (h : PA X es t) (i : ∀ σ H Q, t' σ H Q → t σ H Q) : PA X es t' := ⟨fun pos pins s σ H Q I q => h.run pos pins s σ H Q I (i σ H Q q)⟩
theorem _root_.L2.PS.imp {X : Cx} {e : Stmt} {t t' : TS} (h : PS X e t) (i : ∀ E σ H, t' E σ H → t E σ H) : PS X e t' := ⟨fun pins s σ H Q I q => h.run pins s σ H Q I (i Q σ H q)⟩
theorem _root_.L2.PSs.imp {X : Cx} {e : List Stmt} {t t' : TS} (h : PSs X e t) (i : ∀ E σ H, t' E σ H → t E σ H) : PSs X e t' := ⟨fun pins s σ H Q I q => h.run pins s σ H Q I (i Q σ H q)⟩

section
variable {K : PySem.W.Frag} {G : Gc} {F F' H H' : Hp} {σ : St} {ρ : En}
theorem EvR.live (e : EvR K G F H σ ρ) {p : Addr} {o : HO} (h : H p = none) : EvR K G (upd F p o) (upd H p o) σ ρ := by
  have nr := e.nr h
  have nf : F p = none := by
    cases q : F p with
    | none => rfl
    | some u => rw [e.sub _ _ q] at h; cases h
  refine e.go (same_upd nf) (fun b x q => ?_) (Fr.upd h) (fun a r => ?_) (G.st _ _ e.wd fun a r => upd_ne (by rintro rfl; exact nr r))
  · by_cases hb : b = p
    · subst hb; rw [upd_same] at q ⊢; exact q
    · rw [upd_ne hb] at q ⊢; exact e.sub _ _ q
  · rw [upd_ne (by rintro rfl; exact nr r)]; exact e.res a r
theorem EvR.fnone (e : EvR K G F H σ ρ) {p : Addr} (h : H p = none) : F p = none := by
  cases q : F p with
  | none => rfl
  | some u => rw [e.sub _ _ q] at h; cases h
/-- a new object that we keep to change it -/
theorem EvR.liveO (e : EvR K G F H σ ρ) {p : Addr} {o : HO} (h : H p = none) : EvR K G F (upd H p o) σ ρ := by
  have nr := e.nr h
  refine e.go (Same.refl _) (fun b x q => ?_) (Fr.upd h) e.res (G.st _ _ e.wd fun a r => upd_ne (by rintro rfl; exact nr r))
  rw [upd_ne (ne_of_none (e.sub _ _ q) h)]
  exact e.sub _ _ q
/-- a list that is ours is looked at -/
theorem EvR.see (e : EvR K G F H σ ρ) {p : Addr} {o : HO} (h : H p = some o) (n : ¬ G.R p) : EvR K G (upd F p o) H σ ρ ∧ Same F (upd F p o) := by
  have sf : Same F (upd F p o) := fun b x q => by
    by_cases hb : b = p
    · subst hb; rw [upd_same, ← h]; exact (e.sub _ _ q).symm ▸ rfl
    · rw [upd_ne hb]; exact q
  refine ⟨e.go sf (fun b x q => ?_) Fr.refl (fun a r => ?_) e.wd, sf⟩
  · by_cases hb : b = p
    · subst hb; rw [upd_same] at q; rw [h]; exact q
    · rw [upd_ne hb] at q; exact e.sub _ _ q
  · rw [upd_ne (by rintro rfl; exact n r)]; exact e.res a r
end

/-! ### names, constants -/
def wVar (i : Nat) : W := fun _ ρ Q => ∃ sv, ρ[i]? = some (some sv) ∧ match sv with
  | .fz d => Q d
  | .ow xs => Q (.lst xs)
  | .od _ => False
def wC (d : D) : W := fun _ _ Q => Q d
section
variable {S : Sta} {e : Expr} {pos : Pos}
theorem de_var {i : Nat} {x : Str} (hN : S.N[i]? = some x) (hv : S.names.lookup x = some .local ∨ S.names.lookup x = some .cell ∨ S.names.lookup x = some .free) (hd : (x == ("__debug__" : Str)) = false) (hcd : (x == ("__classdict__" : Str)) = false) : DE S (.Name x pos) (wVar i) := fun X f => by
  refine (pe_var (i := i) (x := x) (by rw [f.N]; exact hN) (by unfold Vis; rw [f.look]; exact hv) hd hcd).imp fun σ H Q ⟨G, F, ρ, Qd, ev, ⟨sv, e1, q⟩, hq⟩ => ?_
  obtain ⟨v, h1, h2⟩ := ev.slot i sv e1
  refine ⟨v, h1, ?_⟩
  cases sv with
  | fz d => exact hq v H F d (Same.refl _) ev Fr.refl h2 q
  | ow xs =>
    obtain ⟨a, vs, rfl, ha, hr, hn⟩ := h2
    obtain ⟨ev', sf⟩ := ev.see ha hn
    exact hq _ H _ _ sf ev' Fr.refl (.lst upd_same (hr.mono sf)) q
  | od kds => exact q.elim
theorem de_int {i : Int} {j : Nat} : DE S (.Constant (.int i) j pos) (wC (.int i)) := fun X f => pe_int.imp fun σ H Q ⟨G, F, ρ, Qd, ev, q, hq⟩ => hq _ H F _ (Same.refl _) ev Fr.refl (.int i) q
theorem de_bl {i : Bool} {j : Nat} : DE S (.Constant (.bool i) j pos) (wC (.bl i)) := fun X f => pe_bl.imp fun σ H Q ⟨G, F, ρ, Qd, ev, q, hq⟩ => hq _ H F _ (Same.refl _) ev Fr.refl (.bl i) q
theorem de_non {j : Nat} : DE S (.Constant .none j pos) (wC .non) := fun X f => pe_non.imp fun σ H Q ⟨G, F, ρ, Qd, ev, q, hq⟩ => hq _ H F _ (Same.refl _) ev Fr.refl .non q
theorem de_str {x : Str} {j : Nat} : DE S (.Constant (.str x) j pos) (wC (.str x)) := fun X f => pe_str.imp fun σ H Q ⟨G, F, ρ, Qd, ev, q, hq⟩ => hq _ H F _ (Same.refl _) ev Fr.refl (.str x) q
/-- a module's int -/
theorem de_gint {x : Str} {i : Int} (hg : S.names.lookup x = some .globalImplicit) (hm : ∃ t, S.mg x = some (.int i t)) (hd : (x == ("__debug__" : Str)) = false) : DE S (.Name x pos) (wC (.int i)) := fun X f => by
  obtain ⟨t, hm⟩ := hm
  exact (pe_glob (v := .int i) (u := .int i t) (by unfold Gl Env.kindOf; rw [f.look]; exact hg) (by rw [f.mg]; exact hm) ⟨t, rfl⟩ hd).imp fun σ H Q ⟨G, F, ρ, Qd, ev, q, hq⟩ => hq _ H F _ (Same.refl _) ev Fr.refl (.int i) q
end

/-! ### two places -/
def OpD (K : PySem.W.Frag) (r : R2) (op : D → D → (D → Prop) → Prop) : Prop := ∀ G F σ H ρ v1 d1 v2 d2 (Qd : D → Prop) (Q : VK), EvR K G F H σ ρ → Rp K F v1 d1 → Rp K F v2 d2 → op d1 d2 Qd →
  (∀ v H' F' d, Same F F' → EvR K G F' H' σ ρ → Fr G H H' → Rp K F' v d → Qd d → Q v H') → r v1 v2 H Q
def OpO (K : PySem.W.Frag) (r : R2) (op : D → D → (SV → Prop) → Prop) : Prop := ∀ G F σ H ρ v1 d1 v2 d2 (Qd : SV → Prop) (Q : VK), EvR K G F H σ ρ → Rp K F v1 d1 → Rp K F v2 d2 → op d1 d2 Qd →
  (∀ v H' F' d, Same F F' → EvR K G F' H' σ ρ → Fr G H H' → RpO K G F' H H' v d → Qd d → Q v H') → r v1 v2 H Q
def wOp (op : D → D → (D → Prop) → Prop) (wa wb : W) : W := fun G ρ Q => wa G ρ fun x => wb G ρ fun y => op x y Q
def wOpO (op : D → D → (SV → Prop) → Prop) (wa wb : W) : WO := fun G ρ Q => wa G ρ fun x => wb G ρ fun y => op x y Q
theorem tD_op {K : PySem.W.Frag} {r : R2} {op : D → D → (D → Prop) → Prop} (h : OpD K r op) {wa wb : W} (σ : St) (H : Hp) (Q : VK) : tD K (wOp op wa wb) σ H Q → tOp r (tD K wa) (tD K wb) σ H Q := fun ⟨G, F, ρ, Qd, ev, hw, hq⟩ =>
  ⟨G, F, ρ, _, ev, hw, fun v1 H1 F1 d1 s1 e1 f1 r1 q1 => ⟨G, F1, ρ, _, e1, q1, fun v2 H2 F2 d2 s2 e2 f2 r2 q2 => h G F2 σ H2 ρ v1 d1 v2 d2 Qd Q e2 (r1.mono s2) r2 q2 fun v H' F' d s3 e3 f3 r3 q3 =>
    hq v H' F' d (s1.trans (s2.trans s3)) e3 (f1.trans (f2.trans f3)) r3 q3⟩⟩
theorem RpO.back {K : PySem.W.Frag} {G : Gc} {F' H H1 H' : Hp} {v : V} {sv : SV} (h : RpO K G F' H1 H' v sv) (f : Fr G H H1) : RpO K G F' H H' v sv := by
  cases sv with
  | fz d => exact h
  | ow xs =>
    obtain ⟨a, vs, e, h1, h2, h3, h4, h5⟩ := h
    exact ⟨a, vs, e, h1, h2, h3, f.free h3 h4, h5⟩
  | od kds =>
    obtain ⟨a, vs, e, h1, h0, h2, h3, h4, h5⟩ := h
    exact ⟨a, vs, e, h1, h0, h2, h3, f.free h3 h4, h5⟩
theorem tO_op {K : PySem.W.Frag} {r : R2} {op : D → D → (SV → Prop) → Prop} (h : OpO K r op) {wa wb : W} (σ : St) (H : Hp) (Q : VK) : tO K (wOpO op wa wb) σ H Q → tOp r (tD K wa) (tD K wb) σ H Q := fun ⟨G, F, ρ, Qd, ev, hw, hq⟩ =>
  ⟨G, F, ρ, _, ev, hw, fun v1 H1 F1 d1 s1 e1 f1 r1 q1 => ⟨G, F1, ρ, _, e1, q1, fun v2 H2 F2 d2 s2 e2 f2 r2 q2 => h G F2 σ H2 ρ v1 d1 v2 d2 Qd Q e2 (r1.mono s2) r2 q2 fun v H' F' d s3 e3 f3 r3 q3 =>
    hq v H' F' d (s1.trans (s2.trans s3)) e3 (f1.trans (f2.trans f3)) (r3.back (f1.trans f2)) q3⟩⟩

/-! #### on ints -/
def oI (C : Int → Int → Prop) (g : Int → Int → Int) : D → D → (D → Prop) → Prop := fun x y Q => ∃ i j, x = .int i ∧ y = .int j ∧ C i j ∧ Q (.int (g i j))
def oI0 (g : Int → Int → Int) : D → D → (D → Prop) → Prop := fun x y Q => ∃ i j, x = .int i ∧ y = .int j ∧ Q (.int (g i j))
def oB0 (g : Int → Int → Bool) : D → D → (D → Prop) → Prop := fun x y Q => ∃ i j, x = .int i ∧ y = .int j ∧ Q (.bl (g i j))
theorem opd_I {K : PySem.W.Frag} {C : Int → Int → Prop} {g : Int → Int → Int} : OpD K (rI C fun i j => .int (g i j)) (oI C g) := fun G F σ H ρ v1 d1 v2 d2 Qd Q ev r1 r2 ⟨i, j, e1, e2, c, q⟩ hq => by
  subst e1 e2
  cases r1; cases r2
  exact ⟨i, j, rfl, rfl, c, hq _ H F _ (Same.refl _) ev Fr.refl (.int _) q⟩
theorem opd_I0 {K : PySem.W.Frag} {g : Int → Int → Int} : OpD K (rI0 fun i j => .int (g i j)) (oI0 g) := fun G F σ H ρ v1 d1 v2 d2 Qd Q ev r1 r2 ⟨i, j, e1, e2, q⟩ hq => by
  subst e1 e2
  cases r1; cases r2
  exact ⟨i, j, rfl, rfl, hq _ H F _ (Same.refl _) ev Fr.refl (.int _) q⟩
theorem opd_B0 {K : PySem.W.Frag} {g : Int → Int → Bool} : OpD K (rI0 fun i j => .bl (g i j)) (oB0 g) := fun G F σ H ρ v1 d1 v2 d2 Qd Q ev r1 r2 ⟨i, j, e1, e2, q⟩ hq => by
  subst e1 e2
  cases r1; cases r2
  exact ⟨i, j, rfl, rfl, hq _ H F _ (Same.refl _) ev Fr.refl (.bl _) q⟩
section
variable {S : Sta} {a b e : Expr} {pos : Pos} {wa wb : W}
theorem de_sub (ha : DE S a wa) (hb : DE S b wb) : DE S (.BinOp a .Sub b pos) (wOp (oI0 fun i j => i - j) wa wb) := fun X f => (pe_op op_sub (ha X f) (hb X f)).imp (tD_op opd_I0)
theorem de_mulI (ha : DE S a wa) (hb : DE S b wb) : DE S (.BinOp a .Mult b pos) (wOp (oI CMul fun i j => i * j) wa wb) := fun X f => (pe_op op_mul (ha X f) (hb X f)).imp (tD_op opd_I)
theorem de_fdiv (ha : DE S a wa) (hb : DE S b wb) : DE S (.BinOp a .FloorDiv b pos) (wOp (oI CDiv fun i j => i / j) wa wb) := fun X f => (pe_op op_fdiv (ha X f) (hb X f)).imp (tD_op opd_I)
theorem de_mod (ha : DE S a wa) (hb : DE S b wb) : DE S (.BinOp a .Mod b pos) (wOp (oI (fun _ j => 0 < j) fun i j => i % j) wa wb) := fun X f => (pe_op op_mod (ha X f) (hb X f)).imp (tD_op opd_I)
theorem de_pow (ha : DE S a wa) (hb : DE S b wb) : DE S (.BinOp a .Pow b pos) (wOp (oI CPow fun i j => i ^ j.toNat) wa wb) := fun X f => (pe_op op_pow (ha X f) (hb X f)).imp (tD_op opd_I)
theorem de_shl (ha : DE S a wa) (hb : DE S b wb) : DE S (.BinOp a .LShift b pos) (wOp (oI CPow fun i j => i * 2 ^ j.toNat) wa wb) := fun X f => (pe_op op_shl (ha X f) (hb X f)).imp (tD_op opd_I)
theorem de_shr (ha : DE S a wa) (hb : DE S b wb) : DE S (.BinOp a .RShift b pos) (wOp (oI (fun _ j => 0 ≤ j) fun i j => i / 2 ^ j.toNat) wa wb) := fun X f => (pe_op op_shr (ha X f) (hb X f)).imp (tD_op opd_I)
theorem de_and (ha : DE S a wa) (hb : DE S b wb) : DE S (.BinOp a .BitAnd b pos) (wOp (oI0 Builtin.bitAnd) wa wb) := fun X f => (pe_op op_and (ha X f) (hb X f)).imp (tD_op opd_I0)
theorem de_or (ha : DE S a wa) (hb : DE S b wb) : DE S (.BinOp a .BitOr b pos) (wOp (oI0 Builtin.bitOr) wa wb) := fun X f => (pe_op op_or (ha X f) (hb X f)).imp (tD_op opd_I0)
theorem de_xor (ha : DE S a wa) (hb : DE S b wb) : DE S (.BinOp a .BitXor b pos) (wOp (oI0 Builtin.bitXor) wa wb) := fun X f => (pe_op op_xor (ha X f) (hb X f)).imp (tD_op opd_I0)
end
end DL
set_option maxHeartbeats 4000000
namespace DL
open PySem PySem.Spec PyProof.Rows L2

/-! ### as the library reads it -/
mutual
def toPy : D → Option PyData
  | .non => some .none
  | .bl b => some (.bool b)
  | .int i => some (.int i)
  | .str x => some (.str x)
  | .tup xs => (toPyL xs).map .tuple
  | .lst xs => (toPyL xs).map .list
  | .dic _ => none
  | .ob _ => none
def toPyL : List D → Option (List PyData)
  | [] => some []
  | x :: xs => match toPy x with
    | some p => (toPyL xs).map (p :: ·)
    | none => none
end
section
variable {K : PySem.W.Frag} {F H : Hp}
mutual
theorem Rp.dp (s : Same F H) : ∀ {d : D} {v : V} {p : PyData}, Rp K F v d → toPy d = some p → Dp K H v p
  | .non, _, _, .non, e => by cases e; exact .non
  | .bl b, _, _, .bl _, e => by cases e; exact .bl b
  | .int i, _, _, .int _, e => by cases e; exact .int i
  | .str x, _, _, .str _, e => by cases e; exact .str x
  | .tup xs, _, p, .tup h r, e => by
    unfold toPy at e
    cases q : toPyL xs with
    | none => rw [q] at e; cases e
    | some ps => rw [q] at e; cases e; exact .tup (Same.sqt s h) (RpL.dp s r q)
  | .lst xs, _, p, .lst h r, e => by
    unfold toPy at e
    cases q : toPyL xs with
    | none => rw [q] at e; cases e
    | some ps => rw [q] at e; cases e; exact .lst (SqL.of (s _ _ h)) (RpL.dp s r q)
  | .dic _, _, _, _, e => by cases e
  | .ob _, _, _, _, e => by cases e
theorem RpL.dp (s : Same F H) : ∀ {ds : List D} {vs : List V} {ps : List PyData}, RpL K F vs ds → toPyL ds = some ps → DpAll K H vs ps
  | [], _, _, .nil, e => by cases e; exact .nil
  | d :: ds, _, ps, .cons h r, e => by
    unfold toPyL at e
    cases q : toPy d with
    | none => rw [q] at e; cases e
    | some p =>
      rw [q] at e
      cases q2 : toPyL ds with
      | none => rw [q2] at e; cases e
      | some qs => rw [q2] at e; cases e; exact .cons (Rp.dp s h q) (RpL.dp s r q2)
end
end

/-! ### argument lists, displays -/
def waNil : WA := fun _ _ Q => Q []
def waCons (w : W) (r : WA) : WA := fun G ρ Q => w G ρ fun x => r G ρ fun xs => Q (x :: xs)
def wTup (w : WA) : W := fun G ρ Q => w G ρ fun xs => xs.length ≤ sizeLine ∧ Q (.tup xs)
def woLst (w : WA) : WO := fun G ρ Q => w G ρ fun xs => xs.length ≤ sizeLine ∧ Q (.ow xs)
/-- a list just made is kept for good -/
def wFz (w : WO) : W := fun G ρ Q => w G ρ fun sv => match sv with
  | .fz d => Q d
  | .ow xs => Q (.lst xs)
  | .od _ => False
def woFz (w : W) : WO := fun G ρ Q => w G ρ fun d => Q (.fz d)
section
variable {S : Sta} {a b c e : Expr} {es : List Expr} {pos : Pos} {w wa wb wc : W} {r : WA} {wo : WO}
theorem da_nil : DA S [] waNil := fun X f => pa_nil.imp fun σ H Q ⟨G, F, ρ, Qd, ev, q, hq⟩ => hq [] H F [] (Same.refl _) ev Fr.refl .nil q
theorem da_cons (ha : DE S e w) (hr : DA S es r) (hs : ∀ env, starEach (e :: es) env = (false, eval e env) :: starEach es env := by intro _; rfl) : DA S (e :: es) (waCons w r) := fun X f =>
  (pa_cons (ha X f) (hr X f) (hs _)).imp fun σ H Q ⟨G, F, ρ, Qd, ev, hw, hq⟩ =>
    ⟨G, F, ρ, _, ev, hw, fun v1 H1 F1 d1 s1 e1 f1 r1 q1 => ⟨G, F1, ρ, _, e1, q1, fun vs H2 F2 ds s2 e2 f2 r2 q2 => hq (v1 :: vs) H2 F2 (d1 :: ds) (s1.trans s2) e2 (f1.trans f2) (.cons (r1.mono s2) r2) q2⟩⟩
theorem de_tup {x1} (h : DA S es r) : DE S (.Tuple es x1 pos) (wTup r) := fun X f => (pe_tup (h X f)).imp fun σ H Q ⟨G, F, ρ, Qd, ev, hw, hq⟩ =>
  ⟨G, F, ρ, _, ev, hw, fun vs H1 F1 ds s1 e1 f1 r1 ⟨z, q1⟩ => ⟨by rw [r1.len]; exact z, fun p hp =>
    hq (.ref p) _ _ (.tup ds) (s1.trans (same_upd (e1.fnone hp))) (e1.live hp) (f1.trans (Fr.upd hp)) (.tup (SqT.of upd_same) (r1.mono (same_upd (e1.fnone hp)))) q1⟩⟩
theorem do_lst (h : DA S es r) : DO S (.List es pos) (woLst r) := fun X f => (pe_lst (h X f)).imp fun σ H Q ⟨G, F, ρ, Qd, ev, hw, hq⟩ =>
  ⟨G, F, ρ, _, ev, hw, fun vs H1 F1 ds s1 e1 f1 r1 ⟨z, q1⟩ => ⟨by rw [r1.len]; exact z, fun p hp =>
    hq (.ref p) _ _ (.ow ds) s1 (e1.liveO hp) (f1.trans (Fr.upd hp)) ⟨p, vs, rfl, upd_same, r1, e1.nr hp, f1.free (e1.nr hp) hp, e1.fnone hp⟩ q1⟩⟩
theorem de_fz (h : DO S e wo) : DE S e (wFz wo) := fun X f => (h X f).imp fun σ H Q ⟨G, F, ρ, Qd, ev, hw, hq⟩ =>
  ⟨G, F, ρ, _, ev, hw, fun v H1 F1 sv s1 e1 f1 r1 q1 => by
    cases sv with
    | fz d => exact hq v H1 F1 d s1 e1 f1 r1 q1
    | ow xs =>
      obtain ⟨a, vs, rfl, ha, hr, hn, _⟩ := r1
      obtain ⟨ev', sf⟩ := e1.see ha hn
      exact hq _ H1 _ _ (s1.trans sf) ev' f1 (.lst upd_same (hr.mono sf)) q1
    | od kds => exact q1.elim⟩
theorem do_fz (h : DE S e w) : DO S e (woFz w) := fun X f => (h X f).imp fun σ H Q ⟨G, F, ρ, Qd, ev, hw, hq⟩ =>
  ⟨G, F, ρ, _, ev, hw, fun v H1 F1 d s1 e1 f1 r1 q1 => hq v H1 F1 (.fz d) s1 e1 f1 r1 q1⟩

/-! ### tests -/
def wtV (w : W) : WT := fun G ρ Q => w G ρ fun d => ∃ k, d = .bl k ∧ Q k
theorem dt_val (h : DE S e w) (he : ∀ env whole, isTrue e env whole = (do let v ← whole; standAt e.pos; holding [v] (truthy v)) := by intro _ _; rfl) : DT S e (wtV w) := fun X f =>
  (pt_val (h X f) (he _)).imp fun σ H Q ⟨G, F, ρ, Qd, ev, hw, hq⟩ => ⟨G, F, ρ, _, ev, hw, fun v H1 F1 d s1 e1 f1 r1 ⟨k, ek, q1⟩ => by
    subst ek
    cases r1
    exact ⟨k, rfl, hq k H1 F1 s1 e1 f1 q1⟩⟩
def wtAnd (a b : WT) : WT := fun G ρ Q => a G ρ fun k => if k = true then b G ρ Q else Q false
def wtOr (a b : WT) : WT := fun G ρ Q => a G ρ fun k => if k = true then Q true else b G ρ Q
def wtNot (a : WT) : WT := fun G ρ Q => a G ρ fun k => Q (!k)
variable {ta tb tc : WT} {rest : List Expr}
theorem dt_pw (h : DW S e ta) : DT S e ta := fun X f => (h X f).pt
theorem dw_and1 (h : DT S a ta) : DW S (.BoolOp .And [a] pos) ta := fun X f => pw_and1 (h X f)
theorem dw_or1 (h : DT S a ta) : DW S (.BoolOp .Or [a] pos) ta := fun X f => pw_or1 (h X f)
theorem dw_and (ha : DT S a ta) (hb : DW S (.BoolOp .And (b :: rest) pos) tb) : DW S (.BoolOp .And (a :: b :: rest) pos) (wtAnd ta tb) := fun X f => (pw_and (ha X f) (hb X f)).imp fun σ H Q ⟨G, F, ρ, Qd, ev, hw, hq⟩ =>
  ⟨G, F, ρ, _, ev, hw, fun k H1 F1 s1 e1 f1 q1 => by
    cases k with
    | true => exact iteT ⟨G, F1, ρ, _, e1, (by rw [if_pos rfl] at q1; exact q1), fun k H2 F2 s2 e2 f2 q2 => hq k H2 F2 (s1.trans s2) e2 (f1.trans f2) q2⟩
    | false => exact iteF (hq false H1 F1 s1 e1 f1 (by rw [if_neg Bool.false_ne_true] at q1; exact q1))⟩
theorem dw_or (ha : DT S a ta) (hb : DW S (.BoolOp .Or (b :: rest) pos) tb) : DW S (.BoolOp .Or (a :: b :: rest) pos) (wtOr ta tb) := fun X f => (pw_or (ha X f) (hb X f)).imp fun σ H Q ⟨G, F, ρ, Qd, ev, hw, hq⟩ =>
  ⟨G, F, ρ, _, ev, hw, fun k H1 F1 s1 e1 f1 q1 => by
    cases k with
    | false => exact iteF ⟨G, F1, ρ, _, e1, (by rw [if_neg Bool.false_ne_true] at q1; exact q1), fun k H2 F2 s2 e2 f2 q2 => hq k H2 F2 (s1.trans s2) e2 (f1.trans f2) q2⟩
    | true => exact iteT (hq true H1 F1 s1 e1 f1 (by rw [if_pos rfl] at q1; exact q1))⟩
theorem dt_not (ha : DT S a ta) : DT S (.UnaryOp .Not a pos) (wtNot ta) := fun X f => (pt_not (ha X f)).imp fun σ H Q ⟨G, F, ρ, Qd, ev, hw, hq⟩ => ⟨G, F, ρ, _, ev, hw, fun k H1 F1 s1 e1 f1 q1 => hq (!k) H1 F1 s1 e1 f1 q1⟩
/-! as values -/
def wAnd (a b : W) : W := fun G ρ Q => a G ρ fun d => ∃ k, d = .bl k ∧ if k = true then b G ρ Q else Q (.bl false)
def wOr (a b : W) : W := fun G ρ Q => a G ρ fun d => ∃ k, d = .bl k ∧ if k = true then Q (.bl true) else b G ρ Q
def wNot (a : W) : W := fun G ρ Q => a G ρ fun d => ∃ k, d = .bl k ∧ Q (.bl (!k))
def wIf (t : WT) (a b : W) : W := fun G ρ Q => t G ρ fun k => if k = true then a G ρ Q else b G ρ Q
def woIf (t : WT) (a b : WO) : WO := fun G ρ Q => t G ρ fun k => if k = true then a G ρ Q else b G ρ Q
theorem de_one {op} (h : DE S a wa) : DE S (.BoolOp op [a] pos) wa := fun X f => pe_one (h X f)
theorem de_andV (ha : DE S a wa) (hb : DE S (.BoolOp .And (b :: rest) pos) wb) : DE S (.BoolOp .And (a :: b :: rest) pos) (wAnd wa wb) := fun X f => (pe_and (ha X f) (hb X f)).imp fun σ H Q ⟨G, F, ρ, Qd, ev, hw, hq⟩ =>
  ⟨G, F, ρ, _, ev, hw, fun v H1 F1 d s1 e1 f1 r1 ⟨k, ek, q1⟩ => by
    subst ek
    cases r1
    refine ⟨k, rfl, ?_⟩
    cases k with
    | true => exact iteT ⟨G, F1, ρ, _, e1, (by rw [if_pos rfl] at q1; exact q1), fun v H2 F2 d s2 e2 f2 r2 q2 => hq v H2 F2 d (s1.trans s2) e2 (f1.trans f2) r2 q2⟩
    | false => exact iteF (hq _ H1 F1 _ s1 e1 f1 (.bl false) (by rw [if_neg Bool.false_ne_true] at q1; exact q1))⟩
theorem de_orV (ha : DE S a wa) (hb : DE S (.BoolOp .Or (b :: rest) pos) wb) : DE S (.BoolOp .Or (a :: b :: rest) pos) (wOr wa wb) := fun X f => (pe_or (ha X f) (hb X f)).imp fun σ H Q ⟨G, F, ρ, Qd, ev, hw, hq⟩ =>
  ⟨G, F, ρ, _, ev, hw, fun v H1 F1 d s1 e1 f1 r1 ⟨k, ek, q1⟩ => by
    subst ek
    cases r1
    refine ⟨k, rfl, ?_⟩
    cases k with
    | false => exact iteF ⟨G, F1, ρ, _, e1, (by rw [if_neg Bool.false_ne_true] at q1; exact q1), fun v H2 F2 d s2 e2 f2 r2 q2 => hq v H2 F2 d (s1.trans s2) e2 (f1.trans f2) r2 q2⟩
    | true => exact iteT (hq _ H1 F1 _ s1 e1 f1 (.bl true) (by rw [if_pos rfl] at q1; exact q1))⟩
theorem de_notV (ha : DE S a wa) : DE S (.UnaryOp .Not a pos) (wNot wa) := fun X f => (pe_not (ha X f)).imp fun σ H Q ⟨G, F, ρ, Qd, ev, hw, hq⟩ =>
  ⟨G, F, ρ, _, ev, hw, fun v H1 F1 d s1 e1 f1 r1 ⟨k, ek, q1⟩ => by
    subst ek
    cases r1
    exact ⟨k, rfl, hq _ H1 F1 _ s1 e1 f1 (.bl (!k)) q1⟩⟩
theorem de_if (hc : DT S c tc) (ha : DE S a wa) (hb : DE S b wb) : DE S (.IfExp c a b pos) (wIf tc wa wb) := fun X f => (pe_ifExp (hc X f) (ha X f) (hb X f)).imp fun σ H Q ⟨G, F, ρ, Qd, ev, hw, hq⟩ =>
  ⟨G, F, ρ, _, ev, hw, fun k H1 F1 s1 e1 f1 q1 => by
    cases k with
    | true => exact iteT ⟨G, F1, ρ, _, e1, (by rw [if_pos rfl] at q1; exact q1), fun v H2 F2 d s2 e2 f2 r2 q2 => hq v H2 F2 d (s1.trans s2) e2 (f1.trans f2) r2 q2⟩
    | false => exact iteF ⟨G, F1, ρ, _, e1, (by rw [if_neg Bool.false_ne_true] at q1; exact q1), fun v H2 F2 d s2 e2 f2 r2 q2 => hq v H2 F2 d (s1.trans s2) e2 (f1.trans f2) r2 q2⟩⟩
theorem do_if {oa ob : WO} (hc : DT S c tc) (ha : DO S a oa) (hb : DO S b ob) : DO S (.IfExp c a b pos) (woIf tc oa ob) := fun X f => (pe_ifExp (hc X f) (ha X f) (hb X f)).imp fun σ H Q ⟨G, F, ρ, Qd, ev, hw, hq⟩ =>
  ⟨G, F, ρ, _, ev, hw, fun k H1 F1 s1 e1 f1 q1 => by
    cases k with
    | true => exact iteT ⟨G, F1, ρ, _, e1, (by rw [if_pos rfl] at q1; exact q1), fun v H2 F2 d s2 e2 f2 r2 q2 => hq v H2 F2 d (s1.trans s2) e2 (f1.trans f2) (r2.back f1) q2⟩
    | false => exact iteF ⟨G, F1, ρ, _, e1, (by rw [if_neg Bool.false_ne_true] at q1; exact q1), fun v H2 F2 d s2 e2 f2 r2 q2 => hq v H2 F2 d (s1.trans s2) e2 (f1.trans f2) (r2.back f1) q2⟩⟩
end

/-! ### comparisons -/
/-- data at any depth -/
def oEq : D → D → (D → Prop) → Prop := fun x y Q => ∃ p q, toPy x = some p ∧ toPy y = some q ∧ SeqAt.shaped p = true ∧ SeqAt.shaped q = true ∧ Q (.bl (PyData.eqv p q))
def oNe : D → D → (D → Prop) → Prop := fun x y Q => ∃ p q, toPy x = some p ∧ toPy y = some q ∧ SeqAt.shaped p = true ∧ SeqAt.shaped q = true ∧ Q (.bl (!PyData.eqv p q))
def itemsOf : D → Option (List D)
  | .tup xs => some xs
  | .lst xs => some xs
  | _ => none
def oIn : D → D → (D → Prop) → Prop := fun x y Q => ∃ ys p q, itemsOf y = some ys ∧ toPy x = some p ∧ toPyL ys = some q ∧ SeqAt.shaped p = true ∧ SeqAt.shaped (.tuple q) = true ∧ Q (.bl (q.any fun z => PyData.eqv z p))
def oNotIn : D → D → (D → Prop) → Prop := fun x y Q => ∃ ys p q, itemsOf y = some ys ∧ toPy x = some p ∧ toPyL ys = some q ∧ SeqAt.shaped p = true ∧ SeqAt.shaped (.tuple q) = true ∧ Q (.bl (!q.any fun z => PyData.eqv z p))
def oIsNon : D → D → (D → Prop) → Prop := fun x y Q => y = .non ∧ Q (.bl (match x with | .non => true | _ => false))
def oNotNon : D → D → (D → Prop) → Prop := fun x y Q => y = .non ∧ Q (.bl (!match x with | .non => true | _ => false))
def oIsBl : D → D → (D → Prop) → Prop := fun x y Q => ∃ a b, x = .bl a ∧ y = .bl b ∧ Q (.bl (decide (a = b)))
def oNotBl : D → D → (D → Prop) → Prop := fun x y Q => ∃ a b, x = .bl a ∧ y = .bl b ∧ Q (.bl (!decide (a = b)))

def rIsN : R2 := fun x y H Q => y = .non ∧ Q (.bl (decide (x = .non))) H
def rNotN : R2 := fun x y H Q => y = .non ∧ Q (.bl (!decide (x = .non))) H
def rInS (K : PySem.W.Frag) : R2 := fun x y H Q => ∃ p q, Dp K H x p ∧ (Dp K H y (.list q) ∨ Dp K H y (.tuple q)) ∧ SeqAt.shaped p = true ∧ SeqAt.shaped (.tuple q) = true ∧ Q (.bl (q.any fun z => PyData.eqv z p)) H
def rNotInS (K : PySem.W.Frag) : R2 := fun x y H Q => ∃ p q, Dp K H x p ∧ (Dp K H y (.list q) ∨ Dp K H y (.tuple q)) ∧ SeqAt.shaped p = true ∧ SeqAt.shaped (.tuple q) = true ∧ Q (.bl (!q.any fun z => PyData.eqv z p)) H
section
variable {X : Cx}
theorem canLayL {q : List PyData} (h : SeqAt.shaped (.tuple q) = true) : PyData.canLayAll0 q = true := SeqAt.canLay_of_shaped h
theorem op_inS (hu : X.A.units + 65 < cLine) : OpR X (compareOp .In) (rInS X.K) := by
  intro pins s σ H x y v u Q I rx ry h
  obtain ⟨d, ds, hd, he, sd, se, q⟩ := h
  obtain ⟨as, r1⟩ := Dp.reads I d x v hd rx
  rcases he with he | he
  · obtain ⟨bs, r2⟩ := Dp.reads I (.list ds) y u he ry
    exact SeqAt.in_list_reads r2 r1 (canLayL se) (SeqAt.canLay_of_shaped sd) (room_in_shaped sd hu) ⟨.bl _, H, I, rfl, q⟩
  · obtain ⟨bs, r2⟩ := Dp.reads I (.tuple ds) y u he ry
    exact SeqAt.in_tuple_reads r2 r1 (canLayL se) (SeqAt.canLay_of_shaped sd) (room_in_shaped sd hu) ⟨.bl _, H, I, rfl, q⟩
theorem op_notInS (hu : X.A.units + 65 < cLine) : OpR X (compareOp .NotIn) (rNotInS X.K) := by
  intro pins s σ H x y v u Q I rx ry h
  obtain ⟨d, ds, hd, he, sd, se, q⟩ := h
  obtain ⟨as, r1⟩ := Dp.reads I d x v hd rx
  rcases he with he | he
  · obtain ⟨bs, r2⟩ := Dp.reads I (.list ds) y u he ry
    exact SeqAt.notIn_list_reads r2 r1 (canLayL se) (SeqAt.canLay_of_shaped sd) (room_in_shaped sd hu) ⟨.bl _, H, I, rfl, q⟩
  · obtain ⟨bs, r2⟩ := Dp.reads I (.tuple ds) y u he ry
    exact SeqAt.notIn_tuple_reads r2 r1 (canLayL se) (SeqAt.canLay_of_shaped sd) (room_in_shaped sd hu) ⟨.bl _, H, I, rfl, q⟩
end
theorem _root_.L2.Room.units65 {k : Nat} {A : Around} (r : Room k A) : A.units + 65 < cLine := by have := r.un; omega
theorem opd_eq {K : PySem.W.Frag} : OpD K (rEqD K) oEq := fun G F σ H ρ v1 d1 v2 d2 Qd Q ev r1 r2 ⟨p, q, e1, e2, s1, s2, hQ⟩ hq => ⟨p, q, r1.dp ev.sub e1, r2.dp ev.sub e2, s1, s2, hq _ H F _ (Same.refl _) ev Fr.refl (.bl _) hQ⟩
theorem opd_ne {K : PySem.W.Frag} : OpD K (rNeD K) oNe := fun G F σ H ρ v1 d1 v2 d2 Qd Q ev r1 r2 ⟨p, q, e1, e2, s1, s2, hQ⟩ hq => ⟨p, q, r1.dp ev.sub e1, r2.dp ev.sub e2, s1, s2, hq _ H F _ (Same.refl _) ev Fr.refl (.bl _) hQ⟩
theorem dp_items {K : PySem.W.Frag} {F H : Hp} {v : V} {y : D} {ys : List D} {q : List PyData} (s : Same F H) (r : Rp K F v y) (e : itemsOf y = some ys) (e2 : toPyL ys = some q) : Dp K H v (.list q) ∨ Dp K H v (.tuple q) := by
  cases y with
  | tup xs =>
    cases e
    exact .inr (r.dp s (by unfold toPy; rw [e2]; rfl))
  | lst xs =>
    cases e
    exact .inl (r.dp s (by unfold toPy; rw [e2]; rfl))
  | _ => cases e
theorem opd_in {K : PySem.W.Frag} : OpD K (rInS K) oIn := fun G F σ H ρ v1 d1 v2 d2 Qd Q ev r1 r2 ⟨ys, p, q, e0, e1, e2, s1, s2, hQ⟩ hq => ⟨p, q, r1.dp ev.sub e1, dp_items ev.sub r2 e0 e2, s1, s2, hq _ H F _ (Same.refl _) ev Fr.refl (.bl _) hQ⟩
theorem opd_notIn {K : PySem.W.Frag} : OpD K (rNotInS K) oNotIn := fun G F σ H ρ v1 d1 v2 d2 Qd Q ev r1 r2 ⟨ys, p, q, e0, e1, e2, s1, s2, hQ⟩ hq => ⟨p, q, r1.dp ev.sub e1, dp_items ev.sub r2 e0 e2, s1, s2, hq _ H F _ (Same.refl _) ev Fr.refl (.bl _) hQ⟩
theorem opd_isN {K : PySem.W.Frag} : OpD K rIsN oIsNon := fun G F σ H ρ v1 d1 v2 d2 Qd Q ev r1 r2 ⟨e1, hQ⟩ hq => by
  subst e1
  cases r2
  refine ⟨rfl, hq _ H F _ (Same.refl _) ev Fr.refl ?_ hQ⟩
  cases r1 <;> exact .bl _
theorem opd_notN {K : PySem.W.Frag} : OpD K rNotN oNotNon := fun G F σ H ρ v1 d1 v2 d2 Qd Q ev r1 r2 ⟨e1, hQ⟩ hq => by
  subst e1
  cases r2
  refine ⟨rfl, hq _ H F _ (Same.refl _) ev Fr.refl ?_ hQ⟩
  cases r1 <;> exact .bl _
theorem opd_isB {K : PySem.W.Frag} : OpD K rIsB oIsBl := fun G F σ H ρ v1 d1 v2 d2 Qd Q ev r1 r2 ⟨a, b, e1, e2, hQ⟩ hq => by
  subst e1 e2
  cases r1; cases r2
  exact ⟨a, b, rfl, rfl, hq _ H F _ (Same.refl _) ev Fr.refl (.bl _) hQ⟩
theorem opd_notB {K : PySem.W.Frag} : OpD K rNotB oNotBl := fun G F σ H ρ v1 d1 v2 d2 Qd Q ev r1 r2 ⟨a, b, e1, e2, hQ⟩ hq => by
  subst e1 e2
  cases r1; cases r2
  exact ⟨a, b, rfl, rfl, hq _ H F _ (Same.refl _) ev Fr.refl (.bl _) hQ⟩
/-- an operator of a comparison, over a def -/
def CmpR (S : Sta) (op : CmpOp) (r : R2) (o : D → D → (D → Prop) → Prop) : Prop := (∀ X, Fam S X → OpR X (compareOp op) r) ∧ OpD S.K r o
section
variable {S : Sta} {a b c e : Expr} {pos : Pos} {wa wb wc : W} {op op' : CmpOp} {r r' : R2} {o o' : D → D → (D → Prop) → Prop}
theorem cm_lt : CmpR S .Lt (rI0 fun i j => .bl (decide (i < j))) (oB0 fun i j => decide (i < j)) := ⟨fun X f => op_lt, opd_B0⟩
theorem cm_le : CmpR S .LtE (rI0 fun i j => .bl (decide (i ≤ j))) (oB0 fun i j => decide (i ≤ j)) := ⟨fun X f => op_le, opd_B0⟩
theorem cm_gt : CmpR S .Gt (rI0 fun i j => .bl (decide (j < i))) (oB0 fun i j => decide (j < i)) := ⟨fun X f => op_gt, opd_B0⟩
theorem cm_ge : CmpR S .GtE (rI0 fun i j => .bl (decide (j ≤ i))) (oB0 fun i j => decide (j ≤ i)) := ⟨fun X f => op_ge, opd_B0⟩
theorem cm_eq : CmpR S .Eq (rEqD S.K) oEq := ⟨fun X f => f.K ▸ op_eqD f.room.units, opd_eq⟩
theorem cm_ne : CmpR S .NotEq (rNeD S.K) oNe := ⟨fun X f => f.K ▸ op_neD f.room.units, opd_ne⟩
theorem cm_in : CmpR S .In (rInS S.K) oIn := ⟨fun X f => f.K ▸ op_inS f.room.units65, opd_in⟩
theorem cm_notIn : CmpR S .NotIn (rNotInS S.K) oNotIn := ⟨fun X f => f.K ▸ op_notInS f.room.units65, opd_notIn⟩
theorem cm_isN : CmpR S .Is rIsN oIsNon := ⟨fun X f => op_isN, opd_isN⟩
theorem cm_notN : CmpR S .IsNot rNotN oNotNon := ⟨fun X f => op_notN, opd_notN⟩
theorem cm_isB : CmpR S .Is rIsB oIsBl := ⟨fun X f => op_isBl, opd_isB⟩
theorem cm_notB : CmpR S .IsNot rNotB oNotBl := ⟨fun X f => op_notBl, opd_notB⟩
theorem de_cmp (h : CmpR S op r o) (ha : DE S a wa) (hb : DE S b wb) (hm : behindInMarks op b = false := by first | exact nomark _ | rfl) : DE S (.Compare a [op] [b] pos) (wOp o wa wb) := fun X f =>
  (pe_cmpR (h.1 X f) (ha X f) (hb X f) hm).imp (tD_op h.2)
theorem dt_cmp (h : CmpR S op r o) (ha : DE S a wa) (hb : DE S b wb) (hm : behindInMarks op b = false := by first | exact nomark _ | rfl) : DT S (.Compare a [op] [b] pos) (wtV (wOp o wa wb)) := fun X f =>
  (pt_cmpR (h.1 X f) (ha X f) (hb X f) hm).imp fun σ H Q ⟨G, F, ρ, Qd, ev, hw, hq⟩ => tD_op h.2 σ H _ ⟨G, F, ρ, _, ev, hw, fun v H1 F1 d s1 e1 f1 r1 ⟨k, ek, q1⟩ => by
    subst ek
    cases r1
    exact ⟨k, rfl, hq k H1 F1 s1 e1 f1 q1⟩⟩
def wChain (o o' : D → D → (D → Prop) → Prop) (wa wb wc : W) : W := fun G ρ Q => wa G ρ fun x => wb G ρ fun y => o x y fun z => ∃ k, z = .bl k ∧ if k = true then wc G ρ fun u => o' y u Q else Q (.bl false)
theorem chain_imp {K : PySem.W.Frag} (h : OpD K r o) (h' : OpD K r' o') (σ : St) (H : Hp) (Q : VK) : tD K (wChain o o' wa wb wc) σ H Q → tChain r r' (tD K wa) (tD K wb) (tD K wc) σ H Q := fun ⟨G, F, ρ, Qd, ev, hw, hq⟩ =>
  ⟨G, F, ρ, _, ev, hw, fun v1 H1 F1 d1 s1 e1 f1 r1 q1 => ⟨G, F1, ρ, _, e1, q1, fun v2 H2 F2 d2 s2 e2 f2 r2 q2 =>
    h G F2 σ H2 ρ v1 d1 v2 d2 _ _ e2 (r1.mono s2) r2 q2 fun v3 H3 F3 d3 s3 e3 f3 r3 ⟨k, ek, q3⟩ => by
      subst ek
      cases r3
      refine ⟨k, rfl, ?_⟩
      cases k with
      | true =>
        refine iteT ⟨G, F3, ρ, _, e3, (by rw [if_pos rfl] at q3; exact q3), fun v4 H4 F4 d4 s4 e4 f4 r4 q4 => ?_⟩
        exact h' G F4 σ H4 ρ v2 d2 v4 d4 Qd Q e4 (r2.mono (s3.trans s4)) r4 q4 fun v H' F' d s5 e5 f5 r5 q5 => hq v H' F' d (s1.trans (s2.trans (s3.trans (s4.trans s5)))) e5 (f1.trans (f2.trans (f3.trans (f4.trans f5)))) r5 q5
      | false => exact iteF (hq _ H3 F3 _ (s1.trans (s2.trans s3)) e3 (f1.trans (f2.trans f3)) (.bl false) (by rw [if_neg Bool.false_ne_true] at q3; exact q3))⟩⟩
theorem de_chain (h : CmpR S op r o) (h' : CmpR S op' r' o') (ha : DE S a wa) (hb : DE S b wb) (hc : DE S c wc) (hm : lastMarks [op, op'] [b, c] = false := by with_unfolding_all rfl) : DE S (.Compare a [op, op'] [b, c] pos) (wChain o o' wa wb wc) := fun X f =>
  (pe_chain (h.1 X f) (h'.1 X f) (ha X f) (hb X f) (hc X f) hm).imp (chain_imp h.2 h'.2)
theorem dt_chain (h : CmpR S op r o) (h' : CmpR S op' r' o') (ha : DE S a wa) (hb : DE S b wb) (hc : DE S c wc) (hm : lastMarks [op, op'] [b, c] = false := by with_unfolding_all rfl) : DT S (.Compare a [op, op'] [b, c] pos) (wtV (wChain o o' wa wb wc)) := fun X f =>
  (pt_chain (h.1 X f) (h'.1 X f) (ha X f) (hb X f) (hc X f) hm).imp fun σ H Q ⟨G, F, ρ, Qd, ev, hw, hq⟩ => chain_imp h.2 h'.2 σ H _ ⟨G, F, ρ, _, ev, hw, fun v H1 F1 d s1 e1 f1 r1 ⟨k, ek, q1⟩ => by
    subst ek
    cases r1
    exact ⟨k, rfl, hq k H1 F1 s1 e1 f1 q1⟩⟩
end
end DL
set_option maxHeartbeats 4000000
namespace DL
open PySem PySem.Spec PyProof.Rows L2

/-! ### what a def promises, in plain data -/
abbrev FS := Gc → List D → (SV → Prop) → Prop
def spV (K : PySem.W.Frag) (sp : FS) : Sp := fun vs H Q _ => ∃ G F ds Qd, Same F H ∧ (∀ a, G.R a → F a = none) ∧ G.Wd H ∧ RpL K F vs ds ∧ sp G ds Qd ∧
  ∀ v H' F' sv, Same F F' → Same F' H' → (∀ a, G.R a → F' a = none) → Fr G H H' → G.Wd H' → RpO K G F' H H' v sv → Qd sv → Q v H'
/-- a def that is known by its promise -/
structure Kn (B : Bs) (k : Nat) (x : Str) (st : Stmt) (ps : List Str) (sp : FS) : Prop where
  ex : ∃ f fd, FnOk B.P B.w B.K B.mg B.base CX0 k f fd ps (spV B.K sp) ∧ B.mg x = some (.ref f) ∧ FunD B.K x x (defArgs st) (defBody st) (defScope st) [] [] f fd ∧ Binds B.K fd ps []
theorem Kn.mono {B : Bs} {j k : Nat} {x : Str} {st : Stmt} {ps : List Str} {sp : FS} (h : Kn B j x st ps sp) (hk : j ≤ k) : Kn B k x st ps sp := by
  obtain ⟨f, fd, F, hm, D, hb⟩ := h.ex
  exact ⟨f, fd, F.mono hk, hm, D, hb⟩
def woCall (sp : FS) (r : WA) : WO := fun G ρ Q => r G ρ fun ds => sp G ds Q
theorem do_call {S : Sta} {j : Nat} {x : Str} {st : Stmt} {ps : List Str} {sp : FS} {e : Expr} {es : List Expr} {p pos : Pos} {r : WA} (h : Kn S.toBs j x st ps sp) (hj : j ≤ S.k) (hr : DA S (e :: es) r) (hg : (S.names.lookup x == some .globalImplicit) = true := by kernel_rfl)
    (hdb : (x == ("__debug__" : Str)) = false := by kernel_rfl) (he : ∀ env, starEach (e :: es) env = (false, eval e env) :: starEach es env := by intro _; rfl) (hpl : ∀ env, (backTo pos (starEach es env)).any (·.1) = false := by intro _; rfl) :
    DO S (.Call (.Name x p) (e :: es) [] pos) (woCall sp r) := fun X f => by
  obtain ⟨fa, fd, F, hm, FD, hb⟩ := h.ex
  have hkp := FD.kp
  rw [← f.P, ← f.w, ← f.K, ← f.mg, ← f.base] at F
  refine (pe_call F (f.room.mono hj) (by unfold Gl Env.kindOf; rw [f.look]; exact beq_iff_eq.mp hg) (by rw [f.mg]; exact hm) (by rw [f.K]; exact hkp) (by rw [f.K]; exact hb) (dvs := []) .nil pass0 (hr X f) hdb (he _) (hpl _)).imp fun σ H Q ⟨G, F, ρ, Qd, ev, hw, hq⟩ =>
    ⟨G, F, ρ, _, ev, hw, fun vs H1 F1 ds s1 e1 f1 r1 q1 => ⟨G, F1, ds, Qd, e1.sub, e1.res, e1.wd, by rw [List.append_nil, f.K]; exact r1, q1, fun v H' F' sv s2 s3 s4 f2 w2 r2 q2 =>
      hq v H' F' sv (s1.trans s2) (e1.go s2 s3 f2 s4 w2) (f1.trans f2) (by rw [f.K] at r2; exact r2.back f1) q2⟩⟩

/-! ### statements -/
mutual
def imm : D → Bool
  | .tup xs => immL xs
  | .lst _ => false
  | .dic _ => false
  | _ => true
def immL : List D → Bool
  | [] => true
  | x :: xs => imm x && immL xs
end
def immS : SV → Bool
  | .fz d => imm d
  | .ow xs => immL xs
  | .od kvs => immL (kvs.map (·.2))
def isOwn : SV → Bool
  | .fz _ => false
  | _ => true
/-- the tuples beside what was there -/
def tupOf (F F' : Hp) : Hp := fun a => match F a with
  | some o => some o
  | none => match F' a with
    | some (.tup xs) => some (.tup xs)
    | some (.frz o u) => some (.frz o u)
    | _ => none
section
variable {K : PySem.W.Frag} {F F' H : Hp}
theorem tupOf_same : Same F (tupOf F F') := fun a o h => by unfold tupOf; rw [h]
theorem tupOf_sub (s : Same F F') : Same (tupOf F F') F' := fun a o h => by
  unfold tupOf at h
  cases q : F a with
  | some u => rw [q] at h; cases h; exact s _ _ q
  | none =>
    rw [q] at h
    dsimp only at h
    split at h
    · rename_i xs e; cases h; exact e
    · rename_i o u e; cases h; exact e
    · cases h
theorem tupOf_none {a : Addr} (h : F' a = none) (s : Same F F') : tupOf F F' a = none := by
  cases q : tupOf F F' a with
  | none => rfl
  | some o => rw [tupOf_sub s _ _ q] at h; cases h
/-- no list of ours is among them -/
theorem tupOf_own {a : Addr} {o : HO} (h : F a = none) (s : Same F F') (s' : Same F' H) (ha : H a = some o) (ho : isMutO o = true) : tupOf F F' a = none := by
  cases q : F' a with
  | none => exact tupOf_none q s
  | some u =>
    have e := s' _ _ q
    rw [ha] at e
    cases e
    unfold tupOf
    rw [h, q]
    cases o <;> first | rfl | cases ho
theorem tupOf_sqt {a : Addr} {vs : List V} (s : Same F F') (h : SqT K F' a vs) : SqT K (tupOf F F') a vs := by
  rcases h with (h | ⟨o, h⟩) | h
  · refine .inl (.inl ?_)
    unfold tupOf
    cases q : F a with
    | some u => have := s _ _ q; rw [h] at this; cases this; rfl
    | none => dsimp only; rw [h]
  · refine .inl (.inr ⟨o, ?_⟩)
    unfold tupOf
    cases q : F a with
    | some u => have := s _ _ q; rw [h] at this; cases this; rfl
    | none => dsimp only; rw [h]
  · exact .inr h
mutual
theorem Rp.tupOf (s : Same F F') : ∀ {d : D} {v : V}, Rp K F' v d → imm d = true → Rp K (tupOf F F') v d
  | _, _, .non, _ => .non
  | _, _, .bl b, _ => .bl b
  | _, _, .int i, _ => .int i
  | _, _, .str x, _ => .str x
  | _, _, .tup h r, e => .tup (tupOf_sqt s h) (RpL.tupOf s r (by unfold imm at e; exact e))
  | _, _, .lst _ _, e => by unfold imm at e; cases e
  | _, _, .dic _ _, e => by unfold imm at e; cases e
  | _, _, .ob a, _ => .ob a
theorem RpL.tupOf (s : Same F F') : ∀ {ds : List D} {vs : List V}, RpL K F' vs ds → immL ds = true → RpL K (tupOf F F') vs ds
  | _, _, .nil, _ => .nil
  | _, _, .cons h r, e => by
    unfold immL at e
    obtain ⟨e1, e2⟩ := Bool.and_eq_true_iff.mp e
    exact .cons (Rp.tupOf s h e1) (RpL.tupOf s r e2)
end
end

structure Ev (K : PySem.W.Frag) (G : Gc) (H0 F0 F H : Hp) (σ : St) (ρ : En) : Prop where
  r : EvR K G F H σ ρ
  f0 : Same F0 F
  fr : Fr G H0 H
  own : ∀ (i : Nat) (sv : SV) (a : Addr), ρ[i]? = some (some sv) → isOwn sv = true → σ[i]? = some (some (.ref a)) → F a = none ∧ H0 a = none
  apart : ∀ (i j : Nat) (sv sw : SV) (a : Addr), i ≠ j → ρ[i]? = some (some sv) → isOwn sv = true → ρ[j]? = some (some sw) → isOwn sw = true → σ[i]? = some (some (.ref a)) → σ[j]? = some (some (.ref a)) → False
theorem Ev.len {K : PySem.W.Frag} {G : Gc} {H0 F0 F H : Hp} {σ : St} {ρ : En} (e : Ev K G H0 F0 F H σ ρ) : σ.length = ρ.length := e.r.len

section
variable {K : PySem.W.Frag} {G : Gc} {H0 F0 F F' H H' : Hp} {σ : St} {ρ : En}
/-- an own slot's object -/
theorem EvR.ownAt (e : EvR K G F H σ ρ) {i : Nat} {sv : SV} {a : Addr} (h : ρ[i]? = some (some sv)) (ho : isOwn sv = true) (ha : σ[i]? = some (some (.ref a))) : ∃ o, H a = some o ∧ isMutO o = true ∧ ¬ G.R a := by
  obtain ⟨v, h1, h2⟩ := e.slot i sv h
  rw [ha] at h1
  cases h1
  cases sv with
  | fz d => cases ho
  | ow xs =>
    obtain ⟨b, vs, eb, q1, q2, q3⟩ := h2
    cases eb
    exact ⟨_, q1, rfl, q3⟩
  | od kds =>
    obtain ⟨b, vs, eb, q1, q0, q2, q3⟩ := h2
    cases eb
    exact ⟨_, q1, rfl, q3⟩
theorem Ev.go (e : Ev K G H0 F0 F H σ ρ) (s : Same F F') (e' : EvR K G F' H' σ ρ) (fr : Fr G H H') : Ev K G H0 F0 F H' σ ρ :=
  ⟨e.r.go (Same.refl _) (s.trans e'.sub) fr e.r.res e'.wd, e.f0, e.fr.trans fr, e.own, e.apart⟩
/-- with the tuples that were made besides -/
theorem Ev.goT (e : Ev K G H0 F0 F H σ ρ) (s : Same F F') (e' : EvR K G F' H' σ ρ) (fr : Fr G H H') : Ev K G H0 F0 (tupOf F F') H' σ ρ where
  r := e.r.go tupOf_same ((tupOf_sub s).trans e'.sub) fr (fun a r => tupOf_none (e'.res a r) s) e'.wd
  f0 := e.f0.trans tupOf_same
  fr := e.fr.trans fr
  own := fun i sv a h ho ha => by
    obtain ⟨q1, q2⟩ := e.own i sv a h ho ha
    obtain ⟨o, q3, q4, _⟩ := e'.ownAt h ho ha
    exact ⟨tupOf_own q1 s e'.sub q3 q4, q2⟩
  apart := e.apart
/-- all that is ours is given up -/
def frzAll (ρ : En) : En := ρ.map fun o => match o with
  | some (.ow xs) => some (.fz (.lst xs))
  | some (.od _) => none
  | o => o
theorem frzAll_get {ρ : En} {i : Nat} {sv : SV} (h : (frzAll ρ)[i]? = some (some sv)) : (∃ xs, sv = .fz (.lst xs) ∧ ρ[i]? = some (some (.ow xs))) ∨ (isOwn sv = false ∧ ρ[i]? = some (some sv)) := by
  unfold frzAll at h
  rw [List.getElem?_map] at h
  cases q : ρ[i]? with
  | none => rw [q] at h; cases h
  | some o =>
    rw [q] at h
    cases o with
    | none => cases h
    | some sw =>
      cases sw with
      | fz d => cases h; exact .inr ⟨rfl, rfl⟩
      | ow xs => cases h; exact .inl ⟨xs, rfl, rfl⟩
      | od kvs => cases h
open Classical in
/-- .. and stands for good -/
noncomputable def ownOf (F' H' : Hp) (σ : St) (ρ : En) : Hp := fun a => match F' a with
  | some o => some o
  | none => if ∃ (i : Nat) (xs : List D), ρ[i]? = some (some (.ow xs)) ∧ σ[i]? = some (some (.ref a)) then H' a else none
theorem ownOf_same : Same F' (ownOf F' H' σ ρ) := fun a o h => by unfold ownOf; rw [h]
theorem ownOf_sub (s : Same F' H') : Same (ownOf F' H' σ ρ) H' := fun a o h => by
  unfold ownOf at h
  cases q : F' a with
  | some u => rw [q] at h; cases h; exact s _ _ q
  | none =>
    rw [q] at h
    dsimp only at h
    split at h
    · exact h
    · cases h
theorem ownOf_at {a : Addr} {o : HO} (s : Same F' H') {i : Nat} {xs : List D} (h : ρ[i]? = some (some (.ow xs))) (ha : σ[i]? = some (some (.ref a))) (q : H' a = some o) : ownOf F' H' σ ρ a = some o := by
  unfold ownOf
  cases z : F' a with
  | some u => have := s _ _ z; rw [q] at this; cases this; rfl
  | none => dsimp only; rw [if_pos ⟨i, xs, h, ha⟩]; exact q
theorem ownOf_none {a : Addr} (h : F' a = none) (n : ∀ (i : Nat) (xs : List D), ρ[i]? = some (some (.ow xs)) → σ[i]? ≠ some (some (.ref a))) : ownOf F' H' σ ρ a = none := by
  unfold ownOf
  rw [h]
  dsimp only
  rw [if_neg]
  rintro ⟨i, xs, h1, h2⟩
  exact n i xs h1 h2
theorem Ev.goA (e : Ev K G H0 F0 F H σ ρ) (s : Same F F') (e' : EvR K G F' H' σ ρ) (fr : Fr G H H') : Ev K G H0 F0 (ownOf F' H' σ ρ) H' σ (frzAll ρ) where
  r := by
    refine ⟨ownOf_sub e'.sub, fun a r => ?_, e'.wd, fun i sv h => ?_, by unfold frzAll; rw [List.length_map]; exact e.r.len⟩
    · refine ownOf_none (e'.res a r) fun i xs h1 h2 => ?_
      obtain ⟨o, _, _, n⟩ := e'.ownAt h1 rfl h2
      exact n r
    · rcases frzAll_get h with ⟨xs, rfl, q⟩ | ⟨ho, q⟩
      · obtain ⟨v, h1, a, vs, rfl, h2, h3, h4⟩ := e'.slot i _ q
        exact ⟨_, h1, .lst (ownOf_at e'.sub q h1 h2) (h3.mono ownOf_same)⟩
      · obtain ⟨v, h1, h2⟩ := e'.slot i _ q
        cases sv with
        | fz d => exact ⟨v, h1, Rp.mono ownOf_same h2⟩
        | _ => cases ho
  f0 := (e.f0.trans s).trans ownOf_same
  fr := e.fr.trans fr
  own := fun i sv a h ho ha => by
    rcases frzAll_get h with ⟨xs, rfl, q⟩ | ⟨ho', q⟩
    · cases ho
    · rw [ho] at ho'; cases ho'
  apart := fun i j sv sw a _ h ho _ _ _ _ => by
    rcases frzAll_get h with ⟨xs, rfl, q⟩ | ⟨ho', q⟩
    · cases ho
    · rw [ho] at ho'; cases ho'
end
end DL
set_option maxHeartbeats 4000000
namespace DL
open PySem PySem.Spec PyProof.Rows L2

/-- a name's new value; what may hold our lists gives all of them up -/
def put (ρ : En) (i : Nat) (sv : SV) : En := match immS sv with
  | true => ρ.set i (some sv)
  | false => (frzAll ρ).set i (some sv)
section
variable {K : PySem.W.Frag} {G : Gc} {H0 F0 F F' H H' : Hp} {σ : St} {ρ : En}
theorem set_get {α : Type} {l : List α} {i j : Nat} {x y : α} (h : (l.set i x)[j]? = some y) : (i = j ∧ x = y) ∨ (i ≠ j ∧ l[j]? = some y) := by
  by_cases e : i = j
  · subst e
    by_cases hl : i < l.length
    · rw [List.getElem?_set_self hl] at h; exact .inl ⟨rfl, Option.some.inj h⟩
    · rw [List.getElem?_eq_none (by simpa using hl)] at h; cases h
  · rw [List.getElem?_set_ne e] at h; exact .inr ⟨e, h⟩
/-- a slot gets a value: G1 what stands for good then -/
theorem Ev.set (e : Ev K G H0 F0 F H σ ρ) {i : Nat} {v : V} {sv : SV} (hi : i < ρ.length) (h : RpS K G F H v sv)
    (hn : isOwn sv = true → ∀ a, v = .ref a → F a = none ∧ H0 a = none ∧ ∀ (j : Nat) (sw : SV), j ≠ i → ρ[j]? = some (some sw) → isOwn sw = true → σ[j]? ≠ some (some (.ref a))) : Ev K G H0 F0 F H (σ.set i (some v)) (ρ.set i (some sv)) where
  r := ⟨e.r.sub, e.r.res, e.r.wd, fun j sw q => by
    rcases set_get q with ⟨rfl, z⟩ | ⟨ne, q⟩
    · cases z; exact ⟨v, List.getElem?_set_self (by rw [e.len]; exact hi), h⟩
    · obtain ⟨u, h1, h2⟩ := e.r.slot j sw q
      exact ⟨u, by rw [List.getElem?_set_ne ne]; exact h1, h2⟩, by rw [List.length_set, List.length_set]; exact e.len⟩
  f0 := e.f0
  fr := e.fr
  own := fun j sw a q ho ha => by
    rcases set_get q with ⟨rfl, z⟩ | ⟨ne, q⟩
    · cases z
      rw [List.getElem?_set_self (by rw [e.len]; exact hi)] at ha
      cases ha
      obtain ⟨h1, h2, _⟩ := hn ho a rfl
      exact ⟨h1, h2⟩
    · rw [List.getElem?_set_ne ne] at ha
      exact e.own j sw a q ho ha
  apart := fun j k sw sx a ne q1 o1 q2 o2 a1 a2 => by
    rcases set_get q1 with ⟨rfl, z⟩ | ⟨n1, q1⟩
    · rcases set_get q2 with ⟨rfl, z2⟩ | ⟨n2, q2⟩
      · exact ne rfl
      · cases z
        rw [List.getElem?_set_self (by rw [e.len]; exact hi)] at a1
        rw [List.getElem?_set_ne n2] at a2
        cases a1
        exact (hn o1 a rfl).2.2 k sx (Ne.symm n2) q2 o2 a2
    · rw [List.getElem?_set_ne n1] at a1
      rcases set_get q2 with ⟨rfl, z⟩ | ⟨n2, q2⟩
      · cases z
        rw [List.getElem?_set_self (by rw [e.len]; exact hi)] at a2
        cases a2
        exact (hn o2 a rfl).2.2 j sw (Ne.symm n1) q1 o1 a1
      · rw [List.getElem?_set_ne n2] at a2
        exact e.apart j k sw sx a ne q1 o1 q2 o2 a1 a2
/-- behind an expression, a name gets its value -/
theorem Ev.put (e : Ev K G H0 F0 F H σ ρ) (s : Same F F') (e' : EvR K G F' H' σ ρ) (fr : Fr G H H') {i : Nat} {v : V} {sv : SV} (hi : i < ρ.length) (h : RpO K G F' H H' v sv) :
    ∃ F2, Ev K G H0 F0 F2 H' (σ.set i (some v)) (put ρ i sv) ∧ Same F F2 := by
  have fresh : ∀ a, ¬ G.R a → H a = none → ∀ (j : Nat) (sw : SV), ρ[j]? = some (some sw) → isOwn sw = true → σ[j]? ≠ some (some (.ref a)) := fun a n hn j sw q ho z => by
    obtain ⟨o, q1, _, _⟩ := e.r.ownAt q ho z
    rw [hn] at q1; cases q1
  unfold DL.put
  cases hm : immS sv with
  | true =>
    refine ⟨tupOf F F', (e.goT s e' fr).set hi ?_ ?_, tupOf_same⟩
    · cases sv with
      | fz d => exact Rp.tupOf s h hm
      | ow xs =>
        obtain ⟨a, vs, rfl, h1, h2, h3, h4, h5⟩ := h
        exact ⟨a, vs, rfl, h1, RpL.tupOf s h2 hm, h3⟩
      | od kds =>
        obtain ⟨a, vs, rfl, h1, h0, h2, h3, h4, h5⟩ := h
        exact ⟨a, vs, rfl, h1, h0, RpL.tupOf s h2 hm, h3⟩
    · intro ho a ea
      cases sv with
      | fz d => cases ho
      | ow xs =>
        obtain ⟨b, vs, rfl, h1, h2, h3, h4, h5⟩ := h
        cases ea
        exact ⟨tupOf_none h5 s, e.fr.free h3 h4, fun j sw _ q hq => fresh _ h3 h4 j sw q hq⟩
      | od kds =>
        obtain ⟨b, vs, rfl, h1, h0, h2, h3, h4, h5⟩ := h
        cases ea
        exact ⟨tupOf_none h5 s, e.fr.free h3 h4, fun j sw _ q hq => fresh _ h3 h4 j sw q hq⟩
  | false =>
    have none_at : ∀ {a : Addr}, F' a = none → ¬ G.R a → H a = none → ownOf F' H' σ ρ a = none := fun {a} h5 h3 h4 => ownOf_none h5 fun j xs q z => fresh a h3 h4 j _ q rfl z
    refine ⟨ownOf F' H' σ ρ, (e.goA s e' fr).set (by unfold frzAll; rw [List.length_map]; exact hi) ?_ ?_, s.trans ownOf_same⟩
    · cases sv with
      | fz d => exact Rp.mono ownOf_same h
      | ow xs =>
        obtain ⟨a, vs, rfl, h1, h2, h3, h4, h5⟩ := h
        exact ⟨a, vs, rfl, h1, h2.mono ownOf_same, h3⟩
      | od kds =>
        obtain ⟨a, vs, rfl, h1, h0, h2, h3, h4, h5⟩ := h
        exact ⟨a, vs, rfl, h1, h0, h2.mono ownOf_same, h3⟩
    · intro ho a ea
      have apart : ∀ (j : Nat) (sw : SV), j ≠ i → (frzAll ρ)[j]? = some (some sw) → isOwn sw = true → σ[j]? ≠ some (some (.ref a)) := fun j sw _ q hq => by
        rcases frzAll_get q with ⟨xs, rfl, _⟩ | ⟨ho', _⟩
        · cases hq
        · rw [hq] at ho'; cases ho'
      cases sv with
      | fz d => cases ho
      | ow xs =>
        obtain ⟨b, vs, rfl, h1, h2, h3, h4, h5⟩ := h
        cases ea
        exact ⟨none_at h5 h3 h4, e.fr.free h3 h4, apart⟩
      | od kds =>
        obtain ⟨b, vs, rfl, h1, h0, h2, h3, h4, h5⟩ := h
        cases ea
        exact ⟨none_at h5 h3 h4, e.fr.free h3 h4, apart⟩
end

/-! ### the meaning of statements -/
structure EndsD where
  nx : En → Prop
  rt : SV → Prop
  bk : En → Prop := fun _ => False
  ct : En → Prop := fun _ => False
abbrev WS := Gc → EndsD → En → Prop
structure Goes (K : PySem.W.Frag) (G : Gc) (H0 F0 F : Hp) (E : EndsD) (D : Ends) : Prop where
  nx : ∀ σ' H' F' ρ', Ev K G H0 F0 F' H' σ' ρ' → Same F F' → E.nx ρ' → D.nx σ' H'
  bk : ∀ σ' H' F' ρ', Ev K G H0 F0 F' H' σ' ρ' → Same F F' → E.bk ρ' → D.bk σ' H'
  ct : ∀ σ' H' F' ρ', Ev K G H0 F0 F' H' σ' ρ' → Same F F' → E.ct ρ' → D.ct σ' H'
  rt : ∀ v H' F' sv, Same F0 F' → Same F' H' → (∀ a, G.R a → F' a = none) → Fr G H0 H' → G.Wd H' → RpO K G F' H0 H' v sv → E.rt sv → D.rt v H'
theorem Goes.mono {K : PySem.W.Frag} {G : Gc} {H0 F0 F F' : Hp} {E : EndsD} {D : Ends} (g : Goes K G H0 F0 F E D) (s : Same F F') : Goes K G H0 F0 F' E D :=
  ⟨fun σ' H' F2 ρ' e s2 q => g.nx σ' H' F2 ρ' e (s.trans s2) q, fun σ' H' F2 ρ' e s2 q => g.bk σ' H' F2 ρ' e (s.trans s2) q, fun σ' H' F2 ρ' e s2 q => g.ct σ' H' F2 ρ' e (s.trans s2) q, g.rt⟩
def tS (K : PySem.W.Frag) (w : WS) : TS := fun D σ H => ∃ G H0 F0 F ρ E, Ev K G H0 F0 F H σ ρ ∧ w G E ρ ∧ Goes K G H0 F0 F E D
def DS (S : Sta) (st : Stmt) (w : WS) : Prop := ∀ X, Fam S X → PS X st (tS S.K w)
def DSs (S : Sta) (st : List Stmt) (w : WS) : Prop := ∀ X, Fam S X → PSs X st (tS S.K w)
def wNext : WS := fun _ E ρ => E.nx ρ
def wSeq (a b : WS) : WS := fun G E ρ => a G { E with nx := fun ρ' => b G E ρ' } ρ
def wNever : WS := fun _ _ _ => False
def wRet (w : WO) : WS := fun G E ρ => w G ρ E.rt
def wRetN : WS := fun _ E _ => E.rt (.fz .non)
def wRetV (i : Nat) : WS := fun _ E ρ => ∃ sv, ρ[i]? = some (some sv) ∧ E.rt sv
def wIfS (t : WT) (a b : WS) : WS := fun G E ρ => t G ρ fun k => if k = true then a G E ρ else b G E ρ
def wSet (i : Nat) (w : WO) : WS := fun G E ρ => i < ρ.length ∧ w G ρ fun sv => E.nx (put ρ i sv)
def wSetV (i j : Nat) : WS := fun _ E ρ => i < ρ.length ∧ ∃ sv, ρ[j]? = some (some sv) ∧ match sv with
  | .fz d => E.nx (ρ.set i (some (.fz d)))
  | .ow xs => E.nx ((ρ.set j (some (.fz (.lst xs)))).set i (some (.fz (.lst xs))))
  | .od _ => False
section
variable {S : Sta} {st : Stmt} {rest : List Stmt} {a b : WS} {e c : Expr} {pos : Pos} {w : W} {wo : WO} {t : WT}
theorem dss_nil : DSs S [] wNext := fun X f => pss_nil.imp fun D σ H ⟨G, H0, F0, F, ρ, E, ev, hw, g⟩ => g.nx σ H F ρ ev (Same.refl _) hw
theorem dss_cons (h1 : DS S st a) (h2 : DSs S rest b) : DSs S (st :: rest) (wSeq a b) := fun X f => (pss_cons (h1 X f) (h2 X f)).imp fun D σ H ⟨G, H0, F0, F, ρ, E, ev, hw, g⟩ =>
  ⟨G, H0, F0, F, ρ, _, ev, hw, ⟨fun σ' H' F' ρ' e' s q => ⟨G, H0, F0, F', ρ', E, e', q, g.mono s⟩, g.bk, g.ct, g.rt⟩⟩
theorem dss_one (h1 : DS S st a) : DSs S [st] a := fun X f => pss_one (h1 X f)
theorem dss_never {sts : List Stmt} : DSs S sts wNever := fun X f => pss_never.imp fun D σ H ⟨G, H0, F0, F, ρ, E, ev, hw, g⟩ => hw
theorem ds_never : DS S st wNever := fun X f => ps_never.imp fun D σ H ⟨G, H0, F0, F, ρ, E, ev, hw, g⟩ => hw
theorem ds_pass : DS S (.Pass pos) wNext := fun X f => ps_pass.imp fun D σ H ⟨G, H0, F0, F, ρ, E, ev, hw, g⟩ => g.nx σ H F ρ ev (Same.refl _) hw
def wBreak : WS := fun _ E ρ => E.bk ρ
def wCont : WS := fun _ E ρ => E.ct ρ
theorem ds_break : DS S (.Break pos) wBreak := fun X f => ps_break.imp fun D σ H ⟨G, H0, F0, F, ρ, E, ev, hw, g⟩ => g.bk σ H F ρ ev (Same.refl _) hw
theorem ds_continue : DS S (.Continue pos) wCont := fun X f => ps_continue.imp fun D σ H ⟨G, H0, F0, F, ρ, E, ev, hw, g⟩ => g.ct σ H F ρ ev (Same.refl _) hw
theorem ds_ret (h : DO S e wo) : DS S (.Return (some e) pos) (wRet wo) := fun X f => (ps_ret (h X f)).imp fun D σ H ⟨G, H0, F0, F, ρ, E, ev, hw, g⟩ =>
  ⟨G, F, ρ, _, ev.r, hw, fun v H' F' sv s e' fr r q => g.rt v H' F' sv (ev.f0.trans s) e'.sub e'.res (ev.fr.trans fr) e'.wd (r.back ev.fr) q⟩
theorem ds_retN : DS S (.Return none pos) wRetN := fun X f => ps_retN.imp fun D σ H ⟨G, H0, F0, F, ρ, E, ev, hw, g⟩ => g.rt .non H F (.fz .non) ev.f0 ev.r.sub ev.r.res ev.fr ev.r.wd Rp.non hw
theorem ds_retV {i : Nat} {x : Str} {p : Pos} (hN : (S.N[i]? == some x) = true := by kernel_rfl) (hv : (S.names.lookup x == some .local || S.names.lookup x == some .cell || S.names.lookup x == some .free) = true := by kernel_rfl)
    (hd : (x == ("__debug__" : Str)) = false := by kernel_rfl) (hcd : (x == ("__classdict__" : Str)) = false := by kernel_rfl) : DS S (.Return (some (.Name x p)) pos) (wRetV i) := fun X f => by
  refine (ps_ret (pe_var (i := i) (x := x) (by rw [f.N]; exact beq_iff_eq.mp hN) (by
    unfold Vis
    rw [f.look]
    rcases Bool.or_eq_true_iff.mp hv with h | h
    · rcases Bool.or_eq_true_iff.mp h with h | h
      · exact .inl (beq_iff_eq.mp h)
      · exact .inr (.inl (beq_iff_eq.mp h))
    · exact .inr (.inr (beq_iff_eq.mp h))) hd hcd)).imp fun D σ H ⟨G, H0, F0, F, ρ, E, ev, ⟨sv, q, hw⟩, g⟩ => ?_
  obtain ⟨v, h1, h2⟩ := ev.r.slot i sv q
  refine ⟨v, h1, g.rt v H F sv ev.f0 ev.r.sub ev.r.res ev.fr ev.r.wd ?_ hw⟩
  cases sv with
  | fz d => exact h2
  | ow xs =>
    obtain ⟨a, vs, rfl, q1, q2, q3⟩ := h2
    obtain ⟨z1, z2⟩ := ev.own i _ a q rfl h1
    exact ⟨a, vs, rfl, q1, q2, q3, z2, z1⟩
  | od kds =>
    obtain ⟨a, vs, rfl, q1, q0, q2, q3⟩ := h2
    obtain ⟨z1, z2⟩ := ev.own i _ a q rfl h1
    exact ⟨a, vs, rfl, q1, q0, q2, q3, z2, z1⟩
theorem ds_if {p q : List Stmt} (hc : DT S c t) (ha : DSs S p a) (hb : DSs S q b) : DS S (.If c p q pos) (wIfS t a b) := fun X f => (ps_if (hc X f) (ha X f) (hb X f)).imp fun D σ H ⟨G, H0, F0, F, ρ, E, ev, hw, g⟩ =>
  ⟨G, F, ρ, _, ev.r, hw, fun k H' F' s e' fr z => by
    cases k with
    | true => exact iteT ⟨G, H0, F0, F, ρ, E, ev.go s e' fr, (by rw [if_pos rfl] at z; exact z), g⟩
    | false => exact iteF ⟨G, H0, F0, F, ρ, E, ev.go s e' fr, (by rw [if_neg Bool.false_ne_true] at z; exact z), g⟩⟩
theorem ds_expr (h : DE S e w) (hs : ∀ env, swapsWith e none pos.line env = pure false := by intro _; rfl) : DS S (.Expr e pos) (fun G E ρ => w G ρ fun _ => E.nx ρ) := fun X f => (ps_expr (h X f) (hs _)).imp fun D σ H ⟨G, H0, F0, F, ρ, E, ev, hw, g⟩ =>
  ⟨G, F, ρ, _, ev.r, hw, fun v H' F' d s e' fr r q => g.nx σ H' F ρ (ev.go s e' fr) (Same.refl _) q⟩
theorem locOf {X : Cx} (f : Fam S X) {x : Str} (hl : (S.names.lookup x == some .local || (S.names.lookup x == some .cell && S.fc x)) = true) : L2.Loc X.env.scope x ∧ (X.fn x = true ∨ X.env.scope.names.lookup x = some .local) := by
  unfold L2.Loc
  rw [f.look]
  rcases Bool.or_eq_true_iff.mp hl with h | h
  · exact ⟨.inl (beq_iff_eq.mp h), .inr (beq_iff_eq.mp h)⟩
  · obtain ⟨h1, h2⟩ := Bool.and_eq_true_iff.mp h
    exact ⟨.inr (beq_iff_eq.mp h1), .inl (f.fn x h2)⟩
theorem ds_set {i : Nat} {x : Str} {p : Pos} (he : DO S e wo) (nd : S.N.Nodup) (hN : (S.N[i]? == some x) = true := by kernel_rfl) (hl : (S.names.lookup x == some .local || (S.names.lookup x == some .cell && S.fc x)) = true := by kernel_rfl)
    (hs : ∀ env, swapsWith e (some (.Name x p)) pos.line env = pure false := by intro _; rfl) : DS S (.Assign [.Name x p] e pos) (wSet i wo) := fun X f => by
  obtain ⟨h1, h2⟩ := locOf f hl
  refine (ps_set (i := i) (by rw [f.N]; exact nd) (by rw [f.N]; exact beq_iff_eq.mp hN) h1 (he X f) (hs _) h2).imp fun D σ H ⟨G, H0, F0, F, ρ, E, ev, ⟨hi, hw⟩, g⟩ => ?_
  refine ⟨G, F, ρ, _, ev.r, hw, fun v H' F' sv s e' fr r q => ?_⟩
  obtain ⟨F2, ev2, s2⟩ := ev.put s e' fr hi r
  exact g.nx _ H' F2 _ ev2 s2 q
end
end DL
set_option maxHeartbeats 4000000
namespace DL
open PySem PySem.Spec PyProof.Rows L2

/-! ### a def keeps its promise -/
def startD (N : List Str) (ds : List D) : En := ds.map (fun d => some (SV.fz d)) ++ List.replicate (N.length - ds.length) none
theorem startD_get {N : List Str} {ds : List D} {i : Nat} {sv : SV} (h : (startD N ds)[i]? = some (some sv)) : ∃ d, sv = .fz d ∧ ds[i]? = some d := by
  unfold startD at h
  by_cases hi : i < ds.length
  · rw [List.getElem?_append_left (by simpa using hi), List.getElem?_map] at h
    cases e : ds[i]? with
    | none => rw [e] at h; cases h
    | some d => rw [e] at h; cases h; exact ⟨d, rfl, rfl⟩
  · rw [List.getElem?_append_right (by simpa using hi), List.getElem?_replicate] at h
    split at h <;> cases h
theorem start_get {N : List Str} {vs : List V} {i : Nat} {v : V} (h : vs[i]? = some v) : (L2.start N vs)[i]? = some (some v) := by
  unfold L2.start
  have hi : i < vs.length := (List.getElem?_eq_some_iff.mp h).1
  rw [List.getElem?_append_left (by simpa using hi), List.getElem?_map, h]
  rfl
theorem kn_of {B : Bs} {x : Str} {st : Stmt} {ps N : List Str} {sp : FS} {k : Nat} {f : Addr} {fd : FuncData} {ws : WS} (F : FunD B.K x x (defArgs st) (defBody st) (defScope st) [] [] f fd) (sc : FnScope N ps (defScope st)) (hm : B.mg x = some (.ref f)) (hb : Binds B.K fd ps [])
    (hB : DSs { B with N := N, names := (defScope st).names, k := k, fc := fun _ => true } (defBody st) ws)
    (law : ∀ G ds Qd, sp G ds Qd → ds.length = ps.length ∧ ws G { nx := fun _ => Qd (.fz .non), rt := Qd } (startD N ds)) : Kn B (k + 1) x st ps sp := by
  refine ⟨f, fd, F.ok sc (fun vs H Q E h => ?_) (fun cdv A outer s H vs Q E hr h => ?_), hm, F, hb⟩
  · obtain ⟨G, F, ds, Qd, s1, s2, s3, r, h, _⟩ := h
    rw [r.len]
    exact (law G ds Qd h).1
  · obtain ⟨G, F0, ds, Qd, s1, s2, s3, r, h, g⟩ := h
    obtain ⟨hl, hw⟩ := law G ds Qd h
    refine ⟨tS B.K ws, PSs.nox (hB _ ⟨rfl, rfl, rfl, rfl, rfl, rfl, rfl, rfl, hr, rfl, fun _ _ => rfl, sc.kind⟩), G, H, F0, F0, startD N ds, _, ⟨⟨s1, s2, s3, fun i sv q => ?_, ?_⟩, Same.refl _, Fr.refl, fun i sv a q ho _ => ?_, fun i j sv sw a _ q ho _ _ _ _ => ?_⟩, hw, ⟨fun σ' H' F' ρ' e s' q => ?_, fun _ _ _ _ _ _ q => q.elim, fun _ _ _ _ _ _ q => q.elim, fun v H' F' sv q1 q2 q3 q4 q5 q6 q7 => g v H' F' sv q1 q2 q3 q4 q5 q6 q7⟩⟩
    · obtain ⟨d, rfl, z⟩ := startD_get q
      obtain ⟨v, h1, h2⟩ := r.get z
      exact ⟨v, start_get h1, h2⟩
    · have := r.len
      unfold L2.start startD
      rw [List.length_append, List.length_append, List.length_map, List.length_map, List.length_replicate, List.length_replicate, this]
    · obtain ⟨d, rfl, _⟩ := startD_get q
      cases ho
    · obtain ⟨d, rfl, _⟩ := startD_get q
      cases ho
    · exact g .non H' F' (.fz .non) (e.f0) e.r.sub e.r.res e.fr e.r.wd Rp.non q
end DL
set_option maxHeartbeats 4000000
namespace DL
open PySem PySem.Spec PyProof.Rows L2

/-! ### what is walked -/
structure ItOk (K : PySem.W.Frag) (J : It) (F : Hp) (ds : List D) : Prop where
  go : ∀ i H F', Same F F' → Same F' H → i < ds.length → J.go i H ∧ ∀ x H', J.yld i H x H' → ∃ d, ds[i]? = some d ∧
    ((H' = H ∧ Rp K F' x d) ∨ ∃ T o, H T = none ∧ H' = upd H T o ∧ Rp K (upd F' T o) x d)
  stop : ∀ H F', Same F F' → Same F' H → J.stop ds.length H
theorem itok_list {K : PySem.W.Frag} {F : Hp} {a : Addr} {vs : List V} {ds : List D} (h : F a = some (.lst vs)) (r : RpL K F vs ds) : ItOk K (Itl K a) F ds where
  go := fun i H F' s s' hi => by
    have hv : i < vs.length := by rw [r.len]; exact hi
    have hH : SqL K H a vs := SqL.of (s' _ _ (s _ _ h))
    refine ⟨⟨vs, vs[i], hH, List.getElem?_eq_getElem hv⟩, fun x H' ⟨e, y⟩ => ?_⟩
    obtain ⟨d, h1, h2⟩ := r.getV (y vs hH)
    exact ⟨d, h1, .inl ⟨e, h2.mono s⟩⟩
  stop := fun H F' s s' => ⟨vs, SqL.of (s' _ _ (s _ _ h)), by rw [r.len]; exact Nat.le_refl _⟩
theorem itok_tup {K : PySem.W.Frag} {F : Hp} {a : Addr} {vs : List V} {ds : List D} (h : SqT K F a vs) (r : RpL K F vs ds) : ItOk K (Itt K a) F ds where
  go := fun i H F' s s' hi => by
    have hv : i < vs.length := by rw [r.len]; exact hi
    have hH : SqT K H a vs := Same.sqt (s.trans s') h
    refine ⟨⟨vs, vs[i], hH, List.getElem?_eq_getElem hv⟩, fun x H' ⟨e, y⟩ => ?_⟩
    obtain ⟨d, h1, h2⟩ := r.getV (y vs hH)
    exact ⟨d, h1, .inl ⟨e, h2.mono s⟩⟩
  stop := fun H F' s s' => ⟨vs, Same.sqt (s.trans s') h, by rw [r.len]; exact Nat.le_refl _⟩
def rangeD (lo : Int) (n : Nat) : List D := (List.range n).map fun (i : Nat) => D.int (lo + (i : Int))
theorem rangeD_len (lo : Int) (n : Nat) : (rangeD lo n).length = n := by unfold rangeD; rw [List.length_map, List.length_range]
theorem rangeD_get {lo : Int} {n i : Nat} (h : i < n) : (rangeD lo n)[i]? = some (.int (lo + (i : Int))) := by
  unfold rangeD
  rw [List.getElem?_map, List.getElem?_range h]
  rfl
theorem itok_range {K : PySem.W.Frag} {F : Hp} (lo : Int) (n : Nat) : ItOk K (Itr lo n) F (rangeD lo n) where
  go := fun i H F' s s' hi => by
    rw [rangeD_len] at hi
    exact ⟨hi, fun x H' ⟨e, y⟩ => ⟨_, rangeD_get hi, .inl ⟨e, by rw [y]; exact .int _⟩⟩⟩
  stop := fun H F' s s' => by rw [rangeD_len]; exact Nat.le_refl _
def zipD (xs ys : List D) : List D := List.zipWith (fun x y => D.tup [x, y]) xs ys
theorem zipD_get {xs ys : List D} {i : Nat} {x y : D} (h1 : xs[i]? = some x) (h2 : ys[i]? = some y) : (zipD xs ys)[i]? = some (.tup [x, y]) := by
  unfold zipD
  rw [List.getElem?_zipWith, h1, h2]
theorem Rp.pair {K : PySem.W.Frag} {F : Hp} {T : Addr} {x y : V} {d e : D} (hF : F T = none) (h1 : Rp K F x d) (h2 : Rp K F y e) : Rp K (upd F T (.tup [x, y])) (.ref T) (.tup [d, e]) :=
  .tup (SqT.of upd_same) (.cons (h1.mono (same_upd hF)) (.cons (h2.mono (same_upd hF)) .nil))
theorem none_sub {F H : Hp} {a : Addr} (s : Same F H) (h : H a = none) : F a = none := by
  cases q : F a with
  | none => rfl
  | some u => rw [s _ _ q] at h; cases h
theorem itok_zipL {K : PySem.W.Frag} {F : Hp} {a b : Addr} {vs us : List V} {ds es : List D} (h : F a = some (.lst vs)) (r : RpL K F vs ds) (h' : F b = some (.lst us)) (r' : RpL K F us es) : ItOk K (Itz K a b) F (zipD ds es) where
  go := fun i H F' s s' hi => by
    have l1 := r.len
    have l2 := r'.len
    have hi2 : i < ds.length ∧ i < es.length := by unfold zipD at hi; rw [List.length_zipWith] at hi; omega
    have hA : SqL K H a vs := SqL.of (s' _ _ (s _ _ h))
    have hB : SqL K H b us := SqL.of (s' _ _ (s _ _ h'))
    refine ⟨⟨vs, us, vs[i], us[i], hA, hB, List.getElem?_eq_getElem (by omega), List.getElem?_eq_getElem (by omega)⟩, fun x H' ⟨T, v1, v2, e1, nT, e2, y1, y2⟩ => ?_⟩
    obtain ⟨d1, q1, p1⟩ := r.getV (y1 vs hA)
    obtain ⟨d2, q2, p2⟩ := r'.getV (y2 us hB)
    subst e1
    exact ⟨_, zipD_get q1 q2, .inr ⟨T, _, nT, e2, .pair (none_sub s' nT) (p1.mono s) (p2.mono s)⟩⟩
  stop := fun H F' s s' => ⟨vs, us, SqL.of (s' _ _ (s _ _ h)), SqL.of (s' _ _ (s _ _ h')), by unfold zipD; rw [List.length_zipWith, r.len, r'.len]; omega⟩
theorem itok_zipT {K : PySem.W.Frag} {F : Hp} {a b : Addr} {vs us : List V} {ds es : List D} (h : SqT K F a vs) (r : RpL K F vs ds) (h' : SqT K F b us) (r' : RpL K F us es) : ItOk K (RZ.ItzT K a b) F (zipD ds es) where
  go := fun i H F' s s' hi => by
    have l1 := r.len
    have l2 := r'.len
    have hi2 : i < ds.length ∧ i < es.length := by unfold zipD at hi; rw [List.length_zipWith] at hi; omega
    have hA : SqT K H a vs := Same.sqt (s.trans s') h
    have hB : SqT K H b us := Same.sqt (s.trans s') h'
    refine ⟨⟨vs, us, vs[i], us[i], hA, hB, List.getElem?_eq_getElem (by omega), List.getElem?_eq_getElem (by omega)⟩, fun x H' ⟨T, v1, v2, e1, nT, e2, y1, y2⟩ => ?_⟩
    obtain ⟨d1, q1, p1⟩ := r.getV (y1 vs hA)
    obtain ⟨d2, q2, p2⟩ := r'.getV (y2 us hB)
    subst e1
    exact ⟨_, zipD_get q1 q2, .inr ⟨T, _, nT, e2, .pair (none_sub s' nT) (p1.mono s) (p2.mono s)⟩⟩
  stop := fun H F' s s' => ⟨vs, us, Same.sqt (s.trans s') h, Same.sqt (s.trans s') h', by unfold zipD; rw [List.length_zipWith, r.len, r'.len]; omega⟩
def enumD : Nat → List D → List D
  | _, [] => []
  | k, x :: xs => .tup [.int (k : Nat), x] :: enumD (k + 1) xs
theorem enumD_len : ∀ (k : Nat) (xs : List D), (enumD k xs).length = xs.length
  | _, [] => rfl
  | k, x :: xs => by unfold enumD; rw [List.length_cons, List.length_cons, enumD_len]
theorem enumD_get : ∀ {xs : List D} {k i : Nat} {x : D}, xs[i]? = some x → (enumD k xs)[i]? = some (.tup [.int ((k + i : Nat) : Int), x])
  | [], _, _, _, h => by simp at h
  | y :: ys, k, 0, x, h => by
    simp at h
    subst h
    rfl
  | y :: ys, k, i + 1, x, h => by
    have e := enumD_get (k := k + 1) (show ys[i]? = some x from by simpa using h)
    unfold enumD
    rw [List.getElem?_cons_succ, e, show k + 1 + i = k + (i + 1) by omega]
theorem itok_enum {K : PySem.W.Frag} {F : Hp} {a : Addr} {vs : List V} {ds : List D} (h : F a = some (.lst vs)) (r : RpL K F vs ds) : ItOk K (Ite K a) F (enumD 0 ds) where
  go := fun i H F' s s' hi => by
    rw [enumD_len] at hi
    have hv : i < vs.length := by rw [r.len]; exact hi
    have hH : SqL K H a vs := SqL.of (s' _ _ (s _ _ h))
    refine ⟨⟨vs, vs[i], hH, List.getElem?_eq_getElem hv⟩, fun x H' ⟨T, v1, e1, nT, e2, y⟩ => ?_⟩
    obtain ⟨d, h1, h2⟩ := r.getV (y vs hH)
    subst e1
    have e := enumD_get (k := 0) h1
    rw [Nat.zero_add] at e
    exact ⟨_, e, .inr ⟨T, _, nT, e2, .pair (none_sub s' nT) (.int _) (h2.mono s)⟩⟩
  stop := fun H F' s s' => ⟨vs, SqL.of (s' _ _ (s _ _ h)), by rw [enumD_len, r.len]; exact Nat.le_refl _⟩

/-! ### targets -/
abbrev WG := D → En → (En → Prop) → Prop
abbrev WGs := List D → En → (En → Prop) → Prop
/-- is: the slots that it stores -/
def GOk (K : PySem.W.Frag) (is : List Nat) (g : TG) (wg : WG) : Prop := ∀ (P : St → En → Prop) (F H : Hp) (σ : St) (ρ : En) (v : V) (d : D) (Qd : En → Prop) (Q : St → Hp → Prop),
  (∀ i v d σ ρ, i ∈ is → P σ ρ → i < ρ.length → Rp K F v d → P (σ.set i (some v)) (ρ.set i (some (.fz d)))) → Same F H → P σ ρ → Rp K F v d → wg d ρ Qd → (∀ σ' ρ', P σ' ρ' → Qd ρ' → Q σ' H) → g v σ H Q
def GsOk (K : PySem.W.Frag) (is : List Nat) (g : TGs) (wg : WGs) : Prop := ∀ (P : St → En → Prop) (F H : Hp) (σ : St) (ρ : En) (vs : List V) (ds : List D) (Qd : En → Prop) (Q : St → Hp → Prop),
  (∀ i v d σ ρ, i ∈ is → P σ ρ → i < ρ.length → Rp K F v d → P (σ.set i (some v)) (ρ.set i (some (.fz d)))) → Same F H → P σ ρ → RpL K F vs ds → wg ds ρ Qd → (∀ σ' ρ', P σ' ρ' → Qd ρ' → Q σ' H) → g vs σ H Q
def DG (S : Sta) (tg : Expr) (is : List Nat) (wg : WG) : Prop := ∃ g, (∀ X, Fam S X → PG X tg g) ∧ GOk S.K is g wg
def DGs (S : Sta) (tg : List Expr) (is : List Nat) (n : Nat) (wg : WGs) : Prop := ∃ g, (∀ X, Fam S X → PGs X tg g) ∧ GsOk S.K is g wg ∧ (∀ env, (assignEach tg env).length = n) ∧ (∀ env, (assignEach tg env).findIdx? (·.1) = none)
def wgName (i : Nat) : WG := fun d ρ Q => i < ρ.length ∧ Q (ρ.set i (some (.fz d)))
def wgTup (n : Nat) (gs : WGs) : WG := fun d ρ Q => ∃ ds, d = .tup ds ∧ ds.length = n ∧ gs ds ρ Q
def wgNil : WGs := fun ds ρ Q => ds = [] ∧ Q ρ
def wgCons (g : WG) (gs : WGs) : WGs := fun ds ρ Q => ∃ d r, ds = d :: r ∧ g d ρ fun ρ' => gs r ρ' Q
section
variable {S : Sta} {e : Expr} {es : List Expr} {pos : Pos}
theorem dg_name {i : Nat} {x : Str} (nd : S.N.Nodup) (hN : (S.N[i]? == some x) = true := by kernel_rfl) (hl : (S.names.lookup x == some .local || (S.names.lookup x == some .cell && S.fc x)) = true := by kernel_rfl) : DG S (.Name x pos) [i] (wgName i) :=
  ⟨gName i, fun X f => pg_name (by rw [f.N]; exact nd) (by rw [f.N]; exact beq_iff_eq.mp hN) (locOf f hl).1 (locOf f hl).2, fun P F H σ ρ v d Qd Q hP sF p r ⟨hi, q⟩ hq => hq _ _ (hP i v d σ ρ (List.mem_singleton.mpr rfl) p hi r) q⟩
theorem dgs_nil : DGs S [] [] 0 wgNil := ⟨gNil, fun X f => pgs_nil, fun P F H σ ρ vs ds Qd Q hP sF p r ⟨e, q⟩ hq => by
  subst e
  cases r
  exact ⟨rfl, hq _ _ p q⟩, fun _ => rfl, fun _ => rfl⟩
theorem dgs_cons {is js : List Nat} {n : Nat} {wg : WG} {wgs : WGs} (h1 : DG S e is wg) (h2 : DGs S es js n wgs) (hs : ∀ env, assignEach (e :: es) env = (false, assign e env) :: assignEach es env := by intro _; rfl) : DGs S (e :: es) (is ++ js) (n + 1) (wgCons wg wgs) := by
  obtain ⟨g, pg, ok⟩ := h1
  obtain ⟨gs, pgs, oks, hl, hf⟩ := h2
  refine ⟨gCons g gs, fun X f => pgs_cons (pg X f) (pgs X f) (by rw [hs]; rfl), fun P F H σ ρ vs ds Qd Q hP sF p r ⟨d, rr, e, q⟩ hq => ?_, fun env => by rw [hs, List.length_cons, hl], fun env => by rw [hs, List.findIdx?_cons, hf]; rfl⟩
  subst e
  cases r with
  | cons rv rvs =>
    refine ⟨_, _, rfl, ok P F H σ ρ _ d _ _ (fun i v d σ ρ hi => hP i v d σ ρ (List.mem_append_left _ hi)) sF p rv q fun σ' ρ' p' q' => ?_⟩
    exact oks P F H σ' ρ' _ rr Qd Q (fun i v d σ ρ hi => hP i v d σ ρ (List.mem_append_right _ hi)) sF p' rvs q' hq
theorem dg_tup {is : List Nat} {n k : Nat} {wgs : WGs} (h : DGs S es is n wgs) : DG S (.Tuple es k pos) is (wgTup n wgs) := by
  obtain ⟨gs, pgs, oks, hl, hf⟩ := h
  refine ⟨gTup S.K n gs, fun X f => f.K ▸ pg_tup f.calm (pgs X f) (hl _) (hf _), fun P F H σ ρ v d Qd Q hP sF p r ⟨ds, e, e2, q⟩ hq => ?_⟩
  subst e
  cases r with
  | tup h r => exact ⟨_, _, rfl, Same.sqt sF h, by rw [r.len]; exact e2, oks P F H σ ρ _ ds Qd Q hP sF p r q hq⟩
end

/-! ### sources, within an expression -/
section
variable (K : PySem.W.Frag)
def tI (w : WA) : TI := fun σ H R => ∃ G F ρ Qd, EvR K G F H σ ρ ∧ w G ρ Qd ∧ ∀ J H' F' ds, Same F F' → EvR K G F' H' σ ρ → Fr G H H' → ItOk K J F' ds → Qd ds → R J H'
end
def DI (S : Sta) (tg e : Expr) (w : WA) : Prop := ∀ X, Fam S X → PI X tg e (tI S.K w)
theorem _root_.L2.PI.imp {X : Cx} {tg e : Expr} {t t' : TI} (h : PI X tg e t) (i : ∀ σ H R, t' σ H R → t σ H R) : PI X tg e t' := ⟨fun pins s σ H Q I q => h.run pins s σ H Q I (i σ H Q q)⟩
def iSeq (K : PySem.W.Frag) (tl : TE) : TI := fun σ H R => tl σ H fun x H1 => ∃ a, x = .ref a ∧ (((∃ xs, SqL K H1 a xs) ∧ R (Itl K a) H1) ∨ ((∃ xs, SqT K H1 a xs) ∧ R (Itt K a) H1))
theorem pi_seq {X : Cx} {tg l : Expr} {tl : TE} (hl : PE X l tl) : PI X tg l (iSeq X.K tl) := by
  refine ⟨fun pins s σ H R I h => ?_⟩
  refine thn (hl.run pins s σ H _ I h) fun v s1 ⟨x, H1, I1, r1, q1⟩ => ?_
  obtain ⟨a, e, q⟩ := q1
  subst e
  cases r1
  rcases q with ⟨⟨xs, hq⟩, q⟩ | ⟨⟨xs, hq⟩, q⟩
  · obtain ⟨its, rv, p, hz⟩ := I1.list hq
    refine wpAny_pyIter_list p.isList ?_
    refine ⟨s1.heap.objs.size, [s1.heap.objs.size], _, _, H1, rfl, I1.kept (t' := s1.toks) fun b o e => Heap.get?_push_of_some _ e, turn_list a _, ⟨_, Heap.get?_push_size _ rfl, rfl, rfl⟩, fun b hb => ?_, q⟩
    have e : b = s1.heap.objs.size := by simpa using hb
    subst e
    exact I1.fpOk (Nat.le_refl _) (I1.hok.fresh (Nat.le_refl _))
  · obtain ⟨its, rv, p, hz⟩ := I1.tuple hq
    refine wpAny_pyIter_tuple (show s1.heap.IsTuple a its.toArray from p) ?_
    refine ⟨s1.heap.objs.size, [s1.heap.objs.size], _, _, H1, rfl, I1.kept (t' := s1.toks) fun b o e => Heap.get?_push_of_some _ e, turn_tuple a _, ⟨_, Heap.get?_push_size _ rfl, rfl, rfl⟩, fun b hb => ?_, q⟩
    have e : b = s1.heap.objs.size := by simpa using hb
    subst e
    exact I1.fpOk (Nat.le_refl _) (I1.hok.fresh (Nat.le_refl _))
theorem rp_items {K : PySem.W.Frag} {F : Hp} {v : V} {d : D} {ds : List D} (r : Rp K F v d) (e : itemsOf d = some ds) : ∃ a vs, v = .ref a ∧ ((d = .lst ds ∧ F a = some (.lst vs)) ∨ (d = .tup ds ∧ SqT K F a vs)) ∧ RpL K F vs ds := by
  cases d with
  | tup xs => cases e; cases r with | tup h r => exact ⟨_, _, rfl, .inr ⟨rfl, h⟩, r⟩
  | lst xs => cases e; cases r with | lst h r => exact ⟨_, _, rfl, .inl ⟨rfl, h⟩, r⟩
  | _ => cases e
def wiSeq (w : W) : WA := fun G ρ Q => w G ρ fun d => ∃ ds, itemsOf d = some ds ∧ Q ds
def wiRange1 (r : WA) : WA := fun G ρ Q => r G ρ fun ds => ∃ j : Int, ds = [.int j] ∧ -(2 ^ 62) ≤ j ∧ j < 2 ^ 62 ∧ Q (rangeD 0 j.toNat)
def wiRange2 (r : WA) : WA := fun G ρ Q => r G ρ fun ds => ∃ i j : Int, ds = [.int i, .int j] ∧ (-(2 ^ 62) ≤ i ∧ i < 2 ^ 62 ∧ -(2 ^ 62) ≤ j ∧ j < 2 ^ 62) ∧ Q (rangeD i (j - i).toNat)
/-- two of one kind -/
def wiZip (r : WA) : WA := fun G ρ Q => r G ρ fun ds => ∃ x y xs ys, ds = [x, y] ∧ ((x = .tup xs ∧ y = .tup ys) ∨ (x = .lst xs ∧ y = .lst ys)) ∧ Q (zipD xs ys)
def wiEnum (r : WA) : WA := fun G ρ Q => r G ρ fun ds => ∃ xs, ds = [.lst xs] ∧ Q (enumD 0 xs)
section
variable {S : Sta} {tg e a b : Expr} {es : List Expr} {p pos tpos : Pos} {w : W} {r : WA} {kk : Nat}
theorem di_seq (h : DE S e w) : DI S tg e (wiSeq w) := fun X f => (pi_seq (h X f)).imp fun σ H R ⟨G, F, ρ, Qd, ev, hw, hq⟩ =>
  ⟨G, F, ρ, _, ev, hw, fun v H1 F1 d s1 e1 f1 r1 ⟨ds, ed, q1⟩ => by
    rw [f.K]
    obtain ⟨a, vs, rfl, h, r⟩ := rp_items r1 ed
    rcases h with ⟨_, h⟩ | ⟨_, h⟩
    · exact ⟨a, rfl, .inl ⟨⟨vs, SqL.of (e1.sub _ _ h)⟩, hq _ H1 F1 ds s1 e1 f1 (itok_list h r) q1⟩⟩
    · exact ⟨a, rfl, .inr ⟨⟨vs, Same.sqt e1.sub h⟩, hq _ H1 F1 ds s1 e1 f1 (itok_tup h r) q1⟩⟩⟩
theorem glOf {X : Cx} (f : Fam S X) {x : Str} (h : (S.names.lookup x == some .globalImplicit) = true) : Gl X x := by unfold Gl Env.kindOf; rw [f.look]; exact beq_iff_eq.mp h
theorem di_range1 (hm : S.mg "range" = none) (h : DA S [a] r) (hg : (S.names.lookup ("range" : Str) == some .globalImplicit) = true := by kernel_rfl) (hs : ∀ env, starEach [a] env = [(false, eval a env)] := by intro _; rfl) : DI S tg (.Call (.Name "range" p) [a] [] pos) (wiRange1 r) := fun X f =>
  (pi_range1 (glOf f hg) (by rw [f.mg]; exact hm) (h X f) (hs _)).imp fun σ H R ⟨G, F, ρ, Qd, ev, hw, hq⟩ =>
  ⟨G, F, ρ, _, ev, hw, fun vs H1 F1 ds s1 e1 f1 r1 ⟨j, ed, z1, z2, q1⟩ => by
    subst ed
    cases r1 with
    | cons rv rr => cases rr; cases rv; exact ⟨j, rfl, z1, z2, hq _ H1 F1 _ s1 e1 f1 (itok_range _ _) q1⟩⟩
theorem di_range2 (hm : S.mg "range" = none) (h : DA S [a, b] r) (hg : (S.names.lookup ("range" : Str) == some .globalImplicit) = true := by kernel_rfl) (hs : ∀ env, starEach [a, b] env = [(false, eval a env), (false, eval b env)] := by intro _; rfl) (hs2 : ∀ env, starEach [b] env = [(false, eval b env)] := by intro _; rfl) :
    DI S tg (.Call (.Name "range" p) [a, b] [] pos) (wiRange2 r) := fun X f =>
  (pi_range2 (glOf f hg) (by rw [f.mg]; exact hm) (h X f) (hs _) (hs2 _)).imp fun σ H R ⟨G, F, ρ, Qd, ev, hw, hq⟩ =>
  ⟨G, F, ρ, _, ev, hw, fun vs H1 F1 ds s1 e1 f1 r1 ⟨i, j, ed, z, q1⟩ => by
    subst ed
    cases r1 with
    | cons rv rr =>
      cases rr with
      | cons rv2 rr => cases rr; cases rv; cases rv2; exact ⟨i, j, rfl, z, hq _ H1 F1 _ s1 e1 f1 (itok_range _ _) q1⟩⟩
theorem di_zip (hm : S.mg "zip" = none) (h : DA S [a, b] r) (hg : (S.names.lookup ("zip" : Str) == some .globalImplicit) = true := by kernel_rfl) (hs : ∀ env, starEach [a, b] env = (false, eval a env) :: starEach [b] env := by intro _; rfl) (hpl : ∀ env, (backTo pos (starEach [b] env)).any (·.1) = false := by intro _; rfl) :
    DI S (.Tuple es kk tpos) (.Call (.Name "zip" p) [a, b] [] pos) (wiZip r) := fun X f =>
  (RZ.pi_zipA (glOf f hg) (by rw [f.mg]; exact hm) (h X f) (hs _) (hpl _)).imp fun σ H R ⟨G, F, ρ, Qd, ev, hw, hq⟩ =>
  ⟨G, F, ρ, _, ev, hw, fun vs H1 F1 ds s1 e1 f1 r1 ⟨x, y, xs, ys, ed, z, q1⟩ => by
    subst ed
    rw [f.K]
    cases r1 with
    | cons rv rr =>
      cases rr with
      | cons rv2 rr =>
        cases rr
        rcases z with ⟨rfl, rfl⟩ | ⟨rfl, rfl⟩
        · cases rv with
          | tup h1 r1 => cases rv2 with
            | tup h2 r2 => exact ⟨_, _, _, _, rfl, .inr ⟨Same.sqt e1.sub h1, Same.sqt e1.sub h2, hq _ H1 F1 _ s1 e1 f1 (itok_zipT h1 r1 h2 r2) q1⟩⟩
        · cases rv with
          | lst h1 r1 => cases rv2 with
            | lst h2 r2 => exact ⟨_, _, _, _, rfl, .inl ⟨SqL.of (e1.sub _ _ h1), SqL.of (e1.sub _ _ h2), hq _ H1 F1 _ s1 e1 f1 (itok_zipL h1 r1 h2 r2) q1⟩⟩⟩
theorem di_enum (hm : S.mg "enumerate" = none) (h : DA S [a] r) (hg : (S.names.lookup ("enumerate" : Str) == some .globalImplicit) = true := by kernel_rfl) (hs : ∀ env, starEach [a] env = [(false, eval a env)] := by intro _; rfl) :
    DI S (.Tuple es kk tpos) (.Call (.Name "enumerate" p) [a] [] pos) (wiEnum r) := fun X f =>
  (pi_enum (glOf f hg) (by rw [f.mg]; exact hm) (h X f) (hs _)).imp fun σ H R ⟨G, F, ρ, Qd, ev, hw, hq⟩ =>
  ⟨G, F, ρ, _, ev, hw, fun vs H1 F1 ds s1 e1 f1 r1 ⟨xs, ed, q1⟩ => by
    subst ed
    rw [f.K]
    cases r1 with
    | cons rv rr =>
      cases rr
      cases rv with
      | lst h1 r1 => exact ⟨_, _, rfl, SqL.of (e1.sub _ _ h1), hq _ H1 F1 _ s1 e1 f1 (itok_enum h1 r1) q1⟩⟩
end
end DL
set_option maxHeartbeats 4000000
namespace DL
open PySem PySem.Spec PyProof.Rows L2

/-! ### list comprehensions -/
/-- G' keeps what G keeps, and more -/
structure GExt (G G' : Gc) : Prop where
  R : ∀ a, G.R a → G'.R a
  wd : ∀ H, G'.Wd H → G.Wd H
  st : ∀ H H', G'.Wd H → G.Wd H' → (∀ a, G'.R a → ¬ G.R a → H' a = H a) → G'.Wd H'
theorem GExt.refl (G : Gc) : GExt G G := ⟨fun _ h => h, fun _ h => h, fun _ _ _ h _ => h⟩
theorem GExt.trans {G G1 G2 : Gc} (a : GExt G G1) (b : GExt G1 G2) : GExt G G2 := ⟨fun x h => b.R x (a.R x h), fun H h => a.wd H (b.wd H h), fun H H' h h' q => by
  have h1 : G1.Wd H' := a.st H H' (b.wd _ h) h' fun x r n => q x (b.R x r) n
  refine b.st H H' h h1 fun x r n => q x r fun z => n (a.R x z)⟩
/-- the list at D stays acc meanwhile -/
def Gc.more (G : Gc) (D : Addr) (o : HO) : Gc where
  R := fun a => G.R a ∨ a = D
  Wd := fun H => G.Wd H ∧ H D = some o ∧ isMutO o = true
  live := fun H a h r => by
    rcases r with r | r
    · exact G.live H a h.1 r
    · rw [r, h.2.1]; exact fun z => nomatch z
  nt := fun H A u h r e => by
    rcases r with r | r
    · exact G.nt H A u h.1 r e
    · rw [r, h.2.1] at e
      cases e
      cases h.2.2
  st := fun H H' h q => ⟨G.st H H' h.1 fun a r => q a (.inl r), by rw [q D (.inr rfl)]; exact h.2.1, h.2.2⟩
theorem Gc.more_ext (G : Gc) (D : Addr) (o : HO) (n : ¬ G.R D) : GExt G (G.more D o) := ⟨fun _ r => .inl r, fun _ h => h.1, fun H H' h h' q => ⟨h', by rw [q D (.inr rfl) n]; exact h.2.1, h.2.2⟩⟩
def wipeD (ρ : En) : List Nat → En
  | [] => ρ
  | v :: vs => (wipeD ρ vs).set v none
theorem wipeD_len (ρ : En) : ∀ vs : List Nat, (wipeD ρ vs).length = ρ.length
  | [] => rfl
  | v :: vs => by unfold wipeD; rw [List.length_set, wipeD_len ρ vs]
theorem wipeD_get {ρ : En} {i : Nat} {sv : SV} : ∀ {vs : List Nat}, (wipeD ρ vs)[i]? = some (some sv) → ρ[i]? = some (some sv) ∧ i ∉ vs
  | [], h => ⟨h, by simp⟩
  | v :: vs, h => by
    unfold wipeD at h
    rcases set_get h with ⟨_, e⟩ | ⟨ne, h⟩
    · cases e
    · obtain ⟨h1, h2⟩ := wipeD_get h
      exact ⟨h1, by simp only [List.mem_cons, not_or]; exact ⟨fun e => ne e.symm, h2⟩⟩
theorem wipe_get {σ : St} {i : Nat} {v : Option V} : ∀ {vs : List Nat}, σ[i]? = some v → i ∉ vs → (wipe σ vs)[i]? = some v
  | [], h, _ => h
  | w :: vs, h, n => by
    unfold wipe
    simp only [List.mem_cons, not_or] at n
    rw [List.getElem?_set_ne (Ne.symm n.1)]
    exact wipe_get h n.2
theorem wipe_set {σ : St} {i : Nat} {v : Option V} : ∀ {vs : List Nat}, i ∈ vs → wipe (σ.set i v) vs = wipe σ vs
  | w :: vs, h => by
    unfold wipe
    by_cases e : i = w
    · subst e
      by_cases h2 : i ∈ vs
      · rw [wipe_set h2]
      · have : wipe (σ.set i v) vs = (wipe σ vs).set i v := by
          clear h
          induction vs with
          | nil => rfl
          | cons u us ih =>
            simp only [List.mem_cons, not_or] at h2
            show (wipe (σ.set i v) us).set u none = ((wipe σ us).set u none).set i v
            rw [ih h2.2, List.set_comm _ _ h2.1]
        rw [this, List.set_set]
    · rcases List.mem_cons.mp h with h | h
      · exact absurd h e
      · rw [wipe_set h]
def relN (a b : List (Str × NameKind)) : List (Str × NameKind) := a.map fun (n, k) => if (k == .free && b.lookup n == some .cell) then (n, .cell) else (n, k)
/-- a comprehension's block of a def -/
def Sta.blk (S : Sta) (scope : Scope) : Sta := { S with names := relN scope.names S.names, fc := fun x => scope.names.lookup x == some .cell }
theorem fam_blk {S : Sta} {X : Cx} (f : Fam S X) {scope : Scope} (hk : scope.kind = .function) (s : Shared) (H : Hp) (C : Addr) (cl : List (Str × Addr)) (fp : List Addr) : Fam (S.blk scope) (X.blk s H scope (compEnvC scope cl C X.env) fp) where
  P := f.P
  w := f.w
  K := f.K
  mg := f.mg
  base := f.base
  N := f.N
  look := by
    show (relS scope X.env.scope).names = relN scope.names S.names
    unfold relS relN
    rw [f.kind, f.look]
    simp
  calm := f.calm
  room := f.room
  xe := rfl
  fn := fun x h => h
  kind := hk
def DTs (S : Sta) (ifs : List Expr) (w : WT) : Prop := ∀ X, Fam S X → PTs X ifs (tT S.K w)
def wtTrue : WT := fun _ _ Q => Q true
theorem _root_.L2.PTs.imp {X : Cx} {es : List Expr} {t t' : TT} (h : PTs X es t) (i : ∀ σ H Q, t' σ H Q → t σ H Q) : PTs X es t' := ⟨fun pins s σ H Q I q => h.run pins s σ H Q I (i σ H Q q)⟩
theorem dts_nil {S : Sta} : DTs S [] wtTrue := fun X f => pts_nil.imp fun σ H Q ⟨G, F, ρ, Qd, ev, hw, hq⟩ => hq true H F (Same.refl _) ev Fr.refl hw
theorem dts_one {S : Sta} {c : Expr} {t : WT} (h : DT S c t) : DTs S [c] t := fun X f => pts_one (h X f)
/-- the turns over ds, acc made so far -/
def wcL (wg : WG) (wt : WT) (we : W) (vs : List Nat) (G : Gc) (ρ : En) : List D → List D → (List D → Prop) → Prop
  | [], acc, Q => Q acc
  | d :: r, acc, Q => ∀ G', GExt G G' → wg d (wipeD ρ vs) fun ρ2 => wt G' ρ2 fun b => if b = true then we G' ρ2 fun y => acc.length < sizeLine ∧ wcL wg wt we vs G ρ r (acc ++ [y]) Q else wcL wg wt we vs G ρ r acc Q
def wComp (wi : WA) (wg : WG) (wt : WT) (we : W) (vs : List Nat) : WO := fun G ρ Q => wi G ρ fun ds => wcL wg wt we vs G ρ ds [] fun acc => Q (.ow acc)
theorem wipe_at {σ : St} {i : Nat} : ∀ {vs : List Nat}, i ∈ vs → i < σ.length → (wipe σ vs)[i]? = some none
  | w :: vs, h, hl => by
    unfold wipe
    by_cases e : w = i
    · subst e; exact List.getElem?_set_self (by rw [wipe_length]; exact hl)
    · rw [List.getElem?_set_ne e]
      rcases List.mem_cons.mp h with h | h
      · exact absurd h.symm e
      · exact wipe_at h hl
theorem wipe_out2 {σ : St} {i : Nat} : ∀ {vs : List Nat}, i ∉ vs → (wipe σ vs)[i]? = σ[i]?
  | [], _ => rfl
  | w :: vs, n => by
    unfold wipe
    simp only [List.mem_cons, not_or] at n
    rw [List.getElem?_set_ne (Ne.symm n.1)]
    exact wipe_out2 n.2
theorem wipe_wipe (σ : St) (vs : List Nat) : wipe (wipe σ vs) vs = wipe σ vs := by
  apply List.ext_getElem?
  intro i
  by_cases h : i ∈ vs
  · by_cases hl : i < σ.length
    · rw [wipe_at h (by rw [wipe_length]; exact hl), wipe_at h hl]
    · rw [List.getElem?_eq_none (by rw [wipe_length, wipe_length]; omega), List.getElem?_eq_none (by rw [wipe_length]; omega)]
  · rw [wipe_out2 h]
theorem evr_wipe {K : PySem.W.Frag} {G : Gc} {F H : Hp} {σ : St} {ρ : En} (e : EvR K G F H σ ρ) (vs : List Nat) : EvR K G F H (wipe σ vs) (wipeD ρ vs) :=
  ⟨e.sub, e.res, e.wd, fun i sv h => by
    obtain ⟨h1, h2⟩ := wipeD_get h
    obtain ⟨v, q1, q2⟩ := e.slot i sv h1
    exact ⟨v, wipe_get q1 h2, q2⟩, by rw [wipe_length, wipeD_len]; exact e.len⟩
theorem evr_set {K : PySem.W.Frag} {G : Gc} {F H : Hp} {σ : St} {ρ : En} (e : EvR K G F H σ ρ) {i : Nat} {v : V} {d : D} (hi : i < ρ.length) (r : Rp K F v d) : EvR K G F H (σ.set i (some v)) (ρ.set i (some (.fz d))) :=
  ⟨e.sub, e.res, e.wd, fun j sv h => by
    rcases set_get h with ⟨rfl, z⟩ | ⟨ne, h⟩
    · cases z; exact ⟨v, List.getElem?_set_self (by rw [e.len]; exact hi), r⟩
    · obtain ⟨u, h1, h2⟩ := e.slot j sv h
      exact ⟨u, by rw [List.getElem?_set_ne ne]; exact h1, h2⟩, by rw [List.length_set, List.length_set]; exact e.len⟩
/-- .. while the list at D is kept -/
theorem evr_more {K : PySem.W.Frag} {G : Gc} {F H : Hp} {σ : St} {ρ : En} (e : EvR K G F H σ ρ) {D : Addr} {o : HO} (hD : H D = some o) (hm : isMutO o = true) (nF : F D = none) (nS : ∀ (i : Nat) (sv : SV), ρ[i]? = some (some sv) → isOwn sv = true → σ[i]? ≠ some (some (.ref D))) : EvR K (G.more D o) F H σ ρ where
  sub := e.sub
  res := fun a r => by
    rcases r with r | r
    · exact e.res a r
    · rw [r]; exact nF
  wd := ⟨e.wd, hD, hm⟩
  slot := fun i sv h => by
    obtain ⟨v, q1, q2⟩ := e.slot i sv h
    refine ⟨v, q1, ?_⟩
    cases sv with
    | fz d => exact q2
    | ow xs =>
      obtain ⟨a, vs, rfl, z1, z2, z3⟩ := q2
      exact ⟨a, vs, rfl, z1, z2, fun r => r.elim z3 fun e => nS i _ h rfl (by rw [q1, e])⟩
    | od kds =>
      obtain ⟨a, vs, rfl, z1, z0, z2, z3⟩ := q2
      exact ⟨a, vs, rfl, z1, z0, z2, fun r => r.elim z3 fun e => nS i _ h rfl (by rw [q1, e])⟩
  len := e.len
theorem evr_less {K : PySem.W.Frag} {G : Gc} {F H : Hp} {σ : St} {ρ : En} {D : Addr} {o : HO} (e : EvR K (G.more D o) F H σ ρ) : EvR K G F H σ ρ where
  sub := e.sub
  res := fun a r => e.res a (.inl r)
  wd := e.wd.1
  slot := fun i sv h => by
    obtain ⟨v, q1, q2⟩ := e.slot i sv h
    refine ⟨v, q1, ?_⟩
    cases sv with
    | fz d => exact q2
    | ow xs =>
      obtain ⟨a, vs, rfl, z1, z2, z3⟩ := q2
      exact ⟨a, vs, rfl, z1, z2, fun r => z3 (.inl r)⟩
    | od kds =>
      obtain ⟨a, vs, rfl, z1, z0, z2, z3⟩ := q2
      exact ⟨a, vs, rfl, z1, z0, z2, fun r => z3 (.inl r)⟩
  len := e.len
theorem lc_imp {K : PySem.W.Frag} {wi : WA} {g : TG} {wg : WG} {wt : WT} {we : W} {vs is : List Nat} (hg : GOk K is g wg) (hsub : ∀ i ∈ is, i ∈ vs) (σ : St) (H : Hp) (Q : VK) :
    tO K (wComp wi wg wt we vs) σ H Q → tLc (tI K wi) g (tT K wt) (tD K we) vs σ H Q := fun ⟨G, F, ρ, Qd, ev, hw, hq⟩ => by
  refine ⟨G, F, ρ, _, ev, hw, fun J H1 F1 ds s1 e1 f1 it q1 D hD => ?_⟩
  have nR : ¬ G.R D := e1.nr hD
  -- what holds ahead of turn i
  let I : Nat → Hp → Prop := fun i H2 => ∃ F2 acc accd, Same F1 F2 ∧ Same F2 H2 ∧ H2 D = some (.lst acc) ∧ RpL K F2 acc accd ∧ F2 D = none ∧ (∀ a, G.R a → F2 a = none) ∧ G.Wd H2 ∧ Fr G H1 H2 ∧ wcL wg wt we vs G ρ (ds.drop i) accd fun acc => Qd (.ow acc)
  refine ⟨fun i m H2 => m = ds.length - i ∧ i ≤ ds.length ∧ I i H2, ⟨ds.length, by omega, Nat.zero_le _, F1, [], [], Same.refl _, fun b x h => ?_, upd_same, .nil, e1.fnone hD, e1.res, ?_, Fr.upd hD, q1⟩, ?_⟩
  · rw [upd_ne (ne_of_none (e1.sub _ _ h) hD)]; exact e1.sub _ _ h
  · exact G.st _ _ e1.wd fun a r => upd_ne (by rintro rfl; exact nR r)
  rintro i m H2 ⟨rfl, hi, F2, acc, accd, s2, s2', hDl, rl, nF, res, wd, fr, hwl⟩
  have e2 : EvR K G F2 H2 σ ρ := e1.go s2 s2' fr res wd
  by_cases hlt : i < ds.length
  · obtain ⟨hgo, hy⟩ := it.go i H2 F2 s2 s2' hlt
    refine .inr ⟨hgo, I (i + 1), fun H' h => ⟨ds.length - (i + 1), by omega, rfl, hlt, h⟩, fun x H3 y => ?_⟩
    obtain ⟨d, hd, hx⟩ := hy x H3 y
    rw [List.drop_eq_getElem_cons hlt] at hwl
    rw [List.getElem?_eq_getElem hlt] at hd
    cases hd
    -- the state with the item
    obtain ⟨F3, s3, s3', nF3, res3, wd3, fr3, hD3, rx⟩ : ∃ F3, Same F2 F3 ∧ Same F3 H3 ∧ F3 D = none ∧ (∀ a, G.R a → F3 a = none) ∧ G.Wd H3 ∧ Fr G H2 H3 ∧ H3 D = some (.lst acc) ∧ Rp K F3 x ds[i] := by
      rcases hx with ⟨rfl, rx⟩ | ⟨T, o, nT, rfl, rx⟩
      · exact ⟨F2, Same.refl _, s2', nF, res, wd, Fr.refl, hDl, rx⟩
      · have ne : D ≠ T := ne_of_none hDl nT
        have e3 := e2.live (o := o) nT
        exact ⟨upd F2 T o, same_upd (none_sub s2' nT), e3.sub, by rw [upd_ne ne]; exact nF, e3.res, e3.wd, Fr.upd nT, by rw [upd_ne ne]; exact hDl, rx⟩
    have e3 : EvR K G F3 H3 σ ρ := e2.go s3 s3' fr3 res3 wd3
    have nS : ∀ (j : Nat) (sv : SV), ρ[j]? = some (some sv) → isOwn sv = true → σ[j]? ≠ some (some (.ref D)) := fun j sv h ho z => by
      obtain ⟨o, q, _, _⟩ := e1.ownAt h ho z
      rw [hD] at q; cases q
    have e4 := evr_wipe (evr_more e3 hD3 rfl nF3 nS) vs
    have step := hwl (G.more D (.lst acc)) (G.more_ext D _ nR)
    refine hg (fun σ' ρ' => EvR K (G.more D (.lst acc)) F3 H3 σ' ρ' ∧ wipe σ' vs = wipe σ vs) F3 H3 (wipe σ vs) (wipeD ρ vs) x ds[i] _ _ (fun j v d σ' ρ' hj ⟨p1, p2⟩ hl r => ⟨evr_set p1 hl r, by rw [wipe_set (hsub j hj)]; exact p2⟩) s3' ⟨e4, ?_⟩ rx step fun σ' ρ' ⟨p1, p2⟩ q => ?_
    · exact wipe_wipe σ vs
    · refine ⟨p2, G.more D (.lst acc), F3, ρ', _, p1, q, fun b H4 F4 s4 e4 f4 q4 => ?_⟩
      have hD4 : H4 D = some (.lst acc) := e4.wd.2.1
      have nF4 : F4 D = none := e4.res D (.inr rfl)
      have fr4 : Fr G H1 H4 := fun c o hc nr => by
        have ne : c ≠ D := ne_of_none hc hD
        exact f4 c o (fr3 c o (fr c o hc nr) nr) fun r => r.elim nr ne
      cases b with
      | false =>
        rw [if_neg Bool.false_ne_true] at q4
        refine iteF ?_
        exact ⟨F4, acc, accd, s2.trans (s3.trans s4), e4.sub, hD4, rl.mono (s3.trans s4), nF4, fun a r => e4.res a (.inl r), e4.wd.1, fr4, q4⟩
      | true =>
        rw [if_pos rfl] at q4
        refine iteT ?_
        refine ⟨G.more D (.lst acc), F4, ρ', _, e4, q4, fun v H5 F5 d5 s5 e5 f5 r5 ⟨hz, q5⟩ => ?_⟩
        have hD5 : H5 D = some (.lst acc) := e5.wd.2.1
        have nF5 : F5 D = none := e5.res D (.inr rfl)
        refine ⟨acc, hD5, by rw [rl.len]; exact hz, F5, acc ++ [v], accd ++ [d5], s2.trans (s3.trans (s4.trans s5)), fun c o hc => ?_, upd_same, (rl.mono (s3.trans (s4.trans s5))).append (.cons r5 .nil), nF5, fun a r => e5.res a (.inl r), ?_, fun c o hc nr => ?_, q5⟩
        · have ne : c ≠ D := by rintro rfl; rw [nF5] at hc; cases hc
          rw [upd_ne ne]; exact e5.sub _ _ hc
        · exact G.st _ _ e5.wd.1 fun a r => upd_ne (by rintro rfl; exact nR r)
        · have ne : c ≠ D := ne_of_none hc hD
          rw [upd_ne ne]
          exact f5 c o (fr4 c o hc nr) fun r => r.elim nr ne
  · have ei : i = ds.length := by omega
    subst ei
    rw [List.drop_length] at hwl
    exact .inl ⟨it.stop H2 F2 s2 s2', hq _ H2 F2 (.ow accd) (s1.trans s2) e2 (f1.trans fr) ⟨D, acc, rfl, hDl, rl, nR, f1.free nR hD, nF⟩ hwl⟩
section
variable {S : Sta} {elt tg iter : Expr} {ifs : List Expr} {scope : Scope} {own : List (Str × Nat)} {pos : Pos} {wi : WA} {wg : WG} {wt : WT} {we : W} {is : List Nat}
theorem blkOf {X : Cx} (f : Fam S X) (h : blkC S.N ⟨.function, S.names, false, false, []⟩ scope own = true) : BlkOk X.N X.env.scope scope own := by
  have ok := blkOk_by h
  exact ⟨ok.kind, ok.uniq, by rw [f.N]; exact ok.ix, fun y hy e => by rw [f.look]; exact ok.free y hy e, by rw [f.N]; exact ok.own⟩
theorem do_lc (hi : DI S tg iter wi) (nd : S.N.Nodup) (hk : blkC S.N ⟨.function, S.names, false, false, []⟩ scope own = true) (hg : DG (S.blk scope) tg is wg) (hsub : ∀ i ∈ is, i ∈ own.map (·.2)) (ht : DTs (S.blk scope) ifs wt) (he : DE (S.blk scope) elt we)
    (hs : ∀ env x, foldedSetIterable iter env x = pure x := by intro _ _; rfl) : DO S (.ListComp elt [⟨tg, iter, ifs, 0⟩] scope pos) (wComp wi wg wt we (own.map (·.2))) := fun X f => by
  obtain ⟨g, pg, ok⟩ := hg
  have bk := blkOf f hk
  exact (pe_lc f.calm (by rw [f.N]; exact nd) (hi X f) bk (fun s H C cl fp => pg _ (fam_blk f bk.kind s H C cl fp)) (fun s H C cl fp => ht _ (fam_blk f bk.kind s H C cl fp)) (fun s H C cl fp => he _ (fam_blk f bk.kind s H C cl fp)) (hs _)).imp fun σ H Q h => lc_imp ok hsub σ H Q h
theorem ds_setLc {i : Nat} {y : Str} {py spos : Pos} (hi : DI S tg iter wi) (nd : S.N.Nodup) (hk : blkC S.N ⟨.function, S.names, false, false, []⟩ scope own = true) (hg : DG (S.blk scope) tg is wg) (hsub : ∀ i ∈ is, i ∈ own.map (·.2)) (ht : DTs (S.blk scope) ifs wt) (he : DE (S.blk scope) elt we)
    (hN : (S.N[i]? == some y) = true := by kernel_rfl) (hl : (S.names.lookup y == some .local) = true := by kernel_rfl) (hln : (py.line == pos.line) = true := by kernel_rfl) (ha : (scope.names.any fun (n, k) => n == y && (k == .local || k == .cell)) = false := by kernel_rfl)
    (hs : ∀ env x, foldedSetIterable iter env x = pure x := by intro _ _; rfl) : DS S (.Assign [.Name y py] (.ListComp elt [⟨tg, iter, ifs, 0⟩] scope pos) spos) (wSet i (wComp wi wg wt we (own.map (·.2)))) := fun X f => by
  obtain ⟨g, pg, ok⟩ := hg
  have bk := blkOf f hk
  have hy : X.env.scope.names.lookup y = some .local := by rw [f.look]; exact beq_iff_eq.mp hl
  refine (ps_setLc (i := i) f.calm (by rw [f.N]; exact nd) (by rw [f.N]; exact beq_iff_eq.mp hN) hy (sw_true f.kind hy hln ha) (hi X f) bk (fun s H C cl fp => pg _ (fam_blk f bk.kind s H C cl fp)) (fun s H C cl fp => ht _ (fam_blk f bk.kind s H C cl fp)) (fun s H C cl fp => he _ (fam_blk f bk.kind s H C cl fp)) (hs _)).imp fun D σ H ⟨G, H0, F0, F, ρ, E, ev, ⟨hi, hw⟩, gg⟩ => ?_
  refine lc_imp ok hsub σ H _ ⟨G, F, ρ, _, ev.r, hw, fun v H' F' sv s e' fr r q => ?_⟩
  obtain ⟨F2, ev2, s2⟩ := ev.put s e' fr hi r
  exact gg.nx _ H' F2 _ ev2 s2 q
end
end DL
set_option maxHeartbeats 4000000
namespace DL
open PySem PySem.Spec PyProof.Rows L2

/-! ### values that are handed on for good -/
abbrev WV := Gc → En → (D → En → Prop) → Prop
def tG (K : PySem.W.Frag) (w : WV) : TE := fun σ H Q => ∃ G H0 F0 F ρ Qd, Ev K G H0 F0 F H σ ρ ∧ w G ρ Qd ∧ ∀ v H' F' d ρ', Ev K G H0 F0 F' H' σ ρ' → Same F F' → Rp K F' v d → Qd d ρ' → Q v H'
def DV (S : Sta) (e : Expr) (w : WV) : Prop := ∀ X, Fam S X → PE X e (tG S.K w)
def wvO (wo : WO) : WV := fun G ρ Q => wo G ρ fun sv => match sv with
  | .fz d => Q d (if imm d = true then ρ else frzAll ρ)
  | .ow xs => Q (.lst xs) (if immL xs = true then ρ else frzAll ρ)
  | .od _ => False
def wvVar (i : Nat) : WV := fun _ ρ Q => ∃ sv, ρ[i]? = some (some sv) ∧ match sv with
  | .fz d => Q d ρ
  | .ow xs => Q (.lst xs) (ρ.set i (some (.fz (.lst xs))))
  | .od _ => False
section
variable {K : PySem.W.Frag} {G : Gc} {H0 F0 F H : Hp} {σ : St} {ρ : En}
/-- an object that is no slot's own is kept for good -/
theorem Ev.see (e : Ev K G H0 F0 F H σ ρ) {a : Addr} {o : HO} (h : H a = some o) (n : ¬ G.R a) (ns : ∀ (j : Nat) (sw : SV), ρ[j]? = some (some sw) → isOwn sw = true → σ[j]? ≠ some (some (.ref a))) : Ev K G H0 F0 (upd F a o) H σ ρ ∧ Same F (upd F a o) := by
  obtain ⟨e1, s⟩ := e.r.see h n
  exact ⟨⟨e1, e.f0.trans s, e.fr, fun i sv b q ho hb => by
    obtain ⟨q1, q2⟩ := e.own i sv b q ho hb
    have ne : b ≠ a := by rintro rfl; exact ns i sv q ho hb
    exact ⟨by rw [upd_ne ne]; exact q1, q2⟩, e.apart⟩, s⟩
theorem Ev.ne (e : Ev K G H0 F0 F H σ ρ) {a : Addr} (h : H a = none) : ∀ (j : Nat) (sw : SV), ρ[j]? = some (some sw) → isOwn sw = true → σ[j]? ≠ some (some (.ref a)) := fun j sw q ho z => by
  obtain ⟨o, q1, _, _⟩ := e.r.ownAt q ho z
  rw [h] at q1; cases q1
/-- a slot's own list is kept for good -/
theorem Ev.frz (e : Ev K G H0 F0 F H σ ρ) {i : Nat} {xs : List D} {a : Addr} {vs : List V} (q : ρ[i]? = some (some (.ow xs))) (ha : σ[i]? = some (some (.ref a))) (h : H a = some (.lst vs)) (r : RpL K F vs xs) (n : ¬ G.R a) :
    Ev K G H0 F0 (upd F a (.lst vs)) H σ (ρ.set i (some (.fz (.lst xs)))) ∧ Same F (upd F a (.lst vs)) := by
  obtain ⟨e1, s⟩ := e.r.see h n
  have hi : i < ρ.length := (List.getElem?_eq_some_iff.mp q).1
  have hs : σ.set i (some (.ref a)) = σ := by
    apply List.ext_getElem?
    intro j
    by_cases hj : i = j
    · subst hj; rw [List.getElem?_set_self (by rw [e.len]; exact hi), ha]
    · rw [List.getElem?_set_ne hj]
  refine ⟨⟨⟨e1.sub, e1.res, e1.wd, fun j sv z => ?_, by rw [List.length_set]; exact e1.len⟩, e.f0.trans s, e.fr, fun j sv b z ho hb => ?_, fun j k sv sw b ne z1 o1 z2 o2 b1 b2 => ?_⟩, s⟩
  · rcases set_get z with ⟨rfl, zz⟩ | ⟨ne, z⟩
    · cases zz; exact ⟨_, ha, .lst upd_same (r.mono s)⟩
    · exact e1.slot j sv z
  · rcases set_get z with ⟨rfl, zz⟩ | ⟨ne, z⟩
    · cases zz; cases ho
    · obtain ⟨q1, q2⟩ := e.own j sv b z ho hb
      have nb : b ≠ a := by rintro rfl; exact e.apart i j _ sv _ ne q rfl z ho ha hb
      exact ⟨by rw [upd_ne nb]; exact q1, q2⟩
  · rcases set_get z1 with ⟨rfl, zz⟩ | ⟨n1, z1⟩
    · cases zz; cases o1
    · rcases set_get z2 with ⟨rfl, zz⟩ | ⟨n2, z2⟩
      · cases zz; cases o2
      · exact e.apart j k sv sw b ne z1 o1 z2 o2 b1 b2
theorem frzAll_own {ρ : En} {j : Nat} {sw : SV} (h : (frzAll ρ)[j]? = some (some sw)) : isOwn sw = false := by
  rcases frzAll_get h with ⟨xs, rfl, _⟩ | ⟨h, _⟩
  · rfl
  · exact h
end
section
variable {S : Sta} {e a b : Expr} {es : List Expr} {pos p : Pos} {wo : WO} {w : W} {wv wv2 : WV}
theorem dv_do (h : DO S e wo) : DV S e (wvO wo) := fun X f => (h X f).imp fun σ H Q ⟨G, H0, F0, F, ρ, Qd, ev, hw, hq⟩ => ⟨G, F, ρ, _, ev.r, hw, fun v H' F' sv s e' fr r q => by
  cases sv with
  | fz d =>
    dsimp only at q
    by_cases hi : imm d = true
    · rw [if_pos hi] at q
      exact hq v H' _ d ρ (ev.goT s e' fr) tupOf_same (Rp.tupOf s r hi) q
    · rw [if_neg hi] at q
      exact hq v H' _ d _ (ev.goA s e' fr) (s.trans ownOf_same) (r.mono ownOf_same) q
  | ow xs =>
    obtain ⟨a, vs, rfl, h1, h2, h3, h4, h5⟩ := r
    dsimp only at q
    by_cases hi : immL xs = true
    · rw [if_pos hi] at q
      obtain ⟨ev2, s2⟩ := (ev.goT s e' fr).see h1 h3 (ev.ne h4)
      exact hq _ H' _ _ ρ ev2 (tupOf_same.trans s2) (.lst upd_same ((RpL.tupOf s h2 hi).mono s2)) q
    · rw [if_neg hi] at q
      obtain ⟨ev2, s2⟩ := (ev.goA s e' fr).see h1 h3 fun j sw z ho => by rw [frzAll_own z] at ho; cases ho
      exact hq _ H' _ _ _ ev2 ((s.trans ownOf_same).trans s2) (.lst upd_same ((h2.mono ownOf_same).mono s2)) q
  | od kds => exact q.elim⟩
theorem visOf {X : Cx} (f : Fam S X) {x : Str} (hv : (S.names.lookup x == some .local || S.names.lookup x == some .cell || S.names.lookup x == some .free) = true) : Vis X.env.scope x := by
  unfold Vis
  rw [f.look]
  rcases Bool.or_eq_true_iff.mp hv with h | h
  · rcases Bool.or_eq_true_iff.mp h with h | h
    · exact .inl (beq_iff_eq.mp h)
    · exact .inr (.inl (beq_iff_eq.mp h))
  · exact .inr (.inr (beq_iff_eq.mp h))
theorem pvN {X : Cx} (f : Fam S X) {i : Nat} {x : Str} (hN : (S.N[i]? == some x) = true) (hv : (S.names.lookup x == some .local || S.names.lookup x == some .cell || S.names.lookup x == some .free) = true)
    (hd : (x == ("__debug__" : Str)) = false) (hcd : (x == ("__classdict__" : Str)) = false) : PE X (.Name x p) (tVar i) := pe_var (by rw [f.N]; exact beq_iff_eq.mp hN) (visOf f hv) hd hcd
theorem dv_var {i : Nat} {x : Str} (hN : (S.N[i]? == some x) = true := by kernel_rfl) (hv : (S.names.lookup x == some .local || S.names.lookup x == some .cell || S.names.lookup x == some .free) = true := by kernel_rfl)
    (hd : (x == ("__debug__" : Str)) = false := by kernel_rfl) (hcd : (x == ("__classdict__" : Str)) = false := by kernel_rfl) : DV S (.Name x p) (wvVar i) := fun X f => (pvN f hN hv hd hcd).imp fun σ H Q ⟨G, H0, F0, F, ρ, Qd, ev, ⟨sv, q, hw⟩, hq⟩ => by
  obtain ⟨v, h1, h2⟩ := ev.r.slot i sv q
  refine ⟨v, h1, ?_⟩
  cases sv with
  | fz d => exact hq v H F d ρ ev (Same.refl _) h2 hw
  | ow xs =>
    obtain ⟨a, vs, rfl, z1, z2, z3⟩ := h2
    obtain ⟨ev2, s2⟩ := ev.frz q h1 z1 z2 z3
    exact hq _ H _ _ _ ev2 s2 (.lst upd_same (z2.mono s2)) hw
  | od kds => exact hw.elim
end

/-! ### stores into what is ours -/
section
variable {K : PySem.W.Frag} {G : Gc} {H0 F0 F H : Hp} {σ : St} {ρ : En}
/-- a slot's own list is changed -/
theorem Ev.chg (e : Ev K G H0 F0 F H σ ρ) {i : Nat} {xs ys : List D} {a : Addr} {us : List V} (q : ρ[i]? = some (some (.ow xs))) (ha : σ[i]? = some (some (.ref a))) (r : RpL K F us ys) (n : ¬ G.R a) :
    Ev K G H0 F0 F (upd H a (.lst us)) σ (ρ.set i (some (.ow ys))) := by
  have hi : i < ρ.length := (List.getElem?_eq_some_iff.mp q).1
  obtain ⟨nF, n0⟩ := e.own i _ a q rfl ha
  have fr : ∀ b o, H b = some o → b ≠ a → (upd H a (.lst us)) b = some o := fun b o h ne => by rw [upd_ne ne]; exact h
  refine ⟨⟨fun b o h => fr b o (e.r.sub _ _ h) (by rintro rfl; rw [nF] at h; cases h), e.r.res, G.st _ _ e.r.wd fun b rb => upd_ne (by rintro rfl; exact n rb), fun j sv z => ?_, by rw [List.length_set]; exact e.len⟩, e.f0, fun b o h nb => fr b o (e.fr b o h nb) (by rintro rfl; rw [n0] at h; cases h), fun j sv b z ho hb => ?_, fun j k sv sw b ne z1 o1 z2 o2 b1 b2 => ?_⟩
  · rcases set_get z with ⟨rfl, zz⟩ | ⟨ne, z⟩
    · cases zz; exact ⟨_, ha, a, us, rfl, upd_same, r, n⟩
    · obtain ⟨v, h1, h2⟩ := e.r.slot j sv z
      refine ⟨v, h1, ?_⟩
      cases sv with
      | fz d => exact h2
      | ow zs =>
        obtain ⟨b, vs, rfl, z1, z2, z3⟩ := h2
        exact ⟨b, vs, rfl, fr b _ z1 (by rintro rfl; exact e.apart i j _ _ _ ne q rfl z rfl ha h1), z2, z3⟩
      | od kds =>
        obtain ⟨b, vs, rfl, z1, z0, z2, z3⟩ := h2
        exact ⟨b, vs, rfl, fr b _ z1 (by rintro rfl; exact e.apart i j _ _ _ ne q rfl z rfl ha h1), z0, z2, z3⟩
  · rcases set_get z with ⟨rfl, zz⟩ | ⟨ne, z⟩
    · cases zz
      rw [ha] at hb
      cases hb
      exact ⟨nF, n0⟩
    · exact e.own j sv b z ho hb
  · have back : ∀ {j sv}, (ρ.set i (some (.ow ys)))[j]? = some (some sv) → isOwn sv = true → ∃ sv', ρ[j]? = some (some sv') ∧ isOwn sv' = true := fun {j sv} z ho => by
      rcases set_get z with ⟨rfl, z⟩ | ⟨ne, z⟩
      · exact ⟨_, q, rfl⟩
      · exact ⟨_, z, ho⟩
    obtain ⟨sv', z1', o1'⟩ := back z1 o1
    obtain ⟨sw', z2', o2'⟩ := back z2 o2
    exact e.apart j k sv' sw' b ne z1' o1' z2' o2' b1 b2
end
def wApp (i : Nat) (wv : WV) : WS := fun G E ρ => (∃ xs, ρ[i]? = some (some (.ow xs))) ∧ wv G ρ fun d ρ' => ∃ xs, ρ'[i]? = some (some (.ow xs)) ∧ xs.length < sizeLine ∧ E.nx (ρ'.set i (some (.ow (xs ++ [d]))))
def wExt (i : Nat) (wv : WV) : WS := fun G E ρ => (∃ xs, ρ[i]? = some (some (.ow xs))) ∧ wv G ρ fun d ρ' => ∃ xs ys, ρ'[i]? = some (some (.ow xs)) ∧ d = .lst ys ∧ xs.length + ys.length ≤ sizeLine ∧ E.nx (ρ'.set i (some (.ow (xs ++ ys))))
def wStoreIx (i : Nat) (wk : W) (wv : WV) : WS := fun G E ρ => wv G ρ fun d ρ' => (∃ xs, ρ'[i]? = some (some (.ow xs))) ∧ wk G ρ' fun kd => ∃ k j xs, kd = .int k ∧ ρ'[i]? = some (some (.ow xs)) ∧ ixN xs.length k = some j ∧ E.nx (ρ'.set i (some (.ow (xs.set j d))))
def wRemove (i : Nat) (wk : W) : WS := fun G E ρ => (∃ xs, ρ[i]? = some (some (.ow xs))) ∧ wk G ρ fun kd => ∃ (k : Int) (ns : List Int), kd = .int k ∧ ρ[i]? = some (some (.ow (ns.map D.int))) ∧ k ∈ ns ∧ E.nx (ρ.set i (some (.ow ((ns.erase k).map D.int))))
def wvPopAt (i : Nat) (wk : W) : WV := fun G ρ Q => (∃ xs, ρ[i]? = some (some (.ow xs))) ∧ wk G ρ fun kd => ∃ k j xs d, kd = .int k ∧ ρ[i]? = some (some (.ow xs)) ∧ -(2 ^ 63) ≤ k ∧ k < 2 ^ 63 ∧ seqIndex? k xs.length = some j ∧ xs[j]? = some d ∧ Q d (ρ.set i (some (.ow (xs.eraseIdx j))))
def wvPop (i : Nat) : WV := fun G ρ Q => ∃ xs d, ρ[i]? = some (some (.ow xs)) ∧ xs[xs.length - 1]? = some d ∧ Q d (ρ.set i (some (.ow xs.dropLast)))
def wSetG (i : Nat) (wv : WV) : WS := fun G E ρ => wv G ρ fun d ρ' => i < ρ'.length ∧ E.nx (ρ'.set i (some (.fz d)))
/-- any target -/
def wSetT (wg : WG) (wv : WV) : WS := fun G E ρ => wv G ρ fun d ρ' => wg d ρ' E.nx
section
variable {S : Sta} {e a b k : Expr} {es : List Expr} {pos spos p apos cpos : Pos} {wo : WO} {w wk : W} {wv wv2 : WV} {i : Nat} {x : Str}
theorem ownList {K : PySem.W.Frag} {G : Gc} {H0 F0 F H : Hp} {σ : St} {ρ : En} (ev : Ev K G H0 F0 F H σ ρ) {xs : List D} (q : ρ[i]? = some (some (.ow xs))) : ∃ a vs, σ[i]? = some (some (.ref a)) ∧ H a = some (.lst vs) ∧ RpL K F vs xs ∧ ¬ G.R a := by
  obtain ⟨v, h1, a, vs, rfl, h2, h3, h4⟩ := ev.r.slot i _ q
  exact ⟨a, vs, h1, h2, h3, h4⟩
theorem ds_app (hv : DV S e wv) (hN : (S.N[i]? == some x) = true := by kernel_rfl) (hx : (S.names.lookup x == some .local || S.names.lookup x == some .cell || S.names.lookup x == some .free) = true := by kernel_rfl) (hd : (x == ("__debug__" : Str)) = false := by kernel_rfl) (hcd : (x == ("__classdict__" : Str)) = false := by kernel_rfl)
    (hbase : ∀ env, attributeBase (.Name x p) "append" env (eval (.Name x p) env) = eval (.Name x p) env := by intro _; rfl)
    (hfew : ∀ env, ((backTo cpos (starEach [e] env)).all (fun x => !x.1) && (backToKw cpos (keywordEach [] env)).all (fun x => x.1.isSome) && decide ([e].length + ([] : List Keyword).length + (if ([] : List Keyword).isEmpty then 0 else 1) < 30)) = true := by intro _; rfl)
    (hline : (apos.endLine == cpos.line) = true := by kernel_rfl) (hs : ∀ env, starEach [e] env = (false, eval e env) :: starEach [] env := by intro _; rfl)
    (hsw : ∀ env, swapsWith (.Call (.Attribute (.Name x p) "append" apos) [e] [] cpos) none spos.line env = pure false := by intro _; rfl) :
    DS S (.Expr (.Call (.Attribute (.Name x p) "append" apos) [e] [] cpos) spos) (wApp i wv) := fun X f => by
  have pa := pa_cons (hv X f) pa_nil (hs _)
  refine (ps_expr (pe_bm PySem.F.plainAttrs_list PySem.F.slot_list_append PySem.F.type_list_append mt_append (pvN f hN hx hd hcd) pa (hbase _) (hfew _) hline (hs _) rfl) (hsw _)).imp fun D σ H ⟨G, H0, F0, F, ρ, E, ev, ⟨⟨xs0, q0⟩, hw⟩, g⟩ => ?_
  obtain ⟨a, vs0, h1, h2, _, _⟩ := ownList ev q0
  refine ⟨.ref a, h1, .inl ⟨rfl, _, .inl (.inl h2)⟩, G, H0, F0, F, ρ, _, ev, hw, fun v H' F' d ρ' ev' s r ⟨xs, q, hz, z⟩ => ?_⟩
  obtain ⟨a', vs, h1', h3, h4, h5⟩ := ownList ev' q
  rw [h1] at h1'
  cases h1'
  exact ⟨a, vs, v, rfl, rfl, h3, by rw [h4.len]; exact hz, g.nx _ _ F' _ (ev'.chg q h1 (h4.append (.cons r .nil)) h5) s z⟩
theorem ds_ext (hv : DV S e wv) (hN : (S.N[i]? == some x) = true := by kernel_rfl) (hx : (S.names.lookup x == some .local || S.names.lookup x == some .cell || S.names.lookup x == some .free) = true := by kernel_rfl) (hd : (x == ("__debug__" : Str)) = false := by kernel_rfl) (hcd : (x == ("__classdict__" : Str)) = false := by kernel_rfl)
    (hbase : ∀ env, attributeBase (.Name x p) "extend" env (eval (.Name x p) env) = eval (.Name x p) env := by intro _; rfl)
    (hfew : ∀ env, ((backTo cpos (starEach [e] env)).all (fun x => !x.1) && (backToKw cpos (keywordEach [] env)).all (fun x => x.1.isSome) && decide ([e].length + ([] : List Keyword).length + (if ([] : List Keyword).isEmpty then 0 else 1) < 30)) = true := by intro _; rfl)
    (hline : (apos.endLine == cpos.line) = true := by kernel_rfl) (hs : ∀ env, starEach [e] env = (false, eval e env) :: starEach [] env := by intro _; rfl)
    (hsw : ∀ env, swapsWith (.Call (.Attribute (.Name x p) "extend" apos) [e] [] cpos) none spos.line env = pure false := by intro _; rfl) :
    DS S (.Expr (.Call (.Attribute (.Name x p) "extend" apos) [e] [] cpos) spos) (wExt i wv) := fun X f => by
  have pa := pa_cons (hv X f) pa_nil (hs _)
  refine (ps_expr (pe_bm PySem.F.plainAttrs_list PySem.F.slot_list_extend PySem.F.type_list_extend mt_extend (pvN f hN hx hd hcd) pa (hbase _) (hfew _) hline (hs _) rfl) (hsw _)).imp fun D σ H ⟨G, H0, F0, F, ρ, E, ev, ⟨⟨xs0, q0⟩, hw⟩, g⟩ => ?_
  obtain ⟨a, vs0, h1, h2, _, _⟩ := ownList ev q0
  refine ⟨.ref a, h1, .inl ⟨rfl, _, .inl (.inl h2)⟩, G, H0, F0, F, ρ, _, ev, hw, fun v H' F' d ρ' ev' s r ⟨xs, ys, q, ed, hz, z⟩ => ?_⟩
  obtain ⟨a', vs, h1', h3, h4, h5⟩ := ownList ev' q
  rw [h1] at h1'
  cases h1'
  subst ed
  cases r with
  | lst hb rb => exact ⟨a, _, vs, _, rfl, rfl, h3, ev'.r.sub _ _ hb, by rw [h4.len, rb.len]; exact hz, g.nx _ _ F' _ (ev'.chg q h1 (h4.append rb) h5) s z⟩
theorem dv_popAt (hk : DE S k wk) (hN : (S.N[i]? == some x) = true := by kernel_rfl) (hx : (S.names.lookup x == some .local || S.names.lookup x == some .cell || S.names.lookup x == some .free) = true := by kernel_rfl) (hd : (x == ("__debug__" : Str)) = false := by kernel_rfl) (hcd : (x == ("__classdict__" : Str)) = false := by kernel_rfl)
    (hbase : ∀ env, attributeBase (.Name x p) "pop" env (eval (.Name x p) env) = eval (.Name x p) env := by intro _; rfl)
    (hfew : ∀ env, ((backTo cpos (starEach [k] env)).all (fun x => !x.1) && (backToKw cpos (keywordEach [] env)).all (fun x => x.1.isSome) && decide ([k].length + ([] : List Keyword).length + (if ([] : List Keyword).isEmpty then 0 else 1) < 30)) = true := by intro _; rfl)
    (hline : (apos.endLine == cpos.line) = true := by kernel_rfl) (hs : ∀ env, starEach [k] env = (false, eval k env) :: starEach [] env := by intro _; rfl) :
    DV S (.Call (.Attribute (.Name x p) "pop" apos) [k] [] cpos) (wvPopAt i wk) := fun X f => by
  have pa := pa_cons (hk X f) pa_nil (hs _)
  refine (pe_bm PySem.F.plainAttrs_list PySem.F.slot_list_pop PySem.F.type_list_pop mt_popAt (pvN f hN hx hd hcd) pa (hbase _) (hfew _) hline (hs _) rfl).imp fun σ H Q ⟨G, H0, F0, F, ρ, Qd, ev, ⟨⟨xs0, q0⟩, hw⟩, hq⟩ => ?_
  obtain ⟨a, vs0, h1, h2, _, _⟩ := ownList ev q0
  refine ⟨.ref a, h1, .inl ⟨rfl, _, .inl (.inl h2)⟩, G, F, ρ, _, ev.r, hw, fun v H' F' kd s e' fr r ⟨kk, j, xs, d, ek, q, b1, b2, hj, hd, z⟩ => ?_⟩
  have ev' := ev.go s e' fr
  obtain ⟨a', vs, h1', h3, h4, h5⟩ := ownList ev' q
  rw [h1] at h1'
  cases h1'
  subst ek
  cases r
  obtain ⟨y, hy, ry⟩ := h4.get hd
  exact ⟨a, vs, kk, j, y, rfl, rfl, h3, b1, b2, by rw [h4.len]; exact hj, hy, hq _ _ F d _ (ev'.chg q h1 (h4.eraseIdx j) h5) (Same.refl _) ry z⟩
theorem dv_pop (hN : (S.N[i]? == some x) = true := by kernel_rfl) (hx : (S.names.lookup x == some .local || S.names.lookup x == some .cell || S.names.lookup x == some .free) = true := by kernel_rfl) (hd : (x == ("__debug__" : Str)) = false := by kernel_rfl) (hcd : (x == ("__classdict__" : Str)) = false := by kernel_rfl)
    (hbase : ∀ env, attributeBase (.Name x p) "pop" env (eval (.Name x p) env) = eval (.Name x p) env := by intro _; rfl) (hline : (apos.endLine == cpos.line) = true := by kernel_rfl) :
    DV S (.Call (.Attribute (.Name x p) "pop" apos) [] [] cpos) (wvPop i) := fun X f => by
  refine (pe_bm0 PySem.F.plainAttrs_list PySem.F.slot_list_pop PySem.F.type_list_pop mt_pop (pvN f hN hx hd hcd) (hbase _) hline).imp fun σ H Q ⟨G, H0, F0, F, ρ, Qd, ev, ⟨xs, d, q, hd, z⟩, hq⟩ => ?_
  obtain ⟨a, vs, h1, h2, h4, h5⟩ := ownList ev q
  obtain ⟨y, hy, ry⟩ := h4.get hd
  exact ⟨.ref a, h1, .inl ⟨rfl, _, .inl (.inl h2)⟩, a, vs, y, rfl, rfl, h2, by rw [h4.len]; exact hy, hq _ _ F d _ (ev.chg q h1 h4.dropLast h5) (Same.refl _) ry z⟩
theorem ds_storeIx {tpos : Pos} (hv : DV S e wv) (hk : DE S k wk) (hN : (S.N[i]? == some x) = true := by kernel_rfl) (hx : (S.names.lookup x == some .local || S.names.lookup x == some .cell || S.names.lookup x == some .free) = true := by kernel_rfl) (hd : (x == ("__debug__" : Str)) = false := by kernel_rfl) (hcd : (x == ("__classdict__" : Str)) = false := by kernel_rfl)
    (ha : ∀ env v, assign (.Subscript (.Name x p) k tpos) env v = (do
      let ov ← holding [v] (eval (.Name x p) env)
      let iv ← holding [v, ov] (eval k env)
      standAt tpos
      holding [v, ov, iv] (setItem ov iv v)
      release [v, ov, iv] []) := by intro _ _; rfl)
    (hs : ∀ env, swapsWithSole [.Subscript (.Name x p) k tpos] e pos.line env = pure false := by intro _; rfl) (hw : ∀ env, swappedStores [.Subscript (.Name x p) k tpos] e env = pure none := by intro _; rfl) (h1 : ∀ env, (assignEach [.Subscript (.Name x p) k tpos] env).map (·.2) = [assign (.Subscript (.Name x p) k tpos) env] := by intro _; rfl) :
    DS S (.Assign [.Subscript (.Name x p) k tpos] e pos) (wStoreIx i wk wv) := fun X f => by
  refine (ps_asg (hv X f) (pg_sub (pvN f hN hx hd hcd) (hk X f) set_list (ha _)) (hs _) (hw _) (h1 _)).imp fun D σ H ⟨G, H0, F0, F, ρ, E, ev, hw, g⟩ => ?_
  refine ⟨G, H0, F0, F, ρ, _, ev, hw, fun v H1 F1 d ρ1 ev1 s1 r1 ⟨⟨xs0, q0⟩, hw2⟩ => ?_⟩
  obtain ⟨a, vs0, hu, h2, _, _⟩ := ownList ev1 q0
  refine ⟨.ref a, hu, G, F1, ρ1, _, ev1.r, hw2, fun kv H2 F2 kd s2 e2 fr2 rk ⟨kk, j, xs, ek, q, hj, z⟩ => ?_⟩
  have ev2 := ev1.go s2 e2 fr2
  obtain ⟨a', vs, h1', h3, h4, h5⟩ := ownList ev2 q
  rw [hu] at h1'
  cases h1'
  subst ek
  cases rk
  exact ⟨a, vs, kk, j, rfl, rfl, h3, by rw [h4.len]; exact hj, g.nx _ _ F1 _ (ev2.chg q hu (h4.set r1 j) h5) s1 z⟩
end
end DL
set_option maxHeartbeats 4000000
namespace DL
open PySem PySem.Spec PyProof.Rows L2

/-! ### stores of names, once more -/
section
variable {S : Sta} {e a b c : Expr} {es : List Expr} {pos p : Pos} {wo wo1 wo2 wo3 : WO} {wv : WV} {i j l : Nat} {x y z : Str}
theorem ds_setG (hv : DV S e wv) (nd : S.N.Nodup) (hN : (S.N[i]? == some x) = true := by kernel_rfl) (hl : (S.names.lookup x == some .local || (S.names.lookup x == some .cell && S.fc x)) = true := by kernel_rfl)
    (hs : ∀ env, swapsWith e (some (.Name x p)) pos.line env = pure false := by intro _; rfl) : DS S (.Assign [.Name x p] e pos) (wSetG i wv) := fun X f => by
  obtain ⟨h1, h2⟩ := locOf f hl
  refine (ps_set (i := i) (by rw [f.N]; exact nd) (by rw [f.N]; exact beq_iff_eq.mp hN) h1 (hv X f) (hs _) h2).imp fun D σ H ⟨G, H0, F0, F, ρ, E, ev, hw, g⟩ => ?_
  exact ⟨G, H0, F0, F, ρ, _, ev, hw, fun v H' F' d ρ' ev' s r ⟨hi, q⟩ => g.nx _ H' F' _ (ev'.set (sv := .fz d) hi r fun h => by cases h) s q⟩
theorem Ev.setP {K : PySem.W.Frag} {G : Gc} {H0 F0 F H : Hp} {is : List Nat} : ∀ i v d σ ρ, i ∈ is → Ev K G H0 F0 F H σ ρ → i < ρ.length → Rp K F v d → Ev K G H0 F0 F H (σ.set i (some v)) (ρ.set i (some (.fz d))) :=
  fun i v d σ ρ _ ev hi r => ev.set (sv := .fz d) hi r fun h => by cases h
theorem ds_asgT {tg : Expr} {is : List Nat} {wg : WG} (hv : DV S e wv) (hg : DG S tg is wg) (hs : ∀ env, swapsWithSole [tg] e pos.line env = pure false := by intro _; rfl) (hw : ∀ env, swappedStores [tg] e env = pure none := by intro _; rfl)
    (h1 : ∀ env, (assignEach [tg] env).map (·.2) = [assign tg env] := by intro _; rfl) : DS S (.Assign [tg] e pos) (wSetT wg wv) := fun X f => by
  obtain ⟨g0, pg, ok⟩ := hg
  refine (ps_asg (hv X f) (pg X f) (hs _) (hw _) (h1 _)).imp fun D σ H ⟨G, H0, F0, F, ρ, E, ev, hw, g⟩ => ?_
  exact ⟨G, H0, F0, F, ρ, _, ev, hw, fun v H' F' d ρ' ev' s r q => ok (fun σ ρ => Ev S.K G H0 F0 F' H' σ ρ) F' H' σ ρ' v d _ _ Ev.setP ev'.r.sub ev' r q fun σ2 ρ2 p2 q2 => g.nx σ2 H' F' ρ2 p2 s q2⟩
/-- two values side by side -/
def put2 (ρ : En) (i : Nat) (sv : SV) (j : Nat) (sw : SV) : En := match immS sv && immS sw with
  | true => (ρ.set i (some sv)).set j (some sw)
  | false => ((frzAll ρ).set i (some sv)).set j (some sw)
theorem rpo_keep {K : PySem.W.Frag} {G : Gc} {F1 F2 H H1 H2 : Hp} {v : V} {sv : SV} (h : RpO K G F1 H H1 v sv) (s : Same F1 F2) (fr : Fr G H1 H2) (nF : isOwn sv = true → ∀ a, v = .ref a → F2 a = none) : RpO K G F2 H H2 v sv := by
  cases sv with
  | fz d => exact Rp.mono s h
  | ow xs =>
    obtain ⟨a, vs, rfl, h1, h2, h3, h4, h5⟩ := h
    exact ⟨a, vs, rfl, fr _ _ h1 h3, h2.mono s, h3, h4, nF rfl a rfl⟩
  | od kds =>
    obtain ⟨a, vs, rfl, h1, h0, h2, h3, h4, h5⟩ := h
    exact ⟨a, vs, rfl, fr _ _ h1 h3, h0, h2.mono s, h3, h4, nF rfl a rfl⟩
/-- what a value just made pins -/
def pinO (G : Gc) (H : Hp) (v : V) (sv : SV) : Gc := match isOwn sv, v with
  | true, .ref a => match H a with
    | some o => G.more a o
    | none => G
  | _, _ => G
theorem rpo_ref {K : PySem.W.Frag} {G : Gc} {F1 H H1 : Hp} {v : V} {sv : SV} (h : RpO K G F1 H H1 v sv) (ho : isOwn sv = true) : ∃ a o, v = .ref a ∧ H1 a = some o ∧ ¬ G.R a ∧ H a = none ∧ F1 a = none := by
  cases sv with
  | fz d => cases ho
  | ow xs => obtain ⟨a, vs, rfl, h1, h2, h3, h4, h5⟩ := h; exact ⟨a, _, rfl, h1, h3, h4, h5⟩
  | od kds => obtain ⟨a, vs, rfl, h1, h0, h2, h3, h4, h5⟩ := h; exact ⟨a, _, rfl, h1, h3, h4, h5⟩
theorem rpo_mut {K : PySem.W.Frag} {G : Gc} {F1 H H1 : Hp} {a : Addr} {o : HO} {sv : SV} (h : RpO K G F1 H H1 (.ref a) sv) (ho : isOwn sv = true) (e : H1 a = some o) : isMutO o = true := by
  cases sv with
  | fz d => cases ho
  | ow xs => obtain ⟨b, vs, eb, h1, _⟩ := h; cases eb; rw [e] at h1; cases h1; rfl
  | od kds => obtain ⟨b, vs, eb, h1, _⟩ := h; cases eb; rw [e] at h1; cases h1; rfl
theorem pin_ext {K : PySem.W.Frag} {G : Gc} {F1 H H1 : Hp} {v : V} {sv : SV} (h : RpO K G F1 H H1 v sv) : GExt G (pinO G H1 v sv) := by
  unfold pinO
  cases ho : isOwn sv with
  | false => exact GExt.refl G
  | true =>
    obtain ⟨a, o, rfl, h1, h2, _, _⟩ := rpo_ref h ho
    dsimp only
    rw [h1]
    exact G.more_ext a o h2
theorem pin_evr {K : PySem.W.Frag} {G : Gc} {F1 H H1 : Hp} {v : V} {sv : SV} {σ : St} {ρ : En} (h : RpO K G F1 H H1 v sv) (e0 : ∀ (j : Nat) (sw : SV), ρ[j]? = some (some sw) → isOwn sw = true → ∀ a, H a = none → σ[j]? ≠ some (some (.ref a))) (e : EvR K G F1 H1 σ ρ) : EvR K (pinO G H1 v sv) F1 H1 σ ρ := by
  unfold pinO
  cases ho : isOwn sv with
  | false => exact e
  | true =>
    obtain ⟨a, o, rfl, h1, h2, h3, h4⟩ := rpo_ref h ho
    dsimp only
    rw [h1]
    exact evr_more e h1 (rpo_mut h ho h1) h4 fun j sw q ho => e0 j sw q ho a h3
theorem pin_less {K : PySem.W.Frag} {G : Gc} {F1 F2 H H1 H2 : Hp} {v : V} {sv : SV} {σ : St} {ρ : En} (h : RpO K G F1 H H1 v sv) (e : EvR K (pinO G H1 v sv) F2 H2 σ ρ) (fr : Fr (pinO G H1 v sv) H1 H2) : EvR K G F2 H2 σ ρ ∧ Fr G H1 H2 ∧ (isOwn sv = true → ∀ a, v = .ref a → F2 a = none) := by
  unfold pinO at e fr
  cases ho : isOwn sv with
  | false => rw [ho] at e fr; exact ⟨e, fr, fun z => by cases z⟩
  | true =>
    obtain ⟨a, o, rfl, h1, h2, h3, h4⟩ := rpo_ref h ho
    rw [ho] at e fr
    dsimp only at e fr
    rw [h1] at e fr
    refine ⟨evr_less e, fun b u hb nb => ?_, fun _ b eb => by cases eb; exact e.res a (.inr rfl)⟩
    by_cases hba : b = a
    · subst hba; rw [h1] at hb; cases hb; exact e.wd.2.1
    · exact fr b u hb fun r => r.elim nb hba
theorem rpo_unpin {K : PySem.W.Frag} {G G' : Gc} {F2 H2 H3 : Hp} {u : V} {sw : SV} (hx : GExt G G') (h : RpO K G' F2 H2 H3 u sw) : RpO K G F2 H2 H3 u sw := by
  cases sw with
  | fz d => exact h
  | ow xs =>
    obtain ⟨a, vs, rfl, h1, h2, h3, h4, h5⟩ := h
    exact ⟨a, vs, rfl, h1, h2, fun r => h3 (hx.R a r), h4, h5⟩
  | od kds =>
    obtain ⟨a, vs, rfl, h1, h0, h2, h3, h4, h5⟩ := h
    exact ⟨a, vs, rfl, h1, h0, h2, fun r => h3 (hx.R a r), h4, h5⟩
def wPar2 (i j : Nat) (w1 w2 : WO) : WS := fun G E ρ => i < ρ.length ∧ j < ρ.length ∧ w1 G ρ fun sv => ∀ G', GExt G G' → w2 G' ρ fun sw => E.nx (put2 ρ i sv j sw)
theorem rps_of {K : PySem.W.Frag} {G : Gc} {F H H' : Hp} {v : V} {sv : SV} (h : RpO K G F H H' v sv) : RpS K G F H' v sv := by
  cases sv with
  | fz d => exact h
  | ow xs => obtain ⟨a, vs, rfl, h1, h2, h3, _⟩ := h; exact ⟨a, vs, rfl, h1, h2, h3⟩
  | od kds => obtain ⟨a, vs, rfl, h1, h0, h2, h3, _⟩ := h; exact ⟨a, vs, rfl, h1, h0, h2, h3⟩
/-- what stands for good behind new values: F2 -/
theorem rpo_base {K : PySem.W.Frag} {G : Gc} {F F' H H' : Hp} {v : V} {sv : SV} (h : RpO K G F' H H' v sv) (s : Same F F') (hm : immS sv = true) : RpO K G (tupOf F F') H H' v sv := by
  cases sv with
  | fz d => exact Rp.tupOf s h hm
  | ow xs => obtain ⟨a, vs, rfl, h1, h2, h3, h4, h5⟩ := h; exact ⟨a, vs, rfl, h1, RpL.tupOf s h2 hm, h3, h4, tupOf_none h5 s⟩
  | od kds => obtain ⟨a, vs, rfl, h1, h0, h2, h3, h4, h5⟩ := h; exact ⟨a, vs, rfl, h1, h0, RpL.tupOf s h2 hm, h3, h4, tupOf_none h5 s⟩
theorem rpo_baseA {K : PySem.W.Frag} {G : Gc} {H0 F0 F F' H H' : Hp} {v : V} {sv : SV} {σ : St} {ρ : En} (ev : Ev K G H0 F0 F H σ ρ) (h : RpO K G F' H H' v sv) : RpO K G (ownOf F' H' σ ρ) H H' v sv := by
  refine rpo_keep h ownOf_same Fr.refl fun ho a ea => ?_
  obtain ⟨b, o, eb, _, _, h3, h4⟩ := rpo_ref h ho
  rw [ea] at eb
  cases eb
  exact ownOf_none h4 fun j xs q z => ev.ne h3 j _ q rfl z
theorem Ev.put2 {K : PySem.W.Frag} {G : Gc} {H0 F0 F F' H H' : Hp} {σ : St} {ρ : En} (e : Ev K G H0 F0 F H σ ρ) (s : Same F F') (e' : EvR K G F' H' σ ρ) (fr : Fr G H H') {i j : Nat} {v u : V} {sv sw : SV} (hi : i < ρ.length) (hj : j < ρ.length) (hij : i ≠ j)
    (h1 : RpO K G F' H H' v sv) (h2 : RpO K G F' H H' u sw) (hne : isOwn sv = true → isOwn sw = true → v ≠ u) : ∃ F2, Ev K G H0 F0 F2 H' ((σ.set i (some v)).set j (some u)) (DL.put2 ρ i sv j sw) ∧ Same F F2 := by
  have go : ∀ (F2 : Hp) (ρ2 : En), ρ2.length = ρ.length → Ev K G H0 F0 F2 H' σ ρ2 → RpO K G F2 H H' v sv → RpO K G F2 H H' u sw → (∀ (k : Nat) (sx : SV), ρ2[k]? = some (some sx) → isOwn sx = true → ∀ a, H a = none → σ[k]? ≠ some (some (.ref a))) → Ev K G H0 F0 F2 H' ((σ.set i (some v)).set j (some u)) ((ρ2.set i (some sv)).set j (some sw)) := fun F2 ρ2 hl ev r1 r2 ns => by
    have ev1 : Ev K G H0 F0 F2 H' (σ.set i (some v)) (ρ2.set i (some sv)) := ev.set (by rw [hl]; exact hi) (rps_of r1) fun ho a ea => by
      obtain ⟨b, o, eb, _, q2, q3, q4⟩ := rpo_ref r1 ho
      rw [ea] at eb; cases eb
      exact ⟨q4, e.fr.free q2 q3, fun k sx _ q ho => ns k sx q ho a q3⟩
    refine ev1.set (by rw [List.length_set, hl]; exact hj) (rps_of r2) fun ho a ea => ?_
    obtain ⟨b, o, eb, _, q2, q3, q4⟩ := rpo_ref r2 ho
    rw [ea] at eb; cases eb
    refine ⟨q4, e.fr.free q2 q3, fun k sx nk q hok z => ?_⟩
    rcases set_get q with ⟨rfl, zz⟩ | ⟨ne, q⟩
    · cases zz
      rw [List.getElem?_set_self (by rw [e.len]; exact hi)] at z
      cases z
      exact hne hok ho ea.symm
    · rw [List.getElem?_set_ne ne] at z
      exact ns k sx q hok a q3 z
  unfold DL.put2
  cases hm : (immS sv && immS sw) with
  | true =>
    obtain ⟨m1, m2⟩ := Bool.and_eq_true_iff.mp hm
    exact ⟨tupOf F F', go _ ρ rfl (e.goT s e' fr) (rpo_base h1 s m1) (rpo_base h2 s m2) fun k sx q ho a ha => e.ne ha k sx q ho, tupOf_same⟩
  | false =>
    exact ⟨ownOf F' H' σ ρ, go _ (frzAll ρ) (by unfold frzAll; rw [List.length_map]) (e.goA s e' fr) (rpo_baseA e h1) (rpo_baseA e h2) (fun k sx q ho => by rw [frzAll_own q] at ho; cases ho), s.trans ownOf_same⟩
theorem swap2 {a b : Expr} {x y : Str} {px py pt pt2 : Pos} {kt k2 : Nat} (hne : (x == y) = false) (hl : (py.line == px.line) = true) (sa : (match a with | .Starred .. => true | _ => false) = false) (sb : (match b with | .Starred .. => true | _ => false) = false)
    (hf : (foldedForSure 8 a && foldedForSure 8 b) = false) (hc : (constantsAlone 8 a && constantsAlone 8 b) = false) (env : Env) (hk : env.scope.kind = .function) (hx : env.scope.names.lookup x = some .local) (hy : env.scope.names.lookup y = some .local) :
    swappedStores [.Tuple [.Name x px, .Name y py] kt pt] (.Tuple [a, b] k2 pt2) env = pure (some [x, y]) := by
  have hb : env.blockKind = .function := by unfold Env.blockKind; rw [hk]; rfl
  have kx : env.kindOf x = some .local := hx
  have ky : env.kindOf y = some .local := hy
  have hne' : (y == x) = false := by
    cases h : y == x with
    | false => rfl
    | true => rw [beq_iff_eq.mp h] at hne; simp at hne
  unfold swappedStores
  simp only [hb, kx, ky, List.length_cons, List.length_nil, List.any_cons, List.any_nil, sa, sb, List.filterMap_cons, List.filterMap_nil, Expr.pos, List.head?_cons, Option.map_some, Option.getD_some, hl, List.all_cons, List.all_nil, Bool.and_true, hf, hc, beq_self_eq_true, Bool.and_self, if_true, List.eraseDups_cons, hne, hne']
  simp [hne, hne']
  rw [if_neg, if_pos (by simp [List.eraseDups_cons])]
  rintro (h | h)
  · cases a <;> first | exact Bool.noConfusion h | exact Bool.noConfusion sa
  · cases b <;> first | exact Bool.noConfusion h | exact Bool.noConfusion sb
theorem ds_par2 {px py pt : Pos} {kt k2 pt2} (h1 : DO S a wo1) (h2 : DO S b wo2) (nd : S.N.Nodup) (hi : (S.N[i]? == some x) = true := by kernel_rfl) (hj : (S.N[j]? == some y) = true := by kernel_rfl) (hij : (i == j) = false := by kernel_rfl)
    (hx : (S.names.lookup x == some .local) = true := by kernel_rfl) (hy : (S.names.lookup y == some .local) = true := by kernel_rfl)
    (hs : ∀ env, starEach (a :: [b]) env = (false, eval a env) :: starEach [b] env := by intro _; rfl) (hs2 : ∀ env, starEach (b :: []) env = (false, eval b env) :: starEach [] env := by intro _; rfl)
    (hw : ∀ env : Env, env.scope.kind = .function → env.scope.names.lookup x = some .local → env.scope.names.lookup y = some .local → swappedStores [.Tuple [.Name x px, .Name y py] kt pt] (.Tuple [a, b] k2 pt2) env = pure (some [x, y]))
    (hsw : ∀ env, swapsWithSole [.Tuple [.Name x px, .Name y py] kt pt] (.Tuple [a, b] k2 pt2) pos.line env = pure false := by intro _; rfl) :
    DS S (.Assign [.Tuple [.Name x px, .Name y py] kt pt] (.Tuple [a, b] k2 pt2) pos) (wPar2 i j wo1 wo2) := fun X f => by
  have lx : X.env.scope.names.lookup x = some .local := by rw [f.look]; exact beq_iff_eq.mp hx
  have ly : X.env.scope.names.lookup y = some .local := by rw [f.look]; exact beq_iff_eq.mp hy
  have nij : i ≠ j := fun z => by subst z; simp at hij
  refine (ps_par (i := i) (j := j) f.calm (by rw [f.N]; exact nd) (by rw [f.N]; exact beq_iff_eq.mp hi) (by rw [f.N]; exact beq_iff_eq.mp hj) nij lx ly (pa_cons (h1 X f) (pa_cons (h2 X f) pa_nil (hs2 _)) (hs _)) (hw _ f.kind lx ly) (hsw _)).imp fun D σ H ⟨G, H0, F0, F, ρ, E, ev, ⟨li, lj, hw⟩, g⟩ => ?_
  refine ⟨G, F, ρ, _, ev.r, hw, fun v H1 F1 sv s1 e1 f1 r1 q1 => ?_⟩
  have ns : ∀ (k : Nat) (sx : SV), ρ[k]? = some (some sx) → isOwn sx = true → ∀ a, H a = none → σ[k]? ≠ some (some (.ref a)) := fun k sx q ho a ha => ev.ne ha k sx q ho
  refine ⟨pinO G H1 v sv, F1, ρ, _, pin_evr r1 ns e1, q1 _ (pin_ext r1), fun u H2 F2 sw s2 e2 f2 r2 q2 => ?_⟩
  obtain ⟨e2', f2', nF⟩ := pin_less r1 e2 f2
  have r2' : RpO S.K G F2 H1 H2 u sw := rpo_unpin (pin_ext r1) r2
  obtain ⟨F3, ev3, s3⟩ := ev.put2 (s1.trans s2) e2' (f1.trans f2') li lj nij (rpo_keep r1 s2 f2' nF) (r2'.back f1) (fun o1 o2 z => by
    obtain ⟨b1, o1', eb1, q1, _, _, _⟩ := rpo_ref r1 o1
    obtain ⟨b2, o2', eb2, _, _, q3, _⟩ := rpo_ref r2' o2
    rw [z, eb2] at eb1
    cases eb1
    rw [q1] at q3; cases q3)
  exact ⟨v, u, rfl, g.nx _ H2 F3 _ ev3 s3 q2⟩
end
end DL
set_option maxHeartbeats 4000000
namespace DL
open PySem PySem.Spec PyProof.Rows L2

/-! ### loops -/
abbrev WIS := Gc → En → (List D → En → Prop) → Prop
def tGI (K : PySem.W.Frag) (w : WIS) : TI := fun σ H R => ∃ G H0 F0 F ρ Qd, Ev K G H0 F0 F H σ ρ ∧ w G ρ Qd ∧ ∀ J H' F' ds ρ', Ev K G H0 F0 F' H' σ ρ' → Same F F' → ItOk K J F' ds → Qd ds ρ' → R J H'
def DJ (S : Sta) (tg e : Expr) (w : WIS) : Prop := ∀ X, Fam S X → PI X tg e (tGI S.K w)
def wjSeq (w : WV) : WIS := fun G ρ Q => w G ρ fun d ρ' => ∃ ds, itemsOf d = some ds ∧ Q ds ρ'
def wjRange1 (r : WA) : WIS := fun G ρ Q => r G ρ fun ds => ∃ j : Int, ds = [.int j] ∧ -(2 ^ 62) ≤ j ∧ j < 2 ^ 62 ∧ Q (rangeD 0 j.toNat) ρ
def wjRange2 (r : WA) : WIS := fun G ρ Q => r G ρ fun ds => ∃ i j : Int, ds = [.int i, .int j] ∧ (-(2 ^ 62) ≤ i ∧ i < 2 ^ 62 ∧ -(2 ^ 62) ≤ j ∧ j < 2 ^ 62) ∧ Q (rangeD i (j - i).toNat) ρ
def wjZip (w1 w2 : WV) : WIS := fun G ρ Q => w1 G ρ fun x ρ1 => w2 G ρ1 fun y ρ2 => ∃ xs ys, ((x = .tup xs ∧ y = .tup ys) ∨ (x = .lst xs ∧ y = .lst ys)) ∧ Q (zipD xs ys) ρ2
def wjEnum (w : WV) : WIS := fun G ρ Q => w G ρ fun d ρ' => ∃ xs, d = .lst xs ∧ Q (enumD 0 xs) ρ'
section
variable {S : Sta} {tg e a b : Expr} {es : List Expr} {p pos tpos : Pos} {w w1 w2 : WV} {r : WA} {kk : Nat}
theorem dj_seq (h : DV S e w) : DJ S tg e (wjSeq w) := fun X f => (pi_seq (h X f)).imp fun σ H R ⟨G, H0, F0, F, ρ, Qd, ev, hw, hq⟩ =>
  ⟨G, H0, F0, F, ρ, _, ev, hw, fun v H1 F1 d ρ1 ev1 s1 r1 ⟨ds, ed, q1⟩ => by
    rw [f.K]
    obtain ⟨a, vs, rfl, h, r⟩ := rp_items r1 ed
    rcases h with ⟨_, h⟩ | ⟨_, h⟩
    · exact ⟨a, rfl, .inl ⟨⟨vs, SqL.of (ev1.r.sub _ _ h)⟩, hq _ H1 F1 ds ρ1 ev1 s1 (itok_list h r) q1⟩⟩
    · exact ⟨a, rfl, .inr ⟨⟨vs, Same.sqt ev1.r.sub h⟩, hq _ H1 F1 ds ρ1 ev1 s1 (itok_tup h r) q1⟩⟩⟩
theorem dj_range1 (hm : S.mg "range" = none) (h : DA S [a] r) (hg : (S.names.lookup ("range" : Str) == some .globalImplicit) = true := by kernel_rfl) (hs : ∀ env, starEach [a] env = [(false, eval a env)] := by intro _; rfl) : DJ S tg (.Call (.Name "range" p) [a] [] pos) (wjRange1 r) := fun X f =>
  (pi_range1 (glOf f hg) (by rw [f.mg]; exact hm) (h X f) (hs _)).imp fun σ H R ⟨G, H0, F0, F, ρ, Qd, ev, hw, hq⟩ =>
  ⟨G, F, ρ, _, ev.r, hw, fun vs H1 F1 ds s1 e1 f1 r1 ⟨j, ed, z1, z2, q1⟩ => by
    subst ed
    cases r1 with
    | cons rv rr => cases rr; cases rv; exact ⟨j, rfl, z1, z2, hq _ H1 F _ ρ (ev.go s1 e1 f1) (Same.refl _) (itok_range _ _) q1⟩⟩
theorem dj_range2 (hm : S.mg "range" = none) (h : DA S [a, b] r) (hg : (S.names.lookup ("range" : Str) == some .globalImplicit) = true := by kernel_rfl) (hs : ∀ env, starEach [a, b] env = [(false, eval a env), (false, eval b env)] := by intro _; rfl) (hs2 : ∀ env, starEach [b] env = [(false, eval b env)] := by intro _; rfl) :
    DJ S tg (.Call (.Name "range" p) [a, b] [] pos) (wjRange2 r) := fun X f =>
  (pi_range2 (glOf f hg) (by rw [f.mg]; exact hm) (h X f) (hs _) (hs2 _)).imp fun σ H R ⟨G, H0, F0, F, ρ, Qd, ev, hw, hq⟩ =>
  ⟨G, F, ρ, _, ev.r, hw, fun vs H1 F1 ds s1 e1 f1 r1 ⟨i, j, ed, z, q1⟩ => by
    subst ed
    cases r1 with
    | cons rv rr =>
      cases rr with
      | cons rv2 rr => cases rr; cases rv; cases rv2; exact ⟨i, j, rfl, z, hq _ H1 F _ ρ (ev.go s1 e1 f1) (Same.refl _) (itok_range _ _) q1⟩⟩
theorem dj_zip (hm : S.mg "zip" = none) (h1 : DV S a w1) (h2 : DV S b w2) (hg : (S.names.lookup ("zip" : Str) == some .globalImplicit) = true := by kernel_rfl) (hs : ∀ env, starEach [a, b] env = (false, eval a env) :: starEach [b] env := by intro _; rfl) (hs2 : ∀ env, starEach [b] env = (false, eval b env) :: starEach [] env := by intro _; rfl) (hpl : ∀ env, (backTo pos (starEach [b] env)).any (·.1) = false := by intro _; rfl) :
    DJ S (.Tuple es kk tpos) (.Call (.Name "zip" p) [a, b] [] pos) (wjZip w1 w2) := fun X f =>
  (RZ.pi_zipA (glOf f hg) (by rw [f.mg]; exact hm) (pa_cons (h1 X f) (pa_cons (h2 X f) pa_nil (hs2 _)) (hs _)) (hs _) (hpl _)).imp fun σ H R ⟨G, H0, F0, F, ρ, Qd, ev, hw, hq⟩ =>
  ⟨G, H0, F0, F, ρ, _, ev, hw, fun v H1 F1 x ρ1 ev1 s1 r1 q1 => ⟨G, H0, F0, F1, ρ1, _, ev1, q1, fun u H2 F2 y ρ2 ev2 s2 r2 ⟨xs, ys, z, q2⟩ => by
    rw [f.K]
    have r1' := r1.mono s2
    rcases z with ⟨rfl, rfl⟩ | ⟨rfl, rfl⟩
    · cases r1' with
      | tup h1 r1 => cases r2 with
        | tup h2 r2 => exact ⟨_, _, _, _, rfl, .inr ⟨Same.sqt ev2.r.sub h1, Same.sqt ev2.r.sub h2, hq _ H2 F2 _ ρ2 ev2 (s1.trans s2) (itok_zipT h1 r1 h2 r2) q2⟩⟩
    · cases r1' with
      | lst h1 r1 => cases r2 with
        | lst h2 r2 => exact ⟨_, _, _, _, rfl, .inl ⟨SqL.of (ev2.r.sub _ _ h1), SqL.of (ev2.r.sub _ _ h2), hq _ H2 F2 _ ρ2 ev2 (s1.trans s2) (itok_zipL h1 r1 h2 r2) q2⟩⟩⟩⟩
theorem dj_enum (hm : S.mg "enumerate" = none) (h : DV S a w) (hg : (S.names.lookup ("enumerate" : Str) == some .globalImplicit) = true := by kernel_rfl) (hs : ∀ env, starEach [a] env = [(false, eval a env)] := by intro _; rfl) (hs2 : ∀ env, starEach [a] env = (false, eval a env) :: starEach [] env := by intro _; rfl) :
    DJ S (.Tuple es kk tpos) (.Call (.Name "enumerate" p) [a] [] pos) (wjEnum w) := fun X f =>
  (pi_enum (glOf f hg) (by rw [f.mg]; exact hm) (pa_cons (h X f) pa_nil (hs2 _)) (hs _)).imp fun σ H R ⟨G, H0, F0, F, ρ, Qd, ev, hw, hq⟩ =>
  ⟨G, H0, F0, F, ρ, _, ev, hw, fun v H1 F1 d ρ1 ev1 s1 r1 ⟨xs, ed, q1⟩ => by
    subst ed
    rw [f.K]
    cases r1 with
    | lst h1 r1 => exact ⟨_, _, rfl, SqL.of (ev1.r.sub _ _ h1), hq _ H1 F1 _ ρ1 ev1 s1 (itok_enum h1 r1) q1⟩⟩
end
def wForL (wg : WG) (wb : WS) (G : Gc) (E : EndsD) : List D → En → Prop
  | [], ρ => E.nx ρ
  | d :: r, ρ => wg d ρ fun ρ2 => wb G { nx := wForL wg wb G E r, rt := E.rt, bk := E.nx, ct := wForL wg wb G E r } ρ2
def wFor (wi : WIS) (wg : WG) (wb : WS) : WS := fun G E ρ => wi G ρ fun ds ρ' => wForL wg wb G E ds ρ'
def wWhileN (t : WT) (b : WS) (G : Gc) (E : EndsD) : Nat → En → Prop
  | 0, _ => False
  | n + 1, ρ => t G ρ fun k => if k = true then b G { nx := wWhileN t b G E n, rt := E.rt, bk := E.nx, ct := wWhileN t b G E n } ρ else E.nx ρ
def wWhile (t : WT) (b : WS) : WS := fun G E ρ => ∃ n, wWhileN t b G E n ρ
section
variable {K : PySem.W.Frag} {G : Gc} {H0 F0 F H : Hp} {σ : St} {ρ : En}
theorem Ev.live (e : Ev K G H0 F0 F H σ ρ) {p : Addr} {o : HO} (h : H p = none) : Ev K G H0 F0 (upd F p o) (upd H p o) σ ρ := by
  have nF := none_sub e.r.sub h
  refine ⟨e.r.live h, e.f0.trans (same_upd nF), e.fr.trans (Fr.upd h), fun i sv a q ho ha => ?_, e.apart⟩
  obtain ⟨q1, q2⟩ := e.own i sv a q ho ha
  have ne : a ≠ p := by rintro rfl; exact e.ne h i sv q ho ha
  exact ⟨by rw [upd_ne ne]; exact q1, q2⟩
end
section
variable {S : Sta} {tg iter c : Expr} {body : List Stmt} {pos : Pos} {wi : WIS} {wg : WG} {wb : WS} {is : List Nat} {t : WT}
theorem ds_for (hi : DJ S tg iter wi) (hg : DG S tg is wg) (hb : DSs S body wb) (hs : ∀ env x, foldedSetIterable iter env x = pure x := by intro _ _; rfl) : DS S (.For tg iter body [] pos) (wFor wi wg wb) := fun X f => by
  obtain ⟨g0, pg, ok⟩ := hg
  refine (ps_for (by rw [f.xe]; exact PassesOwn.never) f.calm (hi X f) (pg X f) (hb X f) (hs _)).imp fun D σ H ⟨G, H0, F0, F, ρ, E, ev, hw, g⟩ => ?_
  refine ⟨G, H0, F0, F, ρ, _, ev, hw, fun J H1 F1 ds ρ1 ev1 s1 it q1 => ?_⟩
  let I : Nat → St → Hp → Prop := fun i σ H2 => ∃ F2 ρ2, Same F1 F2 ∧ Ev S.K G H0 F0 F2 H2 σ ρ2 ∧ wForL wg wb G E (ds.drop i) ρ2
  refine ⟨fun i m σ H2 => m = ds.length - i ∧ i ≤ ds.length ∧ I i σ H2, ⟨ds.length, by omega, Nat.zero_le _, F1, ρ1, Same.refl _, ev1, q1⟩, ?_⟩
  rintro i m σ2 H2 ⟨rfl, hi, F2, ρ2, s2, ev2, hwl⟩
  by_cases hlt : i < ds.length
  · obtain ⟨hgo, hy⟩ := it.go i H2 F2 s2 ev2.r.sub hlt
    refine .inr ⟨hgo, I (i + 1), fun σ' H' h => ⟨ds.length - (i + 1), by omega, rfl, hlt, h⟩, fun x H3 y => ?_⟩
    obtain ⟨d, hd, hx⟩ := hy x H3 y
    rw [List.drop_eq_getElem_cons hlt] at hwl
    rw [List.getElem?_eq_getElem hlt] at hd
    cases hd
    obtain ⟨F3, s3, ev3, rx⟩ : ∃ F3, Same F2 F3 ∧ Ev S.K G H0 F0 F3 H3 σ2 ρ2 ∧ Rp S.K F3 x ds[i] := by
      rcases hx with ⟨rfl, rx⟩ | ⟨T, o, nT, rfl, rx⟩
      · exact ⟨F2, Same.refl _, ev2, rx⟩
      · exact ⟨upd F2 T o, same_upd (none_sub ev2.r.sub nT), ev2.live nT, rx⟩
    refine ok (fun σ ρ => Ev S.K G H0 F0 F3 H3 σ ρ) F3 H3 σ2 ρ2 x ds[i] _ _ Ev.setP ev3.r.sub ev3 rx hwl fun σ4 ρ4 ev4 q4 => ?_
    refine ⟨G, H0, F0, F3, ρ4, _, ev4, q4, ⟨fun σ' H' F' ρ' e' s' q => ?_, fun σ' H' F' ρ' e' s' q => ?_, fun σ' H' F' ρ' e' s' q => ?_, g.rt⟩⟩
    · exact ⟨F', ρ', s2.trans (s3.trans s'), e', q⟩
    · exact g.nx σ' H' F' ρ' e' (s1.trans (s2.trans (s3.trans s'))) q
    · exact ⟨F', ρ', s2.trans (s3.trans s'), e', q⟩
  · have ei : i = ds.length := by omega
    subst ei
    rw [List.drop_length] at hwl
    exact .inl ⟨it.stop H2 F2 s2 ev2.r.sub, g.nx σ2 H2 F2 ρ2 ev2 (s1.trans s2) hwl⟩
theorem ds_while (hc : DT S c t) (hb : DSs S body wb) : DS S (.While c body [] pos) (wWhile t wb) := fun X f => by
  refine (ps_while (by rw [f.xe]; exact PassesOwn.never) (hc X f) (hb X f)).imp fun D σ H ⟨G, H0, F0, F, ρ, E, ev, ⟨n, hw⟩, g⟩ => ?_
  refine ⟨fun m σ H2 => ∃ F2 ρ2, Same F F2 ∧ Ev S.K G H0 F0 F2 H2 σ ρ2 ∧ wWhileN t wb G E m ρ2, ⟨n, F, ρ, Same.refl _, ev, hw⟩, ?_⟩
  rintro m σ2 H2 ⟨F2, ρ2, s2, ev2, hwl⟩
  cases m with
  | zero => exact hwl.elim
  | succ m =>
    refine ⟨G, F2, ρ2, _, ev2.r, hwl, fun k H3 F3 s3 e3 f3 q3 => ?_⟩
    have ev3 := ev2.go s3 e3 f3
    cases k with
    | false =>
      rw [if_neg Bool.false_ne_true] at q3
      exact iteF (g.nx σ2 H3 F2 ρ2 ev3 s2 q3)
    | true =>
      rw [if_pos rfl] at q3
      refine iteT ⟨fun σ H => ∃ F' ρ', Same F F' ∧ Ev S.K G H0 F0 F' H σ ρ' ∧ wWhileN t wb G E m ρ', fun σ' H' h => ⟨m, Nat.lt_succ_self m, h⟩, G, H0, F0, F2, ρ2, _, ev3, q3, ⟨fun σ' H' F' ρ' e' s' q => ?_, fun σ' H' F' ρ' e' s' q => ?_, fun σ' H' F' ρ' e' s' q => ?_, g.rt⟩⟩
      · exact ⟨F', ρ', s2.trans s', e', q⟩
      · exact g.nx σ' H' F' ρ' e' (s2.trans s') q
      · exact ⟨F', ρ', s2.trans s', e', q⟩
end
end DL
set_option maxHeartbeats 4000000
namespace DL
open PySem PySem.Spec PyProof.Rows L2

/-! ### sorted(xs): a list's or a tuple's items, as data -/
section
open PySem.W PySem.Calls
variable {prog : Program} {w : World} {A : Around} {E : Value → Shared → Prop} {s : Shared}
theorem sorted_seq {β : Type} {bs : List β} {enc : β → PyData} {R : Value → β → Prop} {T : String} {it : Addr} {ob : Obj} {items : Array Value} {n : Nat} {Q : Value → Shared → Prop} (hT : T = "list" ∨ T = "tuple")
    (ho : s.heap.get? it = some ob) (hc : ob.cls = .type T) (hd : ob.data = .seq items n) (e : EachIs R items.toList bs) (er : EachIs (fun v b => ∃ as, Reads s.heap v (enc b) as) items.toList bs)
    (hal : AllAlike (bs.map enc)) (hk : Sortable (bs.map enc)) (hL : bs.length ≤ sizeLine) (hu : ∀ b, b ∈ bs → A.units + 2 + (enc b).depth < cLine)
    (h : ∀ (h1 h' : Heap) (p : Addr) (out : List Value) (c : Nat), (∀ b o, s.heap.get? b = some o → h1.get? b = some o) → (∀ b o, h1.get? b = some o → h'.get? b = some o) → h1.objs.size ≤ p → h'.get? p = some (seqObj "list" out.toArray c) → out.length = bs.length → EachIs R out (bs.mergeSort (dataLe false enc)) → Q (.ref p) { s with heap := h' }) :
    wpAny (model prog w) A (call (.builtin "sorted") [.ref it]) Q E s := by
  have hsz : items.size ≤ sizeLine := by rw [← Array.length_toList, e.length]; exact hL
  refine call_function_entry kind_sorted plain_sorted entry_sorted (args_sorted1 _) ?_
  unfold Builtin.«sorted»
  refine wpAny_bind (m := checkCount "sorted" 1 1 _) (wpAny_pure ?_)
  refine wpAny_bind (wpAny_collect_seq it hT ho hc hd (fun h1 k1 => ?_) hsz)
  refine wpAny_bind (wpAny_newList ?_ (by rw [e.length]; exact hL))
  have hp : (h1.push (seqObj "list" items.toList.toArray 0)).get? h1.objs.size = some (seqObj "list" items.toList.toArray 0) := Heap.get?_push_size _ rfl
  have kp : ∀ b o, s.heap.get? b = some o → (h1.push (seqObj "list" items.toList.toArray 0)).get? b = some o := fun b o q => Heap.get?_push_of_some _ (k1 b o q)
  have out1 : ∀ v d as, Reads s.heap v d as → h1.objs.size ∉ as := fun v d as r hm => by
    obtain ⟨o, q⟩ := PyProof.On.reads_mem_get r _ hm
    exact Nat.lt_irrefl _ (Heap.lt_size (k1 _ _ q))
  show wpAny _ _ _ _ _ { s with heap := h1.push (seqObj "list" items.toList.toArray 0) }
  refine wpAny_bind (wpAny_holding (list_sort_data (s := { s with heap := h1.push (seqObj "list" items.toList.toArray 0) }) (R := R) (bs := bs) (enc := enc) hp e (er.mono fun v b ⟨as, r⟩ => ⟨as, Reads.keeps kp r, out1 _ _ _ r⟩) hal hk hL (fun b hb => hu b hb) fun out hl hs => ?_))
  obtain ⟨c, hc'⟩ := sortedHeap_at (vs := items.toList) (out := out.toArray) hp
  refine wpAny_pure ⟨_, rfl, h h1 _ _ out c k1 (fun b o q => ?_) (Nat.le_refl _) hc' hl hs⟩
  exact sortedHeap_old (Nat.ne_of_lt (Heap.lt_size q)) (Heap.lt_size (Heap.get?_push_of_some _ q)) ▸ Heap.get?_push_of_some _ q
end

/-! ### built-in functions, over data -/
def rD (K : PySem.W.Frag) (o : List D → (SV → Prop) → Prop) : List V → Hp → VK → Prop := fun vs H Q => ∃ G F σ ρ ds Qd, EvR K G F H σ ρ ∧ RpL K F vs ds ∧ o ds Qd ∧
  ∀ v H' F' sv, Same F F' → EvR K G F' H' σ ρ → Fr G H H' → RpO K G F' H H' v sv → Qd sv → Q v H'
def CD (S : Sta) (f : Value) (o : List D → (SV → Prop) → Prop) : Prop := ∀ X, Fam S X → CallR X f (rD S.K o)
theorem _root_.L2.CallR.imp {X : Cx} {f : Value} {r r' : List V → Hp → VK → Prop} (h : CallR X f r) (i : ∀ vs H Q, r' vs H Q → r vs H Q) : CallR X f r' := fun pins s σ H xs us Q I rv q => h pins s σ H xs us Q I rv (i xs H Q q)
section
variable {K : PySem.W.Frag} {G : Gc} {F H : Hp} {σ : St} {ρ : En}
theorem EvR.newL (e : EvR K G F H σ ρ) {p : Addr} {vs : List V} {ds : List D} (h : H p = none) (r : RpL K F vs ds) {Q : V → Hp → Prop} {Qd : SV → Prop} (q : Qd (.ow ds)) (hq : ∀ v H' F' sv, Same F F' → EvR K G F' H' σ ρ → Fr G H H' → RpO K G F' H H' v sv → Qd sv → Q v H') : Q (.ref p) (upd H p (.lst vs)) :=
  hq _ _ F (.ow ds) (Same.refl _) (e.liveO h) (Fr.upd h) ⟨p, vs, rfl, upd_same, r, e.nr h, h, e.fnone h⟩ q
theorem EvR.newT (e : EvR K G F H σ ρ) {p : Addr} {vs : List V} {ds : List D} (h : H p = none) (r : RpL K F vs ds) {Q : V → Hp → Prop} {Qd : SV → Prop} (q : Qd (.fz (.tup ds))) (hq : ∀ v H' F' sv, Same F F' → EvR K G F' H' σ ρ → Fr G H H' → RpO K G F' H H' v sv → Qd sv → Q v H') : Q (.ref p) (upd H p (.tup vs)) :=
  hq _ _ _ (.fz (.tup ds)) (same_upd (e.fnone h)) (e.live h) (Fr.upd h) (Rp.tup (SqT.of upd_same) (r.mono (same_upd (e.fnone h)))) q
theorem EvR.giv (e : EvR K G F H σ ρ) {v : V} {d : D} (r : Rp K F v d) {Q : V → Hp → Prop} {Qd : SV → Prop} (q : Qd (.fz d)) (hq : ∀ v H' F' sv, Same F F' → EvR K G F' H' σ ρ → Fr G H H' → RpO K G F' H H' v sv → Qd sv → Q v H') : Q v H :=
  hq _ _ F (.fz d) (Same.refl _) e Fr.refl r q
theorem RpL.one {v : List V} {d : D} (r : RpL K F v [d]) : ∃ u, v = [u] ∧ Rp K F u d := by
  cases r with
  | cons h t => cases t; exact ⟨_, rfl, h⟩
theorem RpL.two {v : List V} {d e : D} (r : RpL K F v [d, e]) : ∃ u w, v = [u, w] ∧ Rp K F u d ∧ Rp K F w e := by
  cases r with
  | cons h t =>
    obtain ⟨w, rfl, h2⟩ := t.one
    exact ⟨_, _, rfl, h, h2⟩
theorem Rp.intI {v : V} {i : Int} (r : Rp K F v (.int i)) : v = .int i := by cases r; rfl
theorem Rp.blI {v : V} {i : Bool} (r : Rp K F v (.bl i)) : v = .bl i := by cases r; rfl
theorem Rp.strI {v : V} {i : Str} (r : Rp K F v (.str i)) : v = .str i := by cases r; rfl
theorem rp_sq {v : V} {d : D} {ds : List D} (s : Same F H) (r : Rp K F v d) (e : itemsOf d = some ds) : ∃ a vs, v = .ref a ∧ (SqL K H a vs ∨ SqT K H a vs) ∧ RpL K F vs ds := by
  obtain ⟨a, vs, rfl, h, r⟩ := rp_items r e
  rcases h with ⟨_, h⟩ | ⟨_, h⟩
  · exact ⟨a, vs, rfl, .inl (SqL.of (s _ _ h)), r⟩
  · exact ⟨a, vs, rfl, .inr (Same.sqt s h), r⟩
end
def oLen : List D → (SV → Prop) → Prop := fun ds Q => ∃ x, ds = [x] ∧ ((∃ xs, itemsOf x = some xs ∧ Q (.fz (.int xs.length))) ∨ ∃ z, x = .str z ∧ z.length ≤ sizeLine ∧ Q (.fz (.int z.length)))
def oList : List D → (SV → Prop) → Prop := fun ds Q => ∃ x xs, ds = [x] ∧ itemsOf x = some xs ∧ Q (.ow xs)
def oTuple : List D → (SV → Prop) → Prop := fun ds Q => ∃ x xs, ds = [x] ∧ itemsOf x = some xs ∧ Q (.fz (.tup xs))
def oInt : List D → (SV → Prop) → Prop := fun ds Q => ∃ i, ds = [.int i] ∧ Q (.fz (.int i))
def oMax : List D → (SV → Prop) → Prop := fun ds Q => ∃ i j : Int, ds = [.int i, .int j] ∧ Q (.fz (.int (if j > i then j else i)))
def oMin : List D → (SV → Prop) → Prop := fun ds Q => ∃ i j : Int, ds = [.int i, .int j] ∧ Q (.fz (.int (if j < i then j else i)))
def oAny : List D → (SV → Prop) → Prop := fun ds Q => ∃ bs : List Bool, ds = [.lst (bs.map .bl)] ∧ Q (.fz (.bl (bs.any id)))
def oAll : List D → (SV → Prop) → Prop := fun ds Q => ∃ bs : List Bool, ds = [.lst (bs.map .bl)] ∧ Q (.fz (.bl (bs.all id)))
def oSum : List D → (SV → Prop) → Prop := fun ds Q => ∃ ns : List Int, ds = [.lst (ns.map .int)] ∧ Q (.fz (.int ns.sum))
def oStrI : List D → (SV → Prop) → Prop := fun ds Q => ∃ i : Int, ds = [.int i] ∧ i.natAbs.log2 < 1920 ∧ Q (.fz (.str (toString i)))
def keyD (d : D) : PyData := (toPy d).getD .none
def oSorted : List D → (SV → Prop) → Prop := fun ds Q => ∃ x xs, ds = [x] ∧ itemsOf x = some xs ∧ (∀ d ∈ xs, (toPy d).isSome = true) ∧ PySem.W.AllAlike (xs.map keyD) ∧ PySem.W.Sortable (xs.map keyD) ∧ (∀ d ∈ xs, (keyD d).depth ≤ 100) ∧
  Q (.ow (xs.mergeSort (PySem.W.dataLe false keyD)))
def oRepr : List D → (SV → Prop) → Prop := fun ds Q => ∃ x p, ds = [x] ∧ toPy x = some p ∧ p.showable = true ∧ isDisplay p = false ∧ p.shown.length ≤ sizeLine ∧ Q (.fz (.str p.shown))
section
variable {S : Sta}
theorem cd_len : CD S (.builtin "len") oLen := fun X f => (call_len_seq.or call_len_str).imp fun vs H Q ⟨G, F, σ, ρ, ds, Qd, ev, rl, ⟨x, e, h⟩, hq⟩ => by
  subst e
  obtain ⟨u, rfl, r⟩ := rl.one
  rcases h with ⟨xs, e2, q⟩ | ⟨z, rfl, hz, q⟩
  · obtain ⟨a, ws, rfl, h, rr⟩ := rp_sq ev.sub r e2
    rw [f.K]
    exact .inl ⟨a, ws, rfl, h, by rw [rr.len]; exact ev.giv (.int _) q hq⟩
  · rw [r.strI]
    exact .inr ⟨z, rfl, hz, ev.giv (.int _) q hq⟩
theorem cd_list : CD S (.type "list") oList := fun X f => call_list_of.imp fun vs H Q ⟨G, F, σ, ρ, ds, Qd, ev, rl, ⟨x, xs, e, e2, q⟩, hq⟩ => by
  subst e
  obtain ⟨u, rfl, r⟩ := rl.one
  obtain ⟨a, ws, rfl, h, rr⟩ := rp_sq ev.sub r e2
  rw [f.K]
  exact ⟨a, ws, rfl, h, fun l hl => ev.newL hl rr q hq⟩
theorem cd_tuple : CD S (.type "tuple") oTuple := fun X f => call_tuple_of.imp fun vs H Q ⟨G, F, σ, ρ, ds, Qd, ev, rl, ⟨x, xs, e, e2, q⟩, hq⟩ => by
  subst e
  obtain ⟨u, rfl, r⟩ := rl.one
  rw [f.K]
  obtain ⟨a, ws, rfl, h, rr⟩ := rp_items r e2
  rcases h with ⟨_, h⟩ | ⟨rfl, h⟩
  · exact ⟨a, ws, rfl, .inl ⟨SqL.of (ev.sub _ _ h), fun l hl => ev.newT hl rr q hq⟩⟩
  · exact ⟨a, ws, rfl, .inr ⟨Same.sqt ev.sub h, ev.giv r q hq⟩⟩
theorem cd_int : CD S (.type "int") oInt := fun X f => call_int1.imp fun vs H Q ⟨G, F, σ, ρ, ds, Qd, ev, rl, ⟨i, e, q⟩, hq⟩ => by
  subst e
  obtain ⟨u, rfl, r⟩ := rl.one
  rw [r.intI]
  exact .inl ⟨i, rfl, ev.giv (.int i) q hq⟩
theorem cd_max : CD S (.builtin "max") oMax := fun X f => (call_max2 f.calm).imp fun vs H Q ⟨G, F, σ, ρ, ds, Qd, ev, rl, ⟨i, j, e, q⟩, hq⟩ => by
  subst e
  obtain ⟨u, w, rfl, r1, r2⟩ := rl.two
  rw [r1.intI, r2.intI]
  exact ⟨i, j, rfl, ev.giv (.int _) q hq⟩
theorem cd_min : CD S (.builtin "min") oMin := fun X f => (call_min2 f.calm).imp fun vs H Q ⟨G, F, σ, ρ, ds, Qd, ev, rl, ⟨i, j, e, q⟩, hq⟩ => by
  subst e
  obtain ⟨u, w, rfl, r1, r2⟩ := rl.two
  rw [r1.intI, r2.intI]
  exact ⟨i, j, rfl, ev.giv (.int _) q hq⟩
theorem rp_lstI {K : PySem.W.Frag} {F H : Hp} {v : V} {ds : List D} (s : Same F H) (r : Rp K F v (.lst ds)) : ∃ a vs, v = .ref a ∧ SqL K H a vs ∧ RpL K F vs ds := by
  cases r with
  | lst h r => exact ⟨_, _, rfl, SqL.of (s _ _ h), r⟩
theorem cd_any : CD S (.builtin "any") oAny := fun X f => (cr_any f.calm).imp fun vs H Q ⟨G, F, σ, ρ, ds, Qd, ev, rl, ⟨bs, e, q⟩, hq⟩ => by
  subst e
  obtain ⟨u, rfl, r⟩ := rl.one
  obtain ⟨a, ws, rfl, h, rr⟩ := rp_lstI ev.sub r
  rw [f.K]
  exact ⟨a, bs, rfl, rr.bls ▸ h, ev.giv (.bl _) q hq⟩
theorem cd_all : CD S (.builtin "all") oAll := fun X f => (cr_all f.calm).imp fun vs H Q ⟨G, F, σ, ρ, ds, Qd, ev, rl, ⟨bs, e, q⟩, hq⟩ => by
  subst e
  obtain ⟨u, rfl, r⟩ := rl.one
  obtain ⟨a, ws, rfl, h, rr⟩ := rp_lstI ev.sub r
  rw [f.K]
  exact ⟨a, bs, rfl, rr.bls ▸ h, ev.giv (.bl _) q hq⟩
theorem cd_sum : CD S (.builtin "sum") oSum := fun X f => (cr_sum f.calm).imp fun vs H Q ⟨G, F, σ, ρ, ds, Qd, ev, rl, ⟨bs, e, q⟩, hq⟩ => by
  subst e
  obtain ⟨u, rfl, r⟩ := rl.one
  obtain ⟨a, ws, rfl, h, rr⟩ := rp_lstI ev.sub r
  rw [f.K]
  exact ⟨a, bs, rfl, rr.ints ▸ h, ev.giv (.int _) q hq⟩
theorem cd_str : CD S (.type "str") oStrI := fun X f => call_str_int.imp fun vs H Q ⟨G, F, σ, ρ, ds, Qd, ev, rl, ⟨i, e, hi, q⟩, hq⟩ => by
  subst e
  obtain ⟨u, rfl, r⟩ := rl.one
  rw [r.intI]
  exact ⟨i, rfl, hi, ev.giv (.str _) q hq⟩
open PySem.W in
/-- two lists side by side -/
theorem each_zip {X : Cx} {pins : List (Addr × Obj)} {σ : St} {H F : Hp} {s : Shared} (I : Inv X pins σ H s) (sub : Same F H) : ∀ {vs : List V} {us : List Value} {ds : List D}, Vals vs us → RpL X.K F vs ds → (∀ d ∈ ds, (toPy d).isSome = true) →
    EachIs (fun u (b : V × D) => RelV b.1 u) us (vs.zip ds) ∧ EachIs (fun u (b : V × D) => ∃ as, Reads s.heap u (keyD b.2) as) us (vs.zip ds)
  | _, _, _, .nil, .nil, _ => ⟨.nil, .nil⟩
  | _, _, _, .cons r t, .cons p q, h => by
    obtain ⟨h1, h2⟩ := each_zip I sub t q fun d hd => h d (List.mem_cons_of_mem _ hd)
    have hs := h _ List.mem_cons_self
    refine ⟨.cons r h1, .cons ?_ h2⟩
    obtain ⟨y, hy⟩ := Option.isSome_iff_exists.mp hs
    obtain ⟨as, ra⟩ := Dp.reads I y _ _ (p.dp sub hy) r
    exact ⟨as, by show Reads s.heap _ ((toPy _).getD .none) as; rw [hy]; exact ra⟩
theorem vals_each : ∀ {us : List Value} {bs : List (V × D)}, PySem.W.EachIs (fun u b => RelV b.1 u) us bs → Vals (bs.map (·.1)) us
  | _, _, .nil => .nil
  | _, _, .cons r t => .cons r (vals_each t)
theorem rpl_zip {K : PySem.W.Frag} {F : Hp} : ∀ {vs : List V} {ds : List D}, RpL K F vs ds → ∀ b ∈ vs.zip ds, Rp K F b.1 b.2
  | _, _, .nil, _, h => by simp at h
  | _, _, .cons r t, b, h => by
    rw [List.zip_cons_cons] at h
    rcases List.mem_cons.mp h with e | h
    · rw [e]; exact r
    · exact rpl_zip t b h
theorem rpl_of {K : PySem.W.Frag} {F : Hp} : ∀ (bs : List (V × D)), (∀ b ∈ bs, Rp K F b.1 b.2) → RpL K F (bs.map (·.1)) (bs.map (·.2))
  | [], _ => .nil
  | b :: bs, h => .cons (h _ List.mem_cons_self) (rpl_of bs fun c hc => h c (List.mem_cons_of_mem _ hc))
open PySem.W in
theorem cd_sorted : CD S (.builtin "sorted") oSorted := fun X f => by
  intro pins s σ0 H vs us Q I rv ⟨G, F, σ, ρ, ds, Qd, ev, rl, ⟨x, xs, e, e2, hs, hal, hk, hdp, q⟩, hq⟩
  subst e
  obtain ⟨u, rfl, r⟩ := rl.one
  obtain ⟨a, ws, rfl, h, rr⟩ := rp_sq ev.sub r e2
  rw [← f.K] at h rr
  rw [Vals.ref1 rv]
  obtain ⟨T, hT, its, rv2, ob, ho, hc, n, hd, hz⟩ : ∃ T, (T = "list" ∨ T = "tuple") ∧ ∃ its : List Value, Vals ws its ∧ ∃ ob, s.heap.get? a = some ob ∧ ob.cls = .type T ∧ ∃ n, ob.data = .seq its.toArray n ∧ ws.length ≤ sizeLine := by
    rcases h with h | h
    · obtain ⟨its, rv2, pl, hz⟩ := I.list h
      obtain ⟨o, ho, hc, n, hd⟩ := pl.isList
      exact ⟨_, .inl rfl, its, rv2, o, ho, hc, n, hd, hz⟩
    · obtain ⟨its, rv2, pl, hz⟩ := I.tuple h
      obtain ⟨o, ho, hc, n, hd⟩ := pl
      exact ⟨_, .inr rfl, its, rv2, o, ho, hc, n, hd, hz⟩
  obtain ⟨z1, z2⟩ := each_zip I ev.sub rv2 rr hs
  have em : (ws.zip xs).map (fun b => keyD b.2) = xs.map keyD := by
    rw [show (fun b : V × D => keyD b.2) = keyD ∘ (·.2) from rfl, ← List.map_map, List.map_snd_zip (Nat.le_of_eq rr.len.symm)]
  have hlen : (ws.zip xs).length = ws.length := by rw [List.length_zip, rr.len, Nat.min_self]
  refine sorted_seq (bs := ws.zip xs) (enc := fun b => keyD b.2) (R := fun u b => RelV b.1 u) hT ho hc hd z1 z2 (by rw [em]; exact hal) (by rw [em]; exact hk) (by rw [hlen]; exact hz) (fun b hb => ?_) fun h1 h' p out c k1 k2 hp hg hol hos => ?_
  · have := hdp b.2 (List.of_mem_zip hb).2
    have := f.room.un
    show X.A.units + 2 + (keyD b.2).depth < cLine
    omega
  · have hval := vals_each hos
    have I1 : Inv X pins σ0 H { s with heap := h1 } := I.kept (t' := s.toks) k1
    have hlz : (((ws.zip xs).mergeSort (dataLe false fun b => keyD b.2)).map (·.1)).length ≤ sizeLine := by
      rw [List.length_map, List.length_mergeSort, hlen]; exact hz
    have hn : H p = none := I1.hok.fresh hp
    have I2 : Inv X pins σ0 (upd H p (.lst (((ws.zip xs).mergeSort (dataLe false fun b => keyD b.2)).map (·.1)))) { s with heap := h' } :=
      I1.laid (t' := s.toks) k2 hp (show ObjOk X.prog X.w _ _ _ (.lst _) from ⟨hlz, out, c, hval, hg⟩)
    refine ⟨.ref p, _, I2, rfl, ?_⟩
    refine ev.newL (ds := xs.mergeSort (dataLe false keyD)) hn ?_ q hq
    have e3 : ((ws.zip xs).mergeSort (dataLe false fun b => keyD b.2)).map (·.2) = xs.mergeSort (dataLe false keyD) := by
      rw [List.map_mergeSort (r := dataLe false fun b : V × D => keyD b.2) (s := dataLe false keyD) (f := fun b => b.2) (fun _ _ _ _ => rfl), List.map_snd_zip (Nat.le_of_eq rr.len.symm)]
    rw [← e3, ← f.K]
    refine rpl_of _ fun b hb => rpl_zip rr b ?_
    exact (List.mergeSort_perm _ _).mem_iff.mp hb
end
end DL
set_option maxHeartbeats 4000000
namespace DL
open PySem PySem.Spec PyProof.Rows L2

/-! ### calls of built-ins -/
def woCB (o : List D → (SV → Prop) → Prop) (r : WA) : WO := fun G ρ Q => r G ρ fun ds => o ds Q
theorem cb_imp {K : PySem.W.Frag} {o : List D → (SV → Prop) → Prop} {r : WA} (σ : St) (H : Hp) (Q : VK) : tO K (woCB o r) σ H Q → tCB (rD K o) (tA K r) σ H Q := fun ⟨G, F, ρ, Qd, ev, hw, hq⟩ =>
  ⟨G, F, ρ, _, ev, hw, fun vs H1 F1 ds s1 e1 f1 r1 q1 => ⟨G, F1, σ, ρ, ds, Qd, e1, r1, q1, fun v H' F' sv s2 e2 f2 r2 q2 => hq v H' F' sv (s1.trans s2) e2 (f1.trans f2) (r2.back f1) q2⟩⟩
section
variable {S : Sta} {x : Str} {e : Expr} {es : List Expr} {p pos : Pos} {id T : String} {o : List D → (SV → Prop) → Prop} {r : WA}
theorem do_callB (h : CD S (.builtin id) o) (hm : S.mg x = none) (hv : bootBuiltins x = some (.builtin id)) (ha : DA S (e :: es) r) (hg : (S.names.lookup x == some .globalImplicit) = true := by kernel_rfl) (hn : x ≠ "__name__" := by decide) (hdb : (x == ("__debug__" : Str)) = false := by decide)
    (he : ∀ env, starEach (e :: es) env = (false, eval e env) :: starEach es env := by intro _; rfl) (hpl : ∀ env, (backTo pos (starEach es env)).any (·.1) = false := by intro _; rfl) : DO S (.Call (.Name x p) (e :: es) [] pos) (woCB o r) := fun X f =>
  (pe_callB (h X f) (glOf f hg) (by rw [f.mg]; exact hm) hv (ha X f) hn hdb (he _) (hpl _)).imp fun σ H Q h => cb_imp σ H Q h
theorem do_callTy (h : CD S (.type T) o) (hm : S.mg x = none) (hv : bootBuiltins x = some (.type T)) (ha : DA S (e :: es) r) (hg : (S.names.lookup x == some .globalImplicit) = true := by kernel_rfl) (hn : x ≠ "__name__" := by decide) (hdb : (x == ("__debug__" : Str)) = false := by decide)
    (he : ∀ env, starEach (e :: es) env = (false, eval e env) :: starEach es env := by intro _; rfl) (hpl : ∀ env, (backTo pos (starEach es env)).any (·.1) = false := by intro _; rfl) : DO S (.Call (.Name x p) (e :: es) [] pos) (woCB o r) := fun X f =>
  (pe_callTy (h X f) (glOf f hg) (by rw [f.mg]; exact hm) hv (ha X f) hn hdb (he _) (hpl _)).imp fun σ H Q h => cb_imp σ H Q h
end
/-! ### isinstance -/
def tyD : D → String
  | .non => "NoneType"
  | .bl _ => "bool"
  | .int _ => "int"
  | .str _ => "str"
  | .tup _ => "tuple"
  | .lst _ => "list"
  | .dic _ => "dict"
  | .ob _ => ""
def isD (T : String) (d : D) : Bool := tyD d == T || (tyD d == "bool" && T == "int")
def wIsi (T : String) (w : W) : W := fun G ρ Q => w G ρ fun d => (∀ a, d ≠ .ob a) ∧ Q (.bl (isD T d))
theorem tyx_of {K : PySem.W.Frag} {F H : Hp} {v : V} {d : D} (s : Same F H) (r : Rp K F v d) (n : ∀ a, d ≠ .ob a) : TyX K H v (.type (tyD d)) := by
  cases r with
  | non => exact .base .non
  | bl b => exact .base (.bl b)
  | int i => exact .base (.int i)
  | str x => exact .base (.str x)
  | tup h r =>
    rcases h with (h | ⟨o, h⟩) | ⟨o, us, n, h1, h2, h3, h4⟩
    · exact .base (.tup (s _ _ h))
    · exact .fTuple (s _ _ h)
    · exact .kTuple h1 h2
  | lst h r => exact .base (.lst (s _ _ h))
  | dic h r => exact .base (.dK (s _ _ h))
  | ob a => exact absurd rfl (n a)
theorem kit_one {K : PySem.W.Frag} {T : String} (hT : T ∈ ["int", "bool", "str", "tuple", "list", "dict"]) : ∀ d : D, (∀ a, d ≠ .ob a) → PySem.W.kitOne K (.type (tyD d)) (.type T) = some (isD T d) := by
  have hk : ∀ t ∈ ["NoneType", "bool", "int", "str", "tuple", "list", "dict"], ∀ T ∈ ["int", "bool", "str", "tuple", "list", "dict"], kitB t T = some (t == T || (t == "bool" && T == "int")) := by decide +kernel
  intro d n
  have hd : tyD d ∈ ["NoneType", "bool", "int", "str", "tuple", "list", "dict"] := by
    cases d with
    | ob a => exact absurd rfl (n a)
    | _ => simp [tyD]
  exact kit_ty (hk _ hd _ hT)
section
variable {S : Sta} {e : Expr} {p p2 pos : Pos} {T : String} {x : Str} {w : W}
theorem de_isi (hm : S.mg "isinstance" = none) (hmx : S.mg x = none) (hx : bootBuiltins x = some (.type T)) (hT : T ∈ ["int", "bool", "str", "tuple", "list", "dict"]) (h : DE S e w) (hg : (S.names.lookup ("isinstance" : Str) == some .globalImplicit) = true := by kernel_rfl) (hgx : (S.names.lookup x == some .globalImplicit) = true := by kernel_rfl)
    (hn : x ≠ "__name__" := by decide) (hd : (x == ("__debug__" : Str)) = false := by decide)
    (hs : ∀ env, starEach [e, .Name x p2] env = (false, eval e env) :: starEach [.Name x p2] env := by intro _; rfl) (hpl : ∀ env, (backTo pos (starEach [.Name x p2] env)).any (·.1) = false := by intro _; rfl) : DE S (.Call (.Name "isinstance" p) [e, .Name x p2] [] pos) (wIsi T w) := fun X f => by
  have ga : PE X (.Name x p2) (tC (.ty T)) := pe_bltn (glOf f hgx) (by rw [f.mg]; exact hmx) hx rfl hn hd
  refine (pe_callB call_isi (glOf f hg) (by rw [f.mg]; exact hm) (by decide +kernel) (pa_cons (h X f) (pa_cons ga pa_nil (by rfl)) (hs _)) (by decide) (by decide) (hs _) (hpl _)).imp fun σ H Q ⟨G, F, ρ, Qd, ev, hw, hq⟩ => ?_
  refine ⟨G, F, ρ, _, ev, hw, fun v H1 F1 d s1 e1 f1 r1 ⟨n, q1⟩ => ?_⟩
  exact ⟨v, .ty T, .type (tyD d), .type T, isD T d, rfl, .ty T, tyx_of e1.sub (by rw [f.K]; exact r1) n, kit_one hT d n, hq _ H1 F1 _ s1 e1 f1 (.bl _) q1⟩
end

/-! ### operators over data -/
def r2D (K : PySem.W.Frag) (o : D → D → (SV → Prop) → Prop) : R2 := fun x y H Q => ∃ G F σ ρ d e Qd, EvR K G F H σ ρ ∧ Rp K F x d ∧ Rp K F y e ∧ o d e Qd ∧
  ∀ v H' F' sv, Same F F' → EvR K G F' H' σ ρ → Fr G H H' → RpO K G F' H H' v sv → Qd sv → Q v H'
def OD (S : Sta) (f : Value → Value → Sem Value) (o : D → D → (SV → Prop) → Prop) : Prop := ∀ X, Fam S X → OpR X f (r2D S.K o)
theorem opo {K : PySem.W.Frag} {o : D → D → (SV → Prop) → Prop} : OpO K (r2D K o) o := fun G F σ H ρ v1 d1 v2 d2 Qd Q ev r1 r2 h hq => ⟨G, F, σ, ρ, d1, d2, Qd, ev, r1, r2, h, hq⟩
theorem _root_.L2.OpR.imp {X : Cx} {f : Value → Value → Sem Value} {r r' : R2} (h : OpR X f r) (i : ∀ x y H Q, r' x y H Q → r x y H Q) : OpR X f r' := fun pins s σ H x y v u Q I rx ry q => h pins s σ H x y v u Q I rx ry (i x y H Q q)
def oAdd : D → D → (SV → Prop) → Prop := fun x y Q => (∃ i j, x = .int i ∧ y = .int j ∧ Q (.fz (.int (i + j)))) ∨ (∃ a b, x = .str a ∧ y = .str b ∧ a.length + b.length ≤ sizeLine ∧ Q (.fz (.str (a ++ b)))) ∨
  (∃ a b, x = .lst a ∧ y = .lst b ∧ a.length + b.length ≤ sizeLine ∧ Q (.ow (a ++ b))) ∨ (∃ a b, x = .tup a ∧ y = .tup b ∧ a.length + b.length ≤ sizeLine ∧ Q (.fz (.tup (a ++ b))))
def oMul : D → D → (SV → Prop) → Prop := fun x y Q => (∃ i j, x = .int i ∧ y = .int j ∧ CMul i j ∧ Q (.fz (.int (i * j)))) ∨
  (∃ a k, x = .lst a ∧ y = .int k ∧ (-(2 ^ 63) ≤ k ∧ k < 2 ^ 63 ∧ a.length * k.toNat ≤ sizeLine) ∧ Q (.ow (List.replicate k.toNat a).flatten)) ∨
  (∃ a k, x = .tup a ∧ y = .int k ∧ (a ≠ [] ∧ 2 ≤ k ∧ k ≤ 1000 ∧ a.length ≤ 1000) ∧ Q (.fz (.tup (List.replicate k.toNat a).flatten)))
theorem rp_lstH {K : PySem.W.Frag} {F H : Hp} {v : V} {ds : List D} (s : Same F H) (r : Rp K F v (.lst ds)) : ∃ a vs, v = .ref a ∧ H a = some (.lst vs) ∧ RpL K F vs ds := by
  cases r with
  | lst h r => exact ⟨_, _, rfl, s _ _ h, r⟩
theorem rp_tupH {K : PySem.W.Frag} {F H : Hp} {v : V} {ds : List D} (s : Same F H) (r : Rp K F v (.tup ds)) : ∃ a vs, v = .ref a ∧ SqT K H a vs ∧ RpL K F vs ds := by
  cases r with
  | tup h r => exact ⟨_, _, rfl, Same.sqt s h, r⟩
section
variable {S : Sta} {a b e : Expr} {pos : Pos} {wa wb w : W} {op : Operator} {o : D → D → (SV → Prop) → Prop}
theorem od_add : OD S (binaryOp .Add) oAdd := fun X f => (op_add.or (op_add_str.or (op_cat.or op_catA))).imp fun x y H Q ⟨G, F, σ, ρ, d, e, Qd, ev, r1, r2, h, hq⟩ => by
  rw [f.K]
  rcases h with ⟨i, j, rfl, rfl, q⟩ | ⟨i, j, rfl, rfl, z, q⟩ | ⟨i, j, rfl, rfl, z, q⟩ | ⟨i, j, rfl, rfl, z, q⟩
  · rw [r1.intI, r2.intI]
    exact .inl ⟨i, j, rfl, rfl, ev.giv (.int _) q hq⟩
  · rw [r1.strI, r2.strI]
    exact .inr (.inl ⟨i, j, rfl, rfl, z, ev.giv (.str _) q hq⟩)
  · obtain ⟨a, vs, rfl, h1, l1⟩ := rp_lstH ev.sub r1
    obtain ⟨b, us, rfl, h2, l2⟩ := rp_lstH ev.sub r2
    exact .inr (.inr (.inl ⟨a, b, vs, us, rfl, rfl, h1, h2, by rw [l1.len, l2.len]; exact z, fun p hp => ev.newL hp (l1.append l2) q hq⟩))
  · obtain ⟨a, vs, rfl, h1, l1⟩ := rp_tupH ev.sub r1
    obtain ⟨b, us, rfl, h2, l2⟩ := rp_tupH ev.sub r2
    refine .inr (.inr (.inr ⟨a, b, vs, us, rfl, rfl, h1, h2, by rw [l1.len, l2.len]; exact z, fun e0 => ?_, fun _ e0 => ?_, fun _ _ p hp => ev.newT hp (l1.append l2) q hq⟩))
    · subst e0
      cases l1
      exact ev.giv r2 q hq
    · subst e0
      cases l2
      rw [List.append_nil] at q
      exact ev.giv r1 q hq
theorem od_mul : OD S (binaryOp .Mult) oMul := fun X f => (op_mul.or (op_rep.or op_repT)).imp fun x y H Q ⟨G, F, σ, ρ, d, e, Qd, ev, r1, r2, h, hq⟩ => by
  rw [f.K]
  rcases h with ⟨i, j, rfl, rfl, z, q⟩ | ⟨i, j, rfl, rfl, z, q⟩ | ⟨i, j, rfl, rfl, z, q⟩
  · rw [r1.intI, r2.intI]
    exact .inl ⟨i, j, rfl, rfl, z, ev.giv (.int _) q hq⟩
  · obtain ⟨a, vs, rfl, h1, l1⟩ := rp_lstH ev.sub r1
    rw [r2.intI]
    exact .inr (.inl ⟨a, j, vs, rfl, rfl, h1, z.1, z.2.1, by rw [l1.len]; exact z.2.2, fun p hp => ev.newL hp (l1.rep _) q hq⟩)
  · obtain ⟨a, vs, rfl, h1, l1⟩ := rp_tupH ev.sub r1
    rw [r2.intI]
    exact .inr (.inr ⟨a, j, vs, rfl, rfl, h1, fun e0 => z.1 (by subst e0; cases l1; rfl), z.2.1, z.2.2.1, by rw [l1.len]; exact z.2.2.2, fun p hp => ev.newT hp (l1.rep _) q hq⟩)
theorem do_op (h : OD S (binaryOp op) o) (ha : DE S a wa) (hb : DE S b wb) : DO S (.BinOp a op b pos) (wOpO o wa wb) := fun X f => (pe_op (h X f) (ha X f) (hb X f)).imp (tO_op opo)
def oNeg : D → (D → Prop) → Prop := fun x Q => ∃ i, x = .int i ∧ Q (.int (-i))
def wNeg (w : W) : W := fun G ρ Q => w G ρ fun d => ∃ i, d = .int i ∧ Q (.int (-i))
theorem de_neg (ha : DE S a w) : DE S (.UnaryOp .USub a pos) (wNeg w) := fun X f => (pe_un un_neg (ha X f)).imp fun σ H Q ⟨G, F, ρ, Qd, ev, hw, hq⟩ =>
  ⟨G, F, ρ, _, ev, hw, fun v H1 F1 d s1 e1 f1 r1 ⟨i, ei, q1⟩ => by
    subst ei
    rw [r1.intI]
    exact ⟨i, rfl, hq _ H1 F1 _ s1 e1 f1 (.int _) q1⟩⟩

/-! ### subscripts, slices -/
theorem rpl_at {K : PySem.W.Frag} {F : Hp} {vs : List V} {ds : List D} {i : Int} {d : D} (r : RpL K F vs ds) (h : atI ds i = some d) : ∃ v, atI vs i = some v ∧ Rp K F v d := by
  unfold atI at h ⊢
  rw [r.len]
  cases q : ixN ds.length i with
  | none => rw [q] at h; cases h
  | some j => rw [q] at h; exact r.get h
def oIx : D → D → (D → Prop) → Prop := fun x y Q => ∃ i, y = .int i ∧ ((∃ xs d, itemsOf x = some xs ∧ atI xs i = some d ∧ Q d) ∨ ∃ z c, x = .str z ∧ z.length ≤ sizeLine ∧ atI z.cps.toList i = some c ∧ Q (.str ⟨#[c]⟩))
theorem de_ix (ha : DE S a wa) (hb : DE S b wb) (hs : PlainIx b := by intro _ _; rfl) : DE S (.Subscript a b pos) (wOp oIx wa wb) := fun X f => by
  refine (pe_ix (ix_list.or (ix_tup.or ix_str)) (ha X f) (hb X f) hs).imp (tD_op (K := S.K) fun G F σ H ρ v1 d1 v2 d2 Qd Q ev r1 r2 ⟨i, e2, h⟩ hq => ?_)
  subst e2
  rw [r2.intI, f.K]
  rcases h with ⟨xs, d, e1, e3, q⟩ | ⟨z, c, rfl, hz, e3, q⟩
  · obtain ⟨p, ws, rfl, h, rr⟩ := rp_sq ev.sub r1 e1
    obtain ⟨v, e4, r4⟩ := rpl_at rr e3
    rcases h with h | h
    · exact .inl ⟨p, ws, i, v, rfl, rfl, h, e4, hq v H F d (Same.refl _) ev Fr.refl r4 q⟩
    · exact .inr (.inl ⟨p, ws, i, v, rfl, rfl, h, e4, hq v H F d (Same.refl _) ev Fr.refl r4 q⟩)
  · rw [r1.strI]
    exact .inr (.inr ⟨z, i, c, rfl, rfl, hz, e3, hq _ H F _ (Same.refl _) ev Fr.refl (.str _) q⟩)
abbrev WP := Gc → En → (Option Int → Prop) → Prop
def tP (K : PySem.W.Frag) (w : WP) : TO := fun σ H Q => ∃ G F ρ Qd, EvR K G F H σ ρ ∧ w G ρ Qd ∧ ∀ o H' F', Same F F' → EvR K G F' H' σ ρ → Fr G H H' → Qd o → Q o H'
def DP (S : Sta) (e : Option Expr) (w : WP) : Prop := ∀ X, Fam S X → PO X e (tP S.K w)
theorem _root_.L2.PO.imp {X : Cx} {e : Option Expr} {t t' : TO} (h : PO X e t) (i : ∀ σ H Q, t' σ H Q → t σ H Q) : PO X e t' := ⟨fun pins s σ H Q I q => h.run pins s σ H Q I (i σ H Q q)⟩
def wpNone : WP := fun _ _ Q => Q none
def wpSome (w : W) : WP := fun G ρ Q => w G ρ fun d => ∃ i, d = .int i ∧ Q (some i)
theorem dp_none : DP S none wpNone := fun X f => po_none.imp fun σ H Q ⟨G, F, ρ, Qd, ev, hw, hq⟩ => hq none H F (Same.refl _) ev Fr.refl hw
theorem dp_some (h : DE S e w) : DP S (some e) (wpSome w) := fun X f => (po_some (h X f)).imp fun σ H Q ⟨G, F, ρ, Qd, ev, hw, hq⟩ =>
  ⟨G, F, ρ, _, ev, hw, fun v H1 F1 d s1 e1 f1 r1 ⟨i, ei, q1⟩ => by
    subst ei
    rw [r1.intI]
    exact ⟨i, rfl, hq _ H1 F1 s1 e1 f1 q1⟩⟩
def cutD (xs : List D) (lo hi : Option Int) : List D := (xs.drop (HT.sIx xs.length 0 lo)).take (HT.sIx xs.length xs.length hi - HT.sIx xs.length 0 lo)
def oSl : D → Option Int → Option Int → (SV → Prop) → Prop := fun x lo hi Q => (∃ xs, x = .lst xs ∧ Q (.ow (cutD xs lo hi))) ∨ ∃ xs, x = .tup xs ∧ Q (.fz (.tup (cutD xs lo hi)))
def woSl (w : W) (l h : WP) : WO := fun G ρ Q => w G ρ fun d => l G ρ fun lo => h G ρ fun hi => oSl d lo hi Q
theorem rpl_cut {K : PySem.W.Frag} {F : Hp} {vs : List V} {ds : List D} (r : RpL K F vs ds) (lo hi : Option Int) : RpL K F (cutV vs lo hi) (cutD ds lo hi) := by
  unfold cutV cutD
  rw [r.len]
  exact (r.drop _).take _
theorem cutD_all {xs : List D} {lo hi : Option Int} (h : HT.sIx xs.length 0 lo = 0 ∧ HT.sIx xs.length xs.length hi = xs.length) : cutD xs lo hi = xs := by
  unfold cutD
  rw [h.1, h.2]
  simp
theorem do_slice {lo hi : Option Expr} {l u : WP} {p2 : Pos} (ha : DE S a wa) (hl : DP S lo l) (hu : DP S hi u) : DO S (.Subscript a (.Slice lo hi none p2) pos) (woSl wa l u) := fun X f => (pe_slice (sl_list.or sl_tupA) (ha X f) (hl X f) (hu X f)).imp fun σ H Q ⟨G, F, ρ, Qd, ev, hw, hq⟩ =>
  ⟨G, F, ρ, _, ev, hw, fun v H1 F1 d s1 e1 f1 r1 q1 => ⟨G, F1, ρ, _, e1, q1, fun lo H2 F2 s2 e2 f2 q2 => ⟨G, F2, ρ, _, e2, q2, fun hi H3 F3 s3 e3 f3 q3 => by
    rw [f.K]
    have r3 := r1.mono (s2.trans s3)
    have s4 := s1.trans (s2.trans s3)
    have f4 := f1.trans (f2.trans f3)
    have hq4 : ∀ v H' F' sv, Same F3 F' → EvR S.K G F' H' σ ρ → Fr G H3 H' → RpO S.K G F' H3 H' v sv → Qd sv → Q v H' := fun v H' F' sv s5 e5 f5 r5 q5 => hq v H' F' sv (s4.trans s5) e5 (f4.trans f5) (r5.back f4) q5
    rcases q3 with ⟨xs, rfl, q⟩ | ⟨xs, rfl, q⟩
    · obtain ⟨p, vs, rfl, h, rr⟩ := rp_lstI e3.sub r3
      exact .inl ⟨p, vs, rfl, h, fun p hp => e3.newL hp (rpl_cut rr _ _) q hq4⟩
    · obtain ⟨p, vs, rfl, h, rr⟩ := rp_tupH e3.sub r3
      refine .inr ⟨p, vs, rfl, h, fun hw => ?_, fun _ p hp => e3.newT hp (rpl_cut rr _ _) q hq4⟩
      rw [rr.len] at hw
      rw [cutD_all hw] at q
      exact e3.giv r3 q hq4⟩⟩⟩
def woRev (w : W) : WO := fun G ρ Q => w G ρ fun d => ∃ xs, d = .lst xs ∧ Q (.ow xs.reverse)
theorem do_rev {k : Nat} {p1 p2 p3 : Pos} (ha : DE S a wa) : DO S (.Subscript a (.Slice none none (some (.UnaryOp .USub (.Constant (.int 1) k p1) p2)) p3) pos) (woRev wa) := fun X f => (pe_revL (ha X f)).imp fun σ H Q ⟨G, F, ρ, Qd, ev, hw, hq⟩ =>
  ⟨G, F, ρ, _, ev, hw, fun v H1 F1 d s1 e1 f1 r1 ⟨xs, ed, q1⟩ => by
    subst ed
    obtain ⟨p, vs, rfl, h, rr⟩ := rp_lstI e1.sub r1
    rw [f.K]
    exact ⟨p, vs, rfl, h, fun p hp => e1.newL hp rr.reverse q1 fun v H' F' sv s2 e2 f2 r2 q2 => hq v H' F' sv (s1.trans s2) e2 (f1.trans f2) (r2.back f1) q2⟩⟩
/-! ### list(range(..)) -/
end
end DL
set_option maxHeartbeats 4000000
namespace DL
open PySem PySem.Spec PyProof.Rows L2

/-! ### set(xs) of a list of ints (the kit has it of tuples) -/
section
variable {P : Program} {w : World} {A : Around} {E : Value → Shared → Prop} {s : Shared}
abbrev setNew (w : World) : Obj := { cls := .type "set", dict := none, data := .set #[] 0 (.fresh 0 0 (!w.params.followText "set-order")) }
/-- what set.__init__ leaves -/
def SetDone (w : World) (s : Shared) (ns : List Int) (s2 : Shared) : Prop := ∃ h' tk c, s2 = { s with heap := h', toks := tk } ∧ SetR w h' s.heap.objs.size (fun j => decide (j ∈ ns)) c ∧ c ≤ ns.length ∧ ∀ b o, s.heap.get? b = some o → h'.get? b = some o
theorem set_done {l : Addr} {s' : Shared} {ns : List Int} {c : Nat} {it : Obj} {wr : List Addr} {G : Array GenState → Array GenState → Prop} (hG : ∀ a b, G a b → b = a) (hw : ∀ b ∈ wr, b = (s.heap.push (setNew w)).objs.size)
    (m : Moved (s.heap.objs.size :: wr) G { s with heap := (s.heap.push (setNew w)).push it } s') (hc : c ≤ ns.length) (R : SetR w s'.heap s.heap.objs.size (fun j => decide (j ∈ ns)) c) : SetDone w s ns s' := by
  obtain ⟨h', g, d, tk, os⟩ := s'
  obtain rfl : g = s.gens := hG _ _ m.gens
  obtain rfl : d = s.drawn := m.drawn
  obtain rfl : os = s.os := m.os
  refine ⟨h', tk, c, rfl, R, hc, fun b o e => ?_⟩
  have lt := Heap.lt_size e
  refine m.heap b o (fun hb => ?_) (Heap.get?_push_of_some _ (Heap.get?_push_of_some _ e))
  rcases List.mem_cons.mp hb with z | z
  · exact Nat.lt_irrefl _ (z ▸ lt)
  · have z := hw b z
    rw [Heap.size_push] at z
    rw [z] at lt
    exact Nat.not_lt_of_le (Nat.le_succ _) lt
set_option maxHeartbeats 8000000 in
theorem call_set_ints {l : Addr} {items : Array Value} (ns : List Int) {Q : Value → Shared → Prop} (hh : A.handled = none) (hl : s.heap.IsList l items) (hit : IntsAre items.toList ns) (hb : ns.length + 1 < scanBound) (h : ∀ s', SetDone w s ns s' → Q (.ref s.heap.objs.size) s') :
    wpAny (model P w) A (call (.type "set") [.ref l]) Q E s := by
  have hn : items.size = ns.length := by simpa using IntsAre.length hit
  obtain ⟨c0, t0, m0⟩ := F.called_set.mro
  have m1 := F.called_set.made
  have m2 := F.called_set.sub
  have m3 := F.called_set.notType
  have m4 := F.called_set.canCreate
  have m5 := F.typeCall_set_1 (.ref l)
  apply wpAny_call
  apply codeAny_of_tree
  show wpAny _ _ (callAny (.type "set") _) _ _ _
  apply wpAny_pure
  refine ⟨Code.quiet_builtin _ (by decide +kernel), codeAny_builtin F.entry_type_call ?_⟩
  rw [Around.under_plain (weight_type_call_type "set" [.ref l] []) rfl]
  repeat (any_goals (first | assumption | wp_step))
  refine codeAny_mono (code_set_led1 (.ref l) (E := E) (Q₁ := fun v t => v = .ref s.heap.objs.size ∧ t = { s with heap := s.heap.push (setNew w) }) ⟨rfl, rfl⟩) fun r t ht => ?_
  rcases r with e | fl
  · exact ht
  cases fl with
  | ret v =>
    obtain ⟨rfl, rfl⟩ := ht
    have at0 : (s.heap.push (setNew w)).get? s.heap.objs.size = some (setNew w) := Heap.get?_push_size _ rfl
    have ty0 : Shared.TypeIs { s with heap := s.heap.push (setNew w) } (.ref s.heap.objs.size) "set" := ⟨_, at0, rfl⟩
    have m6 := F.called_set.init.lookup
    have m7 := F.called_set.init.bind (.ref s.heap.objs.size)
    repeat (any_goals (first | assumption | wp_step))
    refine codeAny_mono (codeAny_call_builtin (R := wants (fun r t => r = .none ∧ SetDone w s ns t) E) F.called_set.init.plain F.entry_set_init (check_set_init_1 ty0 ?_)) fun r t ht => ?_
    · have hl1 : (s.heap.push (setNew w)).IsList l items := hl.push _
      obtain ⟨⟨oc, od, da, sl⟩, ho, hc, k, hd⟩ := id hl1
      obtain rfl : oc = _ := hc
      obtain rfl : da = _ := hd
      have lt := Heap.lt_size (show s.heap.get? l = some hl.choose from hl.choose_spec.1)
      have n1 := F.sub_list_set
      have n2 := F.sub_list_frozenset
      have n3 : (Value.type "list" == Value.type "dict") = false := by decide
      unfold Builtin.«set.__init__» noKeywords Builtin.Frozenset.updateFrom
      generalize hI : pyIter = J
      wp_walk
      subst hI
      refine wpAny_pyIter_list hl1 (wpAny_bind (wpAny_runValue ?_))
      have sz : (s.heap.push (setNew w)).objs.size = s.heap.objs.size + 1 := Heap.size_push ..
      have ne : l ≠ (s.heap.push (setNew w)).objs.size := fun z => by
        rw [z, sz] at lt
        exact Nat.not_lt_of_le (Nat.le_succ _) lt
      refine set_update_ints ((Walks.list (by simp [hh]) _ l ne items).toS) s.heap.objs.size (fun q => ?_) ns hn hb (fun i v q => ?_) (items.size - 0) 0 _ (by omega) (Nat.zero_le _) ⟨⟨_, Heap.get?_push_size _ rfl, rfl, rfl⟩, hl1.push _⟩ ⟨0, Nat.le_refl 0, setR_new_at (Heap.get?_push_of_some _ at0)⟩ fun s' c m hc R => ?_
      · simp only [List.mem_cons, List.not_mem_nil, or_false] at q
        rcases q with z | z
        · rw [sz] at z
          exact Nat.ne_of_lt (Nat.lt_succ_self _) z
        · rw [← z] at lt
          exact Nat.lt_irrefl _ lt
      · have q' : items.toList[i]? = some v := by simpa using q
        have hi : i < ns.length := by rw [← hn]; exact (Array.getElem?_eq_some_iff.mp q).1
        obtain ⟨t, e⟩ := PyProof.Rows.IntsAre.int_at hit i v q'
        exact ⟨ns[i], t, List.getElem?_eq_getElem hi, by rw [e, List.getD_eq_getElem?_getD, List.getElem?_eq_getElem hi]; rfl⟩
      · show wpAny _ _ _ _ _ _
        apply wpAny_pure
        show wpAny _ _ (ret Value.none) _ _ _
        exact wpAny_pure ⟨rfl, set_done (l := l) (fun _ _ z => z) (fun b z => List.mem_singleton.mp z) m (by rw [← hn]; exact hc) R⟩
    · rcases r with e | fl
      · exact ht
      cases fl with
      | ret v =>
        obtain ⟨rfl, k, tk, c, rfl, R⟩ := ht
        repeat (any_goals (first | assumption | wp_step))
        exact h _ ⟨k, tk, c, rfl, R⟩
      | _ => exact ht.elim
  | _ => exact ht.elim
end
end DL
set_option maxHeartbeats 4000000
namespace DL
open PySem PySem.Spec PyProof.Rows L2

/-! ### sorted(set(xs)) -/
def rSetL (K : PySem.W.Frag) (w : World) : List V → Hp → VK → Prop := fun xs H Q => ∃ (a : Addr) (ns : List Int), xs = [.ref a] ∧ SqL K H a (ns.map V.int) ∧ ns.length + 1 < scanBound ∧ ∀ p n, H p = none → n ≤ ns.length → Q (.ref p) (upd H p (SetO w p (fun j => decide (j ∈ ns)) n))
theorem cr_setL {X : Cx} (hc : X.calm = true) : CallR X (.type "set") (rSetL X.K X.w) := by
  intro pins s σ H xs us Q I rv ⟨a, ns, e, hs, hb, q⟩
  subst e
  rw [Vals.ref1 rv]
  obtain ⟨its, rr, pl, hz⟩ := I.list hs
  refine call_set_ints ns (I.ok.hd hc) pl.isList rr.ints hb fun s' ⟨h', tk, c, e, R, hcn, kp⟩ => ?_
  subst e
  exact ⟨.ref _, _, I.laid (t' := tk) kp (Nat.le_refl _) (setO_new R), rfl, q _ c (I.hok.fresh (Nat.le_refl _)) hcn⟩
/-- what stands in the heap besides -/
theorem EvR.ext {K : PySem.W.Frag} {G : Gc} {F H : Hp} {σ : St} {ρ : En} (e : EvR K G F H σ ρ) {p : Addr} {o : HO} (h : H p = none) : EvR K G F (upd H p o) σ ρ := e.liveO h
def woSortSet (w : W) : WO := fun G ρ Q => w G ρ fun d => ∃ ns : List Int, d = .lst (ns.map .int) ∧ ns.length < 64 ∧ ∀ ms : List Int, ms.Pairwise (· < ·) → (∀ k, k ∈ ms ↔ k ∈ ns) → Q (.ow (ms.map .int))
section
variable {S : Sta} {a b e : Expr} {es : List Expr} {p p2 pos pos2 : Pos} {w : W} {x : Str}
theorem do_sortSet (hm : S.mg "sorted" = none) (hm2 : S.mg "set" = none) (h : DE S e w) (hg : (S.names.lookup ("sorted" : Str) == some .globalImplicit) = true := by kernel_rfl) (hg2 : (S.names.lookup ("set" : Str) == some .globalImplicit) = true := by kernel_rfl)
    (he : ∀ env, starEach [.Call (.Name "set" p2) [e] [] pos2] env = (false, eval (.Call (.Name "set" p2) [e] [] pos2) env) :: starEach [] env := by intro _; rfl) (he2 : ∀ env, starEach [e] env = (false, eval e env) :: starEach [] env := by intro _; rfl) :
    DO S (.Call (.Name "sorted" p) [.Call (.Name "set" p2) [e] [] pos2] [] pos) (woSortSet w) := fun X f => by
  have h1 : PE X (.Call (.Name "set" p2) [e] [] pos2) _ := pe_callTy (cr_setL f.calm) (glOf f hg2) (by rw [f.mg]; exact hm2) (by decide +kernel) (pa_cons (h X f) pa_nil (he2 _)) (by decide) (by decide) (he2 _) rfl
  refine (pe_callB (cr_sortedSet f.calm) (glOf f hg) (by rw [f.mg]; exact hm) (by decide +kernel) (pa_cons h1 pa_nil (he _)) (by decide) (by decide) (he _) rfl).imp fun σ H Q ⟨G, F, ρ, Qd, ev, hw, hq⟩ => ?_
  refine ⟨G, F, ρ, _, ev, hw, fun v H1 F1 d s1 e1 f1 r1 ⟨ns, ed, hn, q1⟩ => ?_⟩
  subst ed
  obtain ⟨q, vs, rfl, hs, rr⟩ := rp_lstI e1.sub r1
  rw [f.K]
  refine ⟨q, ns, rfl, rr.ints ▸ hs, by have : scanBound > 65 := by decide
                                       omega, fun t n ht hle => ?_⟩
  refine ⟨t, _, n, rfl, upd_same, by omega, fun ms p2 hp hm _ hp2 => ?_⟩
  have e2 := e1.ext (o := SetO X.w t (fun j => decide (j ∈ ns)) n) ht
  exact e2.newL hp2 RpL.of_ints (q1 ms hp fun k => by rw [hm]; exact decide_eq_true_iff) fun v H' F' sv s2 e3 f2 r2 q2 => hq v H' F' sv (s1.trans s2) e3 (f1.trans ((Fr.upd ht).trans f2)) (r2.back (f1.trans (Fr.upd ht))) q2

/-! ### list(range(..)) -/
def woListRg1 (w : W) : WO := fun G ρ Q => w G ρ fun d => ∃ n : Int, d = .int n ∧ -(2 ^ 62) ≤ n ∧ n ≤ 2 ^ 24 ∧ Q (.ow (rangeD 0 n.toNat))
def woListRg2 (w w2 : W) : WO := fun G ρ Q => w G ρ fun d => w2 G ρ fun e => ∃ m n : Int, d = .int m ∧ e = .int n ∧ RgOk m n ∧ Q (.ow (rangeD m (n - m).toNat))
theorem rg_rp {K : PySem.W.Frag} {F : Hp} (m n : Int) : RpL K F (rgV m n) (rangeD m (n - m).toNat) := by
  have h : ∀ l : List Nat, RpL K F (l.map fun i : Nat => V.int (m + (i : Nat))) (l.map fun i : Nat => D.int (m + (i : Nat))) := fun l => by
    induction l with
    | nil => exact .nil
    | cons i l ih => exact .cons (.int _) ih
  exact h _
theorem do_listRg1 (hm : S.mg "list" = none) (hm2 : S.mg "range" = none) (h : DE S e w) (hg : (S.names.lookup ("list" : Str) == some .globalImplicit) = true := by kernel_rfl) (hg2 : (S.names.lookup ("range" : Str) == some .globalImplicit) = true := by kernel_rfl)
    (he : ∀ env, starEach [.Call (.Name "range" p2) [e] [] pos2] env = (false, eval (.Call (.Name "range" p2) [e] [] pos2) env) :: starEach [] env := by intro _; rfl) (he2 : ∀ env, starEach [e] env = (false, eval e env) :: starEach [] env := by intro _; rfl) :
    DO S (.Call (.Name "list" p) [.Call (.Name "range" p2) [e] [] pos2] [] pos) (woListRg1 w) := fun X f =>
  (pe_listRg f.calm (glOf f hg) (by rw [f.mg]; exact hm) (prg_1 (glOf f hg2) (by rw [f.mg]; exact hm2) (h X f) (he2 _)) (he _)).imp fun σ H Q ⟨G, F, ρ, Qd, ev, hw, hq⟩ =>
    ⟨G, F, ρ, _, ev, hw, fun v H1 F1 d s1 e1 f1 r1 ⟨n, ed, h1, h2, q1⟩ => by
      subst ed
      rw [r1.intI]
      refine ⟨n, rfl, ⟨by omega, by omega, by omega, by omega, by omega⟩, fun q hq2 => ?_⟩
      have e3 := rg_rp (K := S.K) (F := F1) 0 n
      rw [Int.sub_zero] at e3
      exact e1.newL hq2 e3 q1 fun v H' F' sv s2 e2 f2 r2 q2 => hq v H' F' sv (s1.trans s2) e2 (f1.trans f2) (r2.back f1) q2⟩

/-! ### repr(x) -/
theorem cd_repr : CD S (.builtin "repr") oRepr := fun X f => by
  intro pins s σ0 H vs us Q I rv ⟨G, F, σ, ρ, ds, Qd, ev, rl, ⟨x, pd, e, e2, hs, hd, hsz, q⟩, hq⟩
  subst e
  obtain ⟨u, rfl, r⟩ := rl.one
  obtain ⟨u1, rfl, r1⟩ := vals1 rv
  have dp := r.dp ev.sub e2
  rw [← f.K] at dp
  obtain ⟨as, ra⟩ := Dp.reads I pd u u1 dp r1
  have fin : ∀ {h' : Heap} {tk : Nat} {t : Tok}, (∀ b o, s.heap.get? b = some o → h'.get? b = some o) → EP X pins σ0 Q (.str pd.shown t) { s with heap := h', toks := tk } := fun {h' tk t} k =>
    ⟨.str pd.shown, H, I.kept (t' := tk) k, ⟨t, rfl⟩, ev.giv (.str _) q hq⟩
  cases pd with
  | none => cases dp; cases r1; exact PySem.P.repr_of_none (fin fun _ _ e => e)
  | bool b => cases dp; cases r1; exact PySem.P.repr_of_bool (fin fun _ _ e => e)
  | int i => cases dp; obtain ⟨t, rfl⟩ := r1; exact PySem.P.repr_of_int (by simpa [PyData.showable] using hs) (fin fun _ _ e => e)
  | str z => cases dp; obtain ⟨t, rfl⟩ := r1; exact PySem.P.repr_of_str (fin fun _ _ e => e) hsz
  | list l => cases hd
  | tuple l => cases hd
  | dict l => cases dp
end
end DL
set_option maxHeartbeats 4000000
namespace DL
open PySem PySem.Spec PyProof.Rows L2

/-! ### f(k = v, ..), all by name -/
def permL {α : Type} (is : List Nat) (zs : List α) : List α := is.filterMap fun i => zs[i]?
theorem permL_cons {α : Type} (i : Nat) (is : List Nat) (zs : List α) : permL (i :: is) zs = (match zs[i]? with | some z => z :: permL is zs | none => permL is zs) := by
  unfold permL
  rw [List.filterMap_cons]
  cases zs[i]? <;> rfl
theorem vals_at {vs : List V} {us : List Value} (r : Vals vs us) (i : Nat) : (vs[i]? = none ∧ us[i]? = none) ∨ ∃ v u, vs[i]? = some v ∧ us[i]? = some u ∧ RelV v u := by
  induction r generalizing i with
  | nil => exact .inl ⟨by simp, by simp⟩
  | cons h t ih =>
    cases i with
    | zero => exact .inr ⟨_, _, by simp, by simp, h⟩
    | succ i => simpa using ih i
theorem permL_vals {vs : List V} {us : List Value} (r : Vals vs us) : ∀ is : List Nat, Vals (permL is vs) (permL is us)
  | [] => .nil
  | i :: is => by
    rw [permL_cons, permL_cons]
    rcases vals_at r i with ⟨h1, h2⟩ | ⟨v, u, h1, h2, h3⟩
    · rw [h1, h2]; exact permL_vals r is
    · rw [h1, h2]; exact .cons h3 (permL_vals r is)
theorem permL_rpl {K : PySem.W.Frag} {F : Hp} {vs : List V} {ds : List D} (r : RpL K F vs ds) : ∀ is : List Nat, RpL K F (permL is vs) (permL is ds)
  | [] => .nil
  | i :: is => by
    rw [permL_cons, permL_cons]
    cases h : ds[i]? with
    | some d =>
      obtain ⟨v, h1, h2⟩ := r.get h
      rw [h1]; exact .cons h2 (permL_rpl r is)
    | none =>
      have h1 : vs[i]? = none := by
        rw [List.getElem?_eq_none_iff] at h ⊢
        rw [r.len]; exact h
      rw [h1]; exact permL_rpl r is
def kwG {α : Type} (n : Nat) (is : List Nat) (us ws : List α) : List α := match us with
  | [] => if ws.length = n then permL is ws else []
  | _ => []
theorem kwG_nil {α : Type} {n : Nat} {is : List Nat} {ws : List α} (h : ws.length = n) : kwG n is [] ws = permL is ws := by unfold kwG; rw [if_pos h]
theorem pe_callK0 {X : Cx} {k : Nat} {f : Addr} {fd : FuncData} {ps ks : List Str} {sp : Sp} {x : Str} {p pos : Pos} {kws : List Keyword} {tk : TA} {g : List Value → List Value → List Value} {gV : List V → List V → List V}
    (F : FnOk X.prog X.w X.K X.mg X.base CX0 k f fd ps sp) (hr : Room k X.A) (hg : Gl X x) (hm : X.mg x = some (.ref f)) (hk : PySem.W.keepIn X.K (.ref f) = true) (hb : KBinds X.K fd ps ks g gV) {E : XK} (hx : Passes CX0 X E)
    (hkw : PK X kws tk) (hall : (backToKw pos (keywordEach kws X.env)).all (·.1.isSome) = true) (hks : (backToKw pos (keywordEach kws X.env)).filterMap (·.1) = ks) (hdb : (x == ("__debug__" : Str)) = false) (hpl : ((backTo pos (starEach [] X.env)).any (·.1) || (backToKw pos (keywordEach kws X.env)).any (·.1.isNone)) = false) :
    PE X (.Call (.Name x p) [] kws pos) (fun σ H Q => tk σ H fun zs H2 => sp (gV [] zs) H2 Q E) := by
  refine ⟨fun pins s σ H Q I h => wpAny_Call_Name_kw (ld_glob I hg hm ?_ hdb)⟩
  refine PySem.W.callWith_KW0 (h₀ := X.base) I.ok.mod.kin hk hall (thn (hkw.run pos pins s σ H _ I h) fun ws s2 ⟨zs, H2, I2, rz, q2⟩ => ⟨I2.kIn, ?_⟩) hpl
  rw [hks]
  exact run_fnk (us := []) (vs := []) F hr hb hx I2 .nil rz q2
def DK (S : Sta) (kws : List Keyword) (r : WA) : Prop := ∀ X, Fam S X → PK X kws (tA S.K r)
theorem _root_.L2.PK.imp {X : Cx} {es : List Keyword} {t t' : TA} (h : PK X es t) (i : ∀ σ H Q, t' σ H Q → t σ H Q) : PK X es t' := ⟨fun pos pins s σ H Q I q => h.run pos pins s σ H Q I (i σ H Q q)⟩
def woCallK (n : Nat) (is : List Nat) (sp : FS) (r : WA) : WO := fun G ρ Q => r G ρ fun ds => ds.length = n ∧ sp G (permL is ds) Q
section
variable {S : Sta} {a b c e : Expr} {es : List Expr} {p p2 pos kpos : Pos} {w : W} {x : Str} {r : WA} {kws : List Keyword} {nm : Option Str}
theorem dk_nil : DK S [] waNil := fun X f => pk_nil.imp fun σ H Q ⟨G, F, ρ, Qd, ev, q, hq⟩ => hq [] H F [] (Same.refl _) ev Fr.refl .nil q
theorem dk_cons (ha : DE S e w) (hr : DK S kws r) : DK S (⟨nm, e, kpos⟩ :: kws) (waCons w r) := fun X f =>
  (pk_cons (ha X f) (hr X f)).imp fun σ H Q ⟨G, F, ρ, Qd, ev, hw, hq⟩ =>
    ⟨G, F, ρ, _, ev, hw, fun v1 H1 F1 d1 s1 e1 f1 r1 q1 => ⟨G, F1, ρ, _, e1, q1, fun vs H2 F2 ds s2 e2 f2 r2 q2 => hq (v1 :: vs) H2 F2 (d1 :: ds) (s1.trans s2) e2 (f1.trans f2) (.cons (r1.mono s2) r2) q2⟩⟩
theorem do_callK {j : Nat} {st : Stmt} {ps ks : List Str} {sp : FS} {is : List Nat} (h : Kn S.toBs j x st ps sp) (hj : j ≤ S.k) (hr : DK S kws r) (hp : ps ≠ [])
    (hb : ∀ (kV doc pm : Value) (an : Option Addr) (cdv ct : Value) (ws : List Value), ws.length = ks.length → bindArgs (PySem.W.fnOf x x (defArgs st) (defBody st) (defScope st) .none kV doc pm an cdv ct) ⟨[], ks.zip ws⟩ = pure (ps.zip (permL is ws)))
    (hall : ∀ env, (backToKw pos (keywordEach kws env)).all (·.1.isSome) = true := by intro _; rfl) (hks : ∀ env, (backToKw pos (keywordEach kws env)).filterMap (·.1) = ks := by intro _; rfl)
    (hpl : ∀ env, ((backTo pos (starEach [] env)).any (·.1) || (backToKw pos (keywordEach kws env)).any (·.1.isNone)) = false := by intro _; rfl)
    (hg : (S.names.lookup x == some .globalImplicit) = true := by kernel_rfl) (hdb : (x == ("__debug__" : Str)) = false := by kernel_rfl) :
    DO S (.Call (.Name x p) [] kws pos) (woCallK ks.length is sp r) := fun X f => by
  obtain ⟨fa, fd, F, hm, FD, _⟩ := h.ex
  have hkp := FD.kp
  have kb : KBinds S.K fd ps ks (kwG ks.length is) (kwG ks.length is) := by
    obtain ⟨oc, od, dV, kV, doc, pm, an, cdv, ct, osl, rfl, lk, hcd, hD, hK⟩ := FD.ex
    rcases hD with ⟨_, rfl⟩ | ⟨e, _⟩
    · refine ⟨fun s us ws X hl => ?_, fun {vs us zs ws} r1 r2 => ?_⟩
      · cases us with
        | cons u us => cases ps with
          | nil => exact absurd rfl hp
          | cons _ _ => simp [kwG] at hl
        | nil =>
          by_cases hw : ws.length = ks.length
          · rw [kwG_nil hw]; exact .of_eq (hb kV doc pm an cdv ct ws hw)
          · cases ps with
            | nil => exact absurd rfl hp
            | cons _ _ => simp [kwG, hw] at hl
      · cases r1 with
        | cons _ _ => exact .nil
        | nil =>
          unfold kwG
          rw [r2.length]
          by_cases hw : ws.length = ks.length
          · rw [if_pos hw, if_pos hw]; exact permL_vals r2 is
          · rw [if_neg hw, if_neg hw]; exact .nil
    · exact absurd rfl e
  rw [← f.P, ← f.w, ← f.K, ← f.mg, ← f.base] at F
  refine (pe_callK0 F (f.room.mono hj) (glOf f hg) (by rw [f.mg]; exact hm) (by rw [f.K]; exact hkp) (by rw [f.K]; exact kb) pass0 (hr X f) (hall _) (hks _) hdb (hpl _)).imp fun σ H Q ⟨G, F, ρ, Qd, ev, hw, hq⟩ =>
    ⟨G, F, ρ, _, ev, hw, fun vs H1 F1 ds s1 e1 f1 r1 ⟨hl, q1⟩ => ⟨G, F1, permL is ds, Qd, e1.sub, e1.res, e1.wd, by rw [kwG_nil (by rw [r1.len]; exact hl), f.K]; exact permL_rpl r1 is, q1, fun v H' F' sv s2 s3 s4 f2 w2 r2 q2 =>
      hq v H' F' sv (s1.trans s2) (e1.go s2 s3 f2 s4 w2) (f1.trans f2) (by rw [f.K] at r2; exact r2.back f1) q2⟩⟩
end
end DL
set_option maxHeartbeats 4000000
namespace DL
open PySem PySem.Spec PyProof.Rows L2

/-! ### a, b, c = e1, e2, e3 -/
section
variable {K : PySem.W.Frag} {G : Gc} {H0 F0 F F' F1 F2 F3 H H1 H2 H3 H' : Hp} {σ : St} {ρ : En}
theorem pin_fr {v : V} {sv : SV} (h : RpO K G F1 H H1 v sv) (e2 : EvR K (pinO G H1 v sv) F2 H2 σ ρ) (e3 : EvR K (pinO G H1 v sv) F3 H3 σ ρ) (fr : Fr (pinO G H1 v sv) H2 H3) : Fr G H2 H3 := by
  unfold pinO at e2 e3 fr
  cases ho : isOwn sv with
  | false => rw [ho] at fr; exact fr
  | true =>
    obtain ⟨a, o, rfl, h1, h2, h3, h4⟩ := rpo_ref h ho
    rw [ho] at e2 e3 fr
    dsimp only at e2 e3 fr
    rw [h1] at e2 e3 fr
    intro b u hb nb
    by_cases hba : b = a
    · subst hba
      have := e2.wd.2.1
      rw [this] at hb; cases hb
      exact e3.wd.2.1
    · exact fr b u hb fun r => r.elim nb hba
def usedAt : Bool → V → List Addr → List Addr
  | true, .ref a, l => a :: l
  | _, _, l => l
theorem usedAt_sub {b : Bool} {v : V} {l : List Addr} {a : Addr} (h : a ∈ l) : a ∈ usedAt b v l := by
  unfold usedAt
  split
  · exact List.mem_cons_of_mem _ h
  · exact h
theorem usedAt_inv {b : Bool} {v : V} {l : List Addr} {a : Addr} (h : a ∈ usedAt b v l) : a ∈ l ∨ (b = true ∧ v = .ref a) := by
  unfold usedAt at h
  split at h
  · rcases List.mem_cons.mp h with e | h
    · exact .inr ⟨rfl, by rw [e]⟩
    · exact .inl h
  · exact .inl h
theorem Ev.puts (frH : Fr G H0 H) : ∀ (l : List (Nat × V × SV)) (σ1 : St) (ρ1 : En) (used : List Addr), Ev K G H0 F0 F2 H' σ1 ρ1 → (∀ p ∈ l, p.1 < ρ1.length ∧ RpO K G F2 H H' p.2.1 p.2.2) →
    (∀ (k : Nat) (sx : SV) (a : Addr), ρ1[k]? = some (some sx) → isOwn sx = true → σ1[k]? = some (some (.ref a)) → H a ≠ none ∨ a ∈ used) → (l.Pairwise fun p q => isOwn p.2.2 = true → isOwn q.2.2 = true → p.2.1 ≠ q.2.1) →
    (∀ p ∈ l, isOwn p.2.2 = true → ∀ a, p.2.1 = .ref a → a ∉ used) → Ev K G H0 F0 F2 H' (l.foldl (fun s p => s.set p.1 (some p.2.1)) σ1) (l.foldl (fun r p => r.set p.1 (some p.2.2)) ρ1)
  | [], _, _, _, e, _, _, _, _ => e
  | (i, v, sv) :: l, σ1, ρ1, used, e, hl, hu, hp, hn => by
    obtain ⟨hi, r⟩ := hl _ List.mem_cons_self
    have hn0 := hn _ List.mem_cons_self
    obtain ⟨hp1, hp2⟩ := List.pairwise_cons.mp hp
    have ev1 : Ev K G H0 F0 F2 H' (σ1.set i (some v)) (ρ1.set i (some sv)) := e.set hi (rps_of r) fun ho a ea => by
      obtain ⟨b, o, eb, _, q2, q3, q4⟩ := rpo_ref r ho
      rw [ea] at eb; cases eb
      exact ⟨q4, frH.free q2 q3, fun k sx _ q hok z => (hu k sx a q hok z).elim (fun n => n q3) (hn0 ho a ea)⟩
    refine Ev.puts frH l _ _ (usedAt (isOwn sv) v used) ev1 (fun p hp => ⟨by rw [List.length_set]; exact (hl p (List.mem_cons_of_mem _ hp)).1, (hl p (List.mem_cons_of_mem _ hp)).2⟩) (fun k sx a q hok z => ?_) hp2 (fun p hm ho a ea hin => ?_)
    · rcases set_get q with ⟨rfl, zz⟩ | ⟨ne, q⟩
      · cases zz
        rw [List.getElem?_set_self (by rw [e.len]; exact hi)] at z
        cases z
        rw [hok]
        exact .inr List.mem_cons_self
      · rw [List.getElem?_set_ne ne] at z
        exact (hu k sx a q hok z).imp id usedAt_sub
    · rcases usedAt_inv hin with h | ⟨hb, ev'⟩
      · exact hn p (List.mem_cons_of_mem _ hm) ho a ea h
      · exact hp1 p hm hb ho (by rw [ea]; exact ev')
def put3 (ρ : En) (i : Nat) (sv : SV) (j : Nat) (sw : SV) (l : Nat) (sx : SV) : En := match immS sv && immS sw && immS sx with
  | true => ((ρ.set i (some sv)).set j (some sw)).set l (some sx)
  | false => (((frzAll ρ).set i (some sv)).set j (some sw)).set l (some sx)
theorem Ev.put3 (e : Ev K G H0 F0 F H σ ρ) (s : Same F F') (e' : EvR K G F' H' σ ρ) (fr : Fr G H H') {i j l : Nat} {v u t : V} {sv sw sx : SV} (hi : i < ρ.length) (hj : j < ρ.length) (hl : l < ρ.length)
    (h1 : RpO K G F' H H' v sv) (h2 : RpO K G F' H H' u sw) (h3 : RpO K G F' H H' t sx) (n12 : isOwn sv = true → isOwn sw = true → v ≠ u) (n13 : isOwn sv = true → isOwn sx = true → v ≠ t) (n23 : isOwn sw = true → isOwn sx = true → u ≠ t) :
    ∃ F2, Ev K G H0 F0 F2 H' (((σ.set i (some v)).set j (some u)).set l (some t)) (DL.put3 ρ i sv j sw l sx) ∧ Same F F2 := by
  have go : ∀ (F2 : Hp) (ρ2 : En), ρ2.length = ρ.length → Ev K G H0 F0 F2 H' σ ρ2 → RpO K G F2 H H' v sv → RpO K G F2 H H' u sw → RpO K G F2 H H' t sx → (∀ (k : Nat) (sx : SV), ρ2[k]? = some (some sx) → isOwn sx = true → ∀ a, H a = none → σ[k]? ≠ some (some (.ref a))) →
      Ev K G H0 F0 F2 H' (((σ.set i (some v)).set j (some u)).set l (some t)) (((ρ2.set i (some sv)).set j (some sw)).set l (some sx)) := fun F2 ρ2 hlen ev r1 r2 r3 ns => by
    refine Ev.puts e.fr [(i, v, sv), (j, u, sw), (l, t, sx)] σ ρ2 [] ev (fun p hp => ?_) (fun k sy a q ho z => .inl fun hn => ns k sy q ho a hn z) ?_ (fun _ _ _ _ _ h => by cases h)
    · simp only [List.mem_cons, List.not_mem_nil, or_false] at hp
      rw [hlen]
      rcases hp with rfl | rfl | rfl
      · exact ⟨hi, r1⟩
      · exact ⟨hj, r2⟩
      · exact ⟨hl, r3⟩
    · simp only [List.pairwise_cons, List.mem_cons, List.not_mem_nil, or_false, forall_eq_or_imp, forall_eq, List.Pairwise.nil, and_true, false_implies, implies_true]
      exact ⟨⟨n12, n13⟩, n23⟩
  unfold DL.put3
  cases hm : (immS sv && immS sw && immS sx) with
  | true =>
    obtain ⟨m12, m3⟩ := Bool.and_eq_true_iff.mp hm
    obtain ⟨m1, m2⟩ := Bool.and_eq_true_iff.mp m12
    exact ⟨tupOf F F', go _ ρ rfl (e.goT s e' fr) (rpo_base h1 s m1) (rpo_base h2 s m2) (rpo_base h3 s m3) fun k sx q ho a ha => e.ne ha k sx q ho, tupOf_same⟩
  | false =>
    exact ⟨ownOf F' H' σ ρ, go _ (frzAll ρ) (by unfold frzAll; rw [List.length_map]) (e.goA s e' fr) (rpo_baseA e h1) (rpo_baseA e h2) (rpo_baseA e h3) (fun k sx q ho => by rw [frzAll_own q] at ho; cases ho), s.trans ownOf_same⟩
end
def wPar3 (i j l : Nat) (w1 w2 w3 : WO) : WS := fun G E ρ => i < ρ.length ∧ j < ρ.length ∧ l < ρ.length ∧ w1 G ρ fun sv => ∀ G', GExt G G' → w2 G' ρ fun sw => ∀ G2, GExt G' G2 → w3 G2 ρ fun sx => E.nx (put3 ρ i sv j sw l sx)
theorem swap3 {a b c : Expr} {x y z : Str} {px py pz pt pt2 : Pos} {kt k2 : Nat} (hne : (x == y) = false) (hne2 : (x == z) = false) (hne3 : (y == z) = false) (hl : (py.line == px.line) = true) (hl2 : (pz.line == px.line) = true) (sa : (match a with | .Starred .. => true | _ => false) = false) (sb : (match b with | .Starred .. => true | _ => false) = false) (sc : (match c with | .Starred .. => true | _ => false) = false)
    (hf : (foldedForSure 8 a && (foldedForSure 8 b && foldedForSure 8 c)) = false) (hc : (constantsAlone 8 a && (constantsAlone 8 b && constantsAlone 8 c)) = false) (env : Env) (hk : env.scope.kind = .function) (hx : env.scope.names.lookup x = some .local) (hy : env.scope.names.lookup y = some .local) (hz : env.scope.names.lookup z = some .local) :
    swappedStores [.Tuple [.Name x px, .Name y py, .Name z pz] kt pt] (.Tuple [a, b, c] k2 pt2) env = pure (some [x, y, z]) := by
  have hb : env.blockKind = .function := by unfold Env.blockKind; rw [hk]; rfl
  have kx : env.kindOf x = some .local := hx
  have ky : env.kindOf y = some .local := hy
  have kz : env.kindOf z = some .local := hz
  have sym : ∀ {u v : Str}, (u == v) = false → (v == u) = false := fun {u v} e => by
    cases h : v == u with
    | false => rfl
    | true => rw [beq_iff_eq.mp h] at e; simp at e
  have e1 := sym hne
  have e2 := sym hne2
  have e3 := sym hne3
  unfold swappedStores
  simp only [hb, kx, ky, kz, List.length_cons, List.length_nil, List.any_cons, List.any_nil, sa, sb, sc, List.filterMap_cons, List.filterMap_nil, Expr.pos, List.head?_cons, Option.map_some, Option.getD_some, hl, hl2, List.all_cons, List.all_nil, Bool.and_true, hf, hc, beq_self_eq_true, Bool.and_self, if_true, List.eraseDups_cons, hne, hne2, hne3, e1, e2, e3]
  simp [hne, hne2, hne3, e1, e2, e3]
  rw [if_neg, if_pos (by simp [List.eraseDups_cons, hne, hne2, hne3, e1, e2, e3])]
  rintro (h | h | h)
  · cases a <;> first | exact Bool.noConfusion h | exact Bool.noConfusion sa
  · cases b <;> first | exact Bool.noConfusion h | exact Bool.noConfusion sb
  · cases c <;> first | exact Bool.noConfusion h | exact Bool.noConfusion sc
section
variable {S : Sta} {a b c : Expr} {pos : Pos} {wo1 wo2 wo3 : WO} {i j l : Nat} {x y z : Str}
theorem ds_par3 {px py pz pt : Pos} {kt k2 pt2} (h1 : DO S a wo1) (h2 : DO S b wo2) (h3 : DO S c wo3) (nd : S.N.Nodup) (hi : (S.N[i]? == some x) = true := by kernel_rfl) (hj : (S.N[j]? == some y) = true := by kernel_rfl) (hl : (S.N[l]? == some z) = true := by kernel_rfl) (hij : (i == j || i == l || j == l) = false := by kernel_rfl)
    (hx : (S.names.lookup x == some .local) = true := by kernel_rfl) (hy : (S.names.lookup y == some .local) = true := by kernel_rfl) (hz : (S.names.lookup z == some .local) = true := by kernel_rfl)
    (hs : ∀ env, starEach (a :: [b, c]) env = (false, eval a env) :: starEach [b, c] env := by intro _; rfl) (hs2 : ∀ env, starEach (b :: [c]) env = (false, eval b env) :: starEach [c] env := by intro _; rfl) (hs3 : ∀ env, starEach (c :: []) env = (false, eval c env) :: starEach [] env := by intro _; rfl)
    (hw : ∀ env : Env, env.scope.kind = .function → env.scope.names.lookup x = some .local → env.scope.names.lookup y = some .local → env.scope.names.lookup z = some .local → swappedStores [.Tuple [.Name x px, .Name y py, .Name z pz] kt pt] (.Tuple [a, b, c] k2 pt2) env = pure (some [x, y, z]))
    (hsw : ∀ env, swapsWithSole [.Tuple [.Name x px, .Name y py, .Name z pz] kt pt] (.Tuple [a, b, c] k2 pt2) pos.line env = pure false := by intro _; rfl) :
    DS S (.Assign [.Tuple [.Name x px, .Name y py, .Name z pz] kt pt] (.Tuple [a, b, c] k2 pt2) pos) (wPar3 i j l wo1 wo2 wo3) := fun X f => by
  have lx : X.env.scope.names.lookup x = some .local := by rw [f.look]; exact beq_iff_eq.mp hx
  have ly : X.env.scope.names.lookup y = some .local := by rw [f.look]; exact beq_iff_eq.mp hy
  have lz : X.env.scope.names.lookup z = some .local := by rw [f.look]; exact beq_iff_eq.mp hz
  have nij : i ≠ j := fun q => by subst q; simp at hij
  have nil' : i ≠ l := fun q => by subst q; simp at hij
  have njl : j ≠ l := fun q => by subst q; simp at hij
  refine (ps_par3 (i := i) (j := j) (l := l) f.calm (by rw [f.N]; exact nd) (by rw [f.N]; exact beq_iff_eq.mp hi) (by rw [f.N]; exact beq_iff_eq.mp hj) (by rw [f.N]; exact beq_iff_eq.mp hl) nij nil' njl lx ly lz (pa_cons (h1 X f) (pa_cons (h2 X f) (pa_cons (h3 X f) pa_nil (hs3 _)) (hs2 _)) (hs _)) (hw _ f.kind lx ly lz) (hsw _)).imp fun D σ H ⟨G, H0, F0, F, ρ, E, ev, ⟨li, lj, ll, hw⟩, g⟩ => ?_
  refine ⟨G, F, ρ, _, ev.r, hw, fun v H1 F1 sv s1 e1 f1 r1 q1 => ?_⟩
  have ns : ∀ (k : Nat) (sx : SV), ρ[k]? = some (some sx) → isOwn sx = true → ∀ a, H a = none → σ[k]? ≠ some (some (.ref a)) := fun k sx q ho a ha => ev.ne ha k sx q ho
  have p1 := pin_evr r1 ns e1
  have ns1 : ∀ (k : Nat) (sx : SV), ρ[k]? = some (some sx) → isOwn sx = true → ∀ a, H1 a = none → σ[k]? ≠ some (some (.ref a)) := fun k sx q ho a ha hz => by
    obtain ⟨o, q1, _⟩ := e1.ownAt q ho hz
    rw [ha] at q1; cases q1
  refine ⟨pinO G H1 v sv, F1, ρ, _, p1, q1 _ (pin_ext r1), fun u H2 F2 sw s2 e2 f2 r2 q2 => ?_⟩
  have p2 := pin_evr r2 ns1 e2
  refine ⟨pinO (pinO G H1 v sv) H2 u sw, F2, ρ, _, p2, q2 _ (pin_ext r2), fun t H3 F3 sx s3 e3 f3 r3 q3 => ?_⟩
  -- back to the first pin, then to G
  obtain ⟨e3', f3', nF2⟩ := pin_less r2 e3 f3
  have r3' : RpO S.K (pinO G H1 v sv) F3 H2 H3 t sx := rpo_unpin (pin_ext r2) r3
  obtain ⟨e3g, f13, nF1⟩ := pin_less r1 e3' (f2.trans f3')
  obtain ⟨e2g, f12, _⟩ := pin_less r1 e2 f2
  have f23 : Fr G H2 H3 := pin_fr r1 e2 e3' f3'
  have R1 : RpO S.K G F3 H H3 v sv := rpo_keep r1 (s2.trans s3) f13 nF1
  have R2 : RpO S.K G F3 H1 H3 u sw := rpo_keep (rpo_unpin (pin_ext r1) r2) s3 f23 nF2
  have R3 : RpO S.K G F3 H2 H3 t sx := rpo_unpin (pin_ext r1) r3'
  have n12 : isOwn sv = true → isOwn sw = true → v ≠ u := fun o1 o2 z => by
    obtain ⟨b1, o1', eb1, q1, _, _, _⟩ := rpo_ref r1 o1
    obtain ⟨b2, o2', eb2, _, _, q3, _⟩ := rpo_ref R2 o2
    rw [z, eb2] at eb1
    cases eb1
    rw [q1] at q3; cases q3
  have n13 : isOwn sv = true → isOwn sx = true → v ≠ t := fun o1 o2 z => by
    obtain ⟨b1, o1', eb1, q1, n1, _, _⟩ := rpo_ref r1 o1
    obtain ⟨b2, o2', eb2, _, _, q3, _⟩ := rpo_ref R3 o2
    rw [z, eb2] at eb1
    cases eb1
    have := f12 _ _ q1 n1
    rw [this] at q3; cases q3
  have n23 : isOwn sw = true → isOwn sx = true → u ≠ t := fun o1 o2 z => by
    obtain ⟨b1, o1', eb1, q1, n1, _, _⟩ := rpo_ref r2 o1
    obtain ⟨b2, o2', eb2, _, _, q3, _⟩ := rpo_ref R3 o2
    rw [z, eb2] at eb1
    cases eb1
    rw [q1] at q3; cases q3
  obtain ⟨F4, ev4, s4⟩ := ev.put3 (s1.trans (s2.trans s3)) e3g (f1.trans (f12.trans f23)) li lj ll R1 (R2.back f1) (R3.back (f1.trans f12)) n12 n13 n23
  exact ⟨v, u, t, rfl, g.nx _ H3 F4 _ ev4 s4 q3⟩
end
end DL
set_option maxHeartbeats 4000000
namespace DL
open PySem PySem.Spec PyProof.Rows L2

section
variable {K : PySem.W.Frag} {G : Gc} {H0 F0 F H : Hp} {σ : St} {ρ : En}
/-- a slot's own object is changed -/
theorem Ev.chgS (e : Ev K G H0 F0 F H σ ρ) {i : Nat} {sv sv' : SV} {a : Addr} {o : HO} (q : ρ[i]? = some (some sv)) (hw : isOwn sv = true) (ha : σ[i]? = some (some (.ref a))) (r : RpS K G F (upd H a o) (.ref a) sv') (n : ¬ G.R a) :
    Ev K G H0 F0 F (upd H a o) σ (ρ.set i (some sv')) := by
  have hi : i < ρ.length := (List.getElem?_eq_some_iff.mp q).1
  obtain ⟨nF, n0⟩ := e.own i _ a q hw ha
  have fr : ∀ b u, H b = some u → b ≠ a → (upd H a o) b = some u := fun b u h ne => by rw [upd_ne ne]; exact h
  refine ⟨⟨fun b u h => fr b u (e.r.sub _ _ h) (fun z => by rw [z, nF] at h; cases h), e.r.res, G.st _ _ e.r.wd fun b rb => upd_ne (fun z => n (z ▸ rb)), fun j sw z => ?_, by rw [List.length_set]; exact e.len⟩, e.f0, fun b u h nb => fr b u (e.fr b u h nb) (fun z => by rw [z, n0] at h; cases h), fun j sw b z ho hb => ?_, fun j k s1 s2 b ne z1 o1 z2 o2 b1 b2 => ?_⟩
  · rcases set_get z with ⟨rfl, zz⟩ | ⟨ne, z⟩
    · cases zz; exact ⟨_, ha, r⟩
    · obtain ⟨v, h1, h2⟩ := e.r.slot j sw z
      refine ⟨v, h1, ?_⟩
      cases sw with
      | fz d => exact h2
      | ow zs =>
        obtain ⟨b, vs, rfl, z1, z2, z3⟩ := h2
        exact ⟨b, vs, rfl, fr b _ z1 (fun z' => e.apart i j _ _ _ ne q hw z rfl ha (z' ▸ h1)), z2, z3⟩
      | od kds =>
        obtain ⟨b, vs, rfl, z1, z0, z2, z3⟩ := h2
        exact ⟨b, vs, rfl, fr b _ z1 (fun z' => e.apart i j _ _ _ ne q hw z rfl ha (z' ▸ h1)), z0, z2, z3⟩
  · rcases set_get z with ⟨rfl, zz⟩ | ⟨ne, z⟩
    · rw [ha] at hb
      cases hb
      exact ⟨nF, n0⟩
    · exact e.own j sw b z ho hb
  · have back : ∀ {j s}, (ρ.set i (some sv'))[j]? = some (some s) → isOwn s = true → ∃ s', ρ[j]? = some (some s') ∧ isOwn s' = true := fun {j s} z ho => by
      rcases set_get z with ⟨rfl, z⟩ | ⟨ne, z⟩
      · exact ⟨_, q, hw⟩
      · exact ⟨_, z, ho⟩
    obtain ⟨s1', z1', o1'⟩ := back z1 o1
    obtain ⟨s2', z2', o2'⟩ := back z2 o2
    exact e.apart j k s1' s2' b ne z1' o1' z2' o2' b1 b2
end
/-! ### xs.remove(k) -/
theorem erase_first : ∀ {ns : List Int} {k : Int}, k ∈ ns → ∃ j, ns[j]? = some k ∧ (∀ m : Nat, m < j → ns[m]? ≠ some k) ∧ ns.eraseIdx j = ns.erase k
  | n :: ns, k, h => by
    by_cases e : n = k
    · subst e
      exact ⟨0, rfl, fun m hm => by omega, by simp⟩
    · obtain ⟨j, h1, h2, h3⟩ := erase_first (ns := ns) (k := k) ((List.mem_cons.mp h).resolve_left (Ne.symm e))
      refine ⟨j + 1, by simpa using h1, fun m hm => ?_, ?_⟩
      · cases m with
        | zero => simp [e]
        | succ m => simpa using h2 m (by omega)
      · rw [List.eraseIdx_cons_succ, h3, List.erase_cons_tail (by simpa using e)]
section
variable {S : Sta} {e a b k : Expr} {es : List Expr} {pos spos p apos cpos : Pos} {wo : WO} {w wk : W} {wv wv2 : WV} {i : Nat} {x : Str} {r : WA}
theorem ds_remove (hk : DE S e wk) (hN : (S.N[i]? == some x) = true := by kernel_rfl) (hx : (S.names.lookup x == some .local || S.names.lookup x == some .cell || S.names.lookup x == some .free) = true := by kernel_rfl) (hd : (x == ("__debug__" : Str)) = false := by kernel_rfl) (hcd : (x == ("__classdict__" : Str)) = false := by kernel_rfl)
    (hbase : ∀ env, attributeBase (.Name x p) "remove" env (eval (.Name x p) env) = eval (.Name x p) env := by intro _; rfl)
    (hfew : ∀ env, ((backTo cpos (starEach [e] env)).all (fun x => !x.1) && (backToKw cpos (keywordEach [] env)).all (fun x => x.1.isSome) && decide ([e].length + ([] : List Keyword).length + (if ([] : List Keyword).isEmpty then 0 else 1) < 30)) = true := by intro _; rfl)
    (hline : (apos.endLine == cpos.line) = true := by kernel_rfl) (hs : ∀ env, starEach [e] env = (false, eval e env) :: starEach [] env := by intro _; rfl)
    (hsw : ∀ env, swapsWith (.Call (.Attribute (.Name x p) "remove" apos) [e] [] cpos) none spos.line env = pure false := by intro _; rfl) :
    DS S (.Expr (.Call (.Attribute (.Name x p) "remove" apos) [e] [] cpos) spos) (wRemove i wk) := fun X f => by
  have pa := pa_cons (hk X f) pa_nil (hs _)
  refine (ps_expr (pe_bm PySem.F.plainAttrs_list PySem.F.slot_list_remove PySem.F.type_list_remove mt_remove (pvN f hN hx hd hcd) pa (hbase _) (hfew _) hline (hs _) rfl) (hsw _)).imp fun D σ H ⟨G, H0, F0, F, ρ, E, ev, ⟨⟨xs0, q0⟩, hw⟩, g⟩ => ?_
  obtain ⟨a, vs0, h1, h2, _, _⟩ := ownList ev q0
  refine ⟨.ref a, h1, .inl ⟨rfl, _, .inl (.inl h2)⟩, G, F, ρ, _, ev.r, hw, fun v H' F' kd s e' fr r ⟨kk, ns, ek, q, hin, z⟩ => ?_⟩
  have ev' := ev.go s e' fr
  obtain ⟨a', vs, h1', h3, h4, h5⟩ := ownList ev' q
  rw [h1] at h1'
  cases h1'
  subst ek
  cases r
  obtain ⟨j, j1, j2, j3⟩ := erase_first hin
  refine ⟨a, ns, kk, j, rfl, rfl, by rw [h3, h4.ints], j1, j2, ?_⟩
  rw [j3]
  exact g.nx _ _ F _ (ev'.chg q h1 RpL.of_ints h5) (Same.refl _) z

/-! ### dicts -/
def kD : Key → D
  | .inl i => .int i
  | .inr x => .str x
theorem kD_rp {K : PySem.W.Frag} {F : Hp} (k : Key) : Rp K F (kV k) (kD k) := by
  cases k with
  | inl i => exact .int i
  | inr x => exact .str x
theorem kD_of {K : PySem.W.Frag} {F : Hp} {v : V} {k : Key} (r : Rp K F v (kD k)) : v = kV k := by
  cases k with
  | inl i => exact r.intI
  | inr x => exact r.strI
theorem kDs_of {K : PySem.W.Frag} {F : Hp} : ∀ {ks : List Key} {vs : List V}, RpL K F vs (ks.map kD) → vs = ks.map kV
  | [], vs, r => by cases r; rfl
  | k :: ks, vs, r => by
    cases r with
    | cons h t => rw [kD_of h, kDs_of t]; rfl
theorem kDs_rp {K : PySem.W.Frag} {F : Hp} : ∀ (ks : List Key), RpL K F (ks.map kV) (ks.map kD)
  | [] => .nil
  | k :: ks => .cons (kD_rp k) (kDs_rp ks)
def woDnew : WO := fun _ _ Q => Q (.od [])
def wDnew : W := fun _ _ Q => Q (.dic [])
theorem do_dnew : DO S (.Dict [] [] pos) woDnew := fun X f => pe_dnewT.imp fun σ H Q ⟨G, F, ρ, Qd, ev, hw, hq⟩ p hp =>
  hq _ _ F (.od []) (Same.refl _) (ev.liveO hp) (Fr.upd hp) ⟨p, [], rfl, upd_same, rfl, .nil, ev.nr hp, hp, ev.fnone hp⟩ hw
theorem de_dnew : DE S (.Dict [] [] pos) wDnew := fun X f => pe_dnewK.imp fun σ H Q ⟨G, F, ρ, Qd, ev, hw, hq⟩ p hp =>
  hq _ _ _ (.dic []) (same_upd (ev.fnone hp)) (ev.live hp) (Fr.upd hp) (.dic upd_same .nil) hw
def putD {κ : Type} [DecidableEq κ] (kds : List (κ × D)) (k : κ) (d : D) : List (κ × D) := if (kds.any fun kv => decide (kv.1 = k)) = true then kds.map (fun kv => if kv.1 = k then (kv.1, d) else kv) else kds ++ [(k, d)]
theorem putD_rp {κ : Type} [DecidableEq κ] {K : PySem.W.Frag} {F : Hp} {k : κ} {v : V} {d : D} (r : Rp K F v d) {kvs : List (κ × V)} {kds : List (κ × D)} (h1 : kvs.map (·.1) = kds.map (·.1)) (h2 : RpL K F (kvs.map (·.2)) (kds.map (·.2))) :
    (putK kvs k v).map (·.1) = (putD kds k d).map (·.1) ∧ RpL K F ((putK kvs k v).map (·.2)) ((putD kds k d).map (·.2)) := by
  have ha : ∀ (kvs : List (κ × V)) (kds : List (κ × D)), kvs.map (·.1) = kds.map (·.1) → (kvs.any fun kv => decide (kv.1 = k)) = kds.any fun kv => decide (kv.1 = k) := fun kvs kds e => by
    have e1 : (kvs.any fun kv => decide (kv.1 = k)) = (kvs.map (·.1)).any fun z => decide (z = k) := by rw [List.any_map]; rfl
    have e2 : (kds.any fun kv => decide (kv.1 = k)) = (kds.map (·.1)).any fun z => decide (z = k) := by rw [List.any_map]; rfl
    rw [e1, e2, e]
  have hm : ∀ (kvs : List (κ × V)) (kds : List (κ × D)), kvs.map (·.1) = kds.map (·.1) → RpL K F (kvs.map (·.2)) (kds.map (·.2)) →
      (kvs.map (fun kv => if kv.1 = k then (kv.1, v) else kv)).map (·.1) = (kds.map (fun kv => if kv.1 = k then (kv.1, d) else kv)).map (·.1) ∧ RpL K F ((kvs.map (fun kv => if kv.1 = k then (kv.1, v) else kv)).map (·.2)) ((kds.map (fun kv => if kv.1 = k then (kv.1, d) else kv)).map (·.2)) := fun kvs => by
    induction kvs with
    | nil => intro kds e _; cases kds with
      | nil => exact ⟨rfl, .nil⟩
      | cons _ _ => cases e
    | cons p ps ih =>
      intro kds e rr
      cases kds with
      | nil => cases e
      | cons q qs =>
        rw [List.map_cons, List.map_cons] at e
        rw [List.map_cons, List.map_cons] at rr
        obtain ⟨e1, e2⟩ := List.cons.inj e
        cases rr with
        | cons rh rt =>
          obtain ⟨i1, i2⟩ := ih qs e2 rt
          simp only [List.map_cons]
          by_cases c : p.1 = k
          · have c' : q.1 = k := by rw [← e1]; exact c
            rw [if_pos c, if_pos c']
            exact ⟨by rw [i1, e1], .cons r i2⟩
          · have c' : ¬ q.1 = k := by rw [← e1]; exact c
            rw [if_neg c, if_neg c']
            exact ⟨by rw [i1, e1], .cons rh i2⟩
  unfold putK putD
  rw [ha kvs kds h1]
  by_cases c : (kds.any fun kv => decide (kv.1 = k)) = true
  · rw [if_pos c, if_pos c]
    exact hm kvs kds h1 h2
  · rw [if_neg c, if_neg c, List.map_append, List.map_append, List.map_append, List.map_append, h1]
    exact ⟨rfl, h2.append (.cons r .nil)⟩
def wStoreT (i : Nat) (r : WA) (wv : WV) : WS := fun G E ρ => wv G ρ fun d ρ' => (∃ kds, ρ'[i]? = some (some (.od kds))) ∧ r G ρ' fun ds => ∃ (ks : List Key) (kds : List (List Key × D)), ds = ks.map kD ∧ ks.length ≤ sizeLine ∧ ρ'[i]? = some (some (.od kds)) ∧ kds.length < sizeLine ∧ E.nx (ρ'.set i (some (.od (putD kds ks d))))
theorem ownDict {K : PySem.W.Frag} {G : Gc} {H0 F0 F H : Hp} {σ : St} {ρ : En} {i : Nat} (ev : Ev K G H0 F0 F H σ ρ) {kds : List (List Key × D)} (q : ρ[i]? = some (some (.od kds))) : ∃ a kvs, σ[i]? = some (some (.ref a)) ∧ H a = some (.dT kvs) ∧ kvs.map (·.1) = kds.map (·.1) ∧ RpL K F (kvs.map (·.2)) (kds.map (·.2)) ∧ ¬ G.R a := by
  obtain ⟨v, h1, a, vs, rfl, h2, h3, h4, h5⟩ := ev.r.slot i _ q
  exact ⟨a, vs, h1, h2, h3, h4, h5⟩
theorem ds_storeT {kk : Nat} {kpos tpos : Pos} (hv : DV S e wv) (hk : DA S es r) (hN : (S.N[i]? == some x) = true := by kernel_rfl) (hx : (S.names.lookup x == some .local || S.names.lookup x == some .cell || S.names.lookup x == some .free) = true := by kernel_rfl) (hd : (x == ("__debug__" : Str)) = false := by kernel_rfl) (hcd : (x == ("__classdict__" : Str)) = false := by kernel_rfl)
    (ha : ∀ env v, assign (.Subscript (.Name x p) (.Tuple es kk kpos) tpos) env v = (do
      let ov ← holding [v] (eval (.Name x p) env)
      let iv ← holding [v, ov] (eval (.Tuple es kk kpos) env)
      standAt tpos
      holding [v, ov, iv] (setItem ov iv v)
      release [v, ov, iv] []) := by intro _ _; rfl)
    (hs : ∀ env, swapsWithSole [.Subscript (.Name x p) (.Tuple es kk kpos) tpos] e pos.line env = pure false := by intro _; rfl) (hw : ∀ env, swappedStores [.Subscript (.Name x p) (.Tuple es kk kpos) tpos] e env = pure none := by intro _; rfl) (h1 : ∀ env, (assignEach [.Subscript (.Name x p) (.Tuple es kk kpos) tpos] env).map (·.2) = [assign (.Subscript (.Name x p) (.Tuple es kk kpos) tpos) env] := by intro _; rfl) :
    DS S (.Assign [.Subscript (.Name x p) (.Tuple es kk kpos) tpos] e pos) (wStoreT i r wv) := fun X f => by
  refine (ps_asg (hv X f) (pg_sub (pvN f hN hx hd hcd) (pe_tup (hk X f)) (set_dict (by have := f.room.un; omega)) (ha _)) (hs _) (hw _) (h1 _)).imp fun D σ H ⟨G, H0, F0, F, ρ, E, ev, hw, g⟩ => ?_
  refine ⟨G, H0, F0, F, ρ, _, ev, hw, fun v H1 F1 d ρ1 ev1 s1 r1 ⟨⟨kds0, q0⟩, hw2⟩ => ?_⟩
  obtain ⟨a, vs0, hu, h2, _, _, _⟩ := ownDict ev1 q0
  refine ⟨.ref a, hu, G, F1, ρ1, _, ev1.r, hw2, fun us H2 F2 ds s2 e2 fr2 rl ⟨ks, kds, ed, hlen, q, hz, z⟩ => ?_⟩
  subst ed
  have ev2 := ev1.go s2 e2 fr2
  obtain ⟨a', kvs, h1', h3, h4, h5, h6⟩ := ownDict ev2 q
  rw [hu] at h1'
  cases h1'
  have eu := kDs_of rl
  subst eu
  refine ⟨by rw [List.length_map]; exact hlen, fun t ht => ?_⟩
  have ne : a ≠ t := ne_of_none h3 ht
  have hl : kvs.length = kds.length := by
    have := congrArg List.length h4
    simpa using this
  refine ⟨a, _, rfl, DPut.t (kvs := kvs) (k := ks) (by rw [upd_ne ne]; exact h3) upd_same (by rw [hl]; exact hz), ?_⟩
  have ev3 := ev2.live (o := .tup (ks.map kV)) ht
  obtain ⟨p1, p2⟩ := putD_rp (k := ks) (r1.mono (same_upd (ev2.r.fnone ht))) h4 (h5.mono (same_upd (ev2.r.fnone ht)))
  have ev4 := ev3.chgS (sv' := .od (putD kds ks d)) (o := .dT (putK kvs ks v)) q rfl hu ⟨a, putK kvs ks v, rfl, upd_same, p1, p2, h6⟩ h6
  exact g.nx _ _ _ _ ev4 (s1.trans (same_upd (ev2.r.fnone ht))) z
end
end DL
set_option maxHeartbeats 4000000
namespace DL
open PySem PySem.Spec PyProof.Rows L2

/-! ### list(d), the keys are tuples -/
section
variable {K : PySem.W.Frag} {G : Gc} {F H : Hp} {σ : St} {ρ : En}
theorem EvR.seeT : ∀ (bs : List Addr) {F : Hp}, EvR K G F H σ ρ → (∀ b ∈ bs, ∃ xs, H b = some (.tup xs)) → ∃ F', Same F F' ∧ EvR K G F' H σ ρ ∧ ∀ b ∈ bs, F' b = H b
  | [], F, e, _ => ⟨F, Same.refl _, e, fun _ h => by cases h⟩
  | b :: bs, F, e, h => by
    obtain ⟨xs, hb⟩ := h b List.mem_cons_self
    obtain ⟨e1, s1⟩ := e.see hb fun r => G.nt _ _ _ e.wd r hb
    obtain ⟨F', s2, e2, k⟩ := EvR.seeT bs e1 fun c hc => h c (List.mem_cons_of_mem _ hc)
    refine ⟨F', s1.trans s2, e2, fun c hc => ?_⟩
    rcases List.mem_cons.mp hc with e | hc
    · rw [e, s2 _ _ (upd_same (a := b)), hb]
    · exact k c hc
end
def keyT (k : List Key) : D := .tup (k.map kD)
def woListD (i : Nat) : WO := fun _ ρ Q => ∃ kds : List (List Key × D), ρ[i]? = some (some (.od kds)) ∧ Q (.ow (kds.map fun kv => keyT kv.1))
theorem keys_rpl {K : PySem.W.Frag} {F H : Hp} : ∀ {kvs : List (List Key × V)} {bs : List Addr}, IsKeys H kvs bs → (∀ b ∈ bs, F b = H b) → RpL K F (bs.map V.ref) (kvs.map fun kv => keyT kv.1)
  | _, _, .nil, _ => .nil
  | _, _, .cons h t, k => .cons (.tup (SqT.of (by rw [k _ List.mem_cons_self]; exact h)) (kDs_rp _)) (keys_rpl t fun b hb => k b (List.mem_cons_of_mem _ hb))
theorem keys_all {H : Hp} : ∀ {kvs : List (List Key × V)} {bs : List Addr}, IsKeys H kvs bs → ∀ b ∈ bs, ∃ xs, H b = some (.tup xs)
  | _, _, .nil, _, h => by cases h
  | _, _, .cons h t, b, hb => by
    rcases List.mem_cons.mp hb with e | hb
    · rw [e]; exact ⟨_, h⟩
    · exact keys_all t b hb
theorem keys_upd {H : Hp} {p : Addr} {o : HO} (hp : H p = none) : ∀ {kvs : List (List Key × V)} {bs : List Addr}, IsKeys H kvs bs → ∀ b ∈ bs, b ≠ p := fun h b hb e => by
  obtain ⟨xs, q⟩ := keys_all h b hb
  rw [e, hp] at q; cases q
section
variable {S : Sta} {a b e : Expr} {p p2 pos : Pos} {x : Str} {i : Nat} {w wa wb : W}
theorem do_listD (hm : S.mg "list" = none) (hN : (S.N[i]? == some x) = true := by kernel_rfl) (hx : (S.names.lookup x == some .local || S.names.lookup x == some .cell || S.names.lookup x == some .free) = true := by kernel_rfl) (hd : (x == ("__debug__" : Str)) = false := by kernel_rfl) (hcd : (x == ("__classdict__" : Str)) = false := by kernel_rfl)
    (hg : (S.names.lookup ("list" : Str) == some .globalImplicit) = true := by kernel_rfl) (hs : ∀ env, starEach [.Name x p2] env = (false, eval (.Name x p2) env) :: starEach [] env := by intro _; rfl) : DO S (.Call (.Name "list" p) [.Name x p2] [] pos) (woListD i) := fun X f => by
  refine (pe_callTy (call_list_dT f.calm) (glOf f hg) (by rw [f.mg]; exact hm) (by decide +kernel) (pa_cons (pvN f hN hx hd hcd) pa_nil (hs _)) (by decide) (by decide) (hs _) rfl).imp fun σ H Q ⟨G, F, ρ, Qd, ev, ⟨kds, q, hw⟩, hq⟩ => ?_
  obtain ⟨v, h1, a, kvs, rfl, h2, h3, h4, h5⟩ := ev.slot i _ q
  refine ⟨.ref a, h1, a, kvs, rfl, .inl h2, fun t bs ht hk => ?_⟩
  obtain ⟨F', s1, e1, k1⟩ := EvR.seeT bs ev (keys_all hk)
  have em : kds.map (fun kv => keyT kv.1) = kvs.map fun kv => keyT kv.1 := by
    have m1 : (kds.map fun kv => keyT kv.1) = (kds.map (·.1)).map keyT := by rw [List.map_map]; rfl
    have m2 : (kvs.map fun kv => keyT kv.1) = (kvs.map (·.1)).map keyT := by rw [List.map_map]; rfl
    rw [m1, m2, h3]
  rw [em] at hw
  exact e1.newL ht (keys_rpl hk k1) hw fun v H' F2 sv s2 e2 f2 r2 q2 => hq v H' F2 sv (s1.trans s2) e2 f2 r2 q2

/-! ### {k: v} -/
def wDisp1 (k : Key) (w : W) : W := fun G ρ Q => ∀ G', GExt G G' → w G' ρ fun d => Q (.dic [(k, d)])
theorem de_disp1 {k : Key} {kx v : Expr} (hk : ∀ X, Fam S X → PE X kx (tC (kV k))) (h : DE S v w) : DE S (.Dict [some kx] [v] pos) (wDisp1 k w) := fun X f => by
  refine (pe_disp (pps_cons (hk X f) (h X f) pps_nil) rfl rfl (by simp) (by simp)).imp fun σ H Q ⟨G, F, ρ, Qd, ev, hw, hq⟩ p hp => ?_
  have e1 := ev.liveO (o := .dK []) hp
  have nS : ∀ (j : Nat) (sv : SV), ρ[j]? = some (some sv) → isOwn sv = true → σ[j]? ≠ some (some (.ref p)) := fun j sv q ho z => by
    obtain ⟨o, q1, _⟩ := ev.ownAt q ho z
    rw [hp] at q1; cases q1
  have e2 := evr_more e1 upd_same rfl (ev.fnone hp) nS
  refine ⟨G.more p (.dK []), F, ρ, _, e2, hw _ (G.more_ext p _ (ev.nr hp)), fun v H2 F2 d s2 e3 f2 r2 q2 => ?_⟩
  have h2 := e3.wd.2.1
  refine ⟨h2, [(k, v)], rfl, by simp, ?_⟩
  have nF2 := e3.res p (.inr rfl)
  have e4 := evr_less e3
  -- the dict stands for good from here on
  have fr2 : Fr G H H2 := fun b o hb nb => by
    have ne : b ≠ p := ne_of_none hb hp
    exact f2 b o (by rw [upd_ne ne]; exact hb) fun r => r.elim nb ne
  have e5 : EvR S.K G (upd F2 p (.dK [(k, v)])) (upd H2 p (.dK [(k, v)])) σ ρ := by
    refine ⟨fun b x q => ?_, fun b r => ?_, G.st _ _ e4.wd fun b r => upd_ne fun z => ev.nr hp (by rw [← z]; exact r), fun j sv q => ?_, e4.len⟩
    · by_cases hb : b = p
      · subst hb; rw [upd_same] at q ⊢; exact q
      · rw [upd_ne hb] at q ⊢; exact e4.sub _ _ q
    · rw [upd_ne (fun z => ev.nr hp (by rw [← z]; exact r))]; exact e4.res b r
    · obtain ⟨u, h1, h2⟩ := e4.slot j sv q
      refine ⟨u, h1, ?_⟩
      cases sv with
      | fz d => exact Rp.mono (same_upd nF2) h2
      | ow xs =>
        obtain ⟨b, vs, rfl, z1, z2, z3⟩ := h2
        exact ⟨b, vs, rfl, (upd_ne (show b ≠ p from fun z => nS j _ q rfl (by rw [← z]; exact h1))).trans z1, z2.mono (same_upd nF2), z3⟩
      | od kds =>
        obtain ⟨b, vs, rfl, z1, z0, z2, z3⟩ := h2
        exact ⟨b, vs, rfl, (upd_ne (show b ≠ p from fun z => nS j _ q rfl (by rw [← z]; exact h1))).trans z1, z0, z2.mono (same_upd nF2), z3⟩
  have em : mergeK [] [(k, v)] = [(k, v)] := by simp [mergeK, putK]
  rw [em]
  exact hq _ _ _ (.dic [(k, d)]) (s2.trans (same_upd nF2)) e5 (fun b o hb nb => by rw [upd_ne (ne_of_none hb hp)]; exact fr2 b o hb nb) (.dic upd_same (.cons (r2.mono (same_upd nF2)) .nil)) q2

/-! ### x == (), x any tuple -/
def rEq0 (K : PySem.W.Frag) : R2 := fun x y H Q => ∃ a b xs, x = .ref a ∧ y = .ref b ∧ SqT K H a xs ∧ SqT K H b [] ∧ Q (.bl xs.isEmpty) H
theorem op_eq0 {X : Cx} (hu : X.A.units < cLine) : OpR X (compareOp .Eq) (rEq0 X.K) := by
  intro pins s σ H x y v u Q I rx ry ⟨a, b, xs, e1, e2, ha, hb, q⟩
  subst e1 e2
  cases rx
  cases ry
  obtain ⟨its, r1, p1, _⟩ := I.tuple ha
  obtain ⟨its2, r2, p2, _⟩ := I.tuple hb
  cases r2
  refine SeqAt.eq_tupleAt (e := fun _ => true) p1 p2 hu (fun j h1 h2 => absurd h2 (by simp)) ⟨.bl xs.isEmpty, H, I, ?_, q⟩
  show Value.bool _ = Value.bool _
  cases r1 with
  | nil => rfl
  | cons _ _ => simp
def oEq0 : D → D → (D → Prop) → Prop := fun x y Q => ∃ xs, x = .tup xs ∧ y = .tup [] ∧ Q (.bl xs.isEmpty)
theorem cm_eq0 : CmpR S .Eq (rEq0 S.K) oEq0 := ⟨fun X f => f.K ▸ op_eq0 (by have := f.room.un; omega), fun G F σ H ρ v1 d1 v2 d2 Qd Q ev r1 r2 ⟨xs, e1, e2, hQ⟩ hq => by
  subst e1 e2
  obtain ⟨a, vs, rfl, h1, l1⟩ := rp_tupH ev.sub r1
  obtain ⟨b, us, rfl, h2, l2⟩ := rp_tupH ev.sub r2
  cases l2
  have ee : xs.isEmpty = vs.isEmpty := by cases l1 <;> rfl
  rw [ee] at hQ
  exact ⟨a, b, vs, rfl, rfl, h1, h2, hq _ H F _ (Same.refl _) ev Fr.refl (.bl _) hQ⟩⟩
end
end DL
set_option maxHeartbeats 4000000
namespace DL
open PySem PySem.Spec PyProof.Rows L2

/-! ### what the generator writes -/
def wExpr (w : W) : WS := fun G E ρ => w G ρ fun _ => E.nx ρ
section
variable {S : Sta} {a b c d e : Expr} {pos p : Pos} {w wa wb wc wd : W} {wo1 wo2 wo3 : WO} {i j l : Nat} {x y z : Str}
theorem de_nm (hN : (S.N[i]? == some x) = true := by kernel_rfl) (hv : (S.names.lookup x == some .local || S.names.lookup x == some .cell || S.names.lookup x == some .free) = true := by kernel_rfl)
    (hd : (x == ("__debug__" : Str)) = false := by kernel_rfl) (hcd : (x == ("__classdict__" : Str)) = false := by kernel_rfl) : DE S (.Name x p) (wVar i) := by
  refine de_var (beq_iff_eq.mp hN) ?_ hd hcd
  rcases Bool.or_eq_true_iff.mp hv with h | h
  · rcases Bool.or_eq_true_iff.mp h with h | h
    · exact .inl (beq_iff_eq.mp h)
    · exact .inr (.inl (beq_iff_eq.mp h))
  · exact .inr (.inr (beq_iff_eq.mp h))
theorem de_gi {k : Int} (hm : ∃ t, S.mg x = some (.int k t)) (hg : (S.names.lookup x == some .globalImplicit) = true := by kernel_rfl) (hd : (x == ("__debug__" : Str)) = false := by kernel_rfl) : DE S (.Name x p) (wC (.int k)) := de_gint (beq_iff_eq.mp hg) hm hd

/-! ### a < b of tuples of ints -/
def oLtT : D → D → (D → Prop) → Prop := fun x y Q => ∃ ns ms : List Int, x = .tup (ns.map .int) ∧ y = .tup (ms.map .int) ∧ Q (.bl (HT.lexLt ns ms))
theorem cm_ltT : CmpR S .Lt (rLtT S.K) oLtT := ⟨fun X f => f.K ▸ op_ltT (by have := f.room.un; omega), fun G F σ H ρ v1 d1 v2 d2 Qd Q ev r1 r2 ⟨ns, ms, e1, e2, hQ⟩ hq => by
  subst e1 e2
  obtain ⟨a, vs, rfl, h1, l1⟩ := rp_tupH ev.sub r1
  obtain ⟨b, us, rfl, h2, l2⟩ := rp_tupH ev.sub r2
  exact ⟨a, b, ns, ms, rfl, rfl, l1.ints ▸ h1, l2.ints ▸ h2, hq _ H F _ (Same.refl _) ev Fr.refl (.bl _) hQ⟩⟩

/-! ### a op b op c op d -/
variable {op1 op2 op3 : CmpOp} {r1 r2 r3 : R2} {o1 o2 o3 : D → D → (D → Prop) → Prop}
def tChain3 (r1 r2 r3 : R2) (ta tb tc td : TE) : TE := fun σ H Q => ta σ H fun x H1 => tb σ H1 fun y H2 => r1 x y H2 fun z H3 => ∃ k, z = .bl k ∧
  (if k = true then tc σ H3 fun u H4 => r2 y u H4 fun z2 H5 => ∃ k2, z2 = .bl k2 ∧ (if k2 = true then td σ H5 fun v H6 => r3 u v H6 Q else Q (.bl false) H5) else Q (.bl false) H3)
theorem pt_chain3 {X : Cx} {ta tb tc td : TE} (h1 : OpR X (compareOp op1) r1) (h2 : OpR X (compareOp op2) r2) (h3 : OpR X (compareOp op3) r3) (ha : PE X a ta) (hb : PE X b tb) (hc : PE X c tc) (hd : PE X d td)
    (hm : lastMarks [op1, op2, op3] [b, c, d] = false) : PT X (.Compare a [op1, op2, op3] [b, c, d] pos) (tTest (tChain3 r1 r2 r3 ta tb tc td)) := by
  refine ⟨fun pins s σ H Q I h => ?_⟩
  refine isTrue_chain (thn (ha.run pins s σ H _ I h) fun v s1 ⟨x, H1, I1, rx, q1⟩ => test_link (thn (hb.run pins s1 σ H1 _ I1 q1) fun u s2 ⟨y, H2, I2, ry, q2⟩ =>
    thn (h1 pins s2 σ H2 x y v u _ I2 rx ry q2) fun t s3 ⟨z, H3, I3, rz, k, e, q3⟩ => ?_)) hm
  subst e
  cases rz
  refine wpAny_truthy_bool ?_
  cases k with
  | false =>
    obtain ⟨k', e', q'⟩ := q3
    cases e'
    exact ite_ff ⟨H3, I3, q'⟩
  | true =>
    refine ite_tt (test_link (thn (hc.run pins s3 σ H3 _ I3 q3) fun u2 s4 ⟨y2, H4, I4, ry2, q4⟩ => thn (h2 pins s4 σ H4 y y2 u u2 _ I4 ry ry2 q4) fun t2 s5 ⟨z2, H5, I5, rz2, k2, e2, q5⟩ => ?_))
    subst e2
    cases rz2
    refine wpAny_truthy_bool ?_
    cases k2 with
    | false =>
      obtain ⟨k', e', q'⟩ := q5
      cases e'
      exact ite_ff ⟨H5, I5, q'⟩
    | true =>
      refine ite_tt (test_last (thn (hd.run pins s5 σ H5 _ I5 q5) fun u3 s6 ⟨y3, H6, I6, ry3, q6⟩ => thn (h3 pins s6 σ H6 y2 y3 u2 u3 _ I6 ry2 ry3 q6) fun t3 s7 ⟨z3, H7, I7, rz3, k3, e3, q7⟩ => ?_))
      subst e3
      cases rz3
      exact wpAny_truthy_bool ⟨H7, I7, q7⟩
def wChain3 (o1 o2 o3 : D → D → (D → Prop) → Prop) (wa wb wc wd : W) : W := fun G ρ Q => wa G ρ fun x => wb G ρ fun y => o1 x y fun z => ∃ k, z = .bl k ∧ if k = true then wc G ρ fun u => o2 y u fun z2 => ∃ k2, z2 = .bl k2 ∧ if k2 = true then wd G ρ fun v => o3 u v Q else Q (.bl false) else Q (.bl false)
theorem dt_chain3 (h1 : CmpR S op1 r1 o1) (h2 : CmpR S op2 r2 o2) (h3 : CmpR S op3 r3 o3) (ha : DE S a wa) (hb : DE S b wb) (hc : DE S c wc) (hd : DE S d wd) (hm : lastMarks [op1, op2, op3] [b, c, d] = false := by with_unfolding_all rfl) :
    DT S (.Compare a [op1, op2, op3] [b, c, d] pos) (wtV (wChain3 o1 o2 o3 wa wb wc wd)) := fun X f =>
  (pt_chain3 (h1.1 X f) (h2.1 X f) (h3.1 X f) (ha X f) (hb X f) (hc X f) (hd X f) hm).imp fun σ H Q ⟨G, F, ρ, Qd, ev, hw, hq⟩ =>
  ⟨G, F, ρ, _, ev, hw, fun v1 H1 F1 d1 s1 e1 f1 p1 q1 => ⟨G, F1, ρ, _, e1, q1, fun v2 H2 F2 d2 s2 e2 f2 p2 q2 =>
    h1.2 G F2 σ H2 ρ v1 d1 v2 d2 _ _ e2 (p1.mono s2) p2 q2 fun v3 H3 F3 d3 s3 e3 f3 p3 ⟨k, ek, q3⟩ => by
      subst ek
      cases p3
      refine ⟨k, rfl, ?_⟩
      cases k with
      | true =>
        refine iteT ⟨G, F3, ρ, _, e3, (by rw [if_pos rfl] at q3; exact q3), fun v4 H4 F4 d4 s4 e4 f4 p4 q4 => ?_⟩
        refine h2.2 G F4 σ H4 ρ v2 d2 v4 d4 _ _ e4 (p2.mono (s3.trans s4)) p4 q4 fun v5 H5 F5 d5 s5 e5 f5 p5 ⟨k2, ek2, q5⟩ => ?_
        subst ek2
        cases p5
        refine ⟨k2, rfl, ?_⟩
        have S5 := s1.trans (s2.trans (s3.trans (s4.trans s5)))
        have R5 := f1.trans (f2.trans (f3.trans (f4.trans f5)))
        cases k2 with
        | true =>
          refine iteT ⟨G, F5, ρ, _, e5, (by rw [if_pos rfl] at q5; exact q5), fun v6 H6 F6 d6 s6 e6 f6 p6 q6 => ?_⟩
          exact h3.2 G F6 σ H6 ρ v4 d4 v6 d6 _ _ e6 (p4.mono (s5.trans s6)) p6 q6 fun v H' F' d' s7 e7 f7 p7 ⟨k3, ek3, q7⟩ => by
            subst ek3
            cases p7
            exact ⟨k3, rfl, hq k3 H' F' (S5.trans (s6.trans s7)) e7 (R5.trans (f6.trans f7)) q7⟩
        | false =>
          rw [if_neg Bool.false_ne_true] at q5
          obtain ⟨k', e', q'⟩ := q5
          cases e'
          exact iteF ⟨false, rfl, hq false H5 F5 S5 e5 R5 q'⟩
      | false =>
        rw [if_neg Bool.false_ne_true] at q3
        obtain ⟨k', e', q'⟩ := q3
        cases e'
        exact iteF ⟨false, rfl, hq false H3 F3 (s1.trans (s2.trans s3)) e3 (f1.trans (f2.trans f3)) q'⟩⟩⟩

end
end DL
set_option maxHeartbeats 4000000
namespace DL
open PySem PySem.Spec PyProof.Rows L2

/-! ### the stores of names of which some are cells are not exchanged -/
theorem swapN2 {a b : Expr} {x y : Str} {px py pt pt2 : Pos} {kt k2 : Nat} (env : Env) (hk : env.scope.kind = .function) (h : env.scope.names.lookup x = some .cell ∨ env.scope.names.lookup y = some .cell) :
    swappedStores [.Tuple [.Name x px, .Name y py] kt pt] (.Tuple [a, b] k2 pt2) env = pure none := by
  have hb : env.blockKind = .function := by unfold Env.blockKind; rw [hk]; rfl
  have kx : env.kindOf x = env.scope.names.lookup x := rfl
  have ky : env.kindOf y = env.scope.names.lookup y := rfl
  unfold swappedStores
  simp only [hb, kx, ky, List.length_cons, List.length_nil, List.filterMap_cons, List.filterMap_nil]
  rcases h with h | h <;> simp [h] <;> intro _ _ hl <;> exfalso <;> revert hl <;> split <;> simp
theorem swapN3 {a b c : Expr} {x y z : Str} {px py pz pt pt2 : Pos} {kt k2 : Nat} (env : Env) (hk : env.scope.kind = .function) (h : env.scope.names.lookup x = some .cell ∨ env.scope.names.lookup y = some .cell ∨ env.scope.names.lookup z = some .cell) :
    swappedStores [.Tuple [.Name x px, .Name y py, .Name z pz] kt pt] (.Tuple [a, b, c] k2 pt2) env = pure none := by
  have hb : env.blockKind = .function := by unfold Env.blockKind; rw [hk]; rfl
  have kx : env.kindOf x = env.scope.names.lookup x := rfl
  have ky : env.kindOf y = env.scope.names.lookup y := rfl
  have kz : env.kindOf z = env.scope.names.lookup z := rfl
  unfold swappedStores
  simp only [hb, kx, ky, kz, List.length_cons, List.length_nil, List.filterMap_cons, List.filterMap_nil]
  rcases h with h | h | h <;> simp [h] <;> intro _ _ _ hl <;> exfalso <;> revert hl <;> split <;> (try split) <;> simp
/-! ### a, b, c = e1, e2, e3 with names of which some are cells -/
section
variable {S : Sta} {a b c d e : Expr} {pos p : Pos} {w wa wb wc wd : W} {wo1 wo2 wo3 : WO} {i j l : Nat} {x y z : Str}
theorem ds_parT2 {px py pt : Pos} {kt k2 pt2} (h1 : DO S a wo1) (h2 : DO S b wo2) (nd : S.N.Nodup) (hi : (S.N[i]? == some x) = true := by kernel_rfl) (hj : (S.N[j]? == some y) = true := by kernel_rfl) (hij : (i == j) = false := by kernel_rfl)
    (hx : (S.names.lookup x == some .local || (S.names.lookup x == some .cell && S.fc x)) = true := by kernel_rfl) (hy : (S.names.lookup y == some .local || (S.names.lookup y == some .cell && S.fc y)) = true := by kernel_rfl)
    (hcell : (S.names.lookup x == some .cell || S.names.lookup y == some .cell) = true := by kernel_rfl)
    (hs : ∀ env, starEach (a :: [b]) env = (false, eval a env) :: starEach [b] env := by intro _; rfl) (hs2 : ∀ env, starEach (b :: []) env = (false, eval b env) :: starEach [] env := by intro _; rfl)
    (hsw : ∀ env, swapsWithSole [.Tuple [.Name x px, .Name y py] kt pt] (.Tuple [a, b] k2 pt2) pos.line env = pure false := by intro _; rfl)
    (hw : ∀ env : Env, env.scope.kind = .function → env.scope.names.lookup x = some .cell ∨ env.scope.names.lookup y = some .cell → swappedStores [.Tuple [.Name x px, .Name y py] kt pt] (.Tuple [a, b] k2 pt2) env = pure none := by exact swapN2)
    (h1' : ∀ env, (assignEach [.Tuple [.Name x px, .Name y py] kt pt] env).map (·.2) = [assign (.Tuple [.Name x px, .Name y py] kt pt) env] := by intro _; rfl) :
    DS S (.Assign [.Tuple [.Name x px, .Name y py] kt pt] (.Tuple [a, b] k2 pt2) pos) (wPar2 i j wo1 wo2) := fun X f => by
  obtain ⟨lx, lx2⟩ := locOf f hx
  obtain ⟨ly, ly2⟩ := locOf f hy
  have nij : i ≠ j := fun z => by subst z; simp at hij
  have hc' : X.env.scope.names.lookup x = some .cell ∨ X.env.scope.names.lookup y = some .cell := by
    rw [f.look]
    rcases Bool.or_eq_true_iff.mp hcell with h | h
    · exact .inl (beq_iff_eq.mp h)
    · exact .inr (beq_iff_eq.mp h)
  have nd' : X.N.Nodup := by rw [f.N]; exact nd
  have pgx : PG X (.Name x px) (gName i) := pg_name nd' (by rw [f.N]; exact beq_iff_eq.mp hi) lx lx2
  have pgy : PG X (.Name y py) (gName j) := pg_name nd' (by rw [f.N]; exact beq_iff_eq.mp hj) ly ly2
  refine (ps_asg (pe_tup (pa_cons (h1 X f) (pa_cons (h2 X f) pa_nil (hs2 _)) (hs _))) (pg_tup (n := 2) f.calm (pgs_cons pgx (pgs_cons pgy pgs_nil rfl) rfl) rfl rfl) (hsw _) (hw _ f.kind hc') (h1' _)).imp fun D σ H ⟨G, H0, F0, F, ρ, E, ev, ⟨li, lj, hw⟩, g⟩ => ?_
  refine ⟨G, F, ρ, _, ev.r, hw, fun v H1 F1 sv s1 e1 f1 r1 q1 => ?_⟩
  have ns : ∀ (k : Nat) (sx : SV), ρ[k]? = some (some sx) → isOwn sx = true → ∀ a, H a = none → σ[k]? ≠ some (some (.ref a)) := fun k sx q ho a ha => ev.ne ha k sx q ho
  refine ⟨pinO G H1 v sv, F1, ρ, _, pin_evr r1 ns e1, q1 _ (pin_ext r1), fun u H2 F2 sw s2 e2 f2 r2 q2 => ?_⟩
  obtain ⟨e2', f2', nF⟩ := pin_less r1 e2 f2
  have r2' : RpO S.K G F2 H1 H2 u sw := rpo_unpin (pin_ext r1) r2
  obtain ⟨F3, ev3, s3⟩ := ev.put2 (s1.trans s2) e2' (f1.trans f2') li lj nij (rpo_keep r1 s2 f2' nF) (r2'.back f1) (fun o1 o2 z => by
    obtain ⟨b1, o1', eb1, q1, _, _, _⟩ := rpo_ref r1 o1
    obtain ⟨b2, o2', eb2, _, _, q3, _⟩ := rpo_ref r2' o2
    rw [z, eb2] at eb1
    cases eb1
    rw [q1] at q3; cases q3)
  refine ⟨by show 2 ≤ sizeLine; decide, fun t ht => ⟨t, [v, u], rfl, SqT.of upd_same, rfl, v, [u], rfl, u, [], rfl, rfl, ?_⟩⟩
  exact g.nx _ _ F3 _ (ev3.go (Same.refl _) (ev3.r.liveO ht) (Fr.upd ht)) s3 q2
theorem ds_parT3 {px py pz pt : Pos} {kt k2 pt2} (h1 : DO S a wo1) (h2 : DO S b wo2) (h3 : DO S c wo3) (nd : S.N.Nodup) (hi : (S.N[i]? == some x) = true := by kernel_rfl) (hj : (S.N[j]? == some y) = true := by kernel_rfl) (hl : (S.N[l]? == some z) = true := by kernel_rfl) (hij : (i == j || i == l || j == l) = false := by kernel_rfl)
    (hx : (S.names.lookup x == some .local || (S.names.lookup x == some .cell && S.fc x)) = true := by kernel_rfl) (hy : (S.names.lookup y == some .local || (S.names.lookup y == some .cell && S.fc y)) = true := by kernel_rfl) (hz : (S.names.lookup z == some .local || (S.names.lookup z == some .cell && S.fc z)) = true := by kernel_rfl)
    (hcell : (S.names.lookup x == some .cell || S.names.lookup y == some .cell || S.names.lookup z == some .cell) = true := by kernel_rfl)
    (hs : ∀ env, starEach (a :: [b, c]) env = (false, eval a env) :: starEach [b, c] env := by intro _; rfl) (hs2 : ∀ env, starEach (b :: [c]) env = (false, eval b env) :: starEach [c] env := by intro _; rfl) (hs3 : ∀ env, starEach (c :: []) env = (false, eval c env) :: starEach [] env := by intro _; rfl)
    (hsw : ∀ env, swapsWithSole [.Tuple [.Name x px, .Name y py, .Name z pz] kt pt] (.Tuple [a, b, c] k2 pt2) pos.line env = pure false := by intro _; rfl)
    (hw : ∀ env : Env, env.scope.kind = .function → env.scope.names.lookup x = some .cell ∨ env.scope.names.lookup y = some .cell ∨ env.scope.names.lookup z = some .cell → swappedStores [.Tuple [.Name x px, .Name y py, .Name z pz] kt pt] (.Tuple [a, b, c] k2 pt2) env = pure none := by exact swapN3)
    (h1' : ∀ env, (assignEach [.Tuple [.Name x px, .Name y py, .Name z pz] kt pt] env).map (·.2) = [assign (.Tuple [.Name x px, .Name y py, .Name z pz] kt pt) env] := by intro _; rfl) :
    DS S (.Assign [.Tuple [.Name x px, .Name y py, .Name z pz] kt pt] (.Tuple [a, b, c] k2 pt2) pos) (wPar3 i j l wo1 wo2 wo3) := fun X f => by
  obtain ⟨lx, lx2⟩ := locOf f hx
  obtain ⟨ly, ly2⟩ := locOf f hy
  obtain ⟨lz, lz2⟩ := locOf f hz
  have hc' : X.env.scope.names.lookup x = some .cell ∨ X.env.scope.names.lookup y = some .cell ∨ X.env.scope.names.lookup z = some .cell := by
    rw [f.look]
    rcases Bool.or_eq_true_iff.mp hcell with h | h
    · rcases Bool.or_eq_true_iff.mp h with h | h
      · exact .inl (beq_iff_eq.mp h)
      · exact .inr (.inl (beq_iff_eq.mp h))
    · exact .inr (.inr (beq_iff_eq.mp h))
  have nd' : X.N.Nodup := by rw [f.N]; exact nd
  have pgx : PG X (.Name x px) (gName i) := pg_name nd' (by rw [f.N]; exact beq_iff_eq.mp hi) lx lx2
  have pgy : PG X (.Name y py) (gName j) := pg_name nd' (by rw [f.N]; exact beq_iff_eq.mp hj) ly ly2
  have pgz : PG X (.Name z pz) (gName l) := pg_name nd' (by rw [f.N]; exact beq_iff_eq.mp hl) lz lz2
  refine (ps_asg (pe_tup (pa_cons (h1 X f) (pa_cons (h2 X f) (pa_cons (h3 X f) pa_nil (hs3 _)) (hs2 _)) (hs _))) (pg_tup (n := 3) f.calm (pgs_cons pgx (pgs_cons pgy (pgs_cons pgz pgs_nil rfl) rfl) rfl) rfl rfl) (hsw _) (hw _ f.kind hc') (h1' _)).imp fun D σ H ⟨G, H0, F0, F, ρ, E, ev, ⟨li, lj, ll, hw⟩, g⟩ => ?_
  refine ⟨G, F, ρ, _, ev.r, hw, fun v H1 F1 sv s1 e1 f1 r1 q1 => ?_⟩
  have ns : ∀ (k : Nat) (sx : SV), ρ[k]? = some (some sx) → isOwn sx = true → ∀ a, H a = none → σ[k]? ≠ some (some (.ref a)) := fun k sx q ho a ha => ev.ne ha k sx q ho
  have p1 := pin_evr r1 ns e1
  have ns1 : ∀ (k : Nat) (sx : SV), ρ[k]? = some (some sx) → isOwn sx = true → ∀ a, H1 a = none → σ[k]? ≠ some (some (.ref a)) := fun k sx q ho a ha hz => by
    obtain ⟨o, q1, _⟩ := e1.ownAt q ho hz
    rw [ha] at q1; cases q1
  refine ⟨pinO G H1 v sv, F1, ρ, _, p1, q1 _ (pin_ext r1), fun u H2 F2 sw s2 e2 f2 r2 q2 => ?_⟩
  have p2 := pin_evr r2 ns1 e2
  refine ⟨pinO (pinO G H1 v sv) H2 u sw, F2, ρ, _, p2, q2 _ (pin_ext r2), fun t H3 F3 sx s3 e3 f3 r3 q3 => ?_⟩
  obtain ⟨e3', f3', nF2⟩ := pin_less r2 e3 f3
  have r3' : RpO S.K (pinO G H1 v sv) F3 H2 H3 t sx := rpo_unpin (pin_ext r2) r3
  obtain ⟨e3g, f13, nF1⟩ := pin_less r1 e3' (f2.trans f3')
  obtain ⟨e2g, f12, _⟩ := pin_less r1 e2 f2
  have f23 : Fr G H2 H3 := pin_fr r1 e2 e3' f3'
  have R1 : RpO S.K G F3 H H3 v sv := rpo_keep r1 (s2.trans s3) f13 nF1
  have R2 : RpO S.K G F3 H1 H3 u sw := rpo_keep (rpo_unpin (pin_ext r1) r2) s3 f23 nF2
  have R3 : RpO S.K G F3 H2 H3 t sx := rpo_unpin (pin_ext r1) r3'
  have n12 : isOwn sv = true → isOwn sw = true → v ≠ u := fun o1 o2 z => by
    obtain ⟨b1, o1', eb1, q1, _, _, _⟩ := rpo_ref r1 o1
    obtain ⟨b2, o2', eb2, _, _, q3, _⟩ := rpo_ref R2 o2
    rw [z, eb2] at eb1
    cases eb1
    rw [q1] at q3; cases q3
  have n13 : isOwn sv = true → isOwn sx = true → v ≠ t := fun o1 o2 z => by
    obtain ⟨b1, o1', eb1, q1, n1, _, _⟩ := rpo_ref r1 o1
    obtain ⟨b2, o2', eb2, _, _, q3, _⟩ := rpo_ref R3 o2
    rw [z, eb2] at eb1
    cases eb1
    have := f12 _ _ q1 n1
    rw [this] at q3; cases q3
  have n23 : isOwn sw = true → isOwn sx = true → u ≠ t := fun o1 o2 z => by
    obtain ⟨b1, o1', eb1, q1, n1, _, _⟩ := rpo_ref r2 o1
    obtain ⟨b2, o2', eb2, _, _, q3, _⟩ := rpo_ref R3 o2
    rw [z, eb2] at eb1
    cases eb1
    rw [q1] at q3; cases q3
  obtain ⟨F4, ev4, s4⟩ := ev.put3 (s1.trans (s2.trans s3)) e3g (f1.trans (f12.trans f23)) li lj ll R1 (R2.back f1) (R3.back (f1.trans f12)) n12 n13 n23
  refine ⟨by show 3 ≤ sizeLine; decide, fun t' ht => ⟨t', [v, u, t], rfl, SqT.of upd_same, rfl, v, [u, t], rfl, u, [t], rfl, t, [], rfl, rfl, ?_⟩⟩
  exact g.nx _ _ F4 _ (ev4.go (Same.refl _) (ev4.r.liveO ht) (Fr.upd ht)) s4 q3
end
end DL
set_option maxHeartbeats 4000000
namespace DL
open PySem PySem.Spec PyProof.Rows L2

/-! ### x = [..], x a cell -/
section
variable {S : Sta} {elt tg iter : Expr} {ifs : List Expr} {scope : Scope} {own : List (Str × Nat)} {pos : Pos} {wi : WA} {wg : WG} {wt : WT} {we : W} {is : List Nat}
theorem ds_setLcC {wo : WO} {i : Nat} {y : Str} {py spos : Pos} (he : DO S (.ListComp elt [⟨tg, iter, ifs, 0⟩] scope pos) wo) (nd : S.N.Nodup)
    (hN : (S.N[i]? == some y) = true := by kernel_rfl) (hl : (S.names.lookup y == some .cell && S.fc y) = true := by kernel_rfl) : DS S (.Assign [.Name y py] (.ListComp elt [⟨tg, iter, ifs, 0⟩] scope pos) spos) (wSet i wo) := fun X f => by
  have hl' : (S.names.lookup y == some .local || (S.names.lookup y == some .cell && S.fc y)) = true := by rw [hl, Bool.or_true]
  obtain ⟨h1, h2⟩ := locOf f hl'
  have hc : X.env.scope.names.lookup y = some .cell := by rw [f.look]; exact beq_iff_eq.mp (Bool.and_eq_true_iff.mp hl).1
  have hs : swapsWith (.ListComp elt [⟨tg, iter, ifs, 0⟩] scope pos) (some (.Name y py)) spos.line X.env = pure false := by
    have ky : X.env.kindOf y = some .cell := hc
    unfold swapsWith
    simp [ky, show (NameKind.cell == NameKind.local) = false from rfl]
  refine (ps_set (i := i) (by rw [f.N]; exact nd) (by rw [f.N]; exact beq_iff_eq.mp hN) h1 (he X f) hs h2).imp fun D σ H ⟨G, H0, F0, F, ρ, E, ev, ⟨hi, hw⟩, g⟩ => ?_
  refine ⟨G, F, ρ, _, ev.r, hw, fun v H' F' sv s e' fr r q => ?_⟩
  obtain ⟨F2, ev2, s2⟩ := ev.put s e' fr hi r
  exact g.nx _ H' F2 _ ev2 s2 q
end
end DL
set_option maxHeartbeats 4000000
namespace DL
open PySem PySem.Spec PyProof.Rows L2

/-! ### the deck of a law: a dict of a list of ints and two ints -/
def DeckAt (da ca : Addr) (H : Hp) : Prop := ∃ (m t : Int) (cs : List Int), cs.length < 100 ∧ H da = some (.dK [(.inr "cells", .ref ca), (.inr "mixed", .int m), (.inr "turn", .int t)]) ∧ H ca = some (.lst (cs.map V.int))
structure DeckIn (G : Gc) (da ca : Addr) : Prop where
  r1 : G.R da
  r2 : G.R ca
  at_ : ∀ H, G.Wd H → DeckAt da ca H
  st : ∀ H H', G.Wd H → DeckAt da ca H' → (∀ a, G.R a → a ≠ da → a ≠ ca → H' a = H a) → G.Wd H'
def IsDeck (G : Gc) (da : Addr) : Prop := ∃ ca, DeckIn G da ca
theorem IsDeck.ext {G G' : Gc} {da : Addr} (h : IsDeck G da) (e : GExt G G') : IsDeck G' da := by
  obtain ⟨ca, h⟩ := h
  refine ⟨ca, e.R _ h.r1, e.R _ h.r2, fun H w => h.at_ H (e.wd H w), fun H H' w d k => ?_⟩
  have w1 := h.st H H' (e.wd H w) d fun a r n1 n2 => k a (e.R a r) n1 n2
  exact e.st H H' w w1 fun a r n => k a r (fun z => n (z ▸ h.r1)) (fun z => n (z ▸ h.r2))
/-- below another number, drawn -/
def s_draw : FS := fun G ds Q => ∃ (da : Addr) (n : Int), ds = [.ob da, .int n] ∧ IsDeck G da ∧ 0 < n ∧ n < 1073741824 ∧ ∀ k : Int, 0 ≤ k → k < n → Q (.fz (.int k))

def dkV (a b c : V) : List (Key × V) := [(.inr "cells", a), (.inr "mixed", b), (.inr "turn", c)]
theorem dk_cells (a b c : V) : valV (dkV a b c) (.inr "cells") = some a := by first | rfl | kernel_rfl
theorem dk_mixed (a b c : V) : valV (dkV a b c) (.inr "mixed") = some b := by first | rfl | kernel_rfl
theorem dk_turn (a b c : V) : valV (dkV a b c) (.inr "turn") = some c := by first | rfl | kernel_rfl
theorem dk_put (a b c d : V) : putK (dkV a b c) (.inr "turn") d = dkV a b d := by first | rfl | kernel_rfl
/-- the deck's state within a draw; H the heap at its entry -/
structure DkAt (H H' : Hp) (da ca : Addr) (m t : Int) (cs : List Int) : Prop where
  d : H' da = some (.dK (dkV (.ref ca) (.int m) (.int t)))
  c : H' ca = some (.lst (cs.map V.int))
  fr : ∀ b o, b ≠ da → b ≠ ca → H b = some o → H' b = some o
section
variable {H H' : Hp} {da ca : Addr} {m t : Int} {cs : List Int}
theorem DkAt.ne (J : DkAt H H' da ca m t cs) : da ≠ ca := fun e => by
  have h := J.c
  rw [← e, J.d] at h
  cases h
theorem DkAt.turn (J : DkAt H H' da ca m t cs) : DGet H' da (.str "turn") (some (.int t)) := by
  have h := DGet.k (k := (.inr "turn" : Key)) J.d
  rw [dk_turn] at h
  exact h
theorem DkAt.mixed (J : DkAt H H' da ca m t cs) : DGet H' da (.str "mixed") (some (.int m)) := by
  have h := DGet.k (k := (.inr "mixed" : Key)) J.d
  rw [dk_mixed] at h
  exact h
theorem DkAt.cells (J : DkAt H H' da ca m t cs) : DGet H' da (.str "cells") (some (.ref ca)) := by
  have h := DGet.k (k := (.inr "cells" : Key)) J.d
  rw [dk_cells] at h
  exact h
theorem DkAt.put (J : DkAt H H' da ca m t cs) (v : V) : DPut H' da (.str "turn") v (upd H' da (.dK (dkV (.ref ca) (.int m) v))) := by
  have h := DPut.k (v := v) (k := (.inr "turn" : Key)) J.d (by rw [sizeLine_eq]; show 3 < 16777216; decide)
  rw [dk_put] at h
  exact h
theorem DkAt.after (J : DkAt H H' da ca m t cs) (t' : Int) : DkAt H (upd H' da (.dK (dkV (.ref ca) (.int m) (.int t')))) da ca m t' cs :=
  ⟨upd_same, by rw [upd_ne J.ne.symm]; exact J.c, fun b o h1 h2 h => by rw [upd_ne h1]; exact J.fr b o h1 h2 h⟩
theorem DkAt.new (J : DkAt H H' da ca m t cs) {p : Addr} {o : HO} (h : H' p = none) : DkAt H (upd H' p o) da ca m t cs :=
  ⟨by rw [upd_ne (ne_of_none J.d h)]; exact J.d, by rw [upd_ne (ne_of_none J.c h)]; exact J.c, fun b o h1 h2 hb => by rw [upd_ne (ne_of_none (J.fr b o h1 h2 hb) h)]; exact J.fr b o h1 h2 hb⟩
theorem DkAt.set (J : DkAt H H' da ca m t cs) (cs' : List Int) {vs : List V} (e : vs = cs'.map V.int) : DkAt H (upd H' ca (.lst vs)) da ca m t cs' :=
  ⟨by rw [upd_ne J.ne]; exact J.d, by rw [upd_same, e], fun b o h1 h2 h => by rw [upd_ne h2]; exact J.fr b o h1 h2 h⟩
theorem dp_ints {K : PySem.W.Frag} : ∀ ns : List Int, DpAll K H (ns.map V.int) (ns.map .int)
  | [] => .nil
  | n :: ns => .cons (.int n) (dp_ints ns)
theorem shaped_ints (ns : List Int) : SeqAt.shaped (.list (ns.map .int)) = true := by
  have h1 : ∀ ns : List Int, PyData.canLayAll0 (ns.map .int) = true := fun ns => by
    induction ns with
    | nil => simp [PyData.canLayAll0]
    | cons n ns ih => simp only [List.map_cons, PyData.canLayAll0, PyData.canLay0, ih, Bool.and_self]
  have h2 : PyData.depthAll (ns.map .int) = 0 := PySem.W.depth_ints ns
  unfold SeqAt.shaped
  simp [PyData.canLay0, h1, PyData.depth, h2]
theorem DkAt.fin (J : DkAt H H' da ca m t cs) {K : PySem.W.Frag} {G : Gc} {F : Hp} {Qd : SV → Prop} {Q : VK} (dk : DeckIn G da ca) (hl : cs.length < 100) (sF : Same F H) (sR : ∀ a, G.R a → F a = none) (sW : G.Wd H) {k : Int} (hq : Qd (.fz (.int k)))
    (g : ∀ v H' F' sv, Same F F' → Same F' H' → (∀ a, G.R a → F' a = none) → DL.Fr G H H' → G.Wd H' → RpO K G F' H H' v sv → Qd sv → Q v H') : Q (.int k) H' := by
  have out : ∀ b, ¬ G.R b → b ≠ da ∧ b ≠ ca := fun b nb => ⟨fun e => nb (e ▸ dk.r1), fun e => nb (e ▸ dk.r2)⟩
  refine g (.int k) H' F (.fz (.int k)) (Same.refl _) (fun a o h => ?_) sR (fun b o h nb => J.fr b o (out b nb).1 (out b nb).2 h) (dk.st H H' sW ⟨m, t, cs, hl, J.d, J.c⟩ fun a r n1 n2 => ?_) (Rp.int k) hq
  · have nr : ¬ G.R a := fun r => by rw [sR a r] at h; cases h
    exact J.fr a o (out a nr).1 (out a nr).2 (sF a o h)
  · cases e : H a with
    | none => exact absurd e (G.live H a sW r)
    | some o => exact J.fr a o n1 n2 e
end
/-- a def by its walk in the hand layer -/
theorem kn_raw {B : Bs} {x : Str} {st : Stmt} {ps N : List Str} {sp : FS} {k : Nat} {f : Addr} {fd : FuncData} (F : FunD B.K x x (defArgs st) (defBody st) (defScope st) [] [] f fd) (sc : FnScope N ps (defScope st)) (hm : B.mg x = some (.ref f)) (hb : Binds B.K fd ps [])
    (len : ∀ G ds Q, sp G ds Q → ds.length = ps.length)
    (body : ∀ X, Fam { B with N := N, names := (defScope st).names, k := k, fc := fun _ => true } X → ∀ vs H Q E, spV B.K sp vs H Q E → ∃ t, PSs X (defBody st) t ∧ t { nx := fun _ H' => Q .non H', rt := Q } (L2.start N vs) H) : Kn B (k + 1) x st ps sp := by
  refine ⟨f, fd, F.ok sc (fun vs H Q E h => ?_) (fun cdv A outer s H vs Q E hr h => ?_), hm, F, hb⟩
  · obtain ⟨G, F, ds, Qd, s1, s2, s3, r, h, _⟩ := h
    rw [r.len]
    exact len G ds Qd h
  · obtain ⟨t, h1, h2⟩ := body (Cx.nox (cxOf CX0 B.P B.w B.K B.mg B.base N x (defScope st) f cdv A outer s H E)) ⟨rfl, rfl, rfl, rfl, rfl, rfl, rfl, rfl, hr, rfl, fun _ _ => rfl, sc.kind⟩ vs H Q E h
    exact ⟨t, PSs.nox h1, h2⟩
end DL
set_option maxHeartbeats 4000000
namespace DL
open PySem PySem.Spec PyProof.Rows L2

/-! ### the script -/
/-- what a caller keeps who looks at the script at a -/
theorem script_gc {K : PySem.W.Frag} {H : Hp} {a : Addr} {vs : List V} (h : SqL K H a vs) : ∃ G : Gc, G.Wd H ∧ (∀ b H', G.R b → G.Wd H' → H' b = H b) ∧ ∀ H', G.Wd H' → SqL K H' a vs := by
  have one : ∀ u : HO, (∀ xs, u ≠ .tup xs) → H a = some u → ∃ G : Gc, G.Wd H ∧ (∀ b H', G.R b → G.Wd H' → H' b = H b) ∧ ∀ H', G.Wd H' → H' a = some u := fun u hu h =>
    ⟨{ R := fun b => b = a, Wd := fun H' => H' a = some u, live := fun H' b w (r : b = a) => (by rw [r, w]; exact fun z => nomatch z), nt := fun H' b xs w (r : b = a) => (by rw [r, w]; exact fun z => hu xs (Option.some.inj z)), st := fun H' H2 w k => (by rw [k a rfl]; exact w) }, h, fun b H' (r : b = a) w => (by rw [r, w, h]), fun H' w => w⟩
  rcases h with (h | ⟨o, h⟩) | h
  · obtain ⟨G, h1, h2, h3⟩ := one _ (fun xs z => by cases z) h
    exact ⟨G, h1, h2, fun H' w => .inl (.inl (h3 H' w))⟩
  · obtain ⟨G, h1, h2, h3⟩ := one _ (fun xs z => by cases z) h
    exact ⟨G, h1, h2, fun H' w => .inl (.inr ⟨o, h3 H' w⟩)⟩
  · exact ⟨{ R := fun _ => False, Wd := fun _ => True, live := fun _ _ _ r => r.elim, nt := fun _ _ _ _ r => r.elim, st := fun _ _ _ _ => True.intro }, True.intro, fun _ _ r => r.elim, fun H' _ => .inr h⟩
def noHp : Hp := fun _ => none
theorem noHp_same {H : Hp} : Same noHp H := fun _ _ h => by cases h
theorem immL_ints : ∀ ns : List Int, immL (ns.map D.int) = true
  | [] => rfl
  | n :: ns => by show (imm (.int n) && immL (ns.map D.int)) = true; rw [immL_ints ns]; rfl
def cutI (ns : List Int) (lo hi : Option Int) : List Int := (ns.drop (HT.sIx ns.length 0 lo)).take (HT.sIx ns.length ns.length hi - HT.sIx ns.length 0 lo)
theorem cutD_ints (ns : List Int) (lo hi : Option Int) : cutD (ns.map D.int) lo hi = (cutI ns lo hi).map D.int := by
  unfold cutD cutI
  rw [List.length_map, List.map_take, List.map_drop]
theorem cutI_len (ns : List Int) (lo hi : Option Int) : (cutI ns lo hi).length ≤ ns.length := by
  unfold cutI
  rw [List.length_take, List.length_drop]
  omega
/-- script[:m] -/
def woScr (K : PySem.W.Frag) (i : Nat) (m : Int) : WO := fun G ρ Q => ∃ (a : Addr) (ns : List Int), ρ[i]? = some (some (.fz (.ob a))) ∧ (∀ H, G.Wd H → SqL K H a (ns.map V.int)) ∧ Q (.ow (cutD (ns.map .int) none (some m)))
section
variable {S : Sta} {x : Str} {i : Nat} {m : Int} {j : Nat} {p p2 p3 pos : Pos}
theorem do_scr (hN : (S.N[i]? == some x) = true := by kernel_rfl) (hx : (S.names.lookup x == some .local || S.names.lookup x == some .cell || S.names.lookup x == some .free) = true := by kernel_rfl) (hd : (x == ("__debug__" : Str)) = false := by kernel_rfl) (hcd : (x == ("__classdict__" : Str)) = false := by kernel_rfl) :
    DO S (.Subscript (.Name x p) (.Slice none (some (.Constant (.int m) j p2)) none p3) pos) (woScr S.K i m) := fun X f => (pe_slice sl_list (pvN f hN hx hd hcd) po_none (po_some pe_int)).imp fun σ H Q ⟨G, F, ρ, Qd, ev, ⟨a, ns, q, hs, hw⟩, hq⟩ => by
  obtain ⟨v, h1, h2⟩ := ev.slot i _ q
  cases h2
  refine ⟨.ref a, h1, m, rfl, a, ns.map V.int, rfl, by rw [f.K]; exact hs H ev.wd, fun p hp => ?_⟩
  exact ev.newL hp (rpl_cut RpL.of_ints none (some m)) hw hq
end
/-- the call of a law's own maker of its deck: the deck is at a new address -/
def spDeck (K : PySem.W.Frag) : Sp := fun vs H Q _ => ∃ (a : Addr) (ns : List Int), vs = [.ref a] ∧ ns.length ≤ 63 ∧ SqL K H a (ns.map V.int) ∧ ∀ (da ca : Addr) (H' : Hp), H da = none → H ca = none → (∀ b o, H b = some o → H' b = some o) → DeckAt da ca H' → Q (.ref da) H'
end DL
set_option maxHeartbeats 4000000
namespace DL
open PySem PySem.Spec PyProof.Rows L2

/-! ### x = _law_deck(script): from there on the deck is the caller's own -/
def deckGc (G : Gc) (da ca : Addr) : Gc where
  R := fun b => G.R b ∨ b = da ∨ b = ca
  Wd := fun H => G.Wd H ∧ DeckAt da ca H
  live := fun H b ⟨w, m, t, cs, _, h1, h2⟩ r => by
    rcases r with r | r | r
    · exact G.live H b w r
    · rw [r, h1]; exact fun z => nomatch z
    · rw [r, h2]; exact fun z => nomatch z
  nt := fun H b xs ⟨w, m, t, cs, _, h1, h2⟩ r => by
    rcases r with r | r | r
    · exact G.nt H b xs w r
    · rw [r, h1]; intro z; cases z
    · rw [r, h2]; intro z; cases z
  st := fun H H' ⟨w, m, t, cs, hl, h1, h2⟩ k => ⟨G.st H H' w fun a r => k a (.inl r), m, t, cs, hl, by rw [k da (.inr (.inl rfl))]; exact h1, by rw [k ca (.inr (.inr rfl))]; exact h2⟩
theorem deckGc_ext {G : Gc} {da ca : Addr} (n1 : ¬ G.R da) (n2 : ¬ G.R ca) : GExt G (deckGc G da ca) := ⟨fun _ r => .inl r, fun _ w => w.1, fun H H' ⟨w, m, t, cs, hl, h1, h2⟩ w' k => ⟨w', m, t, cs, hl, by rw [k da (.inr (.inl rfl)) n1]; exact h1, by rw [k ca (.inr (.inr rfl)) n2]; exact h2⟩⟩
theorem deckGc_in {G : Gc} {da ca : Addr} (n1 : ¬ G.R da) (n2 : ¬ G.R ca) : DeckIn (deckGc G da ca) da ca := ⟨.inr (.inl rfl), .inr (.inr rfl), fun _ w => w.2, fun H H' w d k => ⟨G.st H H' w.1 fun a r => k a (.inl r) (fun z => n1 (z ▸ r)) (fun z => n2 (z ▸ r)), d⟩⟩
section
variable {K : PySem.W.Frag} {G G' : Gc} {H0 F0 F H H' : Hp} {σ : St} {ρ : En}
theorem rpo_out {F' H1 : Hp} {v : V} {sv : SV} (hx : GExt G G') (h : RpO K G' F' H0 H1 v sv) : RpO K G F' H0 H1 v sv := by
  cases sv with
  | fz d => exact h
  | ow xs => obtain ⟨a, vs, rfl, h1, h2, h3, h4⟩ := h; exact ⟨a, vs, rfl, h1, h2, fun r => h3 (hx.R a r), h4⟩
  | od kds => obtain ⟨a, vs, rfl, h1, h0, h2, h3, h4⟩ := h; exact ⟨a, vs, rfl, h1, h0, h2, fun r => h3 (hx.R a r), h4⟩
theorem fr_out (hx : GExt G G') (n : ∀ b, G'.R b → ¬ G.R b → H0 b = none) (f : Fr G' H0 H') : Fr G H0 H' := fun b o hb nb => f b o hb fun r => by
  rw [n b r nb] at hb; cases hb
theorem Ev.out (hx : GExt G G') (n : ∀ b, G'.R b → ¬ G.R b → H0 b = none) (e : Ev K G' H0 F0 F H σ ρ) : Ev K G H0 F0 F H σ ρ where
  r := ⟨e.r.sub, fun a r => e.r.res a (hx.R a r), hx.wd _ e.r.wd, fun i sv q => by
    obtain ⟨v, h1, h2⟩ := e.r.slot i sv q
    refine ⟨v, h1, ?_⟩
    cases sv with
    | fz d => exact h2
    | ow xs => obtain ⟨a, vs, rfl, z1, z2, z3⟩ := h2; exact ⟨a, vs, rfl, z1, z2, fun r => z3 (hx.R a r)⟩
    | od kds => obtain ⟨a, vs, rfl, z1, z0, z2, z3⟩ := h2; exact ⟨a, vs, rfl, z1, z0, z2, fun r => z3 (hx.R a r)⟩, e.r.len⟩
  f0 := e.f0
  fr := fr_out hx n e.fr
  own := e.own
  apart := e.apart
end
def wDeckS (K : PySem.W.Frag) (i j : Nat) (b : WS) : WS := fun G E ρ => i < ρ.length ∧ (∀ (k : Nat) (sv : SV), ρ[k]? = some (some sv) → isOwn sv = false) ∧ (∃ (a : Addr) (ns : List Int), ρ[j]? = some (some (.fz (.ob a))) ∧ ns.length ≤ 63 ∧ ∀ H, G.Wd H → SqL K H a (ns.map V.int)) ∧
  ∀ (da : Addr) (G' : Gc), GExt G G' → IsDeck G' da → b G' E (ρ.set i (some (.fz (.ob da))))
theorem dss_deck {S : Sta} {kd i j : Nat} {x y z : Str} {f : Addr} {fd : FuncData} {P : List Str} {px p py pos pos2 : Pos} {rest : List Stmt} {b : WS} (F : FnOk S.P S.w S.K S.mg S.base CX0 kd f fd P (spDeck S.K)) (hm : S.mg z = some (.ref f)) (hkp : PySem.W.keepIn S.K (.ref f) = true) (hb : Binds S.K fd P []) (hk : kd ≤ S.k) (hr : DSs S rest b) (nd : S.N.Nodup)
    (hN : (S.N[i]? == some x) = true := by kernel_rfl) (hl : (S.names.lookup x == some .local || (S.names.lookup x == some .cell && S.fc x)) = true := by kernel_rfl)
    (hNy : (S.N[j]? == some y) = true := by kernel_rfl) (hy : (S.names.lookup y == some .local || S.names.lookup y == some .cell || S.names.lookup y == some .free) = true := by kernel_rfl) (hyd : (y == ("__debug__" : Str)) = false := by kernel_rfl) (hycd : (y == ("__classdict__" : Str)) = false := by kernel_rfl)
    (hg : (S.names.lookup z == some .globalImplicit) = true := by kernel_rfl) (hdb : (z == ("__debug__" : Str)) = false := by kernel_rfl)
    (hs : ∀ env, swapsWith (.Call (.Name z p) [.Name y py] [] pos) (some (.Name x px)) pos2.line env = pure false := by intro _; rfl) (he : ∀ env, starEach [.Name y py] env = (false, eval (.Name y py) env) :: starEach [] env := by intro _; rfl) (hpl : ∀ env, (backTo pos (starEach [] env)).any (·.1) = false := by intro _; rfl) :
    DSs S (.Assign [.Name x px] (.Call (.Name z p) [.Name y py] [] pos) pos2 :: rest) (wDeckS S.K i j b) := fun X f' => by
  obtain ⟨h1, h2⟩ := locOf f' hl
  rw [← f'.P, ← f'.w, ← f'.K, ← f'.mg, ← f'.base] at F
  have pc := pe_call (p := p) (pos := pos) F (f'.room.mono hk) (glOf f' hg) (by rw [f'.mg]; exact hm) (by rw [f'.K]; exact hkp) (by rw [f'.K]; exact hb) (dvs := []) .nil pass0 (pa_cons (pvN f' hNy hy hyd hycd) pa_nil (he _)) hdb (he _) (hpl X.env)
  refine (pss_cons (ps_set (i := i) (by rw [f'.N]; exact nd) (by rw [f'.N]; exact beq_iff_eq.mp hN) h1 pc (hs _) h2) (hr X f')).imp fun D σ H ⟨G, H0, F0, F1, ρ, E, ev, ⟨hi, ho, ⟨a, ns, qj, hn, hsq⟩, hw⟩, g⟩ => ?_
  obtain ⟨v, q1, q2⟩ := ev.r.slot j _ qj
  cases q2
  refine ⟨.ref a, q1, ?_⟩
  refine ⟨a, ns, rfl, hn, by rw [f'.K]; exact hsq H ev.r.wd, fun da ca H' hda hca keep dat => ?_⟩
  have n1 : ¬ G.R da := ev.r.nr hda
  have n2 : ¬ G.R ca := ev.r.nr hca
  have hx := deckGc_ext n1 n2
  have z1 := ev.fr.free n1 hda
  have z2 := ev.fr.free n2 hca
  have nn : ∀ b, (deckGc G da ca).R b → ¬ G.R b → H0 b = none := fun b r nr => by
    rcases r with r | r | r
    · exact absurd r nr
    · rw [r]; exact z1
    · rw [r]; exact z2
  have same : ∀ b, G.R b → H' b = H b := fun b r => by
    cases e : H b with
    | none => exact absurd e (G.live H b ev.r.wd r)
    | some o => exact keep b o e
  have wd' : (deckGc G da ca).Wd H' := ⟨G.st H H' ev.r.wd same, dat⟩
  have ev2 : Ev S.K (deckGc G da ca) H0 F0 F1 H' σ ρ := by
    refine ⟨⟨fun b o h => keep b o (ev.r.sub b o h), fun b r => ?_, wd', fun k sv q => ?_, ev.r.len⟩, ev.f0, fun b o h nb => keep b o (ev.fr b o h fun r => nb (.inl r)), fun k sv b q hq => ?_, fun k l sv sw b _ q hq => ?_⟩
    · rcases r with r | r | r
      · exact ev.r.res b r
      · rw [r]; exact ev.r.fnone hda
      · rw [r]; exact ev.r.fnone hca
    · obtain ⟨u, h1, h2⟩ := ev.r.slot k sv q
      have := ho k sv q
      cases sv with
      | fz d => exact ⟨u, h1, h2⟩
      | ow xs => cases this
      | od kds => cases this
    · rw [ho k sv q] at hq; cases hq
    · rw [ho k sv q] at hq; cases hq
  refine ⟨deckGc G da ca, H0, F0, F1, _, E, ev2.set (sv := .fz (.ob da)) hi (Rp.ob da) (fun h => by cases h), hw da _ hx ⟨ca, deckGc_in n1 n2⟩, ⟨fun σ' H2 F' ρ' e s q => g.nx σ' H2 F' ρ' (e.out hx nn) s q, fun σ' H2 F' ρ' e s q => g.bk σ' H2 F' ρ' (e.out hx nn) s q, fun σ' H2 F' ρ' e s q => g.ct σ' H2 F' ρ' (e.out hx nn) s q, fun v H2 F' sv a1 a2 a3 a4 a5 a6 a7 => g.rt v H2 F' sv a1 a2 (fun b r => a3 b (hx.R b r)) (fr_out hx nn a4) (hx.wd _ a5) (rpo_out hx a6) a7⟩⟩
end DL
set_option maxHeartbeats 4000000
namespace DL
open PySem PySem.Spec PyProof.Rows L2

/-! ### zip of two tuples, its pairs kept by a name -/
section
variable {prog : Program} {w : World} {A : Around} {E : Value → Shared → Prop} {s : Shared} {z TI TO i1 i2 l1 l2 : Addr} {k1 k2 : Nat} {xs ys : Array Value} {f0 f1 x y a b : Value}
/-- the zip at z: its last tuple f0, whether that was seen held f1 -/
abbrev ZipIs (h : Heap) (z TI TO : Addr) (f0 f1 : Value) : Prop := h.get? z = some { cls := .type "zip", dict := none, data := .fields #[f0, f1, .bool false, .ref TI, .ref TO], slots := #[] }
def ZipSt (h : Heap) (z TI TO : Addr) : Prop := ∃ f0 f1, ZipIs h z TI TO f0 f1 ∧ (f0 = .none ∨ ∃ T : Addr, f0 = rawInt T) ∧ ∃ f : Bool, f1 = .bool f
theorem zip_free {Q : Bool → Shared → Prop} (h0 : f0 = .none ∨ ∃ T : Addr, f0 = rawInt T) (hf : ∃ f : Bool, f1 = .bool f) (hz : ZipIs s.heap z TI TO f0 f1) (h1 : Q true s)
    (h2 : ∀ h', ZipIs h' z TI TO f0 (.bool true) → Heap.SameBut z s.heap h' → Q false { s with heap := h' }) : wpAny (model prog w) A (Builtin.SmallTypes.ownedTupleIsFree (.ref z)) Q E s := by
  obtain ⟨f, rfl⟩ := hf
  rcases h0 with rfl | ⟨T, rfl⟩
  · unfold Builtin.SmallTypes.ownedTupleIsFree
    exact wpAny_bind (wpAny_field hz rfl (x := .none) rfl (wpAny_pure h1))
  · cases hT : s.heap.get? T with
    | some o => exact wpAny_tupleHeld_zip hz hT h2
    | none =>
      unfold Builtin.SmallTypes.ownedTupleIsFree
      refine wpAny_bind (wpAny_field hz rfl (x := rawInt T) rfl ?_)
      show wpAny _ _ (loadIfAlive ((T : Int).toNat) >>= _) _ _ _
      rw [Int.toNat_natCast]
      have ld : ∀ {Q' : Option Obj → Shared → Prop}, Q' none s → wpAny (model prog w) A (loadIfAlive T) Q' E s := fun {Q'} q => by
        have q' : Q' (s.heap.get? T) s := by rw [hT]; exact q
        exact fun _ _ _ => q'
      exact wpAny_bind (ld (wpAny_pure h1))
/-- what a step leaves as it is -/
def ZipKeep (z TO i1 i2 : Addr) (h h' : Heap) : Prop := ∀ c o, c ≠ z → c ≠ TO → c ≠ i1 → c ≠ i2 → h.get? c = some o → h'.get? c = some o
theorem zip_some {Q : Value → Shared → Prop} (D : ZipApart z TI TO i1 i2 l1 l2) (st : ZipSt s.heap z TI TO) (pI : IsPair s.heap TI (.ref i1) (.ref i2)) (pO : ∃ a b, IsPair s.heap TO a b)
    (t1 : s.heap.IsTupleIter i1 l1 k1) (t2 : s.heap.IsTupleIter i2 l2 k2) (q1 : s.heap.IsTuple l1 xs) (q2 : s.heap.IsTuple l2 ys) (hx : xs[k1]? = some x) (hy : ys[k2]? = some y)
    (hQ : ∀ h', ZipSt h' z TI TO → (∃ a b, IsPair h' TO a b) → h'.IsTupleIter i1 l1 (k1 + 1) → h'.IsTupleIter i2 l2 (k2 + 1) → IsPair h' s.heap.objs.size x y → h'.objs.size = s.heap.objs.size + 1 → ZipKeep z TO i1 i2 s.heap h' → Q (.ref s.heap.objs.size) { s with heap := h' }) :
    wpAny (model prog w) A (Builtin.«zip.__next__» ⟨[.ref z], []⟩) (fun r s' => ∃ v, r = .done (.ret v) ∧ Q v s') E s := by
  obtain ⟨f0, f1, hz, hf0, hf1⟩ := st
  obtain ⟨a, b, pO⟩ := pO
  show wpAny _ _ (field (.ref z) 2 >>= _) _ _ _
  apply wpAny_bind
  refine wpAny_field hz rfl (x := .bool false) rfl ?_
  show wpAny _ _ (field (.ref z) 3 >>= _) _ _ _
  apply wpAny_bind
  refine wpAny_field hz rfl (x := .ref TI) rfl ?_
  refine wpAny_bind (wpAny_seqItems pI rfl ?_)
  show wpAny _ _ (Builtin.SmallTypes.ownedTupleIsFree (.ref z) >>= _) _ _ _
  refine wpAny_bind (zip_free hf0 hf1 hz ?free fun hA zA sA => ?held)
  case held =>
    simp only [Bool.false_eq_true, if_false]
    apply wpAny_bind
    rw [← Array.forIn_toList]
    simp only [List.forIn_cons, List.forIn_nil]
    refine wpAny_bind (wpAny_bind (wpAny_holding ?_))
    show wpAny _ _ (Builtin.SmallTypes.nextOf (.ref i1) >>= _) _ _ _
    refine wpAny_bind (RZ.nextOf_tuple_item (s := { s with heap := hA }) (t1.extBut sA.extBut D.i1z) (q1.extBut sA.extBut D.l1z) hx fun hB uB sB => wpAny_pure (wpAny_pure ?_))
    refine wpAny_bind (wpAny_bind (wpAny_holding ?_))
    show wpAny _ _ (Builtin.SmallTypes.nextOf (.ref i2) >>= _) _ _ _
    refine wpAny_bind (RZ.nextOf_tuple_item (s := { s with heap := hB }) ((t2.extBut sA.extBut D.i2z).extBut sB.extBut D.i12.symm) ((q2.extBut sA.extBut D.l2z).extBut sB.extBut D.l2i1) hy fun hC uC sC => wpAny_pure (wpAny_pure (wpAny_pure ?_)))
    show wpAny _ _ (newTuple [x, y] >>= _) _ _ _
    refine wpAny_bind (wpAny_newTuple ?_)
    have sz : hC.objs.size = s.heap.objs.size := by rw [sC.1, sB.1, sA.1]
    have zC : ZipIs hC z TI TO f0 (.bool true) := sC.extBut _ _ D.i2z.symm (sB.extBut _ _ D.i1z.symm zA)
    have kC : ∀ c o, c ≠ z → c ≠ i1 → c ≠ i2 → s.heap.get? c = some o → hC.get? c = some o := fun c o n1 n2 n3 e => sC.extBut _ _ n3 (sB.extBut _ _ n2 (sA.extBut _ _ n1 e))
    have up : ∀ c o, hC.get? c = some o → (hC.push { cls := .type "tuple", data := .seq #[x, y] }).get? c = some o := fun c o e => Heap.get?_push_of_some _ e
    refine wpAny_pure ⟨_, rfl, ?_⟩
    show Q (.ref hC.objs.size) _
    rw [sz]
    refine hQ _ ⟨f0, _, up _ _ zC, hf0, true, rfl⟩ ⟨a, b, up _ _ (kC _ _ D.TOz D.TOi1 D.TOi2 pO)⟩ ((uB.extBut sC.extBut D.i12).at fun o e => up _ o e) (uC.at fun o e => up _ o e) ?_ ?_ fun c o n1 _ n3 n4 e => up _ _ (kC c o n1 n3 n4 e)
    · rw [← sz]; exact Heap.get?_push_size _ rfl
    · rw [← sz]; exact Heap.size_push ..
  case free =>
    simp only [if_true]
    refine wpAny_bind (wpAny_rule ?_)
    refine wpAny_bind (wpAny_field hz rfl (x := .ref TO) rfl ?_)
    refine wpAny_bind (wpAny_setField_rec hz (by simp) fun hA zA sA => ?_)
    replace zA : ZipIs hA z TI TO .ellipsis f1 := zA
    apply wpAny_bind
    simp only [List.zipIdx_cons, List.zipIdx_nil, List.forIn_cons, List.forIn_nil]
    refine wpAny_bind (wpAny_bind (wpAny_onRaise ?_))
    show wpAny _ _ (Builtin.SmallTypes.nextOf (.ref i1) >>= _) _ _ _
    refine wpAny_bind (RZ.nextOf_tuple_item (s := { s with heap := hA }) (t1.extBut sA.extBut D.i1z) (q1.extBut sA.extBut D.l1z) hx fun hB uB sB => wpAny_pure ?_)
    have oB : IsPair hB TO a b := sB.extBut _ _ D.TOi1 (sA.extBut _ _ D.TOz pO)
    refine wpAny_bind (wpAny_seqItems oB rfl (wpAny_bind (wpAny_updateSeq_pair oB fun hC oC sC => wpAny_bind (wpAny_letGo (wpAny_pure ?_)))))
    replace oC : IsPair hC TO x b := oC
    refine wpAny_bind (wpAny_bind (wpAny_onRaise ?_))
    show wpAny _ _ (Builtin.SmallTypes.nextOf (.ref i2) >>= _) _ _ _
    refine wpAny_bind (RZ.nextOf_tuple_item (s := { s with heap := hC }) (((t2.extBut sA.extBut D.i2z).extBut sB.extBut D.i12.symm).extBut sC.extBut D.TOi2.symm) (((q2.extBut sA.extBut D.l2z).extBut sB.extBut D.l2i1).extBut sC.extBut D.l2TO) hy fun hD uD sD => wpAny_pure ?_)
    have oD : IsPair hD TO x b := sD.extBut _ _ D.TOi2 oC
    refine wpAny_bind (wpAny_seqItems oD rfl (wpAny_bind (wpAny_updateSeq_pair oD fun hE oE sE => wpAny_bind (wpAny_letGo (wpAny_pure (wpAny_pure ?_))))))
    replace oE : IsPair hE TO x y := oE
    refine wpAny_bind (wpAny_seqItems oE rfl (wpAny_bind (wpAny_newTuple ?_)))
    have sz : hE.objs.size = s.heap.objs.size := by rw [sE.1, sD.1, sC.1, sB.1, sA.1]
    have zE : ZipIs hE z TI TO .ellipsis f1 := sE.extBut _ _ D.TOz.symm (sD.extBut _ _ D.i2z.symm (sC.extBut _ _ D.TOz.symm (sB.extBut _ _ D.i1z.symm zA)))
    have kE : ∀ c o, c ≠ z → c ≠ TO → c ≠ i1 → c ≠ i2 → s.heap.get? c = some o → hE.get? c = some o := fun c o n1 n2 n3 n4 e => sE.extBut _ _ n2 (sD.extBut _ _ n4 (sC.extBut _ _ n2 (sB.extBut _ _ n3 (sA.extBut _ _ n1 e))))
    have u1 : hE.IsTupleIter i1 l1 (k1 + 1) := ((uB.extBut sC.extBut D.TOi1.symm).extBut sD.extBut D.i12).extBut sE.extBut D.TOi1.symm
    have u2 : hE.IsTupleIter i2 l2 (k2 + 1) := uD.extBut sE.extBut D.TOi2.symm
    have zlt : z < hE.objs.size := Heap.lt_size zE
    show wpAny _ _ (Builtin.SmallTypes.ownedTupleHandOut (.ref z) (.ref hE.objs.size) >>= _) _ _ _
    apply wpAny_bind
    unfold Builtin.SmallTypes.ownedTupleHandOut
    have zF : ZipIs (hE.push { cls := .type "tuple", data := .seq #[x, y] }) z TI TO .ellipsis f1 := Heap.get?_push_of_some _ zE
    refine wpAny_bind (wpAny_setField_rec zF (by simp) fun hG zG sG => ?_)
    replace zG : ZipIs hG z TI TO (rawInt hE.objs.size) f1 := zG
    refine wpAny_setField_rec zG (by simp) fun hH zH sH => ?_
    replace zH : ZipIs hH z TI TO (rawInt hE.objs.size) (.bool false) := zH
    have up : ∀ c o, c ≠ z → hE.get? c = some o → hH.get? c = some o := fun c o n1 e => sH.extBut _ _ n1 (sG.extBut _ _ n1 (Heap.get?_push_of_some _ e))
    have pT : IsPair hH hE.objs.size x y := sH.extBut _ _ (Nat.ne_of_gt zlt) (sG.extBut _ _ (Nat.ne_of_gt zlt) (Heap.get?_push_size _ rfl))
    have sH2 : hH.objs.size = hE.objs.size + 1 := by rw [sH.1, sG.1, Heap.size_push]
    refine wpAny_pure ⟨_, rfl, ?_⟩
    show Q (.ref hE.objs.size) _
    rw [sz] at zH pT sH2 ⊢
    exact hQ hH ⟨_, _, zH, .inr ⟨_, rfl⟩, false, rfl⟩ ⟨x, y, up _ _ D.TOz oE⟩ (u1.at fun o e => up _ o D.i1z e) (u2.at fun o e => up _ o D.i2z e) pT sH2 fun c o n1 n2 n3 n4 e => up c o n1 (kE c o n1 n2 n3 n4 e)
theorem zip_none {Q : PySem.Fin → Shared → Prop} (hh : A.handled = none) (D : ZipApart z TI TO i1 i2 l1 l2) (st : ZipSt s.heap z TI TO) (pI : IsPair s.heap TI (.ref i1) (.ref i2)) (pO : ∃ a b, IsPair s.heap TO a b)
    (t1 : s.heap.IsTupleIter i1 l1 k1) (t2 : s.heap.IsTupleIter i2 l2 k2) (q1 : s.heap.IsTuple l1 xs) (q2 : s.heap.IsTuple l2 ys) (hend : xs[k1]? = none ∨ ys[k2]? = none)
    (hE : ∀ h' e, ZipKeep z TO i1 i2 s.heap h' → (∃ o, h'.get? e = some o ∧ o.cls = .type "StopIteration") → E (.ref e) { s with heap := h' }) : wpAny (model prog w) A (Builtin.«zip.__next__» ⟨[.ref z], []⟩) Q E s := by
  obtain ⟨f0, f1, hz, hf0, hf1⟩ := st
  obtain ⟨a, b, pO⟩ := pO
  show wpAny _ _ (field (.ref z) 2 >>= _) _ _ _
  apply wpAny_bind
  refine wpAny_field hz rfl (x := .bool false) rfl ?_
  show wpAny _ _ (field (.ref z) 3 >>= _) _ _ _
  apply wpAny_bind
  refine wpAny_field hz rfl (x := .ref TI) rfl ?_
  refine wpAny_bind (wpAny_seqItems pI rfl ?_)
  show wpAny _ _ (Builtin.SmallTypes.ownedTupleIsFree (.ref z) >>= _) _ _ _
  refine wpAny_bind (zip_free hf0 hf1 hz ?free fun hA zA sA => ?held)
  case held =>
    simp only [Bool.false_eq_true, if_false]
    apply wpAny_bind
    rw [← Array.forIn_toList]
    simp only [List.forIn_cons, List.forIn_nil]
    refine wpAny_bind (wpAny_bind (wpAny_holding ?_))
    show wpAny _ _ (Builtin.SmallTypes.nextOf (.ref i1) >>= _) _ _ _
    cases hx : xs[k1]? with
    | none => exact wpAny_bind (RZ.nextOf_tuple_end (s := { s with heap := hA }) hh (t1.extBut sA.extBut D.i1z) (q1.extBut sA.extBut D.l1z) hx fun hB e sB he => hE hB e (fun c o n1 _ n3 _ q => sB _ _ n3 (sA.extBut _ _ n1 q)) he)
    | some x =>
      have hy : ys[k2]? = none := hend.resolve_left (by rw [hx]; exact fun q => nomatch q)
      refine wpAny_bind (RZ.nextOf_tuple_item (s := { s with heap := hA }) (t1.extBut sA.extBut D.i1z) (q1.extBut sA.extBut D.l1z) hx fun hB uB sB => wpAny_pure (wpAny_pure ?_))
      refine wpAny_bind (wpAny_bind (wpAny_holding ?_))
      show wpAny _ _ (Builtin.SmallTypes.nextOf (.ref i2) >>= _) _ _ _
      exact wpAny_bind (RZ.nextOf_tuple_end (s := { s with heap := hB }) hh ((t2.extBut sA.extBut D.i2z).extBut sB.extBut D.i12.symm) ((q2.extBut sA.extBut D.l2z).extBut sB.extBut D.l2i1) hy fun hC e sC he => hE hC e (fun c o n1 _ n3 n4 q => sC _ _ n4 (sB.extBut _ _ n3 (sA.extBut _ _ n1 q))) he)
  case free =>
    simp only [if_true]
    refine wpAny_bind (wpAny_rule ?_)
    refine wpAny_bind (wpAny_field hz rfl (x := .ref TO) rfl ?_)
    refine wpAny_bind (wpAny_setField_rec hz (by simp) fun hA zA sA => ?_)
    replace zA : ZipIs hA z TI TO .ellipsis f1 := zA
    apply wpAny_bind
    simp only [List.zipIdx_cons, List.zipIdx_nil, List.forIn_cons, List.forIn_nil]
    refine wpAny_bind (wpAny_bind (wpAny_onRaise ?_))
    show wpAny _ _ (Builtin.SmallTypes.nextOf (.ref i1) >>= _) _ _ _
    cases hx : xs[k1]? with
    | none =>
      refine wpAny_bind (RZ.nextOf_tuple_end (s := { s with heap := hA }) hh (t1.extBut sA.extBut D.i1z) (q1.extBut sA.extBut D.l1z) hx fun hB e sB ⟨oe, he, hc⟩ => ?_)
      have zB : ZipIs hB z TI TO .ellipsis f1 := sB _ _ D.i1z.symm zA
      have ne : e ≠ z := fun q => by subst q; rw [zB] at he; cases he; simp at hc
      exact wpAny_setField_rec zB (by simp) fun hC _ sC => hE hC e (fun c o n1 _ n3 _ q => sC.extBut _ _ n1 (sB _ _ n3 (sA.extBut _ _ n1 q))) ⟨oe, sC.extBut _ _ ne he, hc⟩
    | some x =>
      have hy : ys[k2]? = none := hend.resolve_left (by rw [hx]; exact fun q => nomatch q)
      refine wpAny_bind (RZ.nextOf_tuple_item (s := { s with heap := hA }) (t1.extBut sA.extBut D.i1z) (q1.extBut sA.extBut D.l1z) hx fun hB uB sB => wpAny_pure ?_)
      have oB : IsPair hB TO a b := sB.extBut _ _ D.TOi1 (sA.extBut _ _ D.TOz pO)
      refine wpAny_bind (wpAny_seqItems oB rfl (wpAny_bind (wpAny_updateSeq_pair oB fun hC oC sC => wpAny_bind (wpAny_letGo (wpAny_pure ?_)))))
      refine wpAny_bind (wpAny_bind (wpAny_onRaise ?_))
      show wpAny _ _ (Builtin.SmallTypes.nextOf (.ref i2) >>= _) _ _ _
      refine wpAny_bind (RZ.nextOf_tuple_end (s := { s with heap := hC }) hh (((t2.extBut sA.extBut D.i2z).extBut sB.extBut D.i12.symm).extBut sC.extBut D.TOi2.symm) (((q2.extBut sA.extBut D.l2z).extBut sB.extBut D.l2i1).extBut sC.extBut D.l2TO) hy fun hD e sD ⟨oe, he, hc⟩ => ?_)
      have zD : ZipIs hD z TI TO .ellipsis f1 := sD _ _ D.i2z.symm (sC.extBut _ _ D.TOz.symm (sB.extBut _ _ D.i1z.symm zA))
      have ne : e ≠ z := fun q => by subst q; rw [zD] at he; cases he; simp at hc
      exact wpAny_setField_rec zD (by simp) fun hF _ sF => hE hF e (fun c o n1 n2 n3 n4 q => sF.extBut _ _ n1 (sD _ _ n4 (sC.extBut _ _ n2 (sB.extBut _ _ n3 (sA.extBut _ _ n1 q))))) ⟨oe, sF.extBut _ _ ne he, hc⟩
end
end DL
set_option maxHeartbeats 4000000
namespace DL
open PySem PySem.Spec PyProof.Rows L2

theorem turn_zipN {P : Program} {w : World} {K : PySem.W.Frag} {nm : Str} {np : Pos} {a b z TI TO i1 i2 : Addr} (D : ZipApart z TI TO i1 i2 a b) :
    Turn P w K (.Name nm np) (RZ.ItzT K a b) [z, TI, TO, i1, i2] z (fun i h => ZipSt h z TI TO ∧ IsPair h TI (.ref i1) (.ref i2) ∧ (∃ x y, IsPair h TO x y) ∧ h.IsTupleIter i1 a i ∧ h.IsTupleIter i2 b i) where
  mem := List.mem_cons_self
  obj := fun i h ⟨⟨f0, f1, hz, _⟩, pI, ⟨x, y, pO⟩, ⟨o1, e1, _, d1⟩, ⟨o2, e2, _, d2⟩⟩ c hc => by
    simp only [List.mem_cons, List.not_mem_nil, or_false] at hc
    rcases hc with rfl | rfl | rfl | rfl | rfl
    · exact ⟨_, hz, fun v q => nomatch q⟩
    · exact ⟨_, pI, fun v q => nomatch q⟩
    · exact ⟨_, pO, fun v q => nomatch q⟩
    · exact ⟨o1, e1, fun v q => by rw [d1] at q; cases q⟩
    · exact ⟨o2, e2, fun v q => by rw [d2] at q; cases q⟩
  keep := fun i h h' ⟨⟨f0, f1, hz, hf⟩, pI, ⟨x, y, pO⟩, t1, t2⟩ k =>
    ⟨⟨f0, f1, k z (by simp) _ hz, hf⟩, k TI (by simp) _ pI, ⟨x, y, k TO (by simp) _ pO⟩, t1.at fun o q => k i1 (by simp) o q, t2.at fun o q => k i2 (by simp) o q⟩
  item := fun X hP hw hK hc i pins s σ H E I hf ⟨st, pI, pO, t1, t2⟩ ⟨xs, ys, x, y, hqx, hqy, hx, hy⟩ => by
    subst hP hw hK
    obtain ⟨us, rv, p, _⟩ := I.tuple hqx
    obtain ⟨ws, rv2, p2, _⟩ := I.tuple hqy
    obtain ⟨u, hu, ru⟩ := rv.get hx
    obtain ⟨u2, hu2, ru2⟩ := rv2.get hy
    have hT : s.TypeIs (.ref z) "zip" := by obtain ⟨f0, f1, hz, _⟩ := st; exact ⟨_, hz, rfl⟩
    unfold pyNext
    refine wpAny_bind (wpAny_attempt (wpAny_callSpecial?_slot (name := Str.ofString "__next__") hT PySem.F.slot_zip_next (wpAny_call_entry PySem.F.slot_zip_next hT PySem.F.entry_zip_next (zip_some D st pI pO t1 t2 p p2 (x := u) (y := u2) (by simpa using hu) (by simpa using hu2) fun h' z' pO' t1' t2' pT sz k => wpAny_pure ?_) (PySem.F.args_zip_next_1 _))))
    refine ⟨_, rfl, ?_⟩
    show wpAny _ _ (pure ()) _ _ _
    apply wpAny_pure
    have zl : z < s.heap.objs.size := by obtain ⟨f0, f1, hz, _⟩ := st; exact Heap.lt_size hz
    have tl : TI < s.heap.objs.size := Heap.lt_size pI
    have ol : TO < s.heap.objs.size := by obtain ⟨_, _, q⟩ := pO; exact Heap.lt_size q
    have l1 : i1 < s.heap.objs.size := by obtain ⟨_, q, _⟩ := t1; exact Heap.lt_size q
    have l2 : i2 < s.heap.objs.size := by obtain ⟨_, q, _⟩ := t2; exact Heap.lt_size q
    have new : ObjOk X.prog X.w (upd H s.heap.objs.size (.tup [x, y])) h' s.heap.objs.size (.tup [x, y]) := ⟨by show 2 ≤ sizeLine; decide, [u, u2], .cons ru (.cons ru2 .nil), ⟨_, pT, rfl, _, rfl⟩⟩
    have I1 : Inv X pins σ (upd H s.heap.objs.size (.tup [x, y])) { s with heap := h' } :=
      I.turnedNew (t' := s.toks) (ch := [z, TI, TO, i1, i2]) (fun c o hb q => k c o (fun e => hb (by simp [e])) (fun e => hb (by simp [e])) (fun e => hb (by simp [e])) (fun e => hb (by simp [e])) q) hf (Nat.le_refl _) new
    refine ⟨.ref s.heap.objs.size, _, I1, rfl, ⟨_, x, y, rfl, I.hok.fresh (Nat.le_refl _), rfl, fun l hl => by rw [I.tuple_inj hl hqx]; exact hx, fun l hl => by rw [I.tuple_inj hl hqy]; exact hy⟩, ⟨z', ?_, pO', t1', t2'⟩, fun c hcm => ?_⟩
    · exact k _ _ D.TIz D.TITO D.TIi1 D.TIi2 pI
    · have lt : c < s.heap.objs.size := by
        simp only [List.mem_cons, List.not_mem_nil, or_false] at hcm
        rcases hcm with rfl | rfl | rfl | rfl | rfl <;> assumption
      rw [upd_ne (Nat.ne_of_lt lt)]
      exact (hf c hcm).1
  done := fun X hP hw hK hc i pins s σ H E I hf ⟨st, pI, pO, t1, t2⟩ ⟨xs, ys, hqx, hqy, hend⟩ => by
    subst hP hw hK
    obtain ⟨us, rv, p, _⟩ := I.tuple hqx
    obtain ⟨ws, rv2, p2, _⟩ := I.tuple hqy
    have n1 := rv.length
    have n2 := rv2.length
    have he : us.toArray[i]? = none ∨ ws.toArray[i]? = none := by
      rcases hend with q | q
      · exact .inl (by simp; omega)
      · exact .inr (by simp; omega)
    have hT : s.TypeIs (.ref z) "zip" := by obtain ⟨f0, f1, hz, _⟩ := st; exact ⟨_, hz, rfl⟩
    unfold pyNext
    refine wpAny_bind (wpAny_attempt (wpAny_callSpecial?_slot (name := Str.ofString "__next__") hT PySem.F.slot_zip_next (wpAny_call_entry PySem.F.slot_zip_next hT PySem.F.entry_zip_next (zip_none (I.ok.hd hc) D st pI pO t1 t2 p p2 he fun h' e k ⟨o, ho, hcl⟩ => ?_) (PySem.F.args_zip_next_1 _))))
    refine wpAny_bind (wpAny_isInstance (T := "StopIteration") (b := true) ⟨o, ho, hcl⟩ isSubtype_stop (wpAny_pure ⟨rfl, I.turnedL (t' := s.toks) (ch := [z, TI, TO, i1, i2]) (fun c o hb q => k c o (fun e => hb (by simp [e])) (fun e => hb (by simp [e])) (fun e => hb (by simp [e])) (fun e => hb (by simp [e])) q) hf⟩))
  self := fun A i s Q E ⟨⟨f0, f1, hz, _⟩, _⟩ h => by
    have hT : s.TypeIs (.ref z) "zip" := ⟨_, hz, rfl⟩
    refine wpAny_pyIter_slot hT PySem.F.slot_zip_iter (wpAny_call_entry PySem.F.slot_zip_iter hT PySem.F.entry_zip_iter ?_ (PySem.F.args_zip_iter_1 _))
    show wpAny _ _ (ret (.ref z)) _ _ s
    exact wpAny_pure ⟨_, rfl, "zip", _, hT, PySem.F.slot_zip_next.lookup, h⟩
def iZipN (K : PySem.W.Frag) (ta : TA) : TI := fun σ H R => ta σ H fun vs H1 => ∃ a b xs ys, vs = [.ref a, .ref b] ∧ SqT K H1 a xs ∧ SqT K H1 b ys ∧ R (RZ.ItzT K a b) H1
theorem pi_zipN {X : Cx} {nm : Str} {e e2 : Expr} {ta : TA} {p pos np : Pos} (hg : Gl X "zip") (hm : X.mg "zip" = none) (ha : PA X [e, e2] ta) (hs : starEach [e, e2] X.env = (false, eval e X.env) :: starEach [e2] X.env) (hpl : (backTo pos (starEach [e2] X.env)).any (·.1) = false) :
    PI X (.Name nm np) (.Call (.Name "zip" p) [e, e2] [] pos) (iZipN X.K ta) := by
  refine ⟨fun pins s σ H R I h => Call_ (ld_blt I hg hm PyProof.Rows.boot_zip (PyProof.Rows.callWith_type1 (thn (ha.run pos pins s σ H _ I h) fun us s1 ⟨vs, H1, I1, r1, a, b, xs, ys, ev, hqx, hqy, q⟩ => ?_) hs hpl))⟩
  subst ev
  obtain ⟨u, u2, rfl, r, r'⟩ := vals2 r1
  cases r
  cases r'
  obtain ⟨its, rv, p1, _⟩ := I1.tuple hqx
  obtain ⟨its2, rv2, p2, _⟩ := I1.tuple hqy
  obtain ⟨o1, ho1, _⟩ := id p1
  obtain ⟨o2, ho2, _⟩ := id p2
  refine RZ.call_zipT (show s1.heap.IsTuple a its.toArray from p1) (show s1.heap.IsTuple b its2.toArray from p2) fun h' hz hTI hTO h1 h2 hsz hk => wpAny_pyIter_zip hz ?_
  have I2 : Inv X pins σ H1 { s1 with heap := h' } := I1.kept (t' := s1.toks) hk
  refine ⟨s1.heap.objs.size + 4, [s1.heap.objs.size + 4, s1.heap.objs.size + 2, s1.heap.objs.size + 3, s1.heap.objs.size, s1.heap.objs.size + 1], _, _, H1, rfl, I2, turn_zipN (PySem.W.ktu_apart s1.heap.objs.size a b (Heap.lt_size ho1) (Heap.lt_size ho2)), ⟨⟨_, _, hz, .inl rfl, false, rfl⟩, hTI, ⟨_, _, hTO⟩, h1, h2⟩, fun c hc => ?_, q⟩
  have le : s1.heap.objs.size ≤ c := by
    simp only [List.mem_cons, List.not_mem_nil, or_false] at hc
    rcases hc with z | z | z | z | z <;> rw [z] <;> first | exact Nat.le_add_right _ _ | exact Nat.le_refl _
  exact I1.fpOk le (I1.hok.fresh le)
def wiZipN (r : WA) : WA := fun G ρ Q => r G ρ fun ds => ∃ xs ys, ds = [.tup xs, .tup ys] ∧ Q (zipD xs ys)
section
variable {S : Sta} {nm : Str} {a b : Expr} {p pos np : Pos} {r : WA}
theorem di_zipN (hm : S.mg "zip" = none) (h : DA S [a, b] r) (hg : (S.names.lookup ("zip" : Str) == some .globalImplicit) = true := by kernel_rfl) (hs : ∀ env, starEach [a, b] env = (false, eval a env) :: starEach [b] env := by intro _; rfl) (hpl : ∀ env, (backTo pos (starEach [b] env)).any (·.1) = false := by intro _; rfl) :
    DI S (.Name nm np) (.Call (.Name "zip" p) [a, b] [] pos) (wiZipN r) := fun X f =>
  (pi_zipN (glOf f hg) (by rw [f.mg]; exact hm) (h X f) (hs _) (hpl _)).imp fun σ H R ⟨G, F, ρ, Qd, ev, hw, hq⟩ =>
  ⟨G, F, ρ, _, ev, hw, fun vs H1 F1 ds s1 e1 f1 r1 ⟨xs, ys, ed, q1⟩ => by
    subst ed
    rw [f.K]
    obtain ⟨u, w, rfl, ra, rb⟩ := r1.two
    cases ra with
    | tup h1 l1 => cases rb with
      | tup h2 l2 => exact ⟨_, _, _, _, rfl, Same.sqt e1.sub h1, Same.sqt e1.sub h2, hq _ H1 F1 _ s1 e1 f1 (itok_zipT h1 l1 h2 l2) q1⟩⟩
end

/-! ### t[::-1] of a tuple -/
theorem rev_part (n : Nat) : Builtin.Slice.sliceAdjust none none (-1) (n : Int) = ((n : Int) - 1, -1) := rfl
theorem rev_places (n : Nat) : Builtin.Slice.slicePlaces ((n : Int) - 1) (-1) (-1) = n := by
  unfold Builtin.Slice.slicePlaces
  rw [if_neg (by decide)]
  by_cases h : (n : Int) - 1 > -1
  · rw [if_pos h, show ((n : Int) - 1 - -1 - 1) / -(-1) + 1 = (n : Int) by rw [show (-(-1) : Int) = 1 by decide, Int.ediv_one]; omega, Int.toNat_natCast]
  · rw [if_neg h]
    show (0 : Int).toNat = n
    simp; omega
theorem fm_congr {α β : Type} {f g : α → Option β} : ∀ {l : List α}, (∀ a ∈ l, f a = g a) → l.filterMap f = l.filterMap g
  | [], _ => rfl
  | a :: l, h => by
    rw [List.filterMap_cons, List.filterMap_cons, h a List.mem_cons_self, fm_congr fun b hb => h b (List.mem_cons_of_mem _ hb)]
theorem rev_pick (xs : Array Value) : ((List.range xs.size).filterMap fun (m : Nat) => xs[(((xs.size : Int) - 1) + (m : Int) * (-1)).toNat]?).toArray = xs.toList.reverse.toArray := by
  have e : (List.range xs.size).filterMap (fun (m : Nat) => xs[(((xs.size : Int) - 1) + (m : Int) * (-1)).toNat]?) = ((List.range xs.size).map fun k => xs.size - 1 - k).filterMap (xs[·]?) := by
    rw [List.filterMap_map]
    refine fm_congr fun m hm => ?_
    have : m < xs.size := List.mem_range.mp hm
    show xs[_]? = xs[xs.size - 1 - m]?
    congr 1
    omega
  rw [e, PySem.W.krv_range, List.filterMap_reverse, PySem.W.krv_all]
section
variable {prog : Program} {w : World} {A : Around} {E : Value → Shared → Prop} {s : Shared}
theorem getItem_tuple_rev {t sl : Addr} {items : Array Value} {t1 : Tok} {Q : Value → Shared → Prop} (ht : IsTup s.heap t items) (hs : s.heap.IsSliceOf sl .none .none (.int (-1) t1)) (hsz : items.size ≤ sizeLine)
    (h : Q (.ref s.heap.objs.size) { s with heap := s.heap.push { cls := .type "tuple", data := .seq items.toList.reverse.toArray } }) : wpAny (model prog w) A (getItem (.ref t) (.ref sl)) Q E s := by
  obtain ⟨so, h1, h2, h3⟩ := id hs
  have ts : s.TypeIs (.ref sl) "slice" := ⟨so, h1, h2⟩
  unfold getItem
  try with_reducible refine wpAny_holding ?_
  first | refine wpAny_bind (wpAny_pure ?_) | skip
  refine wpAny_bind (wpAny_sequenceKey ht.typeIs (by decide) ?_)
  refine wpAny_bind (wpAny_callSpecial?_slot (name := Str.ofString "__getitem__") ht.typeIs PyProof.Rows.slot_tuple_getitem (wpAny_call_entry PyProof.Rows.slot_tuple_getitem ht.typeIs entry_tuple_getitem ?_ (args_tuple_getitem _ _)))
  show wpAny _ _ (Builtin.Tuple.tupleItemsOf (.ref t) >>= _) _ _ s
  refine wpAny_bind (tupleItemsOf_ ht (wpAny_bind (wpAny_typeOf ts ?_)))
  rw [if_pos (by decide)]
  apply wpAny_bind
  unfold Builtin.Slice.sliceApplied Builtin.Slice.sliceFields
  refine wpAny_bind (wpAny_bind (wpAny_field h1 h3 (x := .none) rfl (wpAny_bind (wpAny_field h1 h3 (x := .none) rfl (wpAny_bind (wpAny_field h1 h3 (x := .int (-1) t1) rfl (wpAny_pure ?_)))))))
  refine wpAny_bind (slicePart_int ?_)
  show wpAny _ _ (if ((-1 : Int) == 0) = true then _ else _) _ _ s
  rw [if_neg (by decide)]
  refine wpAny_bind (slicePart_none (wpAny_bind (slicePart_none (wpAny_bind (wpAny_pure ?_)))))
  show wpAny _ _ (match Builtin.Slice.sliceAdjust none none (-1) (items.size : Int) with | (lo, hi) => pure (lo, (-1 : Int), Builtin.Slice.slicePlaces lo hi (-1))) _ _ s
  rw [rev_part]
  show wpAny _ _ (pure (((items.size : Int) - 1), (-1 : Int), Builtin.Slice.slicePlaces ((items.size : Int) - 1) (-1) (-1))) _ _ s
  rw [rev_places]
  apply wpAny_pure
  show wpAny _ _ (if (((items.size : Int) - 1) == 0 && (-1 : Int) == 1 && items.size == items.size) = true then _ else _) _ _ s
  rw [if_neg (by rw [show ((-1 : Int) == 1) = false from rfl]; simp), rev_pick]
  have ok : sizeOk (.seq items.toList.reverse.toArray) := by
    show items.toList.reverse.toArray.size ≤ sizeLine
    rw [List.size_toArray, List.length_reverse, Array.length_toList]
    exact hsz
  first
    | exact wpAny_bind (m := Builtin.Tuple.tupleExact _) (wpAny_newObj_type (wpAny_pure ⟨_, rfl, wpAny_pure h⟩) ok)
    | exact wpAny_bind (wpAny_bind (m := Builtin.Tuple.tupleExact _) (wpAny_newObj_type (wpAny_pure (wpAny_pure ⟨_, rfl, wpAny_pure h⟩)) ok))
    | exact wpAny_bind (wpAny_bind (m := Builtin.Tuple.tupleExact _) (wpAny_newObj_type (wpAny_pure ⟨_, rfl, wpAny_pure h⟩) ok))
    | exact wpAny_bind (m := Builtin.Tuple.tupleExact _) (wpAny_newObj_type (wpAny_bind (wpAny_pure (wpAny_pure ⟨_, rfl, wpAny_pure h⟩))) ok)
end
end DL
set_option maxHeartbeats 4000000
namespace DL
open PySem PySem.Spec PyProof.Rows L2

/-! ### x[::-1], x a list or a tuple -/
def tRevT (K : PySem.W.Frag) (te : TE) : TE := fun σ H Q => te σ H fun x H1 => ∃ a xs, x = .ref a ∧ SqT K H1 a xs ∧ ∀ p, H1 p = none → Q (.ref p) (upd H1 p (.tup xs.reverse))
theorem pe_revT {X : Cx} {e : Expr} {te : TE} {k : Nat} {p1 p2 p3 pos : Pos} (he : PE X e te) : PE X (.Subscript e (.Slice none none (some (.UnaryOp .USub (.Constant (.int 1) k p1) p2)) p3) pos) (tRevT X.K te) := by
  refine ⟨fun pins s σ H Q I h => Subscript_ (thn (he.run pins s σ H _ I h) fun v s1 ⟨x, H1, I1, r1, a, xs, ex, hx, q⟩ => ?_)⟩
  subst ex
  cases r1
  have step : PO X (some (.UnaryOp .USub (.Constant (.int 1) k p1) p2)) (tPart (tUn (rU fun i => .int (-i)) (tC (.int 1)))) := po_some (pe_un un_neg pe_int)
  refine wpAny_Slice (thn (po_none.run pins s1 σ H1 (fun o H2 => o = none ∧ H2 = H1) I1 ⟨rfl, rfl⟩) fun u1 s2 ⟨o1, H2, I2, g1, z1, z2⟩ => ?_)
  subst z1 z2
  refine thn (po_none.run pins s2 σ H2 (fun o H3 => o = none ∧ H3 = H2) I2 ⟨rfl, rfl⟩) fun u2 s3 ⟨o2, H3, I3, g2, z1, z2⟩ => ?_
  subst z1 z2
  refine thn (step.run pins s3 σ H3 (fun o H4 => o = some (-1) ∧ H4 = H3) I3 ⟨1, rfl, -1, rfl, rfl, rfl⟩) fun u3 s4 ⟨o3, H4, I4, g3, z1, z2⟩ => ?_
  subst z1 z2
  cases g1
  cases g2
  cases g3 with
  | int _ t =>
    have I5 : Inv X pins σ H4 { s4 with heap := s4.heap.push { cls := .type "slice", data := .fields #[.none, .none, .int (-1) t] } } := I4.kept (t' := s4.toks) fun b ob q => Heap.get?_push_of_some _ q
    obtain ⟨its, rv, ht, hz⟩ := I5.tuple hx
    have hl := rv.length
    show wpAny (model X.prog X.w) X.A (subscriptTail e (.Slice none none (some (.UnaryOp .USub (.Constant (.int 1) k p1) p2)) p3) (.ref a) (.ref s4.heap.objs.size)) (EP X pins σ Q) X.xe { s4 with heap := s4.heap.push { cls := .type "slice", data := .fields #[.none, .none, .int (-1) t] } }
    refine tail_any (ops := [.ref a, .ref s4.heap.objs.size]) ht.typeIs (PyProof.Rows.slot_tuple_getitem.lookup) (getItem_tuple_rev ht (Heap.IsSliceOf.new _ .none .none (.int (-1) t)) (by rw [List.size_toArray]; omega) ?_) (by with_unfolding_all rfl)
    refine ⟨.ref _, _, I5.laid (t' := s4.toks) (o := .tup xs.reverse) (fun b ob q => Heap.get?_push_of_some _ q) (Nat.le_refl _) ⟨by rw [List.length_reverse]; exact hz, its.reverse, rv.reverse, ?_⟩, rfl, q _ (I5.hok.fresh (Nat.le_refl _))⟩
    exact IsTup.new _ _
theorem _root_.L2.PE.or {X : Cx} {e : Expr} {t t' : TE} (h : PE X e t) (h' : PE X e t') : PE X e (fun σ H Q => t σ H Q ∨ t' σ H Q) := ⟨fun pins s σ H Q I q => q.elim (h.run pins s σ H Q I) (h'.run pins s σ H Q I)⟩
def woRevA (w : W) : WO := fun G ρ Q => (w G ρ fun d => ∃ xs, d = .lst xs ∧ Q (.ow xs.reverse)) ∨ (w G ρ fun d => ∃ xs, d = .tup xs ∧ Q (.fz (.tup xs.reverse)))
section
variable {S : Sta} {a : Expr} {pos : Pos} {wa : W}
theorem do_revA {k : Nat} {p1 p2 p3 : Pos} (ha : DE S a wa) : DO S (.Subscript a (.Slice none none (some (.UnaryOp .USub (.Constant (.int 1) k p1) p2)) p3) pos) (woRevA wa) := fun X f => ((pe_revL (ha X f)).or (pe_revT (ha X f))).imp fun σ H Q ⟨G, F, ρ, Qd, ev, hw, hq⟩ => by
  rw [f.K]
  rcases hw with hw | hw
  · exact .inl ⟨G, F, ρ, _, ev, hw, fun v H1 F1 d s1 e1 f1 r1 ⟨xs, ed, q1⟩ => by
      subst ed
      obtain ⟨p, vs, rfl, h, rr⟩ := rp_lstI e1.sub r1
      exact ⟨p, vs, rfl, h, fun p hp => e1.newL hp rr.reverse q1 fun v H' F' sv s2 e2 f2 r2 q2 => hq v H' F' sv (s1.trans s2) e2 (f1.trans f2) (r2.back f1) q2⟩⟩
  · exact .inr ⟨G, F, ρ, _, ev, hw, fun v H1 F1 d s1 e1 f1 r1 ⟨xs, ed, q1⟩ => by
      subst ed
      obtain ⟨p, vs, rfl, h, rr⟩ := rp_tupH e1.sub r1
      exact ⟨p, vs, rfl, h, fun p hp => e1.newT hp rr.reverse q1 fun v H' F' sv s2 e2 f2 r2 q2 => hq v H' F' sv (s1.trans s2) e2 (f1.trans f2) (r2.back f1) q2⟩⟩
end
end DL
set_option maxHeartbeats 4000000
namespace DL
open PySem PySem.Spec PyProof.Rows L2

/-! ### ints and pairs of ints, as the library reads them -/
theorem toPyL_ints : ∀ ns : List Int, toPyL (ns.map D.int) = some (ns.map .int)
  | [] => rfl
  | n :: ns => by
    show (match toPy (D.int n) with | some p => (toPyL (ns.map D.int)).map (p :: ·) | none => none) = _
    rw [toPyL_ints ns]
    rfl
theorem toPy_lstI (ns : List Int) : toPy (.lst (ns.map D.int)) = some (.list (ns.map .int)) := by unfold toPy; rw [toPyL_ints]; rfl
theorem toPy_tupI (ns : List Int) : toPy (.tup (ns.map D.int)) = some (.tuple (ns.map .int)) := by unfold toPy; rw [toPyL_ints]; rfl
theorem canLay_ints : ∀ ns : List Int, PyData.canLayAll0 (ns.map .int) = true
  | [] => by simp [PyData.canLayAll0]
  | n :: ns => by simp only [List.map_cons, PyData.canLayAll0, PyData.canLay0, canLay_ints ns, Bool.and_self]
theorem depth0_ints (ns : List Int) : PyData.depthAll (ns.map .int) = 0 := PySem.W.depth_ints ns
theorem shaped_tupI (ns : List Int) : SeqAt.shaped (.tuple (ns.map .int)) = true := by
  unfold SeqAt.shaped
  simp [PyData.canLay0, canLay_ints, PyData.depth, depth0_ints]
theorem shaped_int (i : Int) : SeqAt.shaped (.int i) = true := by simp [SeqAt.shaped, PyData.canLay0, PyData.depth]
theorem shaped_str {x : Str} (h : PyData.canLay0 (.str x) = true) : SeqAt.shaped (.str x) = true := by simp [SeqAt.shaped, h, PyData.depth]
theorem eqvAll_ints : ∀ a b : List Int, PyData.eqvAll (a.map .int) (b.map .int) = decide (a = b)
  | [], [] => by simp [PyData.eqvAll]
  | [], _ :: _ => by simp [PyData.eqvAll]
  | _ :: _, [] => by simp [PyData.eqvAll]
  | x :: xs, y :: ys => by
    rw [List.map_cons, List.map_cons, PyData.eqvAll, eqvAll_ints xs ys, PyData.eqv]
    by_cases h : x = y <;> by_cases h2 : xs = ys <;> simp [h, h2]
theorem eqv_lstI (a b : List Int) : PyData.eqv (.list (a.map .int)) (.list (b.map .int)) = decide (a = b) := by rw [PyData.eqv]; exact eqvAll_ints a b
theorem eqv_tupI (a b : List Int) : PyData.eqv (.tuple (a.map .int)) (.tuple (b.map .int)) = decide (a = b) := by rw [PyData.eqv]; exact eqvAll_ints a b
theorem eqv_int (i j : Int) : PyData.eqv (.int i) (.int j) = decide (i = j) := by rw [PyData.eqv]; by_cases h : i = j <;> simp [h]
theorem eqv_str (x y : Str) : PyData.eqv (.str x) (.str y) = (x == y) := by rw [PyData.eqv]
/-- == of ints, texts, lists of ints -/
theorem oEq_int {i j : Int} {Q : D → Prop} (q : Q (.bl (decide (i = j)))) : oEq (.int i) (.int j) Q := ⟨_, _, rfl, rfl, shaped_int i, shaped_int j, by rw [eqv_int]; exact q⟩
theorem oNe_int {i j : Int} {Q : D → Prop} (q : Q (.bl (!decide (i = j)))) : oNe (.int i) (.int j) Q := ⟨_, _, rfl, rfl, shaped_int i, shaped_int j, by rw [eqv_int]; exact q⟩
theorem oEq_str {x y : Str} {Q : D → Prop} (hx : PyData.canLay0 (.str x) = true) (hy : PyData.canLay0 (.str y) = true) (q : Q (.bl (x == y))) : oEq (.str x) (.str y) Q := ⟨_, _, rfl, rfl, shaped_str hx, shaped_str hy, by rw [eqv_str]; exact q⟩
theorem oNe_str {x y : Str} {Q : D → Prop} (hx : PyData.canLay0 (.str x) = true) (hy : PyData.canLay0 (.str y) = true) (q : Q (.bl (!(x == y)))) : oNe (.str x) (.str y) Q := ⟨_, _, rfl, rfl, shaped_str hx, shaped_str hy, by rw [eqv_str]; exact q⟩
theorem oEq_lstI {a b : List Int} {Q : D → Prop} (q : Q (.bl (decide (a = b)))) : oEq (.lst (a.map .int)) (.lst (b.map .int)) Q := ⟨_, _, toPy_lstI a, toPy_lstI b, shaped_ints a, shaped_ints b, by rw [eqv_lstI]; exact q⟩
theorem oNe_lstI {a b : List Int} {Q : D → Prop} (q : Q (.bl (!decide (a = b)))) : oNe (.lst (a.map .int)) (.lst (b.map .int)) Q := ⟨_, _, toPy_lstI a, toPy_lstI b, shaped_ints a, shaped_ints b, by rw [eqv_lstI]; exact q⟩
theorem any_ints (i : Int) : ∀ ns : List Int, ((ns.map PyData.int).any fun z => PyData.eqv z (.int i)) = decide (i ∈ ns)
  | [] => by simp
  | n :: ns => by
    rw [List.map_cons, List.any_cons, any_ints i ns, eqv_int]
    by_cases h : n = i
    · simp [h]
    · have h' : ¬ i = n := fun e => h e.symm
      simp [h, h']
theorem oIn_lstI {i : Int} {ns : List Int} {Q : D → Prop} (q : Q (.bl (decide (i ∈ ns)))) : oIn (.int i) (.lst (ns.map .int)) Q := ⟨_, _, _, rfl, rfl, toPyL_ints ns, shaped_int i, shaped_tupI ns, by rw [any_ints]; exact q⟩
theorem oNotIn_lstI {i : Int} {ns : List Int} {Q : D → Prop} (q : Q (.bl (!decide (i ∈ ns)))) : oNotIn (.int i) (.lst (ns.map .int)) Q := ⟨_, _, _, rfl, rfl, toPyL_ints ns, shaped_int i, shaped_tupI ns, by rw [any_ints]; exact q⟩
/-! pairs -/
def pD (t : Int × Int) : D := .tup [.int t.1, .int t.2]
def pP (t : Int × Int) : PyData := .tuple [.int t.1, .int t.2]
theorem toPy_pD (t : Int × Int) : toPy (pD t) = some (pP t) := rfl
theorem toPyL_pairs : ∀ ts : List (Int × Int), toPyL (ts.map pD) = some (ts.map pP)
  | [] => rfl
  | t :: ts => by
    show (match toPy (pD t) with | some p => (toPyL (ts.map pD)).map (p :: ·) | none => none) = _
    rw [toPyL_pairs ts]
    rfl
theorem shaped_pP (t : Int × Int) : SeqAt.shaped (pP t) = true := shaped_tupI [t.1, t.2]
theorem canLay_pairs : ∀ ts : List (Int × Int), PyData.canLayAll0 (ts.map pP) = true
  | [] => by simp [PyData.canLayAll0]
  | t :: ts => by
    rw [List.map_cons, PyData.canLayAll0, canLay_pairs ts]
    simp [pP, PyData.canLay0, PyData.canLayAll0]
theorem depth_pairs : ∀ ts : List (Int × Int), PyData.depthAll (ts.map pP) ≤ 1
  | [] => by simp [PyData.depthAll]
  | t :: ts => by
    have := depth_pairs ts
    rw [List.map_cons, PyData.depthAll]
    have h : (pP t).depth ≤ 1 := by simp [pP, PyData.depth, PyData.depthAll]
    omega
theorem shaped_pairs (ts : List (Int × Int)) : SeqAt.shaped (.tuple (ts.map pP)) = true := by
  have h := depth_pairs ts
  unfold SeqAt.shaped
  rw [PyData.canLay0, canLay_pairs, PyData.depth]
  simp; omega
theorem eqv_pair (t u : Int × Int) : PyData.eqv (pP t) (pP u) = decide (t = u) := by
  have := eqv_tupI [t.1, t.2] [u.1, u.2]
  show PyData.eqv (.tuple ([t.1, t.2].map .int)) (.tuple ([u.1, u.2].map .int)) = _
  rw [this]
  obtain ⟨a, b⟩ := t
  obtain ⟨c, d⟩ := u
  by_cases h : a = c <;> by_cases h2 : b = d <;> simp [h, h2]
theorem any_pairs (t : Int × Int) : ∀ ts : List (Int × Int), ((ts.map pP).any fun z => PyData.eqv z (pP t)) = decide (t ∈ ts)
  | [] => by simp
  | u :: ts => by
    rw [List.map_cons, List.any_cons, any_pairs t ts, eqv_pair]
    by_cases h : u = t
    · simp [h]
    · have h' : ¬ t = u := fun e => h e.symm
      simp [h, h']
theorem oIn_pairs {t : Int × Int} {ts : List (Int × Int)} {Q : D → Prop} (q : Q (.bl (decide (t ∈ ts)))) : oIn (pD t) (.tup (ts.map pD)) Q := ⟨_, _, _, rfl, toPy_pD t, toPyL_pairs ts, shaped_pP t, shaped_pairs ts, by rw [any_pairs]; exact q⟩
theorem oNotIn_pairs {t : Int × Int} {ts : List (Int × Int)} {Q : D → Prop} (q : Q (.bl (!decide (t ∈ ts)))) : oNotIn (pD t) (.tup (ts.map pD)) Q := ⟨_, _, _, rfl, toPy_pD t, toPyL_pairs ts, shaped_pP t, shaped_pairs ts, by rw [any_pairs]; exact q⟩
/-! sorted -/
theorem alike_all {β : Type} {f : β → PyData} (h : ∀ a b, PySem.W.alike (f a) (f b) = true) (l : List β) : PySem.W.AllAlike (l.map f) := PySem.W.AllAlike.of h
theorem oSorted_ints {x : D} {ns : List Int} {Q : SV → Prop} (hx : itemsOf x = some (ns.map .int)) (q : ∀ ms : List Int, ms.Perm ns → ms.Pairwise (· ≤ ·) → Q (.ow (ms.map .int))) : oSorted [x] Q := by
  have ek : (ns.map D.int).map keyD = ns.map PyData.int := by rw [List.map_map]; rfl
  refine ⟨x, _, rfl, hx, fun d hd => ?_, ?_, ?_, fun d hd => ?_, ?_⟩
  · obtain ⟨n, _, rfl⟩ := List.mem_map.mp hd
    rfl
  · rw [ek]; exact PySem.W.AllAlike.of (enc := PyData.int) fun a b => by simp [PySem.W.alike]
  · rw [ek]; exact PySem.W.Sortable.others (enc := PyData.int) fun b => ⟨(fun z : PyData.int b = PyData.none => PyData.noConfusion z), fun xs (z : PyData.int b = PyData.tuple xs) => PyData.noConfusion z⟩
  · obtain ⟨n, _, rfl⟩ := List.mem_map.mp hd
    show (PyData.int n).depth ≤ 100
    simp [PyData.depth]
  · have e : (ns.map D.int).mergeSort (PySem.W.dataLe false keyD) = (ns.mergeSort (fun a b => decide (a ≤ b))).map D.int := by
      rw [List.map_mergeSort (r := fun a b : Int => decide (a ≤ b)) (s := PySem.W.dataLe false keyD) (f := D.int)]
      intro a _ b _
      have := congrFun (congrFun (PySem.W.dataLe_int (fun i : Int => i)) a) b
      exact this.symm
    rw [e]
    refine q _ (List.mergeSort_perm _ _) ?_
    have := List.pairwise_mergeSort (le := fun a b : Int => decide (a ≤ b)) (fun a b c h1 h2 => by simp at *; omega) (fun a b => by simp; omega) ns
    exact this.imp fun h => of_decide_eq_true h
def tLe (t u : Int × Int) : Prop := t.1 < u.1 ∨ (t.1 = u.1 ∧ t.2 ≤ u.2)
instance (t u : Int × Int) : Decidable (tLe t u) := by unfold tLe; infer_instance
theorem oSorted_pairs {x : D} {ts : List (Int × Int)} {Q : SV → Prop} (hx : itemsOf x = some (ts.map pD)) (q : ∀ us : List (Int × Int), us.Perm ts → us.Pairwise tLe → Q (.ow (us.map pD))) : oSorted [x] Q := by
  have ek : (ts.map pD).map keyD = ts.map pP := by rw [List.map_map]; rfl
  refine ⟨x, _, rfl, hx, fun d hd => ?_, ?_, ?_, fun d hd => ?_, ?_⟩
  · obtain ⟨n, _, rfl⟩ := List.mem_map.mp hd
    rfl
  · rw [ek]; exact PySem.W.AllAlike.of (enc := pP) fun a b => by simp [pP, PySem.W.alike, PySem.W.alikeAll]
  · rw [ek]; exact PySem.W.Sortable.tuples (enc := pP) fun b => ⟨_, _, rfl⟩
  · obtain ⟨n, _, rfl⟩ := List.mem_map.mp hd
    show (pP n).depth ≤ 100
    simp [pP, PyData.depth, PyData.depthAll]
  · have e : (ts.map pD).mergeSort (PySem.W.dataLe false keyD) = (ts.mergeSort (fun a b => decide (tLe a b))).map pD := by
      rw [List.map_mergeSort (r := fun a b : Int × Int => decide (tLe a b)) (s := PySem.W.dataLe false keyD) (f := pD)]
      intro a _ b _
      have := congrFun (congrFun (PySem.W.dataLe_ii (fun t : Int × Int => t.1) (fun t => t.2)) a) b
      exact this.symm
    rw [e]
    refine q _ (List.mergeSort_perm _ _) ?_
    have tr : ∀ a b c : Int × Int, decide (tLe a b) = true → decide (tLe b c) = true → decide (tLe a c) = true := fun a b c h1 h2 => by
      have h1 : a.1 < b.1 ∨ (a.1 = b.1 ∧ a.2 ≤ b.2) := of_decide_eq_true h1
      have h2 : b.1 < c.1 ∨ (b.1 = c.1 ∧ b.2 ≤ c.2) := of_decide_eq_true h2
      exact decide_eq_true (show a.1 < c.1 ∨ (a.1 = c.1 ∧ a.2 ≤ c.2) by omega)
    have to : ∀ a b : Int × Int, (decide (tLe a b) || decide (tLe b a)) = true := fun a b => by
      rw [Bool.or_eq_true, decide_eq_true_iff, decide_eq_true_iff]
      show (a.1 < b.1 ∨ (a.1 = b.1 ∧ a.2 ≤ b.2)) ∨ (b.1 < a.1 ∨ (b.1 = a.1 ∧ b.2 ≤ a.2))
      omega
    have := List.pairwise_mergeSort (le := fun a b : Int × Int => decide (tLe a b)) tr to ts
    exact this.imp fun h => of_decide_eq_true h
end DL
set_option maxHeartbeats 4000000
namespace K72
open PySem PySem.Spec PyProof.Rows L2 DL
def top (i : Nat) : Stmt := PySem.Challenge.pw_bothandall_k72_any_values_as_certificate.main.body.getD i (.Pass ⟨0, 0, 0, 0⟩)
/-- what the module's names stand for -/
structure FF (B : Bs) : Prop where
  g_MOST_HANDS : ∃ t, B.mg "MOST_HANDS" = some (.int 6 t)
  f_all : B.mg "all" = none
  f_any : B.mg "any" = none
  f_bool : B.mg "bool" = none
  f_enumerate : B.mg "enumerate" = none
  f_int : B.mg "int" = none
  f_isinstance : B.mg "isinstance" = none
  f_len : B.mg "len" = none
  f_list : B.mg "list" = none
  f_max : B.mg "max" = none
  f_min : B.mg "min" = none
  f_range : B.mg "range" = none
  f_repr : B.mg "repr" = none
  f_set : B.mg "set" = none
  f_sorted : B.mg "sorted" = none
  f_str : B.mg "str" = none
  f_tuple : B.mg "tuple" = none
  f_zip : B.mg "zip" = none
def t_ring_among : Stmt := top 22
def N_ring_among : List Str := ["rest", "ties", "back", "i", "j"]
def P_ring_among : List Str := ["rest", "ties"]
theorem sc_ring_among : FnScope N_ring_among P_ring_among (defScope t_ring_among) := ⟨rfl, rfl, rfl, by decide +kernel, rfl, by decide +kernel, by decide +kernel⟩
def t__law_deck : Stmt := top 28
def N__law_deck : List Str := ["_law_script", "_law_mixed", "_law_cell"]
def P__law_deck : List Str := ["_law_script"]
theorem sc__law_deck : FnScope N__law_deck P__law_deck (defScope t__law_deck) := ⟨rfl, rfl, rfl, by decide +kernel, rfl, by decide +kernel, by decide +kernel⟩
def t__law_draw : Stmt := top 29
def N__law_draw : List Str := ["_law_deck_here", "_law_below", "_law_figure", "_law_cell"]
def P__law_draw : List Str := ["_law_deck_here", "_law_below"]
theorem sc__law_draw : FnScope N__law_draw P__law_draw (defScope t__law_draw) := ⟨rfl, rfl, rfl, by decide +kernel, rfl, by decide +kernel, by decide +kernel⟩
def t_is_integer : Stmt := top 7
def N_is_integer : List Str := ["thing"]
def P_is_integer : List Str := ["thing"]
abbrev S_is_integer (B : Bs) (k : Nat) : Sta := { B with N := N_is_integer, names := (defScope t_is_integer).names, k := k, fc := fun _ => true }
theorem sc_is_integer : FnScope N_is_integer P_is_integer (defScope t_is_integer) := ⟨rfl, rfl, rfl, by decide +kernel, rfl, by decide +kernel, by decide +kernel⟩
def w_is_integer : WS := wRet (woFz (wAnd (wIsi "int" (wVar 0)) (wNot (wIsi "bool" (wVar 0)))))
theorem d_is_integer {B : Bs} (ff : FF B) {k : Nat} : DSs (S_is_integer B k) (defBody t_is_integer) (w_is_integer) := by
  have nd : N_is_integer.Nodup := by decide +kernel
  exact (dss_one (ds_ret (do_fz (de_andV (de_isi (ff.f_isinstance) (ff.f_int) (by decide +kernel) (by decide) (de_nm (i := 0))) (de_one (de_notV (de_isi (ff.f_isinstance) (ff.f_bool) (by decide +kernel) (by decide) (de_nm (i := 0)))))))))
def t_is_between : Stmt := top 8
def N_is_between : List Str := ["thing", "least", "most"]
def P_is_between : List Str := ["thing", "least", "most"]
abbrev S_is_between (B : Bs) (k : Nat) : Sta := { B with N := N_is_between, names := (defScope t_is_between).names, k := k, fc := fun _ => true }
theorem sc_is_between : FnScope N_is_between P_is_between (defScope t_is_between) := ⟨rfl, rfl, rfl, by decide +kernel, rfl, by decide +kernel, by decide +kernel⟩
def w_is_between (s_is_integer : FS) : WS := wRet (woFz (wAnd (wFz (woCall s_is_integer (waCons (wVar 0) (waNil)))) (wChain (oB0 fun i j => decide (i ≤ j)) (oB0 fun i j => decide (i ≤ j)) (wVar 1) (wVar 0) (wVar 2))))
theorem d_is_between {B : Bs} (ff : FF B) {k : Nat} {s_is_integer : FS} {n_is_integer : Nat} (k_is_integer : Kn B n_is_integer "is_integer" t_is_integer P_is_integer s_is_integer) (hk_is_integer : n_is_integer ≤ k) : DSs (S_is_between B k) (defBody t_is_between) (w_is_between s_is_integer) := by
  have nd : N_is_between.Nodup := by decide +kernel
  exact (dss_one (ds_ret (do_fz (de_andV (de_fz (do_call k_is_integer hk_is_integer (da_cons (de_nm (i := 0)) da_nil))) (de_one (de_chain cm_le cm_le (de_nm (i := 1)) (de_nm (i := 0)) (de_nm (i := 2))))))))
def t_are_between : Stmt := top 9
def N_are_between : List Str := ["thing", "least", "most", "part"]
def P_are_between : List Str := ["thing", "least", "most"]
abbrev S_are_between (B : Bs) (k : Nat) : Sta := { B with N := N_are_between, names := (defScope t_are_between).names, k := k, fc := fun _ => true }
theorem sc_are_between : FnScope N_are_between P_are_between (defScope t_are_between) := ⟨rfl, rfl, rfl, by decide +kernel, rfl, by decide +kernel, by decide +kernel⟩
def w_are_between (s_is_between : FS) : WS := wRet (woFz (wAnd (wIsi "tuple" (wVar 0)) (wFz (woCB oAll (waCons (wFz (wComp (wiSeq (wVar 0)) (wgName 3) (wtTrue) (wFz (woCall s_is_between (waCons (wVar 3) (waCons (wVar 1) (waCons (wVar 2) (waNil)))))) [3])) (waNil))))))
theorem d_are_between {B : Bs} (ff : FF B) {k : Nat} {s_is_between : FS} {n_is_between : Nat} (k_is_between : Kn B n_is_between "is_between" t_is_between P_is_between s_is_between) (hk_is_between : n_is_between ≤ k) : DSs (S_are_between B k) (defBody t_are_between) (w_are_between s_is_between) := by
  have nd : N_are_between.Nodup := by decide +kernel
  exact (dss_one (ds_ret (do_fz (de_andV (de_isi (ff.f_isinstance) (ff.f_tuple) (by decide +kernel) (by decide) (de_nm (i := 0))) (de_one (de_fz (do_callB cd_all (ff.f_all) (by decide +kernel) (da_cons (de_fz (do_lc (own := [("part", 3)]) (di_seq (de_nm (i := 0))) nd (by kernel_rfl) (dg_name (i := 3) nd) (by decide) dts_nil (de_fz (do_call k_is_between hk_is_between (da_cons (de_nm (i := 3)) (da_cons (de_nm (i := 1)) (da_cons (de_nm (i := 2)) da_nil))))))) da_nil))))))))
def t_is_word : Stmt := top 10
def N_is_word : List Str := ["thing", "word"]
def P_is_word : List Str := ["thing", "word"]
abbrev S_is_word (B : Bs) (k : Nat) : Sta := { B with N := N_is_word, names := (defScope t_is_word).names, k := k, fc := fun _ => true }
theorem sc_is_word : FnScope N_is_word P_is_word (defScope t_is_word) := ⟨rfl, rfl, rfl, by decide +kernel, rfl, by decide +kernel, by decide +kernel⟩
def w_is_word : WS := wRet (woFz (wAnd (wIsi "tuple" (wVar 0)) (wAnd (wOp (oB0 fun i j => decide (j < i)) (wFz (woCB oLen (waCons (wVar 0) (waNil)))) (wC (.int 0))) (wAnd (wIsi "str" (wOp oIx (wVar 0) (wC (.int 0)))) (wOp oEq (wOp oIx (wVar 0) (wC (.int 0))) (wVar 1))))))
theorem d_is_word {B : Bs} (ff : FF B) {k : Nat} : DSs (S_is_word B k) (defBody t_is_word) (w_is_word) := by
  have nd : N_is_word.Nodup := by decide +kernel
  exact (dss_one (ds_ret (do_fz (de_andV (de_isi (ff.f_isinstance) (ff.f_tuple) (by decide +kernel) (by decide) (de_nm (i := 0))) (de_andV (de_cmp cm_gt (de_fz (do_callB cd_len (ff.f_len) (by decide +kernel) (da_cons (de_nm (i := 0)) da_nil))) de_int) (de_andV (de_isi (ff.f_isinstance) (ff.f_str) (by decide +kernel) (by decide) (de_ix (de_nm (i := 0)) de_int)) (de_one (de_cmp cm_eq (de_ix (de_nm (i := 0)) de_int) (de_nm (i := 1))))))))))
def t_is_ascending : Stmt := top 11
def N_is_ascending : List Str := ["some", "one", "other"]
def P_is_ascending : List Str := ["some"]
abbrev S_is_ascending (B : Bs) (k : Nat) : Sta := { B with N := N_is_ascending, names := (defScope t_is_ascending).names, k := k, fc := fun _ => true }
theorem sc_is_ascending : FnScope N_is_ascending P_is_ascending (defScope t_is_ascending) := ⟨rfl, rfl, rfl, by decide +kernel, rfl, by decide +kernel, by decide +kernel⟩
def w_is_ascending : WS := wRet (woCB oAll (waCons (wFz (wComp (wiZip (waCons (wVar 0) (waCons (wFz (woSl (wVar 0) (wpSome (wC (.int 1))) (wpNone))) (waNil)))) (wgTup 2 (wgCons (wgName 1) (wgCons (wgName 2) (wgNil)))) (wtTrue) (wOp oLtT (wVar 1) (wVar 2)) [1, 2])) (waNil)))
theorem d_is_ascending {B : Bs} (ff : FF B) {k : Nat} : DSs (S_is_ascending B k) (defBody t_is_ascending) (w_is_ascending) := by
  have nd : N_is_ascending.Nodup := by decide +kernel
  exact (dss_one (ds_ret (do_callB cd_all (ff.f_all) (by decide +kernel) (da_cons (de_fz (do_lc (own := [("one", 1), ("other", 2)]) (di_zip (ff.f_zip) (da_cons (de_nm (i := 0)) (da_cons (de_fz (do_slice (de_nm (i := 0)) (dp_some de_int) dp_none)) da_nil))) nd (by kernel_rfl) (dg_tup (dgs_cons (dg_name (i := 1) nd) (dgs_cons (dg_name (i := 2) nd) dgs_nil))) (by decide) dts_nil (de_cmp cm_ltT (de_nm (i := 1)) (de_nm (i := 2))))) da_nil))))
def t_is_meeting_value : Stmt := top 12
def N_is_meeting_value : List Str := ["hands", "thing"]
def P_is_meeting_value : List Str := ["hands", "thing"]
abbrev S_is_meeting_value (B : Bs) (k : Nat) : Sta := { B with N := N_is_meeting_value, names := (defScope t_is_meeting_value).names, k := k, fc := fun _ => true }
theorem sc_is_meeting_value : FnScope N_is_meeting_value P_is_meeting_value (defScope t_is_meeting_value) := ⟨rfl, rfl, rfl, by decide +kernel, rfl, by decide +kernel, by decide +kernel⟩
def w_is_meeting_value (s_are_between : FS) : WS := wRet (woFz (wAnd (wFz (woCall s_are_between (waCons (wVar 1) (waCons (wC (.int 0)) (waCons (wOp (oI0 fun i j => i - j) (wVar 0) (wC (.int 1))) (waNil)))))) (wAnd (wOp oEq (wFz (woCB oLen (waCons (wVar 1) (waNil)))) (wC (.int 2))) (wOp oNe (wOp oIx (wVar 1) (wC (.int 0))) (wOp oIx (wVar 1) (wC (.int 1)))))))
theorem d_is_meeting_value {B : Bs} (ff : FF B) {k : Nat} {s_are_between : FS} {n_are_between : Nat} (k_are_between : Kn B n_are_between "are_between" t_are_between P_are_between s_are_between) (hk_are_between : n_are_between ≤ k) : DSs (S_is_meeting_value B k) (defBody t_is_meeting_value) (w_is_meeting_value s_are_between) := by
  have nd : N_is_meeting_value.Nodup := by decide +kernel
  exact (dss_one (ds_ret (do_fz (de_andV (de_fz (do_call k_are_between hk_are_between (da_cons (de_nm (i := 1)) (da_cons de_int (da_cons (de_sub (de_nm (i := 0)) de_int) da_nil))))) (de_andV (de_cmp cm_eq (de_fz (do_callB cd_len (ff.f_len) (by decide +kernel) (da_cons (de_nm (i := 1)) da_nil))) de_int) (de_one (de_cmp cm_ne (de_ix (de_nm (i := 1)) de_int) (de_ix (de_nm (i := 1)) de_int))))))))
def t_are_meetings : Stmt := top 13
def N_are_meetings : List Str := ["hands", "thing", "meeting"]
def P_are_meetings : List Str := ["hands", "thing"]
abbrev S_are_meetings (B : Bs) (k : Nat) : Sta := { B with N := N_are_meetings, names := (defScope t_are_meetings).names, k := k, fc := fun _ => true }
theorem sc_are_meetings : FnScope N_are_meetings P_are_meetings (defScope t_are_meetings) := ⟨rfl, rfl, rfl, by decide +kernel, rfl, by decide +kernel, by decide +kernel⟩
def w_are_meetings (s_is_meeting_value : FS) : WS := wRet (woFz (wAnd (wIsi "tuple" (wVar 1)) (wFz (woCB oAll (waCons (wFz (wComp (wiSeq (wVar 1)) (wgName 2) (wtTrue) (wFz (woCall s_is_meeting_value (waCons (wVar 0) (waCons (wVar 2) (waNil))))) [2])) (waNil))))))
theorem d_are_meetings {B : Bs} (ff : FF B) {k : Nat} {s_is_meeting_value : FS} {n_is_meeting_value : Nat} (k_is_meeting_value : Kn B n_is_meeting_value "is_meeting_value" t_is_meeting_value P_is_meeting_value s_is_meeting_value) (hk_is_meeting_value : n_is_meeting_value ≤ k) : DSs (S_are_meetings B k) (defBody t_are_meetings) (w_are_meetings s_is_meeting_value) := by
  have nd : N_are_meetings.Nodup := by decide +kernel
  exact (dss_one (ds_ret (do_fz (de_andV (de_isi (ff.f_isinstance) (ff.f_tuple) (by decide +kernel) (by decide) (de_nm (i := 1))) (de_one (de_fz (do_callB cd_all (ff.f_all) (by decide +kernel) (da_cons (de_fz (do_lc (own := [("meeting", 2)]) (di_seq (de_nm (i := 1))) nd (by kernel_rfl) (dg_name (i := 2) nd) (by decide) dts_nil (de_fz (do_call k_is_meeting_value hk_is_meeting_value (da_cons (de_nm (i := 0)) (da_cons (de_nm (i := 2)) da_nil)))))) da_nil))))))))
def t_are_ties_value : Stmt := top 14
def N_are_ties_value : List Str := ["hands", "thing"]
def P_are_ties_value : List Str := ["hands", "thing"]
abbrev S_are_ties_value (B : Bs) (k : Nat) : Sta := { B with N := N_are_ties_value, names := (defScope t_are_ties_value).names, k := k, fc := fun _ => true }
theorem sc_are_ties_value : FnScope N_are_ties_value P_are_ties_value (defScope t_are_ties_value) := ⟨rfl, rfl, rfl, by decide +kernel, rfl, by decide +kernel, by decide +kernel⟩
def w_are_ties_value (s_are_meetings : FS) (s_is_ascending : FS) : WS := wRet (woFz (wAnd (wFz (woCall s_are_meetings (waCons (wVar 0) (waCons (wVar 1) (waNil))))) (wFz (woCall s_is_ascending (waCons (wVar 1) (waNil))))))
theorem d_are_ties_value {B : Bs} (ff : FF B) {k : Nat} {s_are_meetings : FS} {n_are_meetings : Nat} (k_are_meetings : Kn B n_are_meetings "are_meetings" t_are_meetings P_are_meetings s_are_meetings) (hk_are_meetings : n_are_meetings ≤ k) {s_is_ascending : FS} {n_is_ascending : Nat} (k_is_ascending : Kn B n_is_ascending "is_ascending" t_is_ascending P_is_ascending s_is_ascending) (hk_is_ascending : n_is_ascending ≤ k) : DSs (S_are_ties_value B k) (defBody t_are_ties_value) (w_are_ties_value s_are_meetings s_is_ascending) := by
  have nd : N_are_ties_value.Nodup := by decide +kernel
  exact (dss_one (ds_ret (do_fz (de_andV (de_fz (do_call k_are_meetings hk_are_meetings (da_cons (de_nm (i := 0)) (da_cons (de_nm (i := 1)) da_nil)))) (de_one (de_fz (do_call k_is_ascending hk_is_ascending (da_cons (de_nm (i := 1)) da_nil))))))))
def t_is_order_value : Stmt := top 15
def N_is_order_value : List Str := ["hands", "thing"]
def P_is_order_value : List Str := ["hands", "thing"]
abbrev S_is_order_value (B : Bs) (k : Nat) : Sta := { B with N := N_is_order_value, names := (defScope t_is_order_value).names, k := k, fc := fun _ => true }
theorem sc_is_order_value : FnScope N_is_order_value P_is_order_value (defScope t_is_order_value) := ⟨rfl, rfl, rfl, by decide +kernel, rfl, by decide +kernel, by decide +kernel⟩
def w_is_order_value (s_are_between : FS) : WS := wRet (woFz (wAnd (wFz (woCall s_are_between (waCons (wVar 1) (waCons (wC (.int 0)) (waCons (wOp (oI0 fun i j => i - j) (wVar 0) (wC (.int 1))) (waNil)))))) (wOp oEq (wFz (woCB oSorted (waCons (wVar 1) (waNil)))) (wFz (woListRg1 (wVar 0))))))
theorem d_is_order_value {B : Bs} (ff : FF B) {k : Nat} {s_are_between : FS} {n_are_between : Nat} (k_are_between : Kn B n_are_between "are_between" t_are_between P_are_between s_are_between) (hk_are_between : n_are_between ≤ k) : DSs (S_is_order_value B k) (defBody t_is_order_value) (w_is_order_value s_are_between) := by
  have nd : N_is_order_value.Nodup := by decide +kernel
  exact (dss_one (ds_ret (do_fz (de_andV (de_fz (do_call k_are_between hk_are_between (da_cons (de_nm (i := 1)) (da_cons de_int (da_cons (de_sub (de_nm (i := 0)) de_int) da_nil))))) (de_one (de_cmp cm_eq (de_fz (do_callB cd_sorted (ff.f_sorted) (by decide +kernel) (da_cons (de_nm (i := 1)) da_nil))) (de_fz (do_listRg1 (ff.f_list) (ff.f_range) (de_nm (i := 0))))))))))
def t_need_hands : Stmt := top 17
def N_need_hands : List Str := ["hands"]
def P_need_hands : List Str := ["hands"]
abbrev S_need_hands (B : Bs) (k : Nat) : Sta := { B with N := N_need_hands, names := (defScope t_need_hands).names, k := k, fc := fun _ => true }
theorem sc_need_hands : FnScope N_need_hands P_need_hands (defScope t_need_hands) := ⟨rfl, rfl, rfl, by decide +kernel, rfl, by decide +kernel, by decide +kernel⟩
def w_need_hands (s_is_between : FS) : WS := wIfS (wtNot (wtV (wFz (woCall s_is_between (waCons (wVar 0) (waCons (wC (.int 1)) (waCons (wC (.int 6)) (waNil)))))))) (wNever) (wNext)
theorem d_need_hands {B : Bs} (ff : FF B) {k : Nat} {s_is_between : FS} {n_is_between : Nat} (k_is_between : Kn B n_is_between "is_between" t_is_between P_is_between s_is_between) (hk_is_between : n_is_between ≤ k) : DSs (S_need_hands B k) (defBody t_need_hands) (w_need_hands s_is_between) := by
  have nd : N_need_hands.Nodup := by decide +kernel
  exact (dss_one (ds_if (dt_not (dt_val (de_fz (do_call k_is_between hk_is_between (da_cons (de_nm (i := 0)) (da_cons de_int (da_cons (de_gi ff.g_MOST_HANDS) da_nil))))))) (dss_one ds_never) dss_nil))
def t_need_ties : Stmt := top 18
def N_need_ties : List Str := ["hands", "ties"]
def P_need_ties : List Str := ["hands", "ties"]
abbrev S_need_ties (B : Bs) (k : Nat) : Sta := { B with N := N_need_ties, names := (defScope t_need_ties).names, k := k, fc := fun _ => true }
theorem sc_need_ties : FnScope N_need_ties P_need_ties (defScope t_need_ties) := ⟨rfl, rfl, rfl, by decide +kernel, rfl, by decide +kernel, by decide +kernel⟩
def w_need_ties (s_are_ties_value : FS) : WS := wIfS (wtNot (wtV (wFz (woCall s_are_ties_value (waCons (wVar 0) (waCons (wVar 1) (waNil))))))) (wNever) (wNext)
theorem d_need_ties {B : Bs} (ff : FF B) {k : Nat} {s_are_ties_value : FS} {n_are_ties_value : Nat} (k_are_ties_value : Kn B n_are_ties_value "are_ties_value" t_are_ties_value P_are_ties_value s_are_ties_value) (hk_are_ties_value : n_are_ties_value ≤ k) : DSs (S_need_ties B k) (defBody t_need_ties) (w_need_ties s_are_ties_value) := by
  have nd : N_need_ties.Nodup := by decide +kernel
  exact (dss_one (ds_if (dt_not (dt_val (de_fz (do_call k_are_ties_value hk_are_ties_value (da_cons (de_nm (i := 0)) (da_cons (de_nm (i := 1)) da_nil)))))) (dss_one ds_never) dss_nil))
def t_need_hands_and_ties : Stmt := top 20
def N_need_hands_and_ties : List Str := ["hands", "ties"]
def P_need_hands_and_ties : List Str := ["hands", "ties"]
abbrev S_need_hands_and_ties (B : Bs) (k : Nat) : Sta := { B with N := N_need_hands_and_ties, names := (defScope t_need_hands_and_ties).names, k := k, fc := fun _ => true }
theorem sc_need_hands_and_ties : FnScope N_need_hands_and_ties P_need_hands_and_ties (defScope t_need_hands_and_ties) := ⟨rfl, rfl, rfl, by decide +kernel, rfl, by decide +kernel, by decide +kernel⟩
def w_need_hands_and_ties (s_need_hands : FS) (s_need_ties : FS) : WS := wSeq (wExpr (wFz (woCall s_need_hands (waCons (wVar 0) (waNil))))) (wExpr (wFz (woCall s_need_ties (waCons (wVar 0) (waCons (wVar 1) (waNil))))))
theorem d_need_hands_and_ties {B : Bs} (ff : FF B) {k : Nat} {s_need_hands : FS} {n_need_hands : Nat} (k_need_hands : Kn B n_need_hands "need_hands" t_need_hands P_need_hands s_need_hands) (hk_need_hands : n_need_hands ≤ k) {s_need_ties : FS} {n_need_ties : Nat} (k_need_ties : Kn B n_need_ties "need_ties" t_need_ties P_need_ties s_need_ties) (hk_need_ties : n_need_ties ≤ k) : DSs (S_need_hands_and_ties B k) (defBody t_need_hands_and_ties) (w_need_hands_and_ties s_need_hands s_need_ties) := by
  have nd : N_need_hands_and_ties.Nodup := by decide +kernel
  exact (dss_cons (ds_expr (de_fz (do_call k_need_hands hk_need_hands (da_cons (de_nm (i := 0)) da_nil)))) (dss_one (ds_expr (de_fz (do_call k_need_ties hk_need_ties (da_cons (de_nm (i := 0)) (da_cons (de_nm (i := 1)) da_nil)))))))
def t_order_or_rest : Stmt := top 21
def N_order_or_rest : List Str := ["hands", "ties", "order", "rest", "free", "hand", "i", "j"]
def P_order_or_rest : List Str := ["hands", "ties"]
abbrev S_order_or_rest (B : Bs) (k : Nat) : Sta := { B with N := N_order_or_rest, names := (defScope t_order_or_rest).names, k := k, fc := fun _ => true }
theorem sc_order_or_rest : FnScope N_order_or_rest P_order_or_rest (defScope t_order_or_rest) := ⟨rfl, rfl, rfl, by decide +kernel, rfl, by decide +kernel, by decide +kernel⟩
def w_order_or_rest : WS := wSeq (wPar2 2 3 (woLst (waNil)) (woListRg1 (wVar 0))) (wWhile (wtV (wC (.bl true))) (wSeq (wSet 4 (wComp (wiSeq (wVar 3)) (wgName 5) (wtNot (wtV (wFz (woCB oAny (waCons (wFz (wComp (wiSeq (wVar 1)) (wgTup 2 (wgCons (wgName 6) (wgCons (wgName 7) (wgNil)))) (wtTrue) (wAnd (wOp oEq (wVar 7) (wVar 5)) (wOp oIn (wVar 6) (wVar 3))) [6, 7])) (waNil)))))) (wVar 5) [5])) (wSeq (wIfS (wtV (wOp oEq (wVar 4) (wFz (woLst (waNil))))) (wRet (woFz (wTup (waCons (wVar 2) (waCons (wVar 3) (waNil)))))) (wNext)) (wSeq (wApp 2 (wvO (woFz (wOp oIx (wVar 4) (wC (.int 0)))))) (wRemove 3 (wOp oIx (wVar 4) (wC (.int 0))))))))
theorem d_order_or_rest {B : Bs} (ff : FF B) {k : Nat} : DSs (S_order_or_rest B k) (defBody t_order_or_rest) (w_order_or_rest) := by
  have nd : N_order_or_rest.Nodup := by decide +kernel
  exact (dss_cons (ds_parT2 (i := 2) (j := 3) (do_lst da_nil) (do_listRg1 (ff.f_list) (ff.f_range) (de_nm (i := 0))) nd) (dss_one (ds_while (dt_val de_bl) (dss_cons (ds_setLc (i := 4) (own := [("hand", 5)]) (di_seq (de_nm (i := 3))) nd (by kernel_rfl) (dg_name (i := 5) nd) (by decide) (dts_one (dt_not (dt_val (de_fz (do_callB cd_any (ff.f_any) (by decide +kernel) (da_cons (de_fz (do_lc (own := [("i", 6), ("j", 7)]) (di_seq (de_nm (i := 1))) nd (by kernel_rfl) (dg_tup (dgs_cons (dg_name (i := 6) nd) (dgs_cons (dg_name (i := 7) nd) dgs_nil))) (by decide) dts_nil (de_andV (de_cmp cm_eq (de_nm (i := 7)) (de_nm (i := 5))) (de_one (de_cmp cm_in (de_nm (i := 6)) (de_nm (i := 3))))))) da_nil)))))) (de_nm (i := 5))) (dss_cons (ds_if (dt_cmp cm_eq (de_nm (i := 4)) (de_fz (do_lst da_nil))) (dss_one (ds_ret (do_fz (de_tup (da_cons (de_nm (i := 2)) (da_cons (de_nm (i := 3)) da_nil)))))) dss_nil) (dss_cons (ds_app (i := 2) (dv_do (do_fz (de_ix (de_nm (i := 4)) de_int)))) (dss_one (ds_remove (i := 3) (de_ix (de_nm (i := 4)) de_int)))))))))
def t_raw_round : Stmt := top 23
def N_raw_round : List Str := ["hands", "ties", "order", "rest"]
def P_raw_round : List Str := ["hands", "ties"]
abbrev S_raw_round (B : Bs) (k : Nat) : Sta := { B with N := N_raw_round, names := (defScope t_raw_round).names, k := k, fc := fun _ => true }
theorem sc_raw_round : FnScope N_raw_round P_raw_round (defScope t_raw_round) := ⟨rfl, rfl, rfl, by decide +kernel, rfl, by decide +kernel, by decide +kernel⟩
def w_raw_round (s_order_or_rest : FS) (s_ring_among : FS) : WS := wSeq (wSetT (wgTup 2 (wgCons (wgName 2) (wgCons (wgName 3) (wgNil)))) (wvO (woCall s_order_or_rest (waCons (wVar 0) (waCons (wVar 1) (waNil)))))) (wRet (woIf (wtV (wOp oEq (wVar 3) (wFz (woLst (waNil))))) (woFz (wTup (waCons (wC (.str "order")) (waCons (wFz (woCB oTuple (waCons (wVar 2) (waNil)))) (waNil))))) (woFz (wTup (waCons (wC (.str "ring")) (waCons (wFz (woCall s_ring_among (waCons (wVar 3) (waCons (wVar 1) (waNil))))) (waNil)))))))
theorem d_raw_round {B : Bs} (ff : FF B) {k : Nat} {s_order_or_rest : FS} {n_order_or_rest : Nat} (k_order_or_rest : Kn B n_order_or_rest "order_or_rest" t_order_or_rest P_order_or_rest s_order_or_rest) (hk_order_or_rest : n_order_or_rest ≤ k) {s_ring_among : FS} {n_ring_among : Nat} (k_ring_among : Kn B n_ring_among "ring_among" t_ring_among P_ring_among s_ring_among) (hk_ring_among : n_ring_among ≤ k) : DSs (S_raw_round B k) (defBody t_raw_round) (w_raw_round s_order_or_rest s_ring_among) := by
  have nd : N_raw_round.Nodup := by decide +kernel
  exact (dss_cons (ds_asgT (dv_do (do_call k_order_or_rest hk_order_or_rest (da_cons (de_nm (i := 0)) (da_cons (de_nm (i := 1)) da_nil)))) (dg_tup (dgs_cons (dg_name (i := 2) nd) (dgs_cons (dg_name (i := 3) nd) dgs_nil)))) (dss_one (ds_ret (do_if (dt_cmp cm_eq (de_nm (i := 3)) (de_fz (do_lst da_nil))) (do_fz (de_tup (da_cons de_str (da_cons (de_fz (do_callTy cd_tuple (ff.f_tuple) (by decide +kernel) (da_cons (de_nm (i := 2)) da_nil))) da_nil)))) (do_fz (de_tup (da_cons de_str (da_cons (de_fz (do_call k_ring_among hk_ring_among (da_cons (de_nm (i := 3)) (da_cons (de_nm (i := 1)) da_nil)))) da_nil))))))))
def t_need_no_ring : Stmt := top 24
def N_need_no_ring : List Str := ["hands", "ties", "told"]
def P_need_no_ring : List Str := ["hands", "ties"]
abbrev S_need_no_ring (B : Bs) (k : Nat) : Sta := { B with N := N_need_no_ring, names := (defScope t_need_no_ring).names, k := k, fc := fun _ => true }
theorem sc_need_no_ring : FnScope N_need_no_ring P_need_no_ring (defScope t_need_no_ring) := ⟨rfl, rfl, rfl, by decide +kernel, rfl, by decide +kernel, by decide +kernel⟩
def w_need_no_ring (s_raw_round : FS) : WS := wSeq (wSet 2 (woCall s_raw_round (waCons (wVar 0) (waCons (wVar 1) (waNil))))) (wSeq (wIfS (wtV (wOp oEq (wOp oIx (wVar 2) (wC (.int 0))) (wC (.str "ring")))) (wNever) (wNext)) (wRet (woFz (wOp oIx (wVar 2) (wC (.int 1))))))
theorem d_need_no_ring {B : Bs} (ff : FF B) {k : Nat} {s_raw_round : FS} {n_raw_round : Nat} (k_raw_round : Kn B n_raw_round "raw_round" t_raw_round P_raw_round s_raw_round) (hk_raw_round : n_raw_round ≤ k) : DSs (S_need_no_ring B k) (defBody t_need_no_ring) (w_need_no_ring s_raw_round) := by
  have nd : N_need_no_ring.Nodup := by decide +kernel
  exact (dss_cons (ds_set (i := 2) (do_call k_raw_round hk_raw_round (da_cons (de_nm (i := 0)) (da_cons (de_nm (i := 1)) da_nil))) nd) (dss_cons (ds_if (dt_cmp cm_eq (de_ix (de_nm (i := 2)) de_int) de_str) (dss_one ds_never) dss_nil) (dss_one (ds_ret (do_fz (de_ix (de_nm (i := 2)) de_int))))))
def t_reached_from : Stmt := top 25
def N_reached_from : List Str := ["hand", "ties", "found", "layer", "i", "j"]
def P_reached_from : List Str := ["hand", "ties"]
abbrev S_reached_from (B : Bs) (k : Nat) : Sta := { B with N := N_reached_from, names := (defScope t_reached_from).names, k := k, fc := fun _ => true }
theorem sc_reached_from : FnScope N_reached_from P_reached_from (defScope t_reached_from) := ⟨rfl, rfl, rfl, by decide +kernel, rfl, by decide +kernel, by decide +kernel⟩
def w_reached_from : WS := wSeq (wPar2 2 3 (woLst (waCons (wVar 0) (waNil))) (woLst (waCons (wVar 0) (waNil)))) (wSeq (wWhile (wtV (wOp oNe (wVar 3) (wFz (woLst (waNil))))) (wSeq (wSet 3 (woSortSet (wFz (wComp (wiSeq (wVar 1)) (wgTup 2 (wgCons (wgName 4) (wgCons (wgName 5) (wgNil)))) (wtAnd (wtV (wOp oIn (wVar 4) (wVar 3))) (wtV (wOp oNotIn (wVar 5) (wVar 2)))) (wVar 5) [4, 5])))) (wExt 2 (wvVar 3)))) (wRetV 2))
theorem d_reached_from {B : Bs} (ff : FF B) {k : Nat} : DSs (S_reached_from B k) (defBody t_reached_from) (w_reached_from) := by
  have nd : N_reached_from.Nodup := by decide +kernel
  exact (dss_cons (ds_parT2 (i := 2) (j := 3) (do_lst (da_cons (de_nm (i := 0)) da_nil)) (do_lst (da_cons (de_nm (i := 0)) da_nil)) nd) (dss_cons (ds_while (dt_cmp cm_ne (de_nm (i := 3)) (de_fz (do_lst da_nil))) (dss_cons (ds_set (i := 3) (do_sortSet (ff.f_sorted) (ff.f_set) (de_fz (do_lc (own := [("i", 4), ("j", 5)]) (di_seq (de_nm (i := 1))) nd (by kernel_rfl) (dg_tup (dgs_cons (dg_name (i := 4) nd) (dgs_cons (dg_name (i := 5) nd) dgs_nil))) (by decide) (dts_one (dt_pw (dw_and (dt_cmp cm_in (de_nm (i := 4)) (de_nm (i := 3))) (dw_and1 (dt_cmp cm_notIn (de_nm (i := 5)) (de_nm (i := 2))))))) (de_nm (i := 5))))) nd) (dss_one (ds_ext (i := 2) (dv_var (i := 3)))))) (dss_one (ds_retV (i := 2)))))
def t_way_holds : Stmt := top 26
def N_way_holds : List Str := ["hands", "ties", "thing", "i", "j", "pair"]
def P_way_holds : List Str := ["hands", "ties", "thing"]
abbrev S_way_holds (B : Bs) (k : Nat) : Sta := { B with N := N_way_holds, names := (defScope t_way_holds).names, k := k, fc := fun _ => true }
theorem sc_way_holds : FnScope N_way_holds P_way_holds (defScope t_way_holds) := ⟨rfl, rfl, rfl, by decide +kernel, rfl, by decide +kernel, by decide +kernel⟩
def w_way_holds (s_need_hands_and_ties : FS) (s_need_no_ring : FS) (s_is_word : FS) (s_is_order_value : FS) (s_are_between : FS) (s_reached_from : FS) : WS := wSeq (wExpr (wFz (woCall s_need_hands_and_ties (waCons (wVar 0) (waCons (wVar 1) (waNil)))))) (wSeq (wExpr (wFz (woCall s_need_no_ring (waCons (wVar 0) (waCons (wVar 1) (waNil)))))) (wSeq (wIfS (wtAnd (wtV (wFz (woCall s_is_word (waCons (wVar 2) (waCons (wC (.str "way")) (waNil)))))) (wtAnd (wtV (wOp oEq (wFz (woCB oLen (waCons (wVar 2) (waNil)))) (wC (.int 2)))) (wtV (wFz (woCall s_is_order_value (waCons (wVar 0) (waCons (wOp oIx (wVar 2) (wC (.int 1))) (waNil)))))))) (wRet (woCB oAll (waCons (wFz (wComp (wiZipN (waCons (wOp oIx (wVar 2) (wC (.int 1))) (waCons (wFz (woSl (wOp oIx (wVar 2) (wC (.int 1))) (wpSome (wC (.int 1))) (wpNone))) (waNil)))) (wgName 5) (wtTrue) (wOp oIn (wVar 5) (wVar 1)) [5])) (waNil)))) (wNext)) (wSeq (wIfS (wtOr (wtNot (wtV (wFz (woCall s_is_word (waCons (wVar 2) (waCons (wC (.str "two")) (waNil))))))) (wtOr (wtV (wOp oNe (wFz (woCB oLen (waCons (wVar 2) (waNil)))) (wC (.int 3)))) (wtNot (wtV (wFz (woCall s_are_between (waCons (wFz (woSl (wVar 2) (wpSome (wC (.int 1))) (wpNone))) (waCons (wC (.int 0)) (waCons (wOp (oI0 fun i j => i - j) (wVar 0) (wC (.int 1))) (waNil)))))))))) (wRet (woFz (wC (.bl false)))) (wNext)) (wSeq (wSetT (wgTup 2 (wgCons (wgName 3) (wgCons (wgName 4) (wgNil)))) (wvO (woSl (wVar 2) (wpSome (wC (.int 1))) (wpNone)))) (wRet (woFz (wAnd (wOp (oB0 fun i j => decide (i < j)) (wVar 3) (wVar 4)) (wAnd (wOp oNotIn (wVar 4) (wFz (woCall s_reached_from (waCons (wVar 3) (waCons (wVar 1) (waNil)))))) (wOp oNotIn (wVar 3) (wFz (woCall s_reached_from (waCons (wVar 4) (waCons (wVar 1) (waNil))))))))))))))
theorem d_way_holds {B : Bs} (ff : FF B) {k : Nat} {s_need_hands_and_ties : FS} {n_need_hands_and_ties : Nat} (k_need_hands_and_ties : Kn B n_need_hands_and_ties "need_hands_and_ties" t_need_hands_and_ties P_need_hands_and_ties s_need_hands_and_ties) (hk_need_hands_and_ties : n_need_hands_and_ties ≤ k) {s_need_no_ring : FS} {n_need_no_ring : Nat} (k_need_no_ring : Kn B n_need_no_ring "need_no_ring" t_need_no_ring P_need_no_ring s_need_no_ring) (hk_need_no_ring : n_need_no_ring ≤ k) {s_is_word : FS} {n_is_word : Nat} (k_is_word : Kn B n_is_word "is_word" t_is_word P_is_word s_is_word) (hk_is_word : n_is_word ≤ k) {s_is_order_value : FS} {n_is_order_value : Nat} (k_is_order_value : Kn B n_is_order_value "is_order_value" t_is_order_value P_is_order_value s_is_order_value) (hk_is_order_value : n_is_order_value ≤ k) {s_are_between : FS} {n_are_between : Nat} (k_are_between : Kn B n_are_between "are_between" t_are_between P_are_between s_are_between) (hk_are_between : n_are_between ≤ k) {s_reached_from : FS} {n_reached_from : Nat} (k_reached_from : Kn B n_reached_from "reached_from" t_reached_from P_reached_from s_reached_from) (hk_reached_from : n_reached_from ≤ k) : DSs (S_way_holds B k) (defBody t_way_holds) (w_way_holds s_need_hands_and_ties s_need_no_ring s_is_word s_is_order_value s_are_between s_reached_from) := by
  have nd : N_way_holds.Nodup := by decide +kernel
  exact (dss_cons (ds_expr (de_fz (do_call k_need_hands_and_ties hk_need_hands_and_ties (da_cons (de_nm (i := 0)) (da_cons (de_nm (i := 1)) da_nil))))) (dss_cons (ds_expr (de_fz (do_call k_need_no_ring hk_need_no_ring (da_cons (de_nm (i := 0)) (da_cons (de_nm (i := 1)) da_nil))))) (dss_cons (ds_if (dt_pw (dw_and (dt_val (de_fz (do_call k_is_word hk_is_word (da_cons (de_nm (i := 2)) (da_cons de_str da_nil))))) (dw_and (dt_cmp cm_eq (de_fz (do_callB cd_len (ff.f_len) (by decide +kernel) (da_cons (de_nm (i := 2)) da_nil))) de_int) (dw_and1 (dt_val (de_fz (do_call k_is_order_value hk_is_order_value (da_cons (de_nm (i := 0)) (da_cons (de_ix (de_nm (i := 2)) de_int) da_nil))))))))) (dss_one (ds_ret (do_callB cd_all (ff.f_all) (by decide +kernel) (da_cons (de_fz (do_lc (own := [("pair", 5)]) (di_zipN (ff.f_zip) (da_cons (de_ix (de_nm (i := 2)) de_int) (da_cons (de_fz (do_slice (de_ix (de_nm (i := 2)) de_int) (dp_some de_int) dp_none)) da_nil))) nd (by kernel_rfl) (dg_name (i := 5) nd) (by decide) dts_nil (de_cmp cm_in (de_nm (i := 5)) (de_nm (i := 1))))) da_nil)))) dss_nil) (dss_cons (ds_if (dt_pw (dw_or (dt_not (dt_val (de_fz (do_call k_is_word hk_is_word (da_cons (de_nm (i := 2)) (da_cons de_str da_nil)))))) (dw_or (dt_cmp cm_ne (de_fz (do_callB cd_len (ff.f_len) (by decide +kernel) (da_cons (de_nm (i := 2)) da_nil))) de_int) (dw_or1 (dt_not (dt_val (de_fz (do_call k_are_between hk_are_between (da_cons (de_fz (do_slice (de_nm (i := 2)) (dp_some de_int) dp_none)) (da_cons de_int (da_cons (de_sub (de_nm (i := 0)) de_int) da_nil))))))))))) (dss_one (ds_ret (do_fz de_bl))) dss_nil) (dss_cons (ds_asgT (dv_do (do_slice (de_nm (i := 2)) (dp_some de_int) dp_none)) (dg_tup (dgs_cons (dg_name (i := 3) nd) (dgs_cons (dg_name (i := 4) nd) dgs_nil)))) (dss_one (ds_ret (do_fz (de_andV (de_cmp cm_lt (de_nm (i := 3)) (de_nm (i := 4))) (de_andV (de_cmp cm_notIn (de_nm (i := 4)) (de_fz (do_call k_reached_from hk_reached_from (da_cons (de_nm (i := 3)) (da_cons (de_nm (i := 1)) da_nil))))) (de_one (de_cmp cm_notIn (de_nm (i := 3)) (de_fz (do_call k_reached_from hk_reached_from (da_cons (de_nm (i := 4)) (da_cons (de_nm (i := 1)) da_nil))))))))))))))))
def t__law_pick : Stmt := top 30
def N__law_pick : List Str := ["_law_deck_here", "_law_some"]
def P__law_pick : List Str := ["_law_deck_here", "_law_some"]
abbrev S__law_pick (B : Bs) (k : Nat) : Sta := { B with N := N__law_pick, names := (defScope t__law_pick).names, k := k, fc := fun _ => true }
theorem sc__law_pick : FnScope N__law_pick P__law_pick (defScope t__law_pick) := ⟨rfl, rfl, rfl, by decide +kernel, rfl, by decide +kernel, by decide +kernel⟩
def w__law_pick (s__law_draw : FS) : WS := wRet (woFz (wOp oIx (wVar 1) (wFz (woCall s__law_draw (waCons (wVar 0) (waCons (wFz (woCB oLen (waCons (wVar 1) (waNil)))) (waNil)))))))
theorem d__law_pick {B : Bs} (ff : FF B) {k : Nat} {s__law_draw : FS} {n__law_draw : Nat} (k__law_draw : Kn B n__law_draw "_law_draw" t__law_draw P__law_draw s__law_draw) (hk__law_draw : n__law_draw ≤ k) : DSs (S__law_pick B k) (defBody t__law_pick) (w__law_pick s__law_draw) := by
  have nd : N__law_pick.Nodup := by decide +kernel
  exact (dss_one (ds_ret (do_fz (de_ix (de_nm (i := 1)) (de_fz (do_call k__law_draw hk__law_draw (da_cons (de_nm (i := 0)) (da_cons (de_fz (do_callB cd_len (ff.f_len) (by decide +kernel) (da_cons (de_nm (i := 1)) da_nil))) da_nil))))))))
def t__law_order : Stmt := top 31
def N__law_order : List Str := ["_law_deck_here", "_law_many", "_law_left", "_law_found", "_law_go"]
def P__law_order : List Str := ["_law_deck_here", "_law_many"]
abbrev S__law_order (B : Bs) (k : Nat) : Sta := { B with N := N__law_order, names := (defScope t__law_order).names, k := k, fc := fun _ => true }
theorem sc__law_order : FnScope N__law_order P__law_order (defScope t__law_order) := ⟨rfl, rfl, rfl, by decide +kernel, rfl, by decide +kernel, by decide +kernel⟩
def w__law_order (s__law_draw : FS) : WS := wSeq (wPar2 2 3 (woListRg1 (wVar 1)) (woLst (waNil))) (wSeq (wFor (wjRange1 (waCons (wVar 1) (waNil))) (wgName 4) (wApp 3 (wvPopAt 2 (wFz (woCall s__law_draw (waCons (wVar 0) (waCons (wFz (woCB oLen (waCons (wVar 2) (waNil)))) (waNil)))))))) (wRet (woCB oTuple (waCons (wVar 3) (waNil)))))
theorem d__law_order {B : Bs} (ff : FF B) {k : Nat} {s__law_draw : FS} {n__law_draw : Nat} (k__law_draw : Kn B n__law_draw "_law_draw" t__law_draw P__law_draw s__law_draw) (hk__law_draw : n__law_draw ≤ k) : DSs (S__law_order B k) (defBody t__law_order) (w__law_order s__law_draw) := by
  have nd : N__law_order.Nodup := by decide +kernel
  exact (dss_cons (ds_par2 (i := 2) (j := 3) (do_listRg1 (ff.f_list) (ff.f_range) (de_nm (i := 1))) (do_lst da_nil) nd (hw := swap2 (by kernel_rfl) (by kernel_rfl) (by rfl) (by rfl) (by kernel_rfl) (by kernel_rfl))) (dss_cons (ds_for (dj_range1 (ff.f_range) (da_cons (de_nm (i := 1)) da_nil)) (dg_name (i := 4) nd) (dss_one (ds_app (i := 3) (dv_popAt (i := 2) (de_fz (do_call k__law_draw hk__law_draw (da_cons (de_nm (i := 0)) (da_cons (de_fz (do_callB cd_len (ff.f_len) (by decide +kernel) (da_cons (de_nm (i := 2)) da_nil))) da_nil)))))))) (dss_one (ds_ret (do_callTy cd_tuple (ff.f_tuple) (by decide +kernel) (da_cons (de_nm (i := 3)) da_nil))))))
def t__law_ties : Stmt := top 32
def N__law_ties : List Str := ["_law_deck_here", "_law_hands", "_law_order_here", "_law_found", "_law_gaps", "_law_at", "_law_go", "_law_one"]
def P__law_ties : List Str := ["_law_deck_here", "_law_hands"]
abbrev S__law_ties (B : Bs) (k : Nat) : Sta := { B with N := N__law_ties, names := (defScope t__law_ties).names, k := k, fc := fun _ => true }
theorem sc__law_ties : FnScope N__law_ties P__law_ties (defScope t__law_ties) := ⟨rfl, rfl, rfl, by decide +kernel, rfl, by decide +kernel, by decide +kernel⟩
def w__law_ties (s__law_order : FS) (s__law_draw : FS) : WS := wSeq (wPar3 2 3 4 (woCall s__law_order (waCons (wVar 0) (waCons (wVar 1) (waNil)))) (woDnew) (woCall s__law_draw (waCons (wVar 0) (waCons (wC (.int 3)) (waNil))))) (wSeq (wFor (wjRange1 (waCons (wOp (oI0 fun i j => i - j) (wVar 1) (wC (.int 1))) (waNil))) (wgName 5) (wIfS (wtOr (wtV (wOp (oB0 fun i j => decide (i < j)) (wVar 4) (wC (.int 2)))) (wtV (wOp (oB0 fun i j => decide (j < i)) (wFz (woCall s__law_draw (waCons (wVar 0) (waCons (wC (.int 3)) (waNil))))) (wC (.int 0))))) (wStoreT 3 (waCons (wOp oIx (wVar 2) (wVar 5)) (waCons (wOp oIx (wVar 2) (wFz (wOpO oAdd (wVar 5) (wC (.int 1))))) (waNil))) (wvO (woFz (wC (.bl true))))) (wNext))) (wSeq (wFor (wjRange1 (waCons (wIf (wtV (wOp (oB0 fun i j => decide (j < i)) (wVar 1) (wC (.int 1)))) (wFz (woCall s__law_draw (waCons (wVar 0) (waCons (wC (.int 5)) (waNil))))) (wC (.int 0))) (waNil))) (wgName 6) (wSeq (wSet 7 (woCall s__law_draw (waCons (wVar 0) (waCons (wOp (oI0 fun i j => i - j) (wVar 1) (wC (.int 1))) (waNil))))) (wStoreT 3 (waCons (wOp oIx (wVar 2) (wVar 7)) (waCons (wOp oIx (wVar 2) (wFz (wOpO oAdd (wFz (wOpO oAdd (wVar 7) (wC (.int 1)))) (wFz (woCall s__law_draw (waCons (wVar 0) (waCons (wOp (oI0 fun i j => i - j) (wOp (oI0 fun i j => i - j) (wVar 1) (wC (.int 1))) (wVar 7)) (waNil)))))))) (waNil))) (wvO (woFz (wC (.bl true))))))) (wSeq (wIfS (wtAnd (wtV (wOp (oB0 fun i j => decide (j < i)) (wVar 1) (wC (.int 1)))) (wtAnd (wtV (wOp oEq (wVar 4) (wC (.int 1)))) (wtV (wOp oEq (wFz (woCall s__law_draw (waCons (wVar 0) (waCons (wC (.int 2)) (waNil))))) (wC (.int 0)))))) (wSeq (wSet 7 (woCall s__law_draw (waCons (wVar 0) (waCons (wOp (oI0 fun i j => i - j) (wVar 1) (wC (.int 1))) (waNil))))) (wStoreT 3 (waCons (wOp oIx (wVar 2) (wFz (wOpO oAdd (wFz (wOpO oAdd (wVar 7) (wC (.int 1)))) (wFz (woCall s__law_draw (waCons (wVar 0) (waCons (wOp (oI0 fun i j => i - j) (wOp (oI0 fun i j => i - j) (wVar 1) (wC (.int 1))) (wVar 7)) (waNil)))))))) (waCons (wOp oIx (wVar 2) (wVar 7)) (waNil))) (wvO (woFz (wC (.bl true)))))) (wNext)) (wRet (woCB oTuple (waCons (wFz (woCB oSorted (waCons (wFz (woListD 3)) (waNil)))) (waNil)))))))
theorem d__law_ties {B : Bs} (ff : FF B) {k : Nat} {s__law_order : FS} {n__law_order : Nat} (k__law_order : Kn B n__law_order "_law_order" t__law_order P__law_order s__law_order) (hk__law_order : n__law_order ≤ k) {s__law_draw : FS} {n__law_draw : Nat} (k__law_draw : Kn B n__law_draw "_law_draw" t__law_draw P__law_draw s__law_draw) (hk__law_draw : n__law_draw ≤ k) : DSs (S__law_ties B k) (defBody t__law_ties) (w__law_ties s__law_order s__law_draw) := by
  have nd : N__law_ties.Nodup := by decide +kernel
  exact (dss_cons (ds_par3 (i := 2) (j := 3) (l := 4) (do_call k__law_order hk__law_order (da_cons (de_nm (i := 0)) (da_cons (de_nm (i := 1)) da_nil))) do_dnew (do_call k__law_draw hk__law_draw (da_cons (de_nm (i := 0)) (da_cons de_int da_nil))) nd (hw := swap3 (by kernel_rfl) (by kernel_rfl) (by kernel_rfl) (by kernel_rfl) (by kernel_rfl) (by rfl) (by rfl) (by rfl) (by kernel_rfl) (by kernel_rfl))) (dss_cons (ds_for (dj_range1 (ff.f_range) (da_cons (de_sub (de_nm (i := 1)) de_int) da_nil)) (dg_name (i := 5) nd) (dss_one (ds_if (dt_pw (dw_or (dt_cmp cm_lt (de_nm (i := 4)) de_int) (dw_or1 (dt_cmp cm_gt (de_fz (do_call k__law_draw hk__law_draw (da_cons (de_nm (i := 0)) (da_cons de_int da_nil)))) de_int)))) (dss_one (ds_storeT (i := 3) (dv_do (do_fz de_bl)) (da_cons (de_ix (de_nm (i := 2)) (de_nm (i := 5))) (da_cons (de_ix (de_nm (i := 2)) (de_fz (do_op od_add (de_nm (i := 5)) de_int))) da_nil)))) dss_nil))) (dss_cons (ds_for (dj_range1 (ff.f_range) (da_cons (de_if (dt_cmp cm_gt (de_nm (i := 1)) de_int) (de_fz (do_call k__law_draw hk__law_draw (da_cons (de_nm (i := 0)) (da_cons de_int da_nil)))) de_int) da_nil)) (dg_name (i := 6) nd) (dss_cons (ds_set (i := 7) (do_call k__law_draw hk__law_draw (da_cons (de_nm (i := 0)) (da_cons (de_sub (de_nm (i := 1)) de_int) da_nil))) nd) (dss_one (ds_storeT (i := 3) (dv_do (do_fz de_bl)) (da_cons (de_ix (de_nm (i := 2)) (de_nm (i := 7))) (da_cons (de_ix (de_nm (i := 2)) (de_fz (do_op od_add (de_fz (do_op od_add (de_nm (i := 7)) de_int)) (de_fz (do_call k__law_draw hk__law_draw (da_cons (de_nm (i := 0)) (da_cons (de_sub (de_sub (de_nm (i := 1)) de_int) (de_nm (i := 7))) da_nil))))))) da_nil)))))) (dss_cons (ds_if (dt_pw (dw_and (dt_cmp cm_gt (de_nm (i := 1)) de_int) (dw_and (dt_cmp cm_eq (de_nm (i := 4)) de_int) (dw_and1 (dt_cmp cm_eq (de_fz (do_call k__law_draw hk__law_draw (da_cons (de_nm (i := 0)) (da_cons de_int da_nil)))) de_int))))) (dss_cons (ds_set (i := 7) (do_call k__law_draw hk__law_draw (da_cons (de_nm (i := 0)) (da_cons (de_sub (de_nm (i := 1)) de_int) da_nil))) nd) (dss_one (ds_storeT (i := 3) (dv_do (do_fz de_bl)) (da_cons (de_ix (de_nm (i := 2)) (de_fz (do_op od_add (de_fz (do_op od_add (de_nm (i := 7)) de_int)) (de_fz (do_call k__law_draw hk__law_draw (da_cons (de_nm (i := 0)) (da_cons (de_sub (de_sub (de_nm (i := 1)) de_int) (de_nm (i := 7))) da_nil))))))) (da_cons (de_ix (de_nm (i := 2)) (de_nm (i := 7))) da_nil))))) dss_nil) (dss_one (ds_ret (do_callTy cd_tuple (ff.f_tuple) (by decide +kernel) (da_cons (de_fz (do_callB cd_sorted (ff.f_sorted) (by decide +kernel) (da_cons (de_fz (do_listD (i := 3) (ff.f_list))) da_nil))) da_nil))))))))
def t__law_reach : Stmt := top 33
def N__law_reach : List Str := ["_law_hands", "_law_ties_here", "_law_found", "_law_go", "_law_hand", "_law_to", "_law_i", "_law_j", "_law_far"]
def P__law_reach : List Str := ["_law_hands", "_law_ties_here"]
abbrev S__law_reach (B : Bs) (k : Nat) : Sta := { B with N := N__law_reach, names := (defScope t__law_reach).names, k := k, fc := fun _ => true }
theorem sc__law_reach : FnScope N__law_reach P__law_reach (defScope t__law_reach) := ⟨rfl, rfl, rfl, by decide +kernel, rfl, by decide +kernel, by decide +kernel⟩
def w__law_reach : WS := wSeq (wSet 2 (wComp (wiRange1 (waCons (wVar 0) (waNil))) (wgName 4) (wtTrue) (wFz (wComp (wiSeq (wVar 1)) (wgTup 2 (wgCons (wgName 6) (wgCons (wgName 7) (wgNil)))) (wtV (wOp oEq (wVar 6) (wVar 4))) (wVar 7) [6, 7])) [4])) (wSeq (wFor (wjRange1 (waCons (wVar 0) (waNil))) (wgName 3) (wFor (wjRange1 (waCons (wVar 0) (waNil))) (wgName 4) (wFor (wjSeq (wvO (woCB oList (waCons (wOp oIx (wVar 2) (wVar 4)) (waNil))))) (wgName 5) (wStoreIx 2 (wVar 4) (wvO (wOpO oAdd (wOp oIx (wVar 2) (wVar 4)) (wFz (wComp (wiSeq (wOp oIx (wVar 2) (wVar 5))) (wgName 8) (wtV (wOp oNotIn (wVar 8) (wOp oIx (wVar 2) (wVar 4)))) (wVar 8) [8])))))))) (wRetV 2))
theorem d__law_reach {B : Bs} (ff : FF B) {k : Nat} : DSs (S__law_reach B k) (defBody t__law_reach) (w__law_reach) := by
  have nd : N__law_reach.Nodup := by decide +kernel
  exact (dss_cons (ds_setLcC (i := 2) (do_lc (own := [("_law_hand", 4)]) (di_range1 (ff.f_range) (da_cons (de_nm (i := 0)) da_nil)) nd (by kernel_rfl) (dg_name (i := 4) nd) (by decide) dts_nil (de_fz (do_lc (own := [("_law_i", 6), ("_law_j", 7)]) (di_seq (de_nm (i := 1))) nd (by kernel_rfl) (dg_tup (dgs_cons (dg_name (i := 6) nd) (dgs_cons (dg_name (i := 7) nd) dgs_nil))) (by decide) (dts_one (dt_cmp cm_eq (de_nm (i := 6)) (de_nm (i := 4)))) (de_nm (i := 7))))) nd) (dss_cons (ds_for (dj_range1 (ff.f_range) (da_cons (de_nm (i := 0)) da_nil)) (dg_name (i := 3) nd) (dss_one (ds_for (dj_range1 (ff.f_range) (da_cons (de_nm (i := 0)) da_nil)) (dg_name (i := 4) nd) (dss_one (ds_for (dj_seq (dv_do (do_callTy cd_list (ff.f_list) (by decide +kernel) (da_cons (de_ix (de_nm (i := 2)) (de_nm (i := 4))) da_nil)))) (dg_name (i := 5) nd) (dss_one (ds_storeIx (i := 2) (dv_do (do_op od_add (de_ix (de_nm (i := 2)) (de_nm (i := 4))) (de_fz (do_lc (own := [("_law_far", 8)]) (di_seq (de_ix (de_nm (i := 2)) (de_nm (i := 5)))) nd (by kernel_rfl) (dg_name (i := 8) nd) (by decide) (dts_one (dt_cmp cm_notIn (de_nm (i := 8)) (de_ix (de_nm (i := 2)) (de_nm (i := 4))))) (de_nm (i := 8)))))) (de_nm (i := 4))))))))) (dss_one (ds_retV (i := 2)))))
def t__law_has_ring : Stmt := top 34
def N__law_has_ring : List Str := ["_law_hands", "_law_ties_here", "_law_hand", "_law_far"]
def P__law_has_ring : List Str := ["_law_hands", "_law_ties_here"]
abbrev S__law_has_ring (B : Bs) (k : Nat) : Sta := { B with N := N__law_has_ring, names := (defScope t__law_has_ring).names, k := k, fc := fun _ => true }
theorem sc__law_has_ring : FnScope N__law_has_ring P__law_has_ring (defScope t__law_has_ring) := ⟨rfl, rfl, rfl, by decide +kernel, rfl, by decide +kernel, by decide +kernel⟩
def w__law_has_ring (s__law_reach : FS) : WS := wRet (woFz (wOp oNe (wFz (wComp (wiEnum (waCons (wFz (woCall s__law_reach (waCons (wVar 0) (waCons (wVar 1) (waNil))))) (waNil))) (wgTup 2 (wgCons (wgName 2) (wgCons (wgName 3) (wgNil)))) (wtV (wOp oIn (wVar 2) (wVar 3))) (wC (.int 1)) [2, 3])) (wFz (woLst (waNil)))))
theorem d__law_has_ring {B : Bs} (ff : FF B) {k : Nat} {s__law_reach : FS} {n__law_reach : Nat} (k__law_reach : Kn B n__law_reach "_law_reach" t__law_reach P__law_reach s__law_reach) (hk__law_reach : n__law_reach ≤ k) : DSs (S__law_has_ring B k) (defBody t__law_has_ring) (w__law_has_ring s__law_reach) := by
  have nd : N__law_has_ring.Nodup := by decide +kernel
  exact (dss_one (ds_ret (do_fz (de_cmp cm_ne (de_fz (do_lc (own := [("_law_hand", 2), ("_law_far", 3)]) (di_enum (ff.f_enumerate) (da_cons (de_fz (do_call k__law_reach hk__law_reach (da_cons (de_nm (i := 0)) (da_cons (de_nm (i := 1)) da_nil)))) da_nil)) nd (by kernel_rfl) (dg_tup (dgs_cons (dg_name (i := 2) nd) (dgs_cons (dg_name (i := 3) nd) dgs_nil))) (by decide) (dts_one (dt_cmp cm_in (de_nm (i := 2)) (de_nm (i := 3)))) de_int)) (de_fz (do_lst da_nil))))))
def t__law_is_integer : Stmt := top 35
def N__law_is_integer : List Str := ["_law_thing_here"]
def P__law_is_integer : List Str := ["_law_thing_here"]
abbrev S__law_is_integer (B : Bs) (k : Nat) : Sta := { B with N := N__law_is_integer, names := (defScope t__law_is_integer).names, k := k, fc := fun _ => true }
theorem sc__law_is_integer : FnScope N__law_is_integer P__law_is_integer (defScope t__law_is_integer) := ⟨rfl, rfl, rfl, by decide +kernel, rfl, by decide +kernel, by decide +kernel⟩
def w__law_is_integer : WS := wRet (woFz (wAnd (wIsi "int" (wVar 0)) (wNot (wIsi "bool" (wVar 0)))))
theorem d__law_is_integer {B : Bs} (ff : FF B) {k : Nat} : DSs (S__law_is_integer B k) (defBody t__law_is_integer) (w__law_is_integer) := by
  have nd : N__law_is_integer.Nodup := by decide +kernel
  exact (dss_one (ds_ret (do_fz (de_andV (de_isi (ff.f_isinstance) (ff.f_int) (by decide +kernel) (by decide) (de_nm (i := 0))) (de_one (de_notV (de_isi (ff.f_isinstance) (ff.f_bool) (by decide +kernel) (by decide) (de_nm (i := 0)))))))))
def t__law_are_integers : Stmt := top 36
def N__law_are_integers : List Str := ["_law_thing_here", "_law_it"]
def P__law_are_integers : List Str := ["_law_thing_here"]
abbrev S__law_are_integers (B : Bs) (k : Nat) : Sta := { B with N := N__law_are_integers, names := (defScope t__law_are_integers).names, k := k, fc := fun _ => true }
theorem sc__law_are_integers : FnScope N__law_are_integers P__law_are_integers (defScope t__law_are_integers) := ⟨rfl, rfl, rfl, by decide +kernel, rfl, by decide +kernel, by decide +kernel⟩
def w__law_are_integers (s__law_is_integer : FS) : WS := wRet (woFz (wAnd (wIsi "tuple" (wVar 0)) (wOp oEq (wFz (wComp (wiSeq (wVar 0)) (wgName 1) (wtNot (wtV (wFz (woCall s__law_is_integer (waCons (wVar 1) (waNil)))))) (wC (.int 1)) [1])) (wFz (woLst (waNil))))))
theorem d__law_are_integers {B : Bs} (ff : FF B) {k : Nat} {s__law_is_integer : FS} {n__law_is_integer : Nat} (k__law_is_integer : Kn B n__law_is_integer "_law_is_integer" t__law_is_integer P__law_is_integer s__law_is_integer) (hk__law_is_integer : n__law_is_integer ≤ k) : DSs (S__law_are_integers B k) (defBody t__law_are_integers) (w__law_are_integers s__law_is_integer) := by
  have nd : N__law_are_integers.Nodup := by decide +kernel
  exact (dss_one (ds_ret (do_fz (de_andV (de_isi (ff.f_isinstance) (ff.f_tuple) (by decide +kernel) (by decide) (de_nm (i := 0))) (de_one (de_cmp cm_eq (de_fz (do_lc (own := [("_law_it", 1)]) (di_seq (de_nm (i := 0))) nd (by kernel_rfl) (dg_name (i := 1) nd) (by decide) (dts_one (dt_not (dt_val (de_fz (do_call k__law_is_integer hk__law_is_integer (da_cons (de_nm (i := 1)) da_nil)))))) de_int)) (de_fz (do_lst da_nil))))))))
def t__law_is_way : Stmt := top 37
def N__law_is_way : List Str := ["_law_hands", "_law_ties_here", "_law_thing_here", "_law_i", "_law_j", "_law_reach_here", "_law_at"]
def P__law_is_way : List Str := ["_law_hands", "_law_ties_here", "_law_thing_here"]
abbrev S__law_is_way (B : Bs) (k : Nat) : Sta := { B with N := N__law_is_way, names := (defScope t__law_is_way).names, k := k, fc := fun _ => true }
theorem sc__law_is_way : FnScope N__law_is_way P__law_is_way (defScope t__law_is_way) := ⟨rfl, rfl, rfl, by decide +kernel, rfl, by decide +kernel, by decide +kernel⟩
def w__law_is_way (s__law_are_integers : FS) (s__law_reach : FS) : WS := wSeq (wIfS (wtOr (wtNot (wtV (wIsi "tuple" (wVar 2)))) (wtOr (wtV (wOp oEq0 (wVar 2) (wTup (waNil)))) (wtNot (wtV (wIsi "str" (wOp oIx (wVar 2) (wC (.int 0)))))))) (wRet (woFz (wC (.bl false)))) (wNext)) (wSeq (wIfS (wtV (wOp oEq (wOp oIx (wVar 2) (wC (.int 0))) (wC (.str "way")))) (wSeq (wIfS (wtOr (wtV (wOp oNe (wFz (woCB oLen (waCons (wVar 2) (waNil)))) (wC (.int 2)))) (wtOr (wtNot (wtV (wFz (woCall s__law_are_integers (waCons (wOp oIx (wVar 2) (wC (.int 1))) (waNil)))))) (wtV (wOp oNe (wFz (woCB oSorted (waCons (wOp oIx (wVar 2) (wC (.int 1))) (waNil)))) (wFz (woListRg1 (wVar 0))))))) (wRet (woFz (wC (.bl false)))) (wNext)) (wRet (woFz (wOp oEq (wFz (wComp (wiRange1 (waCons (wOp (oI0 fun i j => i - j) (wVar 0) (wC (.int 1))) (waNil))) (wgName 6) (wtV (wOp oNotIn (wFz (woSl (wOp oIx (wVar 2) (wC (.int 1))) (wpSome (wVar 6)) (wpSome (wFz (wOpO oAdd (wVar 6) (wC (.int 2))))))) (wVar 1))) (wC (.int 1)) [6])) (wFz (woLst (waNil))))))) (wNext)) (wSeq (wIfS (wtOr (wtV (wOp oNe (wOp oIx (wVar 2) (wC (.int 0))) (wC (.str "two")))) (wtOr (wtV (wOp oNe (wFz (woCB oLen (waCons (wVar 2) (waNil)))) (wC (.int 3)))) (wtNot (wtV (wFz (woCall s__law_are_integers (waCons (wFz (woSl (wVar 2) (wpSome (wC (.int 1))) (wpNone))) (waNil)))))))) (wRet (woFz (wC (.bl false)))) (wNext)) (wSeq (wSetT (wgTup 2 (wgCons (wgName 3) (wgCons (wgName 4) (wgNil)))) (wvO (woSl (wVar 2) (wpSome (wC (.int 1))) (wpNone)))) (wSeq (wIfS (wtNot (wtV (wChain3 (oB0 fun i j => decide (i ≤ j)) (oB0 fun i j => decide (i < j)) (oB0 fun i j => decide (i < j)) (wC (.int 0)) (wVar 3) (wVar 4) (wVar 0)))) (wRet (woFz (wC (.bl false)))) (wNext)) (wSeq (wSet 5 (woCall s__law_reach (waCons (wVar 0) (waCons (wVar 1) (waNil))))) (wRet (woFz (wAnd (wOp oNotIn (wVar 4) (wOp oIx (wVar 5) (wVar 3))) (wOp oNotIn (wVar 3) (wOp oIx (wVar 5) (wVar 4)))))))))))
theorem d__law_is_way {B : Bs} (ff : FF B) {k : Nat} {s__law_are_integers : FS} {n__law_are_integers : Nat} (k__law_are_integers : Kn B n__law_are_integers "_law_are_integers" t__law_are_integers P__law_are_integers s__law_are_integers) (hk__law_are_integers : n__law_are_integers ≤ k) {s__law_reach : FS} {n__law_reach : Nat} (k__law_reach : Kn B n__law_reach "_law_reach" t__law_reach P__law_reach s__law_reach) (hk__law_reach : n__law_reach ≤ k) : DSs (S__law_is_way B k) (defBody t__law_is_way) (w__law_is_way s__law_are_integers s__law_reach) := by
  have nd : N__law_is_way.Nodup := by decide +kernel
  exact (dss_cons (ds_if (dt_pw (dw_or (dt_not (dt_val (de_isi (ff.f_isinstance) (ff.f_tuple) (by decide +kernel) (by decide) (de_nm (i := 2))))) (dw_or (dt_cmp cm_eq0 (de_nm (i := 2)) (de_tup da_nil)) (dw_or1 (dt_not (dt_val (de_isi (ff.f_isinstance) (ff.f_str) (by decide +kernel) (by decide) (de_ix (de_nm (i := 2)) de_int)))))))) (dss_one (ds_ret (do_fz de_bl))) dss_nil) (dss_cons (ds_if (dt_cmp cm_eq (de_ix (de_nm (i := 2)) de_int) de_str) (dss_cons (ds_if (dt_pw (dw_or (dt_cmp cm_ne (de_fz (do_callB cd_len (ff.f_len) (by decide +kernel) (da_cons (de_nm (i := 2)) da_nil))) de_int) (dw_or (dt_not (dt_val (de_fz (do_call k__law_are_integers hk__law_are_integers (da_cons (de_ix (de_nm (i := 2)) de_int) da_nil))))) (dw_or1 (dt_cmp cm_ne (de_fz (do_callB cd_sorted (ff.f_sorted) (by decide +kernel) (da_cons (de_ix (de_nm (i := 2)) de_int) da_nil))) (de_fz (do_listRg1 (ff.f_list) (ff.f_range) (de_nm (i := 0))))))))) (dss_one (ds_ret (do_fz de_bl))) dss_nil) (dss_one (ds_ret (do_fz (de_cmp cm_eq (de_fz (do_lc (own := [("_law_at", 6)]) (di_range1 (ff.f_range) (da_cons (de_sub (de_nm (i := 0)) de_int) da_nil)) nd (by kernel_rfl) (dg_name (i := 6) nd) (by decide) (dts_one (dt_cmp cm_notIn (de_fz (do_slice (de_ix (de_nm (i := 2)) de_int) (dp_some (de_nm (i := 6))) (dp_some (de_fz (do_op od_add (de_nm (i := 6)) de_int))))) (de_nm (i := 1)))) de_int)) (de_fz (do_lst da_nil))))))) dss_nil) (dss_cons (ds_if (dt_pw (dw_or (dt_cmp cm_ne (de_ix (de_nm (i := 2)) de_int) de_str) (dw_or (dt_cmp cm_ne (de_fz (do_callB cd_len (ff.f_len) (by decide +kernel) (da_cons (de_nm (i := 2)) da_nil))) de_int) (dw_or1 (dt_not (dt_val (de_fz (do_call k__law_are_integers hk__law_are_integers (da_cons (de_fz (do_slice (de_nm (i := 2)) (dp_some de_int) dp_none)) da_nil))))))))) (dss_one (ds_ret (do_fz de_bl))) dss_nil) (dss_cons (ds_asgT (dv_do (do_slice (de_nm (i := 2)) (dp_some de_int) dp_none)) (dg_tup (dgs_cons (dg_name (i := 3) nd) (dgs_cons (dg_name (i := 4) nd) dgs_nil)))) (dss_cons (ds_if (dt_not (dt_chain3 cm_le cm_lt cm_lt de_int (de_nm (i := 3)) (de_nm (i := 4)) (de_nm (i := 0)))) (dss_one (ds_ret (do_fz de_bl))) dss_nil) (dss_cons (ds_set (i := 5) (do_call k__law_reach hk__law_reach (da_cons (de_nm (i := 0)) (da_cons (de_nm (i := 1)) da_nil))) nd) (dss_one (ds_ret (do_fz (de_andV (de_cmp cm_notIn (de_nm (i := 4)) (de_ix (de_nm (i := 5)) (de_nm (i := 3)))) (de_one (de_cmp cm_notIn (de_nm (i := 3)) (de_ix (de_nm (i := 5)) (de_nm (i := 4)))))))))))))))
def t__law_odd : Stmt := top 38
def N__law_odd : List Str := ["_law_deck_here", "_law_it", "_law_some"]
def P__law_odd : List Str := ["_law_deck_here", "_law_it"]
abbrev S__law_odd (B : Bs) (k : Nat) : Sta := { B with N := N__law_odd, names := (defScope t__law_odd).names, k := k, fc := fun _ => true }
theorem sc__law_odd : FnScope N__law_odd P__law_odd (defScope t__law_odd) := ⟨rfl, rfl, rfl, by decide +kernel, rfl, by decide +kernel, by decide +kernel⟩
def w__law_odd (s__law_is_integer : FS) (s__law_pick : FS) : WS := wSeq (wSet 2 (woLst (waCons (wC .non) (waCons (wC (.bl true)) (waCons (wC (.bl false)) (waCons (wC (.int 0)) (waCons (wC (.int 1)) (waCons (wNeg (wC (.int 1))) (waCons (wC (.int 2)) (waCons (wC (.str "")) (waCons (wC (.str "0")) (waCons (wTup (waNil)) (waCons (wTup (waCons (wTup (waNil)) (waNil))) (waCons (wFz (woLst (waNil))) (waCons (wDnew) (waCons (wTup (waCons (wC (.int 0)) (waNil))) (waCons (wTup (waCons (wC (.int 0)) (waCons (wC (.int 1)) (waNil)))) (waCons (wFz (woLst (waCons (wC (.int 0)) (waCons (wC (.int 1)) (waNil))))) (waCons (wTup (waCons (wC (.int 1)) (waCons (wC (.int 0)) (waNil)))) (waCons (wOp (oI CPow fun i j => i ^ j.toNat) (wC (.int 10)) (wC (.int 30))) (waNil))))))))))))))))))))) (wSeq (wSet 2 (wOpO oAdd (wVar 2) (wFz (woLst (waCons (wDisp1 (.inr "a") (wTup (waCons (wC (.int 1)) (waCons (wC (.int 2)) (waNil))))) (waCons (wTup (waCons (wTup (waCons (wC (.int 0)) (waCons (wC (.int 1)) (waNil)))) (waNil))) (waCons (wTup (waCons (wC (.int 0)) (waCons (wC (.bl true)) (waNil)))) (waCons (wTup (waCons (wC .non) (waNil))) (waCons (wTup (waCons (wC (.str "0")) (waCons (wC (.int 1)) (waNil)))) (waCons (wC (.str "a b\n~")) (waCons (wTup (waCons (wC (.str "way")) (waCons (wTup (waCons (wC (.int 0)) (waNil))) (waNil)))) (waCons (wTup (waCons (wC (.str "two")) (waCons (wC (.int 0)) (waCons (wC (.int 1)) (waNil))))) (waNil))))))))))))) (wSeq (wIfS (wtV (wIsi "tuple" (wVar 1))) (wSet 2 (wOpO oAdd (wVar 2) (wFz (wOpO oMul (wFz (woLst (waCons (wFz (woCB oList (waCons (wVar 1) (waNil)))) (waCons (wFz (wOpO oAdd (wVar 1) (wTup (waCons (wC (.int 0)) (waNil))))) (waCons (wFz (woSl (wVar 1) (wpSome (wC (.int 1))) (wpNone))) (waCons (wFz (woSl (wVar 1) (wpNone) (wpSome (wNeg (wC (.int 1)))))) (waCons (wFz (woRevA (wVar 1))) (waCons (wFz (wOpO oAdd (wVar 1) (wFz (woSl (wVar 1) (wpNone) (wpSome (wC (.int 1))))))) (waCons (wTup (waCons (wVar 1) (waNil))) (waCons (wFz (wOpO oAdd (wFz (woSl (wVar 1) (wpNone) (wpSome (wC (.int 1))))) (wVar 1))) (waCons (wFz (wOpO oAdd (wVar 1) (wTup (waCons (wTup (waNil)) (waNil))))) (waNil)))))))))))) (wC (.int 3)))))) (wIfS (wtV (wFz (woCall s__law_is_integer (waCons (wVar 1) (waNil))))) (wSet 2 (wOpO oAdd (wVar 2) (wFz (wOpO oMul (wFz (woLst (waCons (wFz (wOpO oAdd (wVar 1) (wC (.int 1)))) (waCons (wOp (oI0 fun i j => i - j) (wVar 1) (wC (.int 1))) (waCons (wNeg (wVar 1)) (waCons (wOp oEq (wVar 1) (wC (.int 1))) (waCons (wFz (woLst (waCons (wVar 1) (waNil)))) (waCons (wTup (waCons (wVar 1) (waNil))) (waCons (wFz (woCB oStrI (waCons (wVar 1) (waNil)))) (waCons (wC (.int 0)) (waCons (wFz (wOpO oAdd (wVar 1) (wC (.int 2)))) (waNil)))))))))))) (wC (.int 4)))))) (wNext))) (wRet (woCall s__law_pick (waCons (wVar 0) (waCons (wVar 2) (waNil)))))))
theorem d__law_odd {B : Bs} (ff : FF B) {k : Nat} {s__law_is_integer : FS} {n__law_is_integer : Nat} (k__law_is_integer : Kn B n__law_is_integer "_law_is_integer" t__law_is_integer P__law_is_integer s__law_is_integer) (hk__law_is_integer : n__law_is_integer ≤ k) {s__law_pick : FS} {n__law_pick : Nat} (k__law_pick : Kn B n__law_pick "_law_pick" t__law_pick P__law_pick s__law_pick) (hk__law_pick : n__law_pick ≤ k) : DSs (S__law_odd B k) (defBody t__law_odd) (w__law_odd s__law_is_integer s__law_pick) := by
  have nd : N__law_odd.Nodup := by decide +kernel
  exact (dss_cons (ds_set (i := 2) (do_lst (da_cons de_non (da_cons de_bl (da_cons de_bl (da_cons de_int (da_cons de_int (da_cons (de_neg de_int) (da_cons de_int (da_cons de_str (da_cons de_str (da_cons (de_tup da_nil) (da_cons (de_tup (da_cons (de_tup da_nil) da_nil)) (da_cons (de_fz (do_lst da_nil)) (da_cons de_dnew (da_cons (de_tup (da_cons de_int da_nil)) (da_cons (de_tup (da_cons de_int (da_cons de_int da_nil))) (da_cons (de_fz (do_lst (da_cons de_int (da_cons de_int da_nil)))) (da_cons (de_tup (da_cons de_int (da_cons de_int da_nil))) (da_cons (de_pow de_int de_int) da_nil))))))))))))))))))) nd) (dss_cons (ds_set (i := 2) (do_op od_add (de_nm (i := 2)) (de_fz (do_lst (da_cons (de_disp1 (k := (.inr "a")) (fun X f => pe_str) (de_tup (da_cons de_int (da_cons de_int da_nil)))) (da_cons (de_tup (da_cons (de_tup (da_cons de_int (da_cons de_int da_nil))) da_nil)) (da_cons (de_tup (da_cons de_int (da_cons de_bl da_nil))) (da_cons (de_tup (da_cons de_non da_nil)) (da_cons (de_tup (da_cons de_str (da_cons de_int da_nil))) (da_cons de_str (da_cons (de_tup (da_cons de_str (da_cons (de_tup (da_cons de_int da_nil)) da_nil))) (da_cons (de_tup (da_cons de_str (da_cons de_int (da_cons de_int da_nil)))) da_nil))))))))))) nd) (dss_cons (ds_if (dt_val (de_isi (ff.f_isinstance) (ff.f_tuple) (by decide +kernel) (by decide) (de_nm (i := 1)))) (dss_one (ds_set (i := 2) (do_op od_add (de_nm (i := 2)) (de_fz (do_op od_mul (de_fz (do_lst (da_cons (de_fz (do_callTy cd_list (ff.f_list) (by decide +kernel) (da_cons (de_nm (i := 1)) da_nil))) (da_cons (de_fz (do_op od_add (de_nm (i := 1)) (de_tup (da_cons de_int da_nil)))) (da_cons (de_fz (do_slice (de_nm (i := 1)) (dp_some de_int) dp_none)) (da_cons (de_fz (do_slice (de_nm (i := 1)) dp_none (dp_some (de_neg de_int)))) (da_cons (de_fz (do_revA (de_nm (i := 1)))) (da_cons (de_fz (do_op od_add (de_nm (i := 1)) (de_fz (do_slice (de_nm (i := 1)) dp_none (dp_some de_int))))) (da_cons (de_tup (da_cons (de_nm (i := 1)) da_nil)) (da_cons (de_fz (do_op od_add (de_fz (do_slice (de_nm (i := 1)) dp_none (dp_some de_int))) (de_nm (i := 1)))) (da_cons (de_fz (do_op od_add (de_nm (i := 1)) (de_tup (da_cons (de_tup da_nil) da_nil)))) da_nil))))))))))) de_int))) nd)) (dss_one (ds_if (dt_val (de_fz (do_call k__law_is_integer hk__law_is_integer (da_cons (de_nm (i := 1)) da_nil)))) (dss_one (ds_set (i := 2) (do_op od_add (de_nm (i := 2)) (de_fz (do_op od_mul (de_fz (do_lst (da_cons (de_fz (do_op od_add (de_nm (i := 1)) de_int)) (da_cons (de_sub (de_nm (i := 1)) de_int) (da_cons (de_neg (de_nm (i := 1))) (da_cons (de_cmp cm_eq (de_nm (i := 1)) de_int) (da_cons (de_fz (do_lst (da_cons (de_nm (i := 1)) da_nil))) (da_cons (de_tup (da_cons (de_nm (i := 1)) da_nil)) (da_cons (de_fz (do_callTy cd_str (ff.f_str) (by decide +kernel) (da_cons (de_nm (i := 1)) da_nil))) (da_cons de_int (da_cons (de_fz (do_op od_add (de_nm (i := 1)) de_int)) da_nil))))))))))) de_int))) nd)) dss_nil))) (dss_one (ds_ret (do_call k__law_pick hk__law_pick (da_cons (de_nm (i := 0)) (da_cons (de_nm (i := 2)) da_nil))))))))
def t__law_bent : Stmt := top 39
def N__law_bent : List Str := ["_law_deck_here", "_law_it", "_law_at"]
def P__law_bent : List Str := ["_law_deck_here", "_law_it"]
abbrev S__law_bent (B : Bs) (k : Nat) : Sta := { B with N := N__law_bent, names := (defScope t__law_bent).names, k := k, fc := fun _ => true }
theorem sc__law_bent : FnScope N__law_bent P__law_bent (defScope t__law_bent) := ⟨rfl, rfl, rfl, by decide +kernel, rfl, by decide +kernel, by decide +kernel⟩
def w__law_bent (s__law_draw : FS) (s__law_odd : FS) (s__law_bent : FS) : WS := wSeq (wIfS (wtOr (wtNot (wtV (wIsi "tuple" (wVar 1)))) (wtOr (wtV (wOp oEq0 (wVar 1) (wTup (waNil)))) (wtV (wOp oEq (wFz (woCall s__law_draw (waCons (wVar 0) (waCons (wC (.int 7)) (waNil))))) (wC (.int 0)))))) (wRet (woCall s__law_odd (waCons (wVar 0) (waCons (wVar 1) (waNil))))) (wNext)) (wSeq (wSet 2 (woCall s__law_draw (waCons (wVar 0) (waCons (wFz (woCB oLen (waCons (wVar 1) (waNil)))) (waNil))))) (wRet (wOpO oAdd (wFz (wOpO oAdd (wFz (woSl (wVar 1) (wpNone) (wpSome (wVar 2)))) (wTup (waCons (wFz (woCall s__law_bent (waCons (wVar 0) (waCons (wOp oIx (wVar 1) (wVar 2)) (waNil))))) (waNil))))) (wFz (woSl (wVar 1) (wpSome (wFz (wOpO oAdd (wVar 2) (wC (.int 1))))) (wpNone))))))
theorem d__law_bent {B : Bs} (ff : FF B) {k : Nat} {s__law_draw : FS} {n__law_draw : Nat} (k__law_draw : Kn B n__law_draw "_law_draw" t__law_draw P__law_draw s__law_draw) (hk__law_draw : n__law_draw ≤ k) {s__law_odd : FS} {n__law_odd : Nat} (k__law_odd : Kn B n__law_odd "_law_odd" t__law_odd P__law_odd s__law_odd) (hk__law_odd : n__law_odd ≤ k) {s__law_bent : FS} {n__law_bent : Nat} (k__law_bent : Kn B n__law_bent "_law_bent" t__law_bent P__law_bent s__law_bent) (hk__law_bent : n__law_bent ≤ k) : DSs (S__law_bent B k) (defBody t__law_bent) (w__law_bent s__law_draw s__law_odd s__law_bent) := by
  have nd : N__law_bent.Nodup := by decide +kernel
  exact (dss_cons (ds_if (dt_pw (dw_or (dt_not (dt_val (de_isi (ff.f_isinstance) (ff.f_tuple) (by decide +kernel) (by decide) (de_nm (i := 1))))) (dw_or (dt_cmp cm_eq0 (de_nm (i := 1)) (de_tup da_nil)) (dw_or1 (dt_cmp cm_eq (de_fz (do_call k__law_draw hk__law_draw (da_cons (de_nm (i := 0)) (da_cons de_int da_nil)))) de_int))))) (dss_one (ds_ret (do_call k__law_odd hk__law_odd (da_cons (de_nm (i := 0)) (da_cons (de_nm (i := 1)) da_nil))))) dss_nil) (dss_cons (ds_set (i := 2) (do_call k__law_draw hk__law_draw (da_cons (de_nm (i := 0)) (da_cons (de_fz (do_callB cd_len (ff.f_len) (by decide +kernel) (da_cons (de_nm (i := 1)) da_nil))) da_nil))) nd) (dss_one (ds_ret (do_op od_add (de_fz (do_op od_add (de_fz (do_slice (de_nm (i := 1)) dp_none (dp_some (de_nm (i := 2))))) (de_tup (da_cons (de_fz (do_call k__law_bent hk__law_bent (da_cons (de_nm (i := 0)) (da_cons (de_ix (de_nm (i := 1)) (de_nm (i := 2))) da_nil)))) da_nil)))) (de_fz (do_slice (de_nm (i := 1)) (dp_some (de_fz (do_op od_add (de_nm (i := 2)) de_int))) dp_none)))))))
def t__law_ahead : Stmt := top 40
def N__law_ahead : List Str := ["_law_deck_here", "_law_hands", "_law_ties_here", "_law_left", "_law_found", "_law_reach_here", "_law_go", "_law_some", "_law_hand", "_law_one"]
def P__law_ahead : List Str := ["_law_deck_here", "_law_hands", "_law_ties_here"]
abbrev S__law_ahead (B : Bs) (k : Nat) : Sta := { B with N := N__law_ahead, names := (defScope t__law_ahead).names, k := k, fc := fun _ => true }
theorem sc__law_ahead : FnScope N__law_ahead P__law_ahead (defScope t__law_ahead) := ⟨rfl, rfl, rfl, by decide +kernel, rfl, by decide +kernel, by decide +kernel⟩
def w__law_ahead (s__law_reach : FS) (s__law_pick : FS) : WS := wSeq (wPar3 3 4 5 (woListRg1 (wVar 1)) (woLst (waNil)) (woCall s__law_reach (waCons (wVar 1) (waCons (wVar 2) (waNil))))) (wSeq (wFor (wjRange1 (waCons (wVar 1) (waNil))) (wgName 6) (wSeq (wSet 7 (wComp (wiSeq (wVar 3)) (wgName 8) (wtV (wOp oEq (wFz (wComp (wiSeq (wVar 3)) (wgName 9) (wtV (wOp oIn (wVar 8) (wOp oIx (wVar 5) (wVar 9)))) (wVar 9) [9])) (wFz (woLst (waNil))))) (wVar 8) [8])) (wSeq (wSet 8 (woCall s__law_pick (waCons (wVar 0) (waCons (wVar 7) (waNil))))) (wSeq (wApp 4 (wvVar 8)) (wSet 3 (wComp (wiSeq (wVar 3)) (wgName 9) (wtV (wOp oNe (wVar 9) (wVar 8))) (wVar 9) [9])))))) (wRet (woCB oTuple (waCons (wVar 4) (waNil)))))
theorem d__law_ahead {B : Bs} (ff : FF B) {k : Nat} {s__law_reach : FS} {n__law_reach : Nat} (k__law_reach : Kn B n__law_reach "_law_reach" t__law_reach P__law_reach s__law_reach) (hk__law_reach : n__law_reach ≤ k) {s__law_pick : FS} {n__law_pick : Nat} (k__law_pick : Kn B n__law_pick "_law_pick" t__law_pick P__law_pick s__law_pick) (hk__law_pick : n__law_pick ≤ k) : DSs (S__law_ahead B k) (defBody t__law_ahead) (w__law_ahead s__law_reach s__law_pick) := by
  have nd : N__law_ahead.Nodup := by decide +kernel
  exact (dss_cons (ds_parT3 (i := 3) (j := 4) (l := 5) (do_listRg1 (ff.f_list) (ff.f_range) (de_nm (i := 1))) (do_lst da_nil) (do_call k__law_reach hk__law_reach (da_cons (de_nm (i := 1)) (da_cons (de_nm (i := 2)) da_nil))) nd) (dss_cons (ds_for (dj_range1 (ff.f_range) (da_cons (de_nm (i := 1)) da_nil)) (dg_name (i := 6) nd) (dss_cons (ds_setLc (i := 7) (own := [("_law_hand", 8)]) (di_seq (de_nm (i := 3))) nd (by kernel_rfl) (dg_name (i := 8) nd) (by decide) (dts_one (dt_cmp cm_eq (de_fz (do_lc (own := [("_law_one", 9)]) (di_seq (de_nm (i := 3))) nd (by kernel_rfl) (dg_name (i := 9) nd) (by decide) (dts_one (dt_cmp cm_in (de_nm (i := 8)) (de_ix (de_nm (i := 5)) (de_nm (i := 9))))) (de_nm (i := 9)))) (de_fz (do_lst da_nil)))) (de_nm (i := 8))) (dss_cons (ds_set (i := 8) (do_call k__law_pick hk__law_pick (da_cons (de_nm (i := 0)) (da_cons (de_nm (i := 7)) da_nil))) nd) (dss_cons (ds_app (i := 4) (dv_var (i := 8))) (dss_one (ds_setLcC (i := 3) (do_lc (own := [("_law_one", 9)]) (di_seq (de_nm (i := 3))) nd (by kernel_rfl) (dg_name (i := 9) nd) (by decide) (dts_one (dt_cmp cm_ne (de_nm (i := 9)) (de_nm (i := 8)))) (de_nm (i := 9))) nd)))))) (dss_one (ds_ret (do_callTy cd_tuple (ff.f_tuple) (by decide +kernel) (da_cons (de_nm (i := 4)) da_nil))))))
def t__law_base : Stmt := top 41
def N__law_base : List Str := ["_law_deck_here", "_law_hands", "_law_ties_here", "_law_way", "_law_one", "_law_reach_here", "_law_some", "_law_other"]
def P__law_base : List Str := ["_law_deck_here", "_law_hands", "_law_ties_here"]
abbrev S__law_base (B : Bs) (k : Nat) : Sta := { B with N := N__law_base, names := (defScope t__law_base).names, k := k, fc := fun _ => true }
theorem sc__law_base : FnScope N__law_base P__law_base (defScope t__law_base) := ⟨rfl, rfl, rfl, by decide +kernel, rfl, by decide +kernel, by decide +kernel⟩
def w__law_base (s__law_draw : FS) (s__law_ahead : FS) (s__law_order : FS) (s__law_reach : FS) (s__law_pick : FS) : WS := wSeq (wSet 3 (woCall s__law_draw (waCons (wVar 0) (waCons (wC (.int 4)) (waNil))))) (wSeq (wIfS (wtOr (wtV (wOp (oB0 fun i j => decide (i < j)) (wVar 3) (wC (.int 2)))) (wtV (wOp oEq (wVar 1) (wC (.int 1))))) (wRet (woFz (wTup (waCons (wC (.str "way")) (waCons (wIf (wtOr (wtV (wOp oEq (wVar 3) (wC (.int 0)))) (wtV (wOp oEq (wVar 1) (wC (.int 1))))) (wFz (woCall s__law_ahead (waCons (wVar 0) (waCons (wVar 1) (waCons (wVar 2) (waNil)))))) (wFz (woCall s__law_order (waCons (wVar 0) (waCons (wVar 1) (waNil)))))) (waNil)))))) (wNext)) (wSeq (wPar2 4 5 (woCall s__law_draw (waCons (wVar 0) (waCons (wVar 1) (waNil)))) (woCall s__law_reach (waCons (wVar 1) (waCons (wVar 2) (waNil))))) (wSeq (wSet 6 (wComp (wiRange1 (waCons (wVar 1) (waNil))) (wgName 7) (wtAnd (wtV (wOp oNe (wVar 7) (wVar 4))) (wtAnd (wtV (wOp oNotIn (wVar 7) (wOp oIx (wVar 5) (wVar 4)))) (wtV (wOp oNotIn (wVar 4) (wOp oIx (wVar 5) (wVar 7)))))) (wVar 7) [7])) (wSeq (wIfS (wtOr (wtV (wOp oEq (wVar 6) (wFz (woLst (waNil))))) (wtAnd (wtV (wOp oEq (wVar 3) (wC (.int 3)))) (wtV (wOp oEq (wFz (woCall s__law_draw (waCons (wVar 0) (waCons (wC (.int 2)) (waNil))))) (wC (.int 0)))))) (wSet 6 (wComp (wiRange1 (waCons (wVar 1) (waNil))) (wgName 7) (wtV (wOp oNe (wVar 7) (wVar 4))) (wVar 7) [7])) (wNext)) (wSeq (wSet 7 (woCall s__law_pick (waCons (wVar 0) (waCons (wVar 6) (waNil))))) (wRet (woFz (wTup (waCons (wC (.str "two")) (waCons (wFz (woCB oMin (waCons (wVar 4) (waCons (wVar 7) (waNil))))) (waCons (wFz (woCB oMax (waCons (wVar 4) (waCons (wVar 7) (waNil))))) (waNil))))))))))))
theorem d__law_base {B : Bs} (ff : FF B) {k : Nat} {s__law_draw : FS} {n__law_draw : Nat} (k__law_draw : Kn B n__law_draw "_law_draw" t__law_draw P__law_draw s__law_draw) (hk__law_draw : n__law_draw ≤ k) {s__law_ahead : FS} {n__law_ahead : Nat} (k__law_ahead : Kn B n__law_ahead "_law_ahead" t__law_ahead P__law_ahead s__law_ahead) (hk__law_ahead : n__law_ahead ≤ k) {s__law_order : FS} {n__law_order : Nat} (k__law_order : Kn B n__law_order "_law_order" t__law_order P__law_order s__law_order) (hk__law_order : n__law_order ≤ k) {s__law_reach : FS} {n__law_reach : Nat} (k__law_reach : Kn B n__law_reach "_law_reach" t__law_reach P__law_reach s__law_reach) (hk__law_reach : n__law_reach ≤ k) {s__law_pick : FS} {n__law_pick : Nat} (k__law_pick : Kn B n__law_pick "_law_pick" t__law_pick P__law_pick s__law_pick) (hk__law_pick : n__law_pick ≤ k) : DSs (S__law_base B k) (defBody t__law_base) (w__law_base s__law_draw s__law_ahead s__law_order s__law_reach s__law_pick) := by
  have nd : N__law_base.Nodup := by decide +kernel
  exact (dss_cons (ds_set (i := 3) (do_call k__law_draw hk__law_draw (da_cons (de_nm (i := 0)) (da_cons de_int da_nil))) nd) (dss_cons (ds_if (dt_pw (dw_or (dt_cmp cm_lt (de_nm (i := 3)) de_int) (dw_or1 (dt_cmp cm_eq (de_nm (i := 1)) de_int)))) (dss_one (ds_ret (do_fz (de_tup (da_cons de_str (da_cons (de_if (dt_pw (dw_or (dt_cmp cm_eq (de_nm (i := 3)) de_int) (dw_or1 (dt_cmp cm_eq (de_nm (i := 1)) de_int)))) (de_fz (do_call k__law_ahead hk__law_ahead (da_cons (de_nm (i := 0)) (da_cons (de_nm (i := 1)) (da_cons (de_nm (i := 2)) da_nil))))) (de_fz (do_call k__law_order hk__law_order (da_cons (de_nm (i := 0)) (da_cons (de_nm (i := 1)) da_nil))))) da_nil)))))) dss_nil) (dss_cons (ds_parT2 (i := 4) (j := 5) (do_call k__law_draw hk__law_draw (da_cons (de_nm (i := 0)) (da_cons (de_nm (i := 1)) da_nil))) (do_call k__law_reach hk__law_reach (da_cons (de_nm (i := 1)) (da_cons (de_nm (i := 2)) da_nil))) nd) (dss_cons (ds_setLc (i := 6) (own := [("_law_other", 7)]) (di_range1 (ff.f_range) (da_cons (de_nm (i := 1)) da_nil)) nd (by kernel_rfl) (dg_name (i := 7) nd) (by decide) (dts_one (dt_pw (dw_and (dt_cmp cm_ne (de_nm (i := 7)) (de_nm (i := 4))) (dw_and (dt_cmp cm_notIn (de_nm (i := 7)) (de_ix (de_nm (i := 5)) (de_nm (i := 4)))) (dw_and1 (dt_cmp cm_notIn (de_nm (i := 4)) (de_ix (de_nm (i := 5)) (de_nm (i := 7))))))))) (de_nm (i := 7))) (dss_cons (ds_if (dt_pw (dw_or (dt_cmp cm_eq (de_nm (i := 6)) (de_fz (do_lst da_nil))) (dw_or1 (dt_pw (dw_and (dt_cmp cm_eq (de_nm (i := 3)) de_int) (dw_and1 (dt_cmp cm_eq (de_fz (do_call k__law_draw hk__law_draw (da_cons (de_nm (i := 0)) (da_cons de_int da_nil)))) de_int))))))) (dss_one (ds_setLc (i := 6) (own := [("_law_other", 7)]) (di_range1 (ff.f_range) (da_cons (de_nm (i := 1)) da_nil)) nd (by kernel_rfl) (dg_name (i := 7) nd) (by decide) (dts_one (dt_cmp cm_ne (de_nm (i := 7)) (de_nm (i := 4)))) (de_nm (i := 7)))) dss_nil) (dss_cons (ds_set (i := 7) (do_call k__law_pick hk__law_pick (da_cons (de_nm (i := 0)) (da_cons (de_nm (i := 6)) da_nil))) nd) (dss_one (ds_ret (do_fz (de_tup (da_cons de_str (da_cons (de_fz (do_callB cd_min (ff.f_min) (by decide +kernel) (da_cons (de_nm (i := 4)) (da_cons (de_nm (i := 7)) da_nil)))) (da_cons (de_fz (do_callB cd_max (ff.f_max) (by decide +kernel) (da_cons (de_nm (i := 4)) (da_cons (de_nm (i := 7)) da_nil)))) da_nil)))))))))))))
def t__law_thing : Stmt := top 42
def N__law_thing : List Str := ["_law_deck_here", "_law_base_here", "_law_way", "_law_thing_here", "_law_go"]
def P__law_thing : List Str := ["_law_deck_here", "_law_base_here"]
abbrev S__law_thing (B : Bs) (k : Nat) : Sta := { B with N := N__law_thing, names := (defScope t__law_thing).names, k := k, fc := fun _ => true }
theorem sc__law_thing : FnScope N__law_thing P__law_thing (defScope t__law_thing) := ⟨rfl, rfl, rfl, by decide +kernel, rfl, by decide +kernel, by decide +kernel⟩
def w__law_thing (s__law_draw : FS) (s__law_odd : FS) (s__law_pick : FS) (s__law_bent : FS) : WS := wSeq (wPar2 2 3 (woCall s__law_draw (waCons (wVar 0) (waCons (wC (.int 7)) (waNil)))) (woFz (wVar 1))) (wSeq (wIfS (wtV (wOp oEq (wVar 2) (wC (.int 0)))) (wRet (woCall s__law_odd (waCons (wVar 0) (waCons (wC .non) (waNil))))) (wNext)) (wSeq (wIfS (wtAnd (wtV (wOp oEq (wVar 2) (wC (.int 1)))) (wtV (wOp oEq (wOp oIx (wVar 1) (wC (.int 0))) (wC (.str "two"))))) (wRet (woFz (wTup (waCons (wC (.str "two")) (waCons (wOp oIx (wVar 1) (wC (.int 2))) (waCons (wOp oIx (wVar 1) (wC (.int 1))) (waNil))))))) (wNext)) (wSeq (wIfS (wtV (wOp oEq (wVar 2) (wC (.int 2)))) (wRet (wOpO oAdd (wTup (waCons (wIf (wtV (wOp oEq (wOp oIx (wVar 1) (wC (.int 0))) (wC (.str "way")))) (wC (.str "two")) (wC (.str "way"))) (waNil))) (wFz (woSl (wVar 1) (wpSome (wC (.int 1))) (wpNone))))) (wNext)) (wSeq (wFor (wjRange1 (waCons (wFz (woCall s__law_pick (waCons (wVar 0) (waCons (wFz (woLst (waCons (wC (.int 0)) (waCons (wC (.int 1)) (waCons (wC (.int 1)) (waCons (wC (.int 2)) (waNil))))))) (waNil))))) (waNil))) (wgName 4) (wIfS (wtV (wIsi "tuple" (wVar 3))) (wSet 3 (woCall s__law_bent (waCons (wVar 0) (waCons (wVar 3) (waNil))))) (wNext))) (wRetV 3)))))
theorem d__law_thing {B : Bs} (ff : FF B) {k : Nat} {s__law_draw : FS} {n__law_draw : Nat} (k__law_draw : Kn B n__law_draw "_law_draw" t__law_draw P__law_draw s__law_draw) (hk__law_draw : n__law_draw ≤ k) {s__law_odd : FS} {n__law_odd : Nat} (k__law_odd : Kn B n__law_odd "_law_odd" t__law_odd P__law_odd s__law_odd) (hk__law_odd : n__law_odd ≤ k) {s__law_pick : FS} {n__law_pick : Nat} (k__law_pick : Kn B n__law_pick "_law_pick" t__law_pick P__law_pick s__law_pick) (hk__law_pick : n__law_pick ≤ k) {s__law_bent : FS} {n__law_bent : Nat} (k__law_bent : Kn B n__law_bent "_law_bent" t__law_bent P__law_bent s__law_bent) (hk__law_bent : n__law_bent ≤ k) : DSs (S__law_thing B k) (defBody t__law_thing) (w__law_thing s__law_draw s__law_odd s__law_pick s__law_bent) := by
  have nd : N__law_thing.Nodup := by decide +kernel
  exact (dss_cons (ds_par2 (i := 2) (j := 3) (do_call k__law_draw hk__law_draw (da_cons (de_nm (i := 0)) (da_cons de_int da_nil))) (do_fz (de_nm (i := 1))) nd (hw := swap2 (by kernel_rfl) (by kernel_rfl) (by rfl) (by rfl) (by kernel_rfl) (by kernel_rfl))) (dss_cons (ds_if (dt_cmp cm_eq (de_nm (i := 2)) de_int) (dss_one (ds_ret (do_call k__law_odd hk__law_odd (da_cons (de_nm (i := 0)) (da_cons de_non da_nil))))) dss_nil) (dss_cons (ds_if (dt_pw (dw_and (dt_cmp cm_eq (de_nm (i := 2)) de_int) (dw_and1 (dt_cmp cm_eq (de_ix (de_nm (i := 1)) de_int) de_str)))) (dss_one (ds_ret (do_fz (de_tup (da_cons de_str (da_cons (de_ix (de_nm (i := 1)) de_int) (da_cons (de_ix (de_nm (i := 1)) de_int) da_nil))))))) dss_nil) (dss_cons (ds_if (dt_cmp cm_eq (de_nm (i := 2)) de_int) (dss_one (ds_ret (do_op od_add (de_tup (da_cons (de_if (dt_cmp cm_eq (de_ix (de_nm (i := 1)) de_int) de_str) de_str de_str) da_nil)) (de_fz (do_slice (de_nm (i := 1)) (dp_some de_int) dp_none))))) dss_nil) (dss_cons (ds_for (dj_range1 (ff.f_range) (da_cons (de_fz (do_call k__law_pick hk__law_pick (da_cons (de_nm (i := 0)) (da_cons (de_fz (do_lst (da_cons de_int (da_cons de_int (da_cons de_int (da_cons de_int da_nil)))))) da_nil)))) da_nil)) (dg_name (i := 4) nd) (dss_one (ds_if (dt_val (de_isi (ff.f_isinstance) (ff.f_tuple) (by decide +kernel) (by decide) (de_nm (i := 3)))) (dss_one (ds_set (i := 3) (do_call k__law_bent hk__law_bent (da_cons (de_nm (i := 0)) (da_cons (de_nm (i := 3)) da_nil))) nd)) dss_nil))) (dss_one (ds_retV (i := 3))))))))
def t_law : Stmt := top 43
def N_law : List Str := ["_law_script", "_law_deck_here", "_law_go", "_law_hands", "_law_ties_here", "_law_turn", "_law_thing_here", "_law_due", "_law_told", "_law_i", "_law_j"]
def P_law : List Str := ["_law_script"]
abbrev S_law (B : Bs) (k : Nat) : Sta := { B with N := N_law, names := (defScope t_law).names, k := k, fc := fun _ => true }
theorem sc_law : FnScope N_law P_law (defScope t_law) := ⟨rfl, rfl, rfl, by decide +kernel, rfl, by decide +kernel, by decide +kernel⟩
def w_law (K : PySem.W.Frag) (s__law_pick : FS) (s__law_ties : FS) (s__law_has_ring : FS) (s__law_thing : FS) (s__law_base : FS) (s__law_is_way : FS) (s_way_holds : FS) : WS := wDeckS K 1 0 (wSeq (wFor (wjRange1 (waCons (wC (.int 4)) (waNil))) (wgName 2) (wSeq (wSet 3 (woCall s__law_pick (waCons (wVar 1) (waCons (wFz (woLst (waCons (wC (.int 3)) (waCons (wC (.int 4)) (waCons (wC (.int 2)) (waCons (wC (.int 5)) (waCons (wC (.int 6)) (waCons (wC (.int 1)) (waCons (wC (.int 3)) (waNil)))))))))) (waNil))))) (wSeq (wSet 4 (woCall s__law_ties (waCons (wVar 1) (waCons (wVar 3) (waNil))))) (wSeq (wIfS (wtV (wFz (woCall s__law_has_ring (waCons (wVar 3) (waCons (wVar 4) (waNil)))))) (wSet 4 (woCB oTuple (waCons (wFz (wComp (wiSeq (wVar 4)) (wgTup 2 (wgCons (wgName 9) (wgCons (wgName 10) (wgNil)))) (wtV (wOp (oB0 fun i j => decide (i < j)) (wVar 9) (wVar 10))) (wTup (waCons (wVar 9) (waCons (wVar 10) (waNil)))) [9, 10])) (waNil)))) (wNext)) (wFor (wjRange1 (waCons (wC (.int 8)) (waNil))) (wgName 5) (wSeq (wSet 6 (woCall s__law_thing (waCons (wVar 1) (waCons (wFz (woCall s__law_base (waCons (wVar 1) (waCons (wVar 3) (waCons (wVar 4) (waNil)))))) (waNil))))) (wSeq (wSet 7 (woCall s__law_is_way (waCons (wVar 3) (waCons (wVar 4) (waCons (wVar 6) (waNil)))))) (wSeq (wIfS (wtV (wOp oEq (wOp (oI (fun _ j => 0 < j) fun i j => i % j) (wFz (woCB oInt (waCons (wVar 5) (waNil)))) (wC (.int 2))) (wC (.int 0)))) (wSet 8 (woCall s_way_holds (waCons (wVar 3) (waCons (wVar 4) (waCons (wVar 6) (waNil)))))) (wSet 8 (woCallK 3 [2, 1, 0] s_way_holds (waCons (wVar 6) (waCons (wVar 4) (waCons (wVar 3) (waNil))))))) (wIfS (wtV (wOp oNe (wFz (woCB oRepr (waCons (wVar 8) (waNil)))) (wFz (woCB oRepr (waCons (wVar 7) (waNil)))))) (wRet (woFz (wC (.bl false)))) (wNext)))))))))) (wRet (woFz (wC (.bl true)))))
theorem d_law {B : Bs} (ff : FF B) {k kD : Nat} {aD : Addr} {fD : FuncData} (FD : FnOk B.P B.w B.K B.mg B.base CX0 kD aD fD P__law_deck (spDeck B.K)) (hmD : B.mg "_law_deck" = some (.ref aD)) (hkD : PySem.W.keepIn B.K (.ref aD) = true) (hbD : Binds B.K fD P__law_deck []) (hD : kD ≤ k) {s__law_pick : FS} {n__law_pick : Nat} (k__law_pick : Kn B n__law_pick "_law_pick" t__law_pick P__law_pick s__law_pick) (hk__law_pick : n__law_pick ≤ k) {s__law_ties : FS} {n__law_ties : Nat} (k__law_ties : Kn B n__law_ties "_law_ties" t__law_ties P__law_ties s__law_ties) (hk__law_ties : n__law_ties ≤ k) {s__law_has_ring : FS} {n__law_has_ring : Nat} (k__law_has_ring : Kn B n__law_has_ring "_law_has_ring" t__law_has_ring P__law_has_ring s__law_has_ring) (hk__law_has_ring : n__law_has_ring ≤ k) {s__law_thing : FS} {n__law_thing : Nat} (k__law_thing : Kn B n__law_thing "_law_thing" t__law_thing P__law_thing s__law_thing) (hk__law_thing : n__law_thing ≤ k) {s__law_base : FS} {n__law_base : Nat} (k__law_base : Kn B n__law_base "_law_base" t__law_base P__law_base s__law_base) (hk__law_base : n__law_base ≤ k) {s__law_is_way : FS} {n__law_is_way : Nat} (k__law_is_way : Kn B n__law_is_way "_law_is_way" t__law_is_way P__law_is_way s__law_is_way) (hk__law_is_way : n__law_is_way ≤ k) {s_way_holds : FS} {n_way_holds : Nat} (k_way_holds : Kn B n_way_holds "way_holds" t_way_holds P_way_holds s_way_holds) (hk_way_holds : n_way_holds ≤ k) : DSs (S_law B k) (defBody t_law) (w_law B.K s__law_pick s__law_ties s__law_has_ring s__law_thing s__law_base s__law_is_way s_way_holds) := by
  have nd : N_law.Nodup := by decide +kernel
  exact (dss_deck (i := 1) (j := 0) FD hmD hkD hbD hD (dss_cons (ds_for (dj_range1 (ff.f_range) (da_cons de_int da_nil)) (dg_name (i := 2) nd) (dss_cons (ds_set (i := 3) (do_call k__law_pick hk__law_pick (da_cons (de_nm (i := 1)) (da_cons (de_fz (do_lst (da_cons de_int (da_cons de_int (da_cons de_int (da_cons de_int (da_cons de_int (da_cons de_int (da_cons de_int da_nil))))))))) da_nil))) nd) (dss_cons (ds_set (i := 4) (do_call k__law_ties hk__law_ties (da_cons (de_nm (i := 1)) (da_cons (de_nm (i := 3)) da_nil))) nd) (dss_cons (ds_if (dt_val (de_fz (do_call k__law_has_ring hk__law_has_ring (da_cons (de_nm (i := 3)) (da_cons (de_nm (i := 4)) da_nil))))) (dss_one (ds_set (i := 4) (do_callTy cd_tuple (ff.f_tuple) (by decide +kernel) (da_cons (de_fz (do_lc (own := [("_law_i", 9), ("_law_j", 10)]) (di_seq (de_nm (i := 4))) nd (by kernel_rfl) (dg_tup (dgs_cons (dg_name (i := 9) nd) (dgs_cons (dg_name (i := 10) nd) dgs_nil))) (by decide) (dts_one (dt_cmp cm_lt (de_nm (i := 9)) (de_nm (i := 10)))) (de_tup (da_cons (de_nm (i := 9)) (da_cons (de_nm (i := 10)) da_nil))))) da_nil)) nd)) dss_nil) (dss_one (ds_for (dj_range1 (ff.f_range) (da_cons de_int da_nil)) (dg_name (i := 5) nd) (dss_cons (ds_set (i := 6) (do_call k__law_thing hk__law_thing (da_cons (de_nm (i := 1)) (da_cons (de_fz (do_call k__law_base hk__law_base (da_cons (de_nm (i := 1)) (da_cons (de_nm (i := 3)) (da_cons (de_nm (i := 4)) da_nil))))) da_nil))) nd) (dss_cons (ds_set (i := 7) (do_call k__law_is_way hk__law_is_way (da_cons (de_nm (i := 3)) (da_cons (de_nm (i := 4)) (da_cons (de_nm (i := 6)) da_nil)))) nd) (dss_cons (ds_if (dt_cmp cm_eq (de_mod (de_fz (do_callTy cd_int (ff.f_int) (by decide +kernel) (da_cons (de_nm (i := 5)) da_nil))) de_int) de_int) (dss_one (ds_set (i := 8) (do_call k_way_holds hk_way_holds (da_cons (de_nm (i := 3)) (da_cons (de_nm (i := 4)) (da_cons (de_nm (i := 6)) da_nil)))) nd)) (dss_one (ds_set (i := 8) (do_callK (is := [2, 1, 0]) (ks := ["thing", "ties", "hands"]) k_way_holds hk_way_holds (dk_cons (de_nm (i := 6)) (dk_cons (de_nm (i := 4)) (dk_cons (de_nm (i := 3)) dk_nil))) (by simp [P_way_holds]) (fun _ _ _ _ _ _ ws hl => match ws, hl with | [_, _, _], _ => rfl)) nd))) (dss_one (ds_if (dt_cmp cm_ne (de_fz (do_callB cd_repr (ff.f_repr) (by decide +kernel) (da_cons (de_nm (i := 8)) da_nil))) (de_fz (do_callB cd_repr (ff.f_repr) (by decide +kernel) (da_cons (de_nm (i := 7)) da_nil)))) (dss_one (ds_ret (do_fz de_bl))) dss_nil))))))))))) (dss_one (ds_ret (do_fz de_bl)))) nd)
end K72
set_option maxHeartbeats 4000000
namespace K72
open PySem PySem.Spec PyProof.Rows L2 DL

/-! ### data that may come -/
mutual
def okD : D → Bool
  | .ob _ => false
  | .tup xs => decide (xs.length ≤ 1000) && okL xs
  | .lst xs => okL xs
  | .str x => PyData.canLay0 (.str x)
  | _ => true
def okL : List D → Bool
  | [] => true
  | x :: xs => okD x && okL xs
end
theorem okD_ob {d : D} (h : okD d = true) : ∀ a, d ≠ .ob a := fun a e => by subst e; cases h
theorem okL_mem : ∀ {xs : List D}, okL xs = true → ∀ d ∈ xs, okD d = true
  | [], _, d, h => by cases h
  | x :: xs, e, d, h => by
    unfold okL at e
    obtain ⟨e1, e2⟩ := Bool.and_eq_true_iff.mp e
    rcases List.mem_cons.mp h with rfl | h
    · exact e1
    · exact okL_mem e2 d h
theorem okD_tup {xs : List D} (h : okD (.tup xs) = true) : xs.length ≤ 1000 ∧ okL xs = true := by
  unfold okD at h
  obtain ⟨e1, e2⟩ := Bool.and_eq_true_iff.mp h
  exact ⟨of_decide_eq_true e1, e2⟩

/-- a def's meaning keeps its promise -/
abbrev Keeps (P N : List Str) (s : FS) (w : WS) : Prop := ∀ (G : Gc) (ds : List D) (Qd : SV → Prop), s G ds Qd → ds.length = P.length ∧ w G { nx := fun _ => Qd (.fz .non), rt := Qd } (startD N ds)
/-- a comprehension, turn by turn -/
theorem wcL_fm {wg : WG} {wt : WT} {we : W} {vs : List Nat} {G : Gc} {ρ : En} (p : D → Bool) (f : D → D) : ∀ (ds acc : List D) (Q : List D → Prop),
    (∀ d ∈ ds, ∀ G', GExt G G' → ∀ (Qy : D → Prop) (Qn : Prop), (p d = true → Qy (f d)) → (p d = false → Qn) → wg d (wipeD ρ vs) fun ρ2 => wt G' ρ2 fun b => if b = true then we G' ρ2 Qy else Qn) →
    acc.length + ds.length ≤ sizeLine → Q (acc ++ (ds.filter p).map f) → wcL wg wt we vs G ρ ds acc Q
  | [], acc, Q, _, _, q => by
    rw [List.filter_nil, List.map_nil, List.append_nil] at q
    exact q
  | d :: ds, acc, Q, h, hl, q => fun G' hG => by
    have hl' : acc.length + ds.length < sizeLine := by rw [List.length_cons] at hl; omega
    refine h d List.mem_cons_self G' hG _ _ (fun hp => ⟨by omega, ?_⟩) (fun hp => ?_)
    · refine wcL_fm p f ds (acc ++ [f d]) Q (fun e he => h e (List.mem_cons_of_mem _ he)) (by rw [List.length_append, List.length_singleton]; omega) ?_
      rw [List.filter_cons, if_pos hp, List.map_cons] at q
      rw [List.append_assoc]
      exact q
    · refine wcL_fm p f ds acc Q (fun e he => h e (List.mem_cons_of_mem _ he)) (by omega) ?_
      rw [List.filter_cons, if_neg (by rw [hp]; exact Bool.false_ne_true)] at q
      exact q
theorem filter_all {ds : List D} : ds.filter (fun _ => true) = ds := List.filter_eq_self.mpr fun _ _ => rfl
theorem le_size {n : Nat} (h : n ≤ 1000) : n ≤ sizeLine := by rw [sizeLine_eq]; omega
def isInt : D → Bool
  | .int _ => true
  | _ => false
def s_is_integer : FS := fun _ ds Q => ∃ d, ds = [d] ∧ okD d = true ∧ Q (.fz (.bl (isInt d)))
theorem p_is_integer : Keeps P_is_integer N_is_integer s_is_integer (w_is_integer) := fun G ds Qd h => by
  obtain ⟨d, rfl, hd, q⟩ := h
  refine ⟨rfl, .fz d, rfl, okD_ob hd, isD "int" d, rfl, ?_⟩
  cases d with
  | bl b => exact ⟨.fz (.bl b), rfl, okD_ob hd, _, rfl, q⟩
  | int i => exact ⟨.fz (.int i), rfl, okD_ob hd, _, rfl, q⟩
  | _ => exact q
def isBet (lo hi : Int) : D → Bool
  | .int i => decide (lo ≤ i) && decide (i ≤ hi)
  | _ => false
def s_is_between : FS := fun _ ds Q => ∃ d lo hi, ds = [d, .int lo, .int hi] ∧ okD d = true ∧ Q (.fz (.bl (isBet lo hi d)))
theorem p_is_between : Keeps P_is_between N_is_between s_is_between (w_is_between s_is_integer) := fun G ds Qd h => by
  obtain ⟨d, lo, hi, rfl, hd, q⟩ := h
  refine ⟨rfl, .fz d, rfl, d, rfl, hd, isInt d, rfl, ?_⟩
  cases d with
  | int i =>
    refine ⟨.fz (.int lo), rfl, .fz (.int i), rfl, lo, i, rfl, rfl, decide (lo ≤ i), rfl, ?_⟩
    change Qd (.fz (.bl (decide (lo ≤ i) && decide (i ≤ hi)))) at q
    cases h : decide (lo ≤ i) with
    | true => rw [h] at q; exact ⟨.fz (.int hi), rfl, i, hi, rfl, rfl, q⟩
    | false => rw [h] at q; exact q
  | _ => exact q
def areBet (lo hi : Int) : D → Bool
  | .tup xs => xs.all (isBet lo hi)
  | _ => false
def s_are_between : FS := fun _ ds Q => ∃ d lo hi, ds = [d, .int lo, .int hi] ∧ okD d = true ∧ Q (.fz (.bl (areBet lo hi d)))
theorem p_are_between : Keeps P_are_between N_are_between s_are_between (w_are_between s_is_between) := fun G ds Qd h => by
  obtain ⟨d, lo, hi, rfl, hd, q⟩ := h
  refine ⟨rfl, .fz d, rfl, okD_ob hd, isD "tuple" d, rfl, ?_⟩
  cases d with
  | tup xs =>
    obtain ⟨hl, hx⟩ := okD_tup hd
    refine ⟨.fz (.tup xs), rfl, xs, rfl, ?_⟩
    refine wcL_fm (fun _ => true) (fun d => .bl (isBet lo hi d)) xs [] _ (fun d hm G' _ Qy Qn hy _ => ?_) (by rw [List.length_nil]; have := le_size hl; omega) ?_
    · exact ⟨by show 3 < 4; decide, .fz d, rfl, .fz (.int lo), rfl, .fz (.int hi), rfl, d, lo, hi, rfl, okL_mem hx d hm, hy rfl⟩
    · rw [filter_all, List.nil_append]
      refine ⟨xs.map (isBet lo hi), by rw [List.map_map]; rfl, ?_⟩
      rw [List.all_map]
      exact q
  | _ => exact q
theorem atI_nat {α : Type} {xs : List α} {i : Nat} {x : α} (h : xs[i]? = some x) : atI xs ((i : Nat) : Int) = some x := by
  have hi : i < xs.length := (List.getElem?_eq_some_iff.mp h).1
  unfold atI ixN
  rw [if_pos (by omega), if_pos (by omega)]
  simp only [Option.bind_some, Int.toNat_natCast]
  exact h
theorem atI_0 {α : Type} {x : α} {xs : List α} : atI (x :: xs) 0 = some x := atI_nat (i := 0) rfl
theorem atI_1 {α : Type} {x y : α} {xs : List α} : atI (x :: y :: xs) 1 = some y := atI_nat (i := 1) rfl
def isWord (w : Str) : D → Bool
  | .tup (.str x :: _) => x == w
  | _ => false
def s_is_word : FS := fun _ ds Q => ∃ d w, ds = [d, .str w] ∧ okD d = true ∧ PyData.canLay0 (.str w) = true ∧ Q (.fz (.bl (isWord w d)))
theorem p_is_word : Keeps P_is_word N_is_word s_is_word w_is_word := fun G ds Qd h => by
  obtain ⟨d, w, rfl, hd, hw, q⟩ := h
  refine ⟨rfl, .fz d, rfl, okD_ob hd, isD "tuple" d, rfl, ?_⟩
  cases d with
  | tup xs =>
    obtain ⟨hl, hx⟩ := okD_tup hd
    cases xs with
    | nil => exact ⟨.fz (.tup []), rfl, .tup [], rfl, .inl ⟨[], rfl, 0, 0, rfl, rfl, false, rfl, q⟩⟩
    | cons x r =>
      have ho := okL_mem hx x List.mem_cons_self
      have e1 : decide ((0 : Int) < ((x :: r).length : Nat)) = true := by simp
      refine ⟨.fz (.tup (x :: r)), rfl, _, rfl, .inl ⟨x :: r, rfl, _, 0, rfl, rfl, true, congrArg D.bl e1, ?_⟩⟩
      refine ⟨.fz (.tup (x :: r)), rfl, 0, rfl, .inl ⟨x :: r, x, rfl, atI_0, okD_ob ho, isD "str" x, rfl, ?_⟩⟩
      cases x with
      | str z => exact ⟨.fz (.tup (.str z :: r)), rfl, 0, rfl, .inl ⟨_, _, rfl, atI_0, .fz (.str w), rfl, oEq_str ho hw q⟩⟩
      | _ => exact q
  | _ => exact q
/-- ties as data -/
def tiesD (ts : List (Int × Int)) : D := .tup (ts.map pD)
def tLt (t u : Int × Int) : Prop := t.1 < u.1 ∨ (t.1 = u.1 ∧ t.2 < u.2)
theorem lex_of {t u : Int × Int} (h : tLt t u) : HT.lexLt [t.1, t.2] [u.1, u.2] = true := by
  rw [HT.lexLt_cons, HT.lexLt_cons]
  rcases h with h | ⟨h1, h2⟩
  · rw [if_neg (by omega)]; exact decide_eq_true h
  · rw [if_pos h1, if_neg (by omega)]; exact decide_eq_true h2
theorem zip_next : ∀ (ts : List (Int × Int)), ts.Pairwise tLt → ∀ d ∈ zipD (ts.map pD) ((ts.map pD).drop 1), ∃ t u, d = .tup [pD t, pD u] ∧ tLt t u
  | [], _, d, h => by simp [zipD] at h
  | [t], _, d, h => by simp [zipD] at h
  | t :: u :: ts, hp, d, h => by
    obtain ⟨h1, h2⟩ := List.pairwise_cons.mp hp
    have e : zipD ((t :: u :: ts).map pD) (((t :: u :: ts).map pD).drop 1) = .tup [pD t, pD u] :: zipD ((u :: ts).map pD) (((u :: ts).map pD).drop 1) := by
      simp [zipD]
    rw [e] at h
    rcases List.mem_cons.mp h with rfl | h
    · exact ⟨t, u, rfl, h1 u List.mem_cons_self⟩
    · exact zip_next (u :: ts) h2 d h
theorem cut_1 (xs : List D) : DL.cutD xs (some 1) none = xs.drop 1 := by
  have e : HT.sIx xs.length 0 (some ((1 : Nat) : Int)) = min 1 xs.length := HT.sIx_nat _ _ 1
  unfold DL.cutD
  show (xs.drop (HT.sIx xs.length 0 (some ((1 : Nat) : Int)))).take (xs.length - HT.sIx xs.length 0 (some ((1 : Nat) : Int))) = _
  rw [e]
  cases xs with
  | nil => rfl
  | cons x r =>
    have : min 1 (x :: r).length = 1 := by simp
    rw [this]
    exact List.take_of_length_le (by simp)
theorem zipD_len (xs ys : List D) : (zipD xs ys).length ≤ xs.length := by unfold zipD; rw [List.length_zipWith]; omega
theorem all_const {α : Type} (l : List α) : (l.map fun _ => true).all id = true := by simp
def s_is_ascending : FS := fun _ ds Q => ∃ ts, ds = [tiesD ts] ∧ ts.length ≤ 1000 ∧ ts.Pairwise tLt ∧ Q (.fz (.bl true))
theorem p_is_ascending : Keeps P_is_ascending N_is_ascending s_is_ascending w_is_ascending := fun G ds Qd h => by
  obtain ⟨ts, rfl, hl, hp, q⟩ := h
  refine ⟨rfl, .fz (tiesD ts), rfl, .fz (tiesD ts), rfl, 1, rfl, .inr ⟨ts.map pD, rfl, tiesD ts, .tup (DL.cutD (ts.map pD) (some 1) none), ts.map pD, _, rfl, .inl ⟨rfl, rfl⟩, ?_⟩⟩
  rw [cut_1]
  refine wcL_fm (fun _ => true) (fun _ => .bl true) _ [] _ (fun d hm G' _ Qy Qn hy _ => ?_) (by
    have h1 := zipD_len (ts.map pD) ((ts.map pD).drop 1)
    rw [List.length_map] at h1
    rw [List.length_nil]; have := le_size hl; omega) ?_
  · obtain ⟨t, u, rfl, hlt⟩ := zip_next ts hp d hm
    refine ⟨_, rfl, rfl, _, _, rfl, ⟨by show 1 < 3; decide, _, _, rfl, ⟨by show 2 < 3; decide, rfl, ?_⟩⟩⟩
    refine ⟨.fz (pD t), rfl, .fz (pD u), rfl, [t.1, t.2], [u.1, u.2], rfl, rfl, ?_⟩
    rw [lex_of hlt]
    exact hy rfl
  · rw [filter_all, List.nil_append]
    refine ⟨(zipD (ts.map pD) ((ts.map pD).drop 1)).map fun _ => true, by rw [List.map_map]; rfl, ?_⟩
    rw [all_const]
    exact q
/-- right ties of h hands -/
structure Ties (h : Int) (ts : List (Int × Int)) : Prop where
  few : ts.length ≤ 1000
  asc : ts.Pairwise tLt
  mem : ∀ t ∈ ts, 0 ≤ t.1 ∧ t.1 < h ∧ 0 ≤ t.2 ∧ t.2 < h ∧ t.1 ≠ t.2
theorem okD_int (i : Int) : okD (.int i) = true := rfl
theorem okD_pD (t : Int × Int) : okD (pD t) = true := rfl
def s_is_meeting_value : FS := fun _ ds Q => ∃ (h : Int) (t : Int × Int), ds = [.int h, pD t] ∧ (0 ≤ t.1 ∧ t.1 < h ∧ 0 ≤ t.2 ∧ t.2 < h ∧ t.1 ≠ t.2) ∧ Q (.fz (.bl true))
theorem p_is_meeting_value : Keeps P_is_meeting_value N_is_meeting_value s_is_meeting_value (w_is_meeting_value s_are_between) := fun G ds Qd h => by
  obtain ⟨h, ⟨i, j⟩, rfl, ⟨h1, h2, h3, h4, h5⟩, q⟩ := h
  dsimp only at h1 h2 h3 h4 h5
  have eb : areBet 0 (h - 1) (pD (i, j)) = true := by
    simp [areBet, pD, isBet]; omega
  refine ⟨rfl, .fz (pD (i, j)), rfl, .fz (.int h), rfl, h, 1, rfl, rfl, pD (i, j), 0, h - 1, rfl, rfl, true, congrArg D.bl eb, ?_⟩
  refine ⟨.fz (pD (i, j)), rfl, _, rfl, .inl ⟨_, rfl, ?_⟩⟩
  dsimp only [wC]
  refine oEq_int ⟨true, rfl, ?_⟩
  refine ⟨.fz (pD (i, j)), rfl, 0, rfl, .inl ⟨_, .int i, rfl, atI_0, .fz (pD (i, j)), rfl, 1, rfl, .inl ⟨_, .int j, rfl, atI_1, ?_⟩⟩⟩
  show oNe (.int i) (.int j) _
  refine oNe_int ?_
  rw [decide_eq_false h5]
  exact q
def s_are_meetings : FS := fun _ ds Q => ∃ (h : Int) (ts : List (Int × Int)), ds = [.int h, tiesD ts] ∧ Ties h ts ∧ Q (.fz (.bl true))
theorem p_are_meetings : Keeps P_are_meetings N_are_meetings s_are_meetings (w_are_meetings s_is_meeting_value) := fun G ds Qd h => by
  obtain ⟨h, ts, rfl, ht, q⟩ := h
  refine ⟨rfl, .fz (tiesD ts), rfl, (fun a z => by cases z), true, rfl, .fz (tiesD ts), rfl, ts.map pD, rfl, ?_⟩
  refine wcL_fm (fun _ => true) (fun _ => .bl true) _ [] _ (fun d hm G' _ Qy Qn hy _ => ?_) (by rw [List.length_nil, List.length_map]; have := le_size ht.few; omega) ?_
  · obtain ⟨t, hmt, rfl⟩ := List.mem_map.mp hm
    exact ⟨by show 2 < 3; decide, .fz (.int h), rfl, .fz (pD t), rfl, h, t, rfl, ht.mem t hmt, hy rfl⟩
  · rw [filter_all, List.nil_append]
    refine ⟨(ts.map pD).map fun _ => true, by rw [List.map_map (f := fun _ => true)]; rfl, ?_⟩
    rw [all_const]
    exact q
def s_are_ties_value : FS := s_are_meetings
theorem p_are_ties_value : Keeps P_are_ties_value N_are_ties_value s_are_ties_value (w_are_ties_value s_are_meetings s_is_ascending) := fun G ds Qd h => by
  obtain ⟨h, ts, rfl, ht, q⟩ := h
  exact ⟨rfl, .fz (.int h), rfl, .fz (tiesD ts), rfl, h, ts, rfl, ht, true, rfl, .fz (tiesD ts), rfl, ts, rfl, ht.few, ht.asc, q⟩
def s_need_hands : FS := fun _ ds Q => ∃ h : Int, ds = [.int h] ∧ 1 ≤ h ∧ h ≤ 6 ∧ Q (.fz .non)
theorem p_need_hands : Keeps P_need_hands N_need_hands s_need_hands (w_need_hands s_is_between) := fun G ds Qd h => by
  obtain ⟨h, rfl, h1, h2, q⟩ := h
  refine ⟨rfl, .fz (.int h), rfl, .int h, 1, 6, rfl, rfl, true, ?_, q⟩
  show D.bl (decide (1 ≤ h) && decide (h ≤ 6)) = _
  rw [decide_eq_true h1, decide_eq_true h2]
  rfl
def s_need_ties : FS := fun _ ds Q => ∃ (h : Int) (ts : List (Int × Int)), ds = [.int h, tiesD ts] ∧ Ties h ts ∧ Q (.fz .non)
theorem p_need_ties : Keeps P_need_ties N_need_ties s_need_ties (w_need_ties s_are_ties_value) := fun G ds Qd h => by
  obtain ⟨h, ts, rfl, ht, q⟩ := h
  exact ⟨rfl, .fz (.int h), rfl, .fz (tiesD ts), rfl, h, ts, rfl, ht, true, rfl, q⟩
def s_need_hands_and_ties : FS := fun _ ds Q => ∃ (h : Int) (ts : List (Int × Int)), ds = [.int h, tiesD ts] ∧ 1 ≤ h ∧ h ≤ 6 ∧ Ties h ts ∧ Q (.fz .non)
theorem p_need_hands_and_ties : Keeps P_need_hands_and_ties N_need_hands_and_ties s_need_hands_and_ties (w_need_hands_and_ties s_need_hands s_need_ties) := fun G ds Qd h => by
  obtain ⟨h, ts, rfl, h1, h2, ht, q⟩ := h
  exact ⟨rfl, .fz (.int h), rfl, h, rfl, h1, h2, .fz (.int h), rfl, .fz (tiesD ts), rfl, h, ts, rfl, ht, q⟩
end K72
set_option maxHeartbeats 4000000
namespace K72
open PySem PySem.Spec PyProof.Rows L2 DL

theorem put_imm {ρ : En} {i : Nat} {sv : SV} (h : immS sv = true) : put ρ i sv = ρ.set i (some sv) := by unfold DL.put; rw [h]
theorem put2_imm {ρ : En} {i j : Nat} {sv sw : SV} (h : immS sv = true) (h2 : immS sw = true) : put2 ρ i sv j sw = (ρ.set i (some sv)).set j (some sw) := by unfold DL.put2; rw [h, h2]; rfl
theorem imm_ints (ns : List Int) : immS (.ow (ns.map D.int)) = true := immL_ints ns
/-- whoever is left, one of them has no tie from another one -/
def Acyc (ts : List (Int × Int)) : Prop := ∀ rest : List Int, rest ≠ [] → ∃ x ∈ rest, ∀ t ∈ ts, t.2 = x → t.1 ∉ rest
def heldBy (ts : List (Int × Int)) (rest : List Int) (x : Int) : Bool := ts.any fun t => decide (t.2 = x) && decide (t.1 ∈ rest)
def freeOf (ts : List (Int × Int)) (rest : List Int) : List Int := rest.filter fun x => !heldBy ts rest x
def rg (h : Int) : List Int := (List.range h.toNat).map fun i : Nat => ((i : Nat) : Int)
theorem rangeD_rg (h : Int) : rangeD 0 h.toNat = (rg h).map D.int := by
  unfold rangeD rg
  rw [List.map_map]
  congr 1
  funext i
  show D.int (0 + (i : Int)) = D.int (i : Int)
  rw [Int.zero_add]
theorem freeOf_ne {ts : List (Int × Int)} (ha : Acyc ts) {rest : List Int} (h : rest ≠ []) : freeOf ts rest ≠ [] := fun e => by
  obtain ⟨x, hx, hf⟩ := ha rest h
  have : x ∈ freeOf ts rest := by
    refine List.mem_filter.mpr ⟨hx, ?_⟩
    rw [Bool.not_eq_true']
    cases hb : heldBy ts rest x with
    | false => rfl
    | true =>
      obtain ⟨t, ht, hb⟩ := List.any_eq_true.mp hb
      obtain ⟨h1, h2⟩ := Bool.and_eq_true_iff.mp hb
      exact absurd (of_decide_eq_true h2) (hf t ht (of_decide_eq_true h1))
  rw [e] at this
  cases this
def s_order_or_rest : FS := fun _ ds Q => ∃ (h : Int) (ts : List (Int × Int)), ds = [.int h, tiesD ts] ∧ 1 ≤ h ∧ h ≤ 6 ∧ Ties h ts ∧ Acyc ts ∧ ∀ order : List Int, order.length ≤ 6 → Q (.fz (.tup [.lst (order.map .int), .lst []]))
/-- the inner test: j == hand and i in rest -/
def heldF (rest : List Int) (x : Int) : D → Bool
  | .tup [.int i, .int j] => decide (j = x) && decide (i ∈ rest)
  | _ => false
theorem heldF_all (ts : List (Int × Int)) (rest : List Int) (x : Int) : ((ts.map pD).map (heldF rest x)).any id = heldBy ts rest x := by
  unfold heldBy
  rw [List.map_map, List.any_map]
  rfl
def freeP (ts : List (Int × Int)) (rest : List Int) : D → Bool
  | .int x => !heldBy ts rest x
  | _ => false
theorem freeP_all (ts : List (Int × Int)) (rest : List Int) : (((rest.map D.int).filter (freeP ts rest)).map fun d => d) = (freeOf ts rest).map D.int := by
  rw [List.map_id', List.filter_map]
  rfl
theorem p_order_or_rest : Keeps P_order_or_rest N_order_or_rest s_order_or_rest w_order_or_rest := fun G ds Qd hh => by
  obtain ⟨h, ts, rfl, h1, h6, ht, ha, q⟩ := hh
  refine ⟨rfl, by show 2 < 8; decide, by show 3 < 8; decide, by decide, fun G' hG => ⟨.fz (.int h), rfl, h, rfl, by omega, by omega, ?_⟩⟩
  rw [rangeD_rg]
  have hlen : (rg h).length ≤ 6 := by unfold rg; rw [List.length_map, List.length_range]; omega
  have loop : ∀ (n : Nat) (rest order : List Int) (y : Option SV), rest.length = n → n + order.length ≤ 6 → wWhile (wtV (wC (.bl true))) (wSeq (wSet 4 (wComp (wiSeq (wVar 3)) (wgName 5) (wtNot (wtV (wFz (woCB oAny (waCons (wFz (wComp (wiSeq (wVar 1)) (wgTup 2 (wgCons (wgName 6) (wgCons (wgName 7) (wgNil)))) (wtTrue) (wAnd (wOp oEq (wVar 7) (wVar 5)) (wOp oIn (wVar 6) (wVar 3))) [6, 7])) (waNil)))))) (wVar 5) [5])) (wSeq (wIfS (wtV (wOp oEq (wVar 4) (wFz (woLst (waNil))))) (wRet (woFz (wTup (waCons (wVar 2) (waCons (wVar 3) (waNil)))))) (wNext)) (wSeq (wApp 2 (wvO (woFz (wOp oIx (wVar 4) (wC (.int 0)))))) (wRemove 3 (wOp oIx (wVar 4) (wC (.int 0)))))))
      G { nx := fun _ => Qd (.fz .non), rt := Qd } [some (.fz (.int h)), some (.fz (tiesD ts)), some (.ow (order.map .int)), some (.ow (rest.map .int)), y, none, none, none] := fun n => by
    induction n with
    | zero =>
      intro rest order y hr ho
      have e : rest = [] := List.length_eq_zero_iff.mp hr
      subst e
      refine ⟨1, true, rfl, by show 4 < 8; decide, .ow [], rfl, [], rfl, ?_⟩
      exact ⟨.ow [], rfl, by decide, oEq_lstI (a := []) (b := []) ⟨true, rfl, .ow (order.map .int), rfl, .ow [], rfl, by show 2 ≤ sizeLine; decide, q order (by omega)⟩⟩
    | succ n ih =>
      intro rest order y hr ho
      have hne : rest ≠ [] := fun e => by rw [e] at hr; cases hr
      have hfn := freeOf_ne ha hne
      have hl3 : rest.length ≤ 6 := by omega
      -- the free ones
      have hcomp : ∀ (Qf : List D → Prop), Qf ((freeOf ts rest).map D.int) → wcL (wgName 5) (wtNot (wtV (wFz (woCB oAny (waCons (wFz (wComp (wiSeq (wVar 1)) (wgTup 2 (wgCons (wgName 6) (wgCons (wgName 7) (wgNil)))) (wtTrue) (wAnd (wOp oEq (wVar 7) (wVar 5)) (wOp oIn (wVar 6) (wVar 3))) [6, 7])) (waNil)))))) (wVar 5) [5] G [some (.fz (.int h)), some (.fz (tiesD ts)), some (.ow (order.map .int)), some (.ow (rest.map .int)), y, none, none, none] (rest.map D.int) [] Qf := fun Qf qf => by
        refine wcL_fm (freeP ts rest) (fun d => d) _ [] Qf (fun d hm G' _ Qy Qn hy hn => ?_) (by rw [List.length_nil, List.length_map, sizeLine_eq]; omega) (by rw [List.nil_append, freeP_all]; exact qf)
        obtain ⟨x, hx, rfl⟩ := List.mem_map.mp hm
        refine ⟨by show 5 < 8; decide, .fz (tiesD ts), rfl, ts.map pD, rfl, ?_⟩
        refine wcL_fm (fun _ => true) (fun d => .bl (heldF rest x d)) _ [] _ (fun d hm G' _ Qy Qn hy _ => ?_) (by rw [List.length_nil, List.length_map]; have := le_size ht.few; omega) ?_
        · obtain ⟨⟨i, j⟩, _, rfl⟩ := List.mem_map.mp hm
          refine ⟨_, rfl, rfl, _, _, rfl, ⟨by show 6 < 8; decide, _, _, rfl, ⟨by show 7 < 8; decide, rfl, ?_⟩⟩⟩
          refine ⟨.fz (.int j), rfl, .fz (.int x), rfl, oEq_int ⟨decide (j = x), rfl, ?_⟩⟩
          cases hjx : decide (j = x) with
          | false =>
            have := hy rfl
            change Qy (.bl (decide (j = x) && decide (i ∈ rest))) at this
            rw [hjx] at this
            exact this
          | true =>
            have := hy rfl
            change Qy (.bl (decide (j = x) && decide (i ∈ rest))) at this
            rw [hjx] at this
            exact ⟨.fz (.int i), rfl, .ow (rest.map .int), rfl, oIn_lstI this⟩
        · rw [filter_all, List.nil_append]
          refine ⟨(ts.map pD).map (heldF rest x), by rw [List.map_map (f := heldF rest x)]; rfl, ?_⟩
          rw [heldF_all]
          refine ⟨heldBy ts rest x, rfl, ?_⟩
          cases hb : heldBy ts rest x with
          | false => exact ⟨.fz (.int x), rfl, hy (by show (!heldBy ts rest x) = true; rw [hb]; rfl)⟩
          | true => exact hn (by show (!heldBy ts rest x) = false; rw [hb]; rfl)
      cases hfr : freeOf ts rest with
      | nil => exact absurd hfr hfn
      | cons x fr =>
        have hxm : x ∈ rest := (List.mem_filter.mp (show x ∈ freeOf ts rest by rw [hfr]; exact List.mem_cons_self)).1
        obtain ⟨m, hm⟩ := ih (rest.erase x) (order ++ [x]) (some (.ow ((x :: fr).map D.int))) (by rw [List.length_erase_of_mem hxm, hr]; rfl) (by rw [List.length_append, List.length_singleton]; omega)
        refine ⟨m + 1, true, rfl, by show 4 < 8; decide, .ow (rest.map .int), rfl, rest.map .int, rfl, ?_⟩
        refine hcomp _ ?_
        rw [hfr]
        dsimp only
        rw [put_imm (imm_ints (x :: fr))]
        refine ⟨.ow ((x :: fr).map .int), rfl, by decide, oEq_lstI (a := x :: fr) (b := []) ⟨false, rfl, ?_⟩⟩
        refine ⟨⟨_, rfl⟩, .ow ((x :: fr).map .int), rfl, 0, rfl, .inl ⟨_, .int x, rfl, atI_0, order.map .int, rfl, by rw [List.length_map, sizeLine_eq]; omega, ?_⟩⟩
        refine ⟨⟨_, rfl⟩, .ow ((x :: fr).map .int), rfl, 0, rfl, .inl ⟨_, .int x, rfl, atI_0, x, rest, rfl, rfl, hxm, ?_⟩⟩
        rw [List.map_append] at hm
        exact hm
  have e := put2_imm (ρ := startD N_order_or_rest [D.int h, tiesD ts]) (i := 2) (j := 3) (imm_ints []) (imm_ints (rg h))
  have := loop (rg h).length (rg h) [] none rfl (by rw [List.length_nil]; omega)
  show wWhile _ _ G _ (put2 (startD N_order_or_rest [D.int h, tiesD ts]) 2 (.ow (([] : List Int).map D.int)) 3 (.ow ((rg h).map D.int)))
  rw [e]
  exact this
end K72
set_option maxHeartbeats 4000000
namespace K72
open PySem PySem.Spec PyProof.Rows L2 DL

def s_raw_round : FS := fun _ ds Q => ∃ (h : Int) (ts : List (Int × Int)), ds = [.int h, tiesD ts] ∧ 1 ≤ h ∧ h ≤ 6 ∧ Ties h ts ∧ Acyc ts ∧ ∀ order : List Int, Q (.fz (.tup [.str "order", .tup (order.map .int)]))
theorem p_raw_round (s_ring_among : FS) : Keeps P_raw_round N_raw_round s_raw_round (w_raw_round s_order_or_rest s_ring_among) := fun G ds Qd hh => by
  obtain ⟨h, ts, rfl, h1, h6, ht, ha, q⟩ := hh
  refine ⟨rfl, .fz (.int h), rfl, .fz (tiesD ts), rfl, h, ts, rfl, h1, h6, ht, ha, fun order _ => ?_⟩
  refine ⟨_, rfl, rfl, _, _, rfl, ⟨by show 2 < 4; decide, _, _, rfl, ⟨by show 3 < 4; decide, rfl, ?_⟩⟩⟩
  refine ⟨.fz (.lst []), rfl, by decide, oEq_lstI (a := []) (b := []) ⟨true, rfl, ?_⟩⟩
  exact ⟨.fz (.lst (order.map .int)), rfl, _, _, rfl, rfl, by show 2 ≤ sizeLine; decide, q order⟩
def s_need_no_ring : FS := fun _ ds Q => ∃ (h : Int) (ts : List (Int × Int)), ds = [.int h, tiesD ts] ∧ 1 ≤ h ∧ h ≤ 6 ∧ Ties h ts ∧ Acyc ts ∧ ∀ order : List Int, Q (.fz (.tup (order.map .int)))
theorem p_need_no_ring : Keeps P_need_no_ring N_need_no_ring s_need_no_ring (w_need_no_ring s_raw_round) := fun G ds Qd hh => by
  obtain ⟨h, ts, rfl, h1, h6, ht, ha, q⟩ := hh
  refine ⟨rfl, by show 2 < 3; decide, .fz (.int h), rfl, .fz (tiesD ts), rfl, h, ts, rfl, h1, h6, ht, ha, fun order => ?_⟩
  have hi : immS (.fz (.tup [.str "order", .tup (order.map D.int)])) = true := by
    show (true && (imm (.tup (order.map D.int)) && true)) = true
    rw [show imm (.tup (order.map D.int)) = true from immL_ints order]
    rfl
  dsimp only
  rw [put_imm hi]
  refine ⟨.fz (.tup [.str "order", .tup (order.map .int)]), rfl, 0, rfl, .inl ⟨_, .str "order", rfl, atI_0, ?_⟩⟩
  dsimp only [wC]
  refine oEq_str (by decide +kernel) (by decide +kernel) ⟨false, ?_, ?_⟩
  · rw [show (("order" : Str) == ("ring" : Str)) = false by decide +kernel]
  · exact ⟨.fz (.tup [.str "order", .tup (order.map .int)]), rfl, 1, rfl, .inl ⟨_, .tup (order.map .int), rfl, atI_1, q order⟩⟩
def intOf : D → Int
  | .int i => i
  | _ => 0
def isOrder (h : Int) : D → Bool
  | .tup xs => xs.all (isBet 0 (h - 1)) && decide ((xs.map intOf).Perm (rg h))
  | _ => false
theorem ints_of_bet {lo hi : Int} : ∀ {xs : List D}, xs.all (isBet lo hi) = true → xs = (xs.map intOf).map D.int
  | [], _ => rfl
  | x :: xs, h => by
    rw [List.all_cons] at h
    obtain ⟨h1, h2⟩ := Bool.and_eq_true_iff.mp h
    rw [List.map_cons, List.map_cons, ← ints_of_bet h2]
    cases x with
    | int i => rfl
    | _ => cases h1
theorem rg_asc (h : Int) : (rg h).Pairwise (· ≤ ·) := by
  unfold rg
  rw [List.pairwise_map]
  exact (List.pairwise_lt_range).imp fun h => by omega
theorem sorted_perm {a b : List Int} (ha : a.Pairwise (· ≤ ·)) (hb : b.Pairwise (· ≤ ·)) (p : a.Perm b) : a = b := p.eq_of_pairwise (fun x y _ _ h1 h2 => Int.le_antisymm h1 h2) ha hb
def s_is_order_value : FS := fun _ ds Q => ∃ (h : Int) (d : D), ds = [.int h, d] ∧ 1 ≤ h ∧ h ≤ 6 ∧ okD d = true ∧ Q (.fz (.bl (isOrder h d)))
theorem p_is_order_value : Keeps P_is_order_value N_is_order_value s_is_order_value (w_is_order_value s_are_between) := fun G ds Qd hh => by
  obtain ⟨h, d, rfl, h1, h6, hd, q⟩ := hh
  refine ⟨rfl, .fz d, rfl, .fz (.int h), rfl, h, 1, rfl, rfl, d, 0, h - 1, rfl, hd, areBet 0 (h - 1) d, rfl, ?_⟩
  cases d with
  | tup xs =>
    change Qd (.fz (.bl (xs.all (isBet 0 (h - 1)) && decide ((xs.map intOf).Perm (rg h))))) at q
    show if xs.all (isBet 0 (h - 1)) = true then _ else _
    cases hb : xs.all (isBet 0 (h - 1)) with
    | false => rw [hb] at q; exact q
    | true =>
      rw [hb] at q
      have ex := ints_of_bet hb
      refine ⟨.fz (.tup xs), rfl, ?_⟩
      dsimp only [waNil]
      refine oSorted_ints (x := .tup xs) (ns := xs.map intOf) (congrArg some ex) fun ms hp ha => ?_
      refine ⟨.fz (.int h), rfl, h, rfl, by omega, by omega, ?_⟩
      rw [rangeD_rg]
      refine oEq_lstI ?_
      have e : decide (ms = rg h) = decide ((xs.map intOf).Perm (rg h)) := by
        by_cases c : (xs.map intOf).Perm (rg h)
        · rw [decide_eq_true c, decide_eq_true (sorted_perm ha (rg_asc h) (hp.trans c))]
        · rw [decide_eq_false c, decide_eq_false (fun z : ms = rg h => c (by rw [← z]; exact hp.symm))]
      rw [e]
      exact q
  | _ => exact q
/-! ### reached_from -/
inductive Rch (ts : List (Int × Int)) : Int → Int → Prop
  | refl (a : Int) : Rch ts a a
  | step {a b c : Int} : Rch ts a b → (b, c) ∈ ts → Rch ts a c
theorem asc_len : ∀ (l : List Int) (lo hi : Int), l.Pairwise (· < ·) → (∀ x ∈ l, lo ≤ x ∧ x < hi) → (l.length : Int) ≤ max 0 (hi - lo)
  | [], lo, hi, _, _ => by simp; omega
  | x :: l, lo, hi, hp, hb => by
    obtain ⟨h1, h2⟩ := List.pairwise_cons.mp hp
    have hx := hb x List.mem_cons_self
    have := asc_len l (x + 1) hi h2 fun y hy => ⟨by have := h1 y hy; omega, (hb y (List.mem_cons_of_mem _ hy)).2⟩
    rw [List.length_cons]
    omega
theorem Ties.len {h : Int} {ts : List (Int × Int)} (t : Ties h ts) (h6 : h ≤ 6) : ts.length ≤ 36 := by
  have := asc_len (ts.map fun t => 6 * t.1 + t.2) 0 36 (by
    rw [List.pairwise_map]
    refine t.asc.imp_of_mem fun {a b} ha hb hl => ?_
    have h1 := t.mem a ha
    have h2 := t.mem b hb
    rcases hl with hl | ⟨hl, hl2⟩ <;> omega) (fun x hx => by
    obtain ⟨a, ha, rfl⟩ := List.mem_map.mp hx
    have := t.mem a ha
    omega)
  rw [List.length_map] at this
  omega
theorem mem_rg {h x : Int} : x ∈ rg h ↔ 0 ≤ x ∧ x < h := by
  unfold rg
  rw [List.mem_map]
  constructor
  · rintro ⟨n, hn, rfl⟩
    have := List.mem_range.mp hn
    omega
  · rintro ⟨h1, h2⟩
    exact ⟨x.toNat, List.mem_range.mpr (by omega), by omega⟩
def newP (layer found : List Int) : D → Bool
  | .tup [.int i, .int j] => decide (i ∈ layer) && !decide (j ∈ found)
  | _ => false
def sndD : D → D
  | .tup [_, j] => j
  | _ => .non
def newOf (ts : List (Int × Int)) (layer found : List Int) : List Int := (ts.filter fun t => decide (t.1 ∈ layer) && !decide (t.2 ∈ found)).map (·.2)
theorem newP_all (ts : List (Int × Int)) (layer found : List Int) : ((ts.map pD).filter (newP layer found)).map sndD = (newOf ts layer found).map D.int := by
  unfold newOf
  rw [List.filter_map, List.map_map, List.map_map]
  rfl
def left (h : Int) (found : List Int) : List Int := (rg h).filter fun x => !decide (x ∈ found)
theorem filter_lt {α : Type} {p q : α → Bool} : ∀ {l : List α} {x : α}, (∀ a, p a = true → q a = true) → x ∈ l → q x = true → p x = false → (l.filter p).length < (l.filter q).length
  | [], _, _, h, _, _ => by cases h
  | y :: l, x, hpq, hx, hq, hp => by
    have le : ∀ l : List α, (l.filter p).length ≤ (l.filter q).length := fun l => by
      induction l with
      | nil => simp
      | cons z l ih =>
        rw [List.filter_cons, List.filter_cons]
        cases h1 : p z with
        | true => rw [hpq z h1]; simp; exact ih
        | false => cases h2 : q z <;> simp <;> omega
    rw [List.filter_cons, List.filter_cons]
    rcases List.mem_cons.mp hx with rfl | hx
    · rw [hq, hp]
      have := le l
      simp; omega
    · have := filter_lt (l := l) hpq hx hq hp
      cases h1 : p y with
      | true => rw [hpq y h1]; simp; exact this
      | false => cases h2 : q y <;> simp <;> omega
structure RInv (ts : List (Int × Int)) (i : Int) (found layer : List Int) : Prop where
  st : i ∈ found
  sound : ∀ x ∈ found, Rch ts i x
  sub : ∀ x ∈ layer, x ∈ found
  clo : ∀ t ∈ ts, t.1 ∈ found → t.1 ∉ layer → t.2 ∈ found
theorem mem_newOf {ts : List (Int × Int)} {layer found : List Int} {x : Int} : x ∈ newOf ts layer found ↔ ∃ a, (a, x) ∈ ts ∧ a ∈ layer ∧ x ∉ found := by
  unfold newOf
  rw [List.mem_map]
  constructor
  · rintro ⟨t, ht, rfl⟩
    obtain ⟨h1, h2⟩ := List.mem_filter.mp ht
    obtain ⟨h3, h4⟩ := Bool.and_eq_true_iff.mp h2
    exact ⟨t.1, h1, of_decide_eq_true h3, of_decide_eq_false (by rw [← Bool.not_eq_true']; exact h4)⟩
  · rintro ⟨a, h1, h2, h3⟩
    exact ⟨(a, x), List.mem_filter.mpr ⟨h1, by simp [h2, h3]⟩, rfl⟩
theorem RInv.next {ts : List (Int × Int)} {i : Int} {found layer new : List Int} (v : RInv ts i found layer) (hn : ∀ x, x ∈ new ↔ x ∈ newOf ts layer found) : RInv ts i (found ++ new) new where
  st := List.mem_append_left _ v.st
  sound := fun x hx => by
    rcases List.mem_append.mp hx with h | h
    · exact v.sound x h
    · obtain ⟨a, h1, h2, _⟩ := mem_newOf.mp ((hn x).mp h)
      exact .step (v.sound a (v.sub a h2)) h1
  sub := fun x hx => List.mem_append_right _ hx
  clo := fun t ht h1 h2 => by
    rcases List.mem_append.mp h1 with h | h
    · by_cases hl : t.1 ∈ layer
      · by_cases hf : t.2 ∈ found
        · exact List.mem_append_left _ hf
        · exact List.mem_append_right _ ((hn _).mpr (mem_newOf.mpr ⟨t.1, ht, hl, hf⟩))
      · exact List.mem_append_left _ (v.clo t ht h hl)
    · exact absurd h h2
theorem RInv.done {ts : List (Int × Int)} {i : Int} {found : List Int} (v : RInv ts i found []) (x : Int) : x ∈ found ↔ Rch ts i x := by
  refine ⟨v.sound x, fun r => ?_⟩
  induction r with
  | refl => exact v.st
  | step _ h ih => exact v.clo _ h ih (by simp)
def s_reached_from : FS := fun _ ds Q => ∃ (h i : Int) (ts : List (Int × Int)), ds = [.int i, tiesD ts] ∧ h ≤ 6 ∧ 0 ≤ i ∧ i < h ∧ Ties h ts ∧ ∀ found : List Int, (∀ x, x ∈ found ↔ Rch ts i x) → Q (.ow (found.map .int))
theorem p_reached_from : Keeps P_reached_from N_reached_from s_reached_from w_reached_from := fun G ds Qd hh => by
  obtain ⟨h, i, ts, rfl, h6, hi0, hi1, ht, q⟩ := hh
  have ht36 := ht.len h6
  refine ⟨rfl, by show 2 < 6; decide, by show 3 < 6; decide, .fz (.int i), rfl, by show 1 ≤ sizeLine; decide, fun G' hG => ⟨.fz (.int i), rfl, by show 1 ≤ sizeLine; decide, ?_⟩⟩
  let E0 : EndsD := { nx := fun ρ' => wRetV 2 G { nx := fun _ => Qd (.fz .non), rt := Qd } ρ', rt := Qd }
  let bd : WS := wSeq (wSet 3 (woSortSet (wFz (wComp (wiSeq (wVar 1)) (wgTup 2 (wgCons (wgName 4) (wgCons (wgName 5) (wgNil)))) (wtAnd (wtV (wOp oIn (wVar 4) (wVar 3))) (wtV (wOp oNotIn (wVar 5) (wVar 2)))) (wVar 5) [4, 5])))) (wExt 2 (wvVar 3))
  let tt : WT := wtV (wOp oNe (wVar 3) (wFz (woLst (waNil))))
  -- what the last layer left behind; it may be owned or given away
  have stop : ∀ (k : Nat) (found : List Int) (sv : SV), sv = .ow [] ∨ sv = .fz (.lst []) → RInv ts i found [] → wWhileN tt bd G E0 (k + 1) [some (.fz (.int i)), some (.fz (tiesD ts)), some (.ow (found.map .int)), some sv, none, none] := fun k found sv hsv v => by
    rcases hsv with rfl | rfl
    · exact ⟨.ow [], rfl, by show 0 ≤ sizeLine; decide, oNe_lstI (a := []) (b := []) ⟨false, rfl, .ow (found.map .int), rfl, q found v.done⟩⟩
    · exact ⟨.fz (.lst []), rfl, by show 0 ≤ sizeLine; decide, oNe_lstI (a := []) (b := []) ⟨false, rfl, .ow (found.map .int), rfl, q found v.done⟩⟩
  have comp : ∀ (found layer : List Int) (sv : SV), sv = .ow (layer.map .int) ∨ sv = .fz (.lst (layer.map .int)) → ∀ Qf : List D → Prop, Qf ((newOf ts layer found).map D.int) → wcL (wgTup 2 (wgCons (wgName 4) (wgCons (wgName 5) (wgNil)))) (wtAnd (wtV (wOp oIn (wVar 4) (wVar 3))) (wtV (wOp oNotIn (wVar 5) (wVar 2)))) (wVar 5) [4, 5] G [some (.fz (.int i)), some (.fz (tiesD ts)), some (.ow (found.map .int)), some sv, none, none] (ts.map pD) [] Qf := fun found layer sv hsv Qf qf => by
    refine wcL_fm (newP layer found) sndD _ [] Qf (fun d hm G' _ Qy Qn hy hn => ?_) (by rw [List.length_nil, List.length_map]; have := le_size ht.few; omega) (by rw [List.nil_append, newP_all]; exact qf)
    obtain ⟨⟨a, b⟩, _, rfl⟩ := List.mem_map.mp hm
    change (decide (a ∈ layer) && !decide (b ∈ found)) = true → Qy (.int b) at hy
    change (decide (a ∈ layer) && !decide (b ∈ found)) = false → Qn at hn
    refine ⟨_, rfl, rfl, _, _, rfl, ⟨by show 4 < 6; decide, _, _, rfl, ⟨by show 5 < 6; decide, rfl, ?_⟩⟩⟩
    refine ⟨.fz (.int a), rfl, ?_⟩
    have rest : ∃ k, D.bl (decide (a ∈ layer)) = .bl k ∧ if k = true then wtV (wOp oNotIn (wVar 5) (wVar 2)) G' [some (.fz (.int i)), some (.fz (tiesD ts)), some (.ow (found.map .int)), some sv, some (.fz (.int a)), some (.fz (.int b))] (fun b' => if b' = true then wVar 5 G' [some (.fz (.int i)), some (.fz (tiesD ts)), some (.ow (found.map .int)), some sv, some (.fz (.int a)), some (.fz (.int b))] Qy else Qn) else Qn := by
      refine ⟨decide (a ∈ layer), rfl, ?_⟩
      cases h1 : decide (a ∈ layer) with
      | false => rw [h1] at hn; exact hn rfl
      | true =>
        rw [h1] at hy hn
        refine ⟨.fz (.int b), rfl, .ow (found.map .int), rfl, oNotIn_lstI ⟨!decide (b ∈ found), rfl, ?_⟩⟩
        cases h2 : !decide (b ∈ found) with
        | false => rw [h2] at hn; exact hn rfl
        | true => rw [h2] at hy; exact ⟨.fz (.int b), rfl, hy rfl⟩
    rcases hsv with rfl | rfl
    · exact ⟨.ow (layer.map .int), rfl, oIn_lstI rest⟩
    · exact ⟨.fz (.lst (layer.map .int)), rfl, oIn_lstI rest⟩
  have loop : ∀ (n : Nat) (found layer : List Int) (sv : SV), sv = .ow (layer.map .int) ∨ sv = .fz (.lst (layer.map .int)) → (left h found).length ≤ n → found.length + 6 * n ≤ 100 → RInv ts i found layer → wWhileN tt bd G E0 (n + 2) [some (.fz (.int i)), some (.fz (tiesD ts)), some (.ow (found.map .int)), some sv, none, none] := fun n => by
    have grow : ∀ (found layer : List Int), (∀ x ∈ newOf ts layer found, x ∈ rg h ∧ x ∉ found) := fun found layer x hx => by
      obtain ⟨a, h1, _, h3⟩ := mem_newOf.mp hx
      have := ht.mem _ h1
      exact ⟨mem_rg.mpr ⟨this.2.2.1, this.2.2.2.1⟩, h3⟩
    have step : ∀ (k : Nat) (found layer : List Int) (sv : SV), sv = .ow (layer.map .int) ∨ sv = .fz (.lst (layer.map .int)) → layer ≠ [] → found.length ≤ 100 →
        (∀ ms : List Int, (∀ x, x ∈ ms ↔ x ∈ newOf ts layer found) → ms.length ≤ 6 → wWhileN tt bd G E0 k [some (.fz (.int i)), some (.fz (tiesD ts)), some (.ow ((found ++ ms).map .int)), some (.fz (.lst (ms.map .int))), none, none]) →
        wWhileN tt bd G E0 (k + 1) [some (.fz (.int i)), some (.fz (tiesD ts)), some (.ow (found.map .int)), some sv, none, none] := fun k found layer sv hsv hne hlen next => by
      have body : bd G { nx := wWhileN tt bd G E0 k, rt := E0.rt, bk := E0.nx, ct := wWhileN tt bd G E0 k } [some (.fz (.int i)), some (.fz (tiesD ts)), some (.ow (found.map .int)), some sv, none, none] := by
        refine ⟨by show 3 < 6; decide, .fz (tiesD ts), rfl, ts.map pD, rfl, comp found layer sv hsv _ ⟨newOf ts layer found, rfl, ?_, fun ms hp hm => ?_⟩⟩
        · unfold newOf
          rw [List.length_map]
          exact Nat.lt_of_le_of_lt (List.length_filter_le _ _) (by omega)
        · have hms : ms.length ≤ 6 := by
            have := asc_len ms 0 h hp fun x hx => mem_rg.mp (grow found layer x ((hm x).mp hx)).1
            omega
          dsimp only
          rw [put_imm (imm_ints ms)]
          refine ⟨⟨_, rfl⟩, .ow (ms.map .int), rfl, found.map .int, ms.map .int, rfl, rfl, by rw [List.length_map, List.length_map, sizeLine_eq]; omega, ?_⟩
          have := next ms hm hms
          rw [List.map_append] at this
          exact this
      have hl : (!decide (layer = [])) = true := by rw [decide_eq_false hne]; rfl
      rcases hsv with rfl | rfl
      · exact ⟨.ow (layer.map .int), rfl, by show 0 ≤ sizeLine; decide, oNe_lstI (a := layer) (b := []) ⟨true, congrArg D.bl hl, body⟩⟩
      · exact ⟨.fz (.lst (layer.map .int)), rfl, by show 0 ≤ sizeLine; decide, oNe_lstI (a := layer) (b := []) ⟨true, congrArg D.bl hl, body⟩⟩
    induction n with
    | zero =>
      intro found layer sv hsv hl hb v
      by_cases hne : layer = []
      · subst hne
        exact stop 1 found sv hsv v
      · refine step 1 found layer sv hsv hne (by omega) fun ms hm _ => ?_
        have e : ms = [] := by
          cases ms with
          | nil => rfl
          | cons x r =>
            obtain ⟨h1, h2⟩ := grow found layer x ((hm x).mp List.mem_cons_self)
            have : x ∈ left h found := List.mem_filter.mpr ⟨h1, by simp [h2]⟩
            have := List.length_pos_of_mem this
            omega
        have vn := v.next hm
        subst e
        exact stop 0 _ _ (.inr rfl) vn
    | succ n ih =>
      intro found layer sv hsv hl hb v
      by_cases hne : layer = []
      · subst hne
        exact stop (n + 2) found sv hsv v
      · refine step (n + 2) found layer sv hsv hne (by omega) fun ms hm h6' => ?_
        have vn := v.next hm
        cases ms with
        | nil => exact stop (n + 1) _ _ (.inr rfl) vn
        | cons x r =>
          refine ih _ _ _ (.inr rfl) ?_ (by rw [List.length_append]; omega) vn
          obtain ⟨h1, h2⟩ := grow found layer x ((hm x).mp List.mem_cons_self)
          have := filter_lt (l := rg h) (p := fun y => !decide (y ∈ found ++ x :: r)) (q := fun y => !decide (y ∈ found)) (x := x) (fun y hy => by
            simp only [Bool.not_eq_true', decide_eq_false_iff_not, List.mem_append, not_or] at hy ⊢
            exact hy.1) h1 (by simp [h2]) (by simp)
          show (List.filter _ _).length ≤ n
          have hl : (List.filter (fun y => !decide (y ∈ found)) (rg h)).length ≤ n + 1 := hl
          omega
  have e := put2_imm (ρ := startD N_reached_from [D.int i, tiesD ts]) (i := 2) (j := 3) (imm_ints [i]) (imm_ints [i])
  show wWhile _ _ G _ (put2 (startD N_reached_from [D.int i, tiesD ts]) 2 (.ow ([i].map D.int)) 3 (.ow ([i].map D.int)))
  rw [e]
  refine ⟨9, loop 7 [i] [i] _ (.inl rfl) (by
    have : (rg h).length ≤ 6 := by unfold rg; rw [List.length_map, List.length_range]; omega
    have := List.length_filter_le (fun x => !decide (x ∈ [i])) (rg h)
    show (List.filter _ _).length ≤ 7
    omega) (by show 1 + 6 * 7 ≤ 100; decide) ⟨List.mem_cons_self, fun x hx => by rw [List.mem_singleton.mp hx]; exact .refl i, fun x hx => hx, fun t _ h1 h2 => absurd h1 h2⟩⟩
end K72
set_option maxHeartbeats 4000000
namespace K72
open PySem PySem.Spec PyProof.Rows L2 DL

/-- the second half of way_holds -/
def wh2 (s_is_word s_are_between s_reached_from : FS) : WS := wSeq (wIfS (wtOr (wtNot (wtV (wFz (woCall s_is_word (waCons (wVar 2) (waCons (wC (.str "two")) (waNil))))))) (wtOr (wtV (wOp oNe (wFz (woCB oLen (waCons (wVar 2) (waNil)))) (wC (.int 3)))) (wtNot (wtV (wFz (woCall s_are_between (waCons (wFz (woSl (wVar 2) (wpSome (wC (.int 1))) (wpNone))) (waCons (wC (.int 0)) (waCons (wOp (oI0 fun i j => i - j) (wVar 0) (wC (.int 1))) (waNil)))))))))) (wRet (woFz (wC (.bl false)))) (wNext)) (wSeq (wSetT (wgTup 2 (wgCons (wgName 3) (wgCons (wgName 4) (wgNil)))) (wvO (woSl (wVar 2) (wpSome (wC (.int 1))) (wpNone)))) (wRet (woFz (wAnd (wOp (oB0 fun i j => decide (i < j)) (wVar 3) (wVar 4)) (wAnd (wOp oNotIn (wVar 4) (wFz (woCall s_reached_from (waCons (wVar 3) (waCons (wVar 1) (waNil)))))) (wOp oNotIn (wVar 3) (wFz (woCall s_reached_from (waCons (wVar 4) (waCons (wVar 1) (waNil)))))))))))
def pairs (ns : List Int) : List (Int × Int) := ns.zip (ns.drop 1)
theorem zipD_pairs (ns : List Int) : zipD (ns.map D.int) ((ns.map D.int).drop 1) = (pairs ns).map pD := by
  unfold zipD pairs
  rw [← List.map_drop, List.zipWith_map, List.zip, List.map_zipWith]
  rfl
def IsWay (h : Int) (ts : List (Int × Int)) (d : D) : Prop :=
  (∃ ns : List Int, d = .tup [.str "way", .tup (ns.map .int)] ∧ ns.Perm (rg h) ∧ ∀ t ∈ pairs ns, t ∈ ts) ∨
  (∃ i j : Int, d = .tup [.str "two", .int i, .int j] ∧ 0 ≤ i ∧ i < j ∧ j < h ∧ ¬ Rch ts i j ∧ ¬ Rch ts j i)
def s_way_holds : FS := fun _ ds Q => ∃ (h : Int) (ts : List (Int × Int)) (d : D), ds = [.int h, tiesD ts, d] ∧ 1 ≤ h ∧ h ≤ 6 ∧ Ties h ts ∧ Acyc ts ∧ okD d = true ∧ ∀ b : Bool, (b = true ↔ IsWay h ts d) → Q (.fz (.bl b))
theorem okL_drop : ∀ {xs : List D} (n : Nat), okL xs = true → okL (xs.drop n) = true
  | xs, 0, h => h
  | [], _ + 1, _ => rfl
  | x :: xs, n + 1, h => by
    unfold okL at h
    exact okL_drop n (Bool.and_eq_true_iff.mp h).2
def inP (ts : List (Int × Int)) : D → Bool
  | .tup [.int a, .int b] => decide ((a, b) ∈ ts)
  | _ => false
theorem word_ne {z w : Str} (h : z ≠ w) : (z == w) = false := by
  cases e : z == w with
  | false => rfl
  | true => exact absurd (beq_iff_eq.mp e) h
theorem way_two : (("way" : Str) == ("two" : Str)) = false := by decide +kernel
theorem two_way : (("two" : Str) == ("way" : Str)) = false := by decide +kernel
theorem lay_way : PyData.canLay0 (.str "way") = true := by decide +kernel
theorem lay_two : PyData.canLay0 (.str "two") = true := by decide +kernel
section
variable {G : Gc} {Qd : SV → Prop} {h : Int} {ts : List (Int × Int)} {d : D}
abbrev whρ (h : Int) (ts : List (Int × Int)) (d : D) : En := [some (.fz (.int h)), some (.fz (tiesD ts)), some (.fz d), none, none, none]
/-- no certificate about two hands either -/
theorem wh2_no (hd : okD d = true) (hw : isWord "two" d = false) (q : Qd (.fz (.bl false))) : wh2 s_is_word s_are_between s_reached_from G { nx := fun _ => Qd (.fz .non), rt := Qd } (whρ h ts d) :=
  ⟨.fz d, rfl, d, "two", rfl, hd, lay_two, false, congrArg D.bl hw, q⟩
theorem wh2_yes (h6 : h ≤ 6) (ht : Ties h ts) {r : List D} (hd : okD (.tup (.str "two" :: r)) = true) (q : ∀ b : Bool, (b = true ↔ IsWay h ts (.tup (.str "two" :: r))) → Qd (.fz (.bl b))) : wh2 s_is_word s_are_between s_reached_from G { nx := fun _ => Qd (.fz .non), rt := Qd } (whρ h ts (.tup (.str "two" :: r))) := by
  obtain ⟨hl, hx⟩ := okD_tup hd
  have hr : okL r = true := okL_drop (xs := .str "two" :: r) 1 hx
  have no : ¬ IsWay h ts (.tup (.str "two" :: r)) → Qd (.fz (.bl false)) := fun n => q false ⟨(fun z => by cases z), fun z => absurd z n⟩
  refine ⟨.fz (.tup (.str "two" :: r)), rfl, _, "two", rfl, hd, lay_two, true, rfl, ?_⟩
  refine ⟨.fz (.tup (.str "two" :: r)), rfl, _, rfl, .inl ⟨_, rfl, ?_⟩⟩
  dsimp only [wC]
  refine oNe_int ⟨!decide (((.str "two" :: r : List D).length : Int) = 3), rfl, ?_⟩
  by_cases hl3 : r.length = 2
  · have e3 : (!decide (((.str "two" :: r : List D).length : Int) = 3)) = false := by simp [hl3]
    rw [e3]
    match r, hl3 with
    | [y1, y2], _ =>
      refine ⟨.fz (.tup [.str "two", y1, y2]), rfl, 1, rfl, .inr ⟨_, rfl, ?_⟩⟩
      have ec : DL.cutD [.str "two", y1, y2] (some 1) none = [y1, y2] := cut_1 _
      rw [ec]
      refine ⟨.fz (.int h), rfl, h, 1, rfl, rfl, .tup [y1, y2], 0, h - 1, rfl, by unfold okD; simp; exact hr, areBet 0 (h - 1) (.tup [y1, y2]), rfl, ?_⟩
      cases hb : areBet 0 (h - 1) (.tup [y1, y2]) with
      | false =>
        refine no fun z => ?_
        rcases z with ⟨ns, e, _⟩ | ⟨i, j, e, h1, h2, h3, _⟩
        · cases e
        · cases e
          simp [areBet, isBet] at hb
          omega
      | true =>
        have ey : [y1, y2] = [.int (intOf y1), .int (intOf y2)] := ints_of_bet (xs := [y1, y2]) hb
        have ey1 : y1 = .int (intOf y1) := (List.cons.inj ey).1
        have ey2 : y2 = .int (intOf y2) := (List.cons.inj (List.cons.inj ey).2).1
        generalize intOf y1 = i at ey1
        generalize intOf y2 = j at ey2
        subst ey1 ey2
        · have hbb : (0 ≤ i ∧ i ≤ h - 1) ∧ 0 ≤ j ∧ j ≤ h - 1 := by simpa [areBet, isBet] using hb
          refine ⟨.fz (.tup [.str "two", .int i, .int j]), rfl, 1, rfl, .inr ⟨_, rfl, ?_⟩⟩
          have ec : DL.cutD [.str "two", .int i, .int j] (some 1) none = [.int i, .int j] := cut_1 _
          rw [ec]
          refine ⟨_, rfl, rfl, _, _, rfl, ⟨by show 3 < 6; decide, _, _, rfl, ⟨by show 4 < 6; decide, rfl, ?_⟩⟩⟩
          refine ⟨.fz (.int i), rfl, .fz (.int j), rfl, i, j, rfl, rfl, decide (i < j), rfl, ?_⟩
          have iff : (i < j ∧ ¬ Rch ts i j ∧ ¬ Rch ts j i) ↔ IsWay h ts (.tup [.str "two", .int i, .int j]) := by
            constructor
            · rintro ⟨a, b, c⟩
              exact .inr ⟨i, j, rfl, hbb.1.1, a, by omega, b, c⟩
            · rintro (⟨ns, e, _⟩ | ⟨i', j', e, _, a, _, b, c⟩)
              · cases e
              · cases e; exact ⟨a, b, c⟩
          cases hij : decide (i < j) with
          | false => exact q false ⟨(fun z => by cases z), fun z => absurd (iff.mpr z).1 (of_decide_eq_false hij)⟩
          | true =>
            refine ⟨.fz (.int j), rfl, .fz (.int i), rfl, .fz (tiesD ts), rfl, h, i, ts, rfl, h6, hbb.1.1, by omega, ht, fun f1 hf1 => oNotIn_lstI ⟨!decide (j ∈ f1), rfl, ?_⟩⟩
            cases hj1 : !decide (j ∈ f1) with
            | false =>
              have : Rch ts i j := (hf1 j).mp (by simpa using hj1)
              exact q false ⟨(fun z => by cases z), fun z => absurd this (iff.mpr z).2.1⟩
            | true =>
              have n1 : ¬ Rch ts i j := fun z => by have := (hf1 j).mpr z; simp [this] at hj1
              refine ⟨.fz (.int i), rfl, .fz (.int j), rfl, .fz (tiesD ts), rfl, h, j, ts, rfl, h6, hbb.2.1, by omega, ht, fun f2 hf2 => oNotIn_lstI (q _ ?_)⟩
              rw [← iff, Bool.not_eq_true', decide_eq_false_iff_not, hf2 i]
              exact ⟨fun z => ⟨of_decide_eq_true hij, n1, z⟩, fun z => z.2.2⟩
  · have e3 : (!decide (((.str "two" :: r : List D).length : Int) = 3)) = true := by
      rw [Bool.not_eq_true', decide_eq_false_iff_not, List.length_cons]
      omega
    rw [e3]
    refine no fun z => ?_
    rcases z with ⟨ns, e, _⟩ | ⟨i, j, e, _⟩
    · cases e
    · cases e; exact hl3 rfl
theorem ints_inj {a b : List Int} (e : a.map D.int = b.map D.int) : a = b := by
  have := congrArg (List.map intOf) e
  rw [List.map_map, List.map_map, show (intOf ∘ D.int) = id from rfl, List.map_id, List.map_id] at this
  exact this
theorem inP_all (ts : List (Int × Int)) (ns : List Int) : (((pairs ns).map pD).map (inP ts)).all id = decide (∀ t ∈ pairs ns, t ∈ ts) := by
  rw [List.map_map, List.all_map]
  have e : (id ∘ (inP ts ∘ pD)) = fun t : Int × Int => decide (t ∈ ts) := by funext ⟨a, b⟩; rfl
  rw [e]
  by_cases c : ∀ t ∈ pairs ns, t ∈ ts
  · rw [decide_eq_true c, List.all_eq_true]
    exact fun t ht => decide_eq_true (c t ht)
  · rw [decide_eq_false c, Bool.eq_false_iff]
    intro z
    exact c fun t ht => of_decide_eq_true (List.all_eq_true.mp z t ht)
theorem isOrder_iff {h : Int} {d : D} : isOrder h d = true ↔ ∃ ns : List Int, d = .tup (ns.map .int) ∧ ns.Perm (rg h) := by
  constructor
  · intro z
    cases d with
    | tup xs =>
      obtain ⟨h1, h2⟩ := Bool.and_eq_true_iff.mp z
      exact ⟨xs.map intOf, congrArg D.tup (ints_of_bet h1), of_decide_eq_true h2⟩
    | _ => cases z
  · rintro ⟨ns, rfl, hp⟩
    refine Bool.and_eq_true_iff.mpr ⟨List.all_eq_true.mpr fun d hd => ?_, ?_⟩
    · obtain ⟨n, hn, rfl⟩ := List.mem_map.mp hd
      have := mem_rg.mp (hp.mem_iff.mp hn)
      simp [isBet]; omega
    · rw [List.map_map, show (intOf ∘ D.int) = id from rfl, List.map_id]
      exact decide_eq_true hp
theorem pairs_len (ns : List Int) : (pairs ns).length ≤ ns.length := by unfold pairs; rw [List.length_zip]; omega
theorem p_way_holds : Keeps P_way_holds N_way_holds s_way_holds (w_way_holds s_need_hands_and_ties s_need_no_ring s_is_word s_is_order_value s_are_between s_reached_from) := fun G ds Qd hh => by
  obtain ⟨h, ts, d, rfl, h1, h6, ht, ha, hd, q⟩ := hh
  have no : ¬ IsWay h ts d → Qd (.fz (.bl false)) := fun n => q false ⟨(fun z => by cases z), fun z => absurd z n⟩
  refine ⟨rfl, .fz (.int h), rfl, .fz (tiesD ts), rfl, h, ts, rfl, h1, h6, ht, .fz (.int h), rfl, .fz (tiesD ts), rfl, h, ts, rfl, h1, h6, ht, ha, fun order => ?_⟩
  refine ⟨.fz d, rfl, d, "way", rfl, hd, lay_way, isWord "way" d, rfl, ?_⟩
  by_cases hw : isWord "way" d = true
  · -- a word "way"
    obtain ⟨r, rfl⟩ : ∃ r, d = .tup (.str "way" :: r) := by
      match d, hw with
      | .tup (.str z :: r), hw => exact ⟨r, by rw [beq_iff_eq.mp (show (z == "way") = true from hw)]⟩
    obtain ⟨hl, hx⟩ := okD_tup hd
    have hr : okL r = true := okL_drop (xs := .str "way" :: r) 1 hx
    rw [hw]
    refine ⟨.fz (.tup (.str "way" :: r)), rfl, _, rfl, .inl ⟨_, rfl, ?_⟩⟩
    dsimp only [wC]
    refine oEq_int ⟨decide (((.str "way" :: r : List D).length : Int) = 2), rfl, ?_⟩
    by_cases hl2 : r.length = 1
    · have e2 : decide (((.str "way" :: r : List D).length : Int) = 2) = true := by simp [hl2]
      rw [e2]
      match r, hl2 with
      | [y], _ =>
        have hy : okD y = true := okL_mem hr y List.mem_cons_self
        refine ⟨.fz (.int h), rfl, .fz (.tup [.str "way", y]), rfl, 1, rfl, .inl ⟨_, y, rfl, atI_1, h, y, rfl, h1, h6, hy, isOrder h y, rfl, ?_⟩⟩
        by_cases ho : isOrder h y = true
        · rw [ho]
          obtain ⟨ns, rfl, hp⟩ := isOrder_iff.mp ho
          have hn : ns.length ≤ 6 := by
            have := hp.length_eq
            have e : (rg h).length = h.toNat := by unfold rg; rw [List.length_map, List.length_range]
            omega
          refine ⟨.fz (.tup [.str "way", .tup (ns.map .int)]), rfl, 1, rfl, .inl ⟨_, .tup (ns.map .int), rfl, atI_1, .fz (.tup [.str "way", .tup (ns.map .int)]), rfl, 1, rfl, .inl ⟨_, .tup (ns.map .int), rfl, atI_1, 1, rfl, .inr ⟨ns.map .int, rfl, ns.map .int, DL.cutD (ns.map .int) (some 1) none, rfl, ?_⟩⟩⟩⟩
          rw [cut_1, zipD_pairs]
          refine wcL_fm (fun _ => true) (fun d => .bl (inP ts d)) _ [] _ (fun d hm G' _ Qy Qn hy _ => ?_) (by
            have := pairs_len ns
            rw [List.length_nil, List.length_map, sizeLine_eq]; omega) ?_
          · obtain ⟨t, _, rfl⟩ := List.mem_map.mp hm
            exact ⟨by show 5 < 6; decide, .fz (pD t), rfl, .fz (tiesD ts), rfl, oIn_pairs (hy rfl)⟩
          · rw [filter_all, List.nil_append]
            refine ⟨((pairs ns).map pD).map (inP ts), by rw [List.map_map (f := inP ts)]; rfl, ?_⟩
            rw [inP_all]
            refine q _ ?_
            rw [decide_eq_true_iff]
            constructor
            · exact fun z => .inl ⟨ns, rfl, hp, z⟩
            · rintro (⟨ms, e, _, z⟩ | ⟨i, j, e, _⟩)
              · have em := ints_inj (D.tup.inj (List.cons.inj (List.cons.inj (D.tup.inj e)).2).1)
                subst em
                exact z
              · cases e
        · rw [Bool.not_eq_true] at ho
          rw [ho]
          refine wh2_no hd rfl (no fun z => ?_)
          rcases z with ⟨ns, e, hp, _⟩ | ⟨i, j, e, _⟩
          · have ey : y = .tup (ns.map .int) := (List.cons.inj (List.cons.inj (D.tup.inj e)).2).1
            rw [isOrder_iff.mpr ⟨ns, ey, hp⟩] at ho
            cases ho
          · cases e
    · have e2 : decide (((.str "way" :: r : List D).length : Int) = 2) = false := by
        rw [decide_eq_false_iff_not, List.length_cons]
        omega
      rw [e2]
      refine wh2_no hd rfl (no fun z => ?_)
      rcases z with ⟨ns, e, _⟩ | ⟨i, j, e, _⟩
      · cases e; exact hl2 rfl
      · cases e
  · rw [Bool.not_eq_true] at hw
    rw [hw]
    by_cases h2 : isWord "two" d = true
    · obtain ⟨r, rfl⟩ : ∃ r, d = .tup (.str "two" :: r) := by
        match d, h2 with
        | .tup (.str z :: r), h2 => exact ⟨r, by rw [beq_iff_eq.mp (show (z == "two") = true from h2)]⟩
      exact wh2_yes h6 ht hd q
    · rw [Bool.not_eq_true] at h2
      refine wh2_no hd h2 (no fun z => ?_)
      rcases z with ⟨ns, rfl, _⟩ | ⟨i, j, rfl, _⟩
      · cases hw
      · cases h2
end
end K72
set_option maxHeartbeats 4000000
namespace K72
open PySem PySem.Spec PyProof.Rows L2 DL

/-! ### what the law's reach computes -/
abbrev Rows := List (List Int)
def rowD (r : List Int) : D := .lst (r.map .int)
def LD (L : Rows) : List D := L.map rowD
def row (L : Rows) (a : Nat) : List Int := (L[a]?).getD []
def addTo (a : Nat) (L : Rows) (to : Int) : Rows := L.set a (row L a ++ (row L to.toNat).filter fun x => !decide (x ∈ row L a))
def inner (L : Rows) (a : Nat) : Rows := (row L a).foldl (addTo a) L
def pass (h : Nat) (L : Rows) : Rows := (List.range h).foldl inner L
def passes (h : Nat) : Nat → Rows → Rows
  | 0, L => L
  | n + 1, L => passes h n (pass h L)
def start0 (h : Nat) (ts : List (Int × Int)) : Rows := (List.range h).map fun (a : Nat) => (ts.filter fun t => decide (t.1 = ((a : Nat) : Int))).map (·.2)
def reachL (h : Nat) (ts : List (Int × Int)) : Rows := passes h h (start0 h ts)
/-- rows of hands below h, none twice -/
structure Good (h : Nat) (L : Rows) : Prop where
  len : L.length = h
  ok : ∀ a, (row L a).Nodup ∧ ∀ x ∈ row L a, 0 ≤ x ∧ x < h
theorem nodup_len : ∀ (l m : List Int), l.Nodup → (∀ x ∈ l, x ∈ m) → l.length ≤ m.length
  | [], m, _, _ => Nat.zero_le _
  | x :: l, m, hn, hs => by
    obtain ⟨h1, h2⟩ := List.nodup_cons.mp hn
    have hx := hs x List.mem_cons_self
    have := nodup_len l (m.erase x) h2 fun y hy => (List.mem_erase_of_ne (fun e : y = x => h1 (by rw [← e]; exact hy))).mpr (hs y (List.mem_cons_of_mem _ hy))
    rw [List.length_erase_of_mem hx] at this
    have := List.length_pos_of_mem hx
    rw [List.length_cons]
    omega
theorem Good.small {h : Nat} {L : Rows} (g : Good h L) (a : Nat) : (row L a).length ≤ h := by
  have := nodup_len (row L a) ((List.range h).map fun i : Nat => (i : Int)) (g.ok a).1 fun x hx => by
    have := (g.ok a).2 x hx
    exact List.mem_map.mpr ⟨x.toNat, List.mem_range.mpr (by omega), by omega⟩
  rwa [List.length_map, List.length_range] at this
theorem row_set {L : Rows} {a b : Nat} {r : List Int} (ha : a < L.length) : row (L.set a r) b = if a = b then r else row L b := by
  unfold row
  by_cases h : a = b
  · subst h; rw [if_pos rfl, List.getElem?_set_self ha]; rfl
  · rw [if_neg h, List.getElem?_set_ne h]
theorem Good.add {h : Nat} {L : Rows} (g : Good h L) {a : Nat} (ha : a < h) (to : Int) : Good h (addTo a L to) := by
  have hl : a < L.length := by rw [g.len]; exact ha
  refine ⟨by unfold addTo; rw [List.length_set]; exact g.len, fun b => ?_⟩
  unfold addTo
  rw [row_set hl]
  by_cases hb : a = b
  · rw [if_pos hb]
    refine ⟨List.nodup_append.mpr ⟨(g.ok a).1, (g.ok to.toNat).1.sublist (List.filter_sublist), fun x hx y hy e => ?_⟩, fun x hx => ?_⟩
    · have := (List.mem_filter.mp hy).2
      subst e
      simp [hx] at this
    · rcases List.mem_append.mp hx with h | h
      · exact (g.ok a).2 x h
      · exact (g.ok to.toNat).2 x (List.mem_filter.mp h).1
  · rw [if_neg hb]; exact g.ok b
theorem Good.fold {h : Nat} {a : Nat} (ha : a < h) : ∀ (l : List Int) {L : Rows}, Good h L → Good h (l.foldl (addTo a) L)
  | [], L, g => g
  | x :: l, L, g => Good.fold ha l (g.add ha x)
theorem Good.foldA {h : Nat} : ∀ (l : List Nat) {L : Rows}, (∀ a ∈ l, a < h) → Good h L → Good h (l.foldl inner L)
  | [], L, _, g => g
  | a :: l, L, hl, g => Good.foldA l (fun b hb => hl b (List.mem_cons_of_mem _ hb)) (Good.fold (hl a List.mem_cons_self) _ g)
theorem Good.pass {h : Nat} {L : Rows} (g : Good h L) : Good h (pass h L) := Good.foldA _ (fun a ha => List.mem_range.mp ha) g
theorem Good.passes {h : Nat} : ∀ (n : Nat) {L : Rows}, Good h L → Good h (passes h n L)
  | 0, L, g => g
  | n + 1, L, g => Good.passes n g.pass
theorem row_start {h : Nat} {ts : List (Int × Int)} {a : Nat} (ha : a < h) : row (start0 h ts) a = (ts.filter fun t => decide (t.1 = (a : Int))).map (·.2) := by
  unfold row start0
  rw [List.getElem?_map, List.getElem?_range ha]
  rfl
theorem Good.start {h : Int} {ts : List (Int × Int)} (t : Ties h ts) : Good h.toNat (start0 h.toNat ts) := by
  refine ⟨by unfold start0; rw [List.length_map, List.length_range], fun a => ?_⟩
  by_cases ha : a < h.toNat
  · rw [row_start ha]
    constructor
    · rw [List.Nodup, List.pairwise_map, List.pairwise_filter]
      refine t.asc.imp fun {x y} hl h1 h2 e => ?_
      have h1 := of_decide_eq_true h1
      have h2 := of_decide_eq_true h2
      rcases hl with hl | ⟨_, hl⟩ <;> omega
    · intro x hx
      obtain ⟨u, hu, rfl⟩ := List.mem_map.mp hx
      have := t.mem u (List.mem_filter.mp hu).1
      omega
  · have : row (start0 h.toNat ts) a = [] := by
      unfold row start0
      rw [List.getElem?_eq_none (by rw [List.length_map, List.length_range]; omega)]
      rfl
    rw [this]
    exact ⟨List.nodup_nil, fun x hx => by cases hx⟩
/-! #### what it means -/
inductive R1 (ts : List (Int × Int)) : Nat → Int → Int → Prop
  | one {a b : Int} : (a, b) ∈ ts → R1 ts 0 a b
  | keep {n : Nat} {a b : Int} : R1 ts n a b → R1 ts (n + 1) a b
  | step {n : Nat} {a b c : Int} : R1 ts n a b → (b, c) ∈ ts → R1 ts (n + 1) a c
inductive Rp1 (ts : List (Int × Int)) : Int → Int → Prop
  | one {a b : Int} : (a, b) ∈ ts → Rp1 ts a b
  | step {a b c : Int} : Rp1 ts a b → (b, c) ∈ ts → Rp1 ts a c
theorem R1.mono {ts : List (Int × Int)} {n m : Nat} {a b : Int} (h : R1 ts n a b) (hm : n ≤ m) : R1 ts m a b := by
  induction hm with
  | refl => exact h
  | step _ ih => exact .keep ih
theorem R1.base {ts : List (Int × Int)} {n : Nat} {a b : Int} (h : (a, b) ∈ ts) : R1 ts n a b := (R1.one h).mono (Nat.zero_le _)
theorem Rp1.trans {ts : List (Int × Int)} {a b c : Int} (h : Rp1 ts a b) (h' : Rp1 ts b c) : Rp1 ts a c := by
  induction h' with
  | one h2 => exact .step h h2
  | step _ h2 ih => exact .step ih h2
theorem Rp1.mem {h : Int} {ts : List (Int × Int)} (t : Ties h ts) {a b : Int} (r : Rp1 ts a b) : 0 ≤ b ∧ b < h := by
  cases r with
  | one h => have := t.mem _ h; exact ⟨this.2.2.1, this.2.2.2.1⟩
  | step _ h => have := t.mem _ h; exact ⟨this.2.2.1, this.2.2.2.1⟩
theorem R1.rp {ts : List (Int × Int)} {n : Nat} {a b : Int} (h : R1 ts n a b) : Rp1 ts a b := by
  induction h with
  | one h => exact .one h
  | keep _ ih => exact ih
  | step _ h ih => exact .step ih h
open Classical in
theorem R1.all {h : Int} {ts : List (Int × Int)} (t : Ties h ts) (a b : Int) (r : Rp1 ts a b) : R1 ts h.toNat a b := by
  have hh : 0 ≤ h := by have := r.mem t; omega
  by_cases st : ∃ m, m < h.toNat ∧ ∀ x, R1 ts (m + 1) a x → R1 ts m a x
  · obtain ⟨m, hm, hs⟩ := st
    refine R1.mono (n := m) ?_ (by omega)
    induction r with
    | one h => exact R1.base h
    | step _ h ih => exact hs _ (.step ih h)
  · have hg : ∀ n, n ≤ h.toNat → (∃ x, (a, x) ∈ ts) → n + 1 ≤ ((rg h).filter fun x => decide (R1 ts n a x)).length := fun n => by
      intro hn ⟨x, hx⟩
      induction n with
      | zero =>
        have hm := t.mem _ hx
        have : x ∈ (rg h).filter fun x => decide (R1 ts 0 a x) := List.mem_filter.mpr ⟨mem_rg.mpr ⟨hm.2.2.1, hm.2.2.2.1⟩, decide_eq_true (.one hx)⟩
        exact List.length_pos_of_mem this
      | succ n ih =>
        have i1 := ih (by omega)
        have : ¬ ∀ x, R1 ts (n + 1) a x → R1 ts n a x := fun z => st ⟨n, by omega, z⟩
        obtain ⟨y, hy⟩ := Classical.not_forall.mp this
        obtain ⟨hy1, hy2⟩ := Classical.not_imp.mp hy
        have hm := hy1.rp.mem t
        have := filter_lt (l := rg h) (p := fun x => decide (R1 ts n a x)) (q := fun x => decide (R1 ts (n + 1) a x)) (x := y) (fun z hz => decide_eq_true (.keep (of_decide_eq_true hz))) (mem_rg.mpr hm) (decide_eq_true hy1) (decide_eq_false hy2)
        omega
    have ex : ∃ x, (a, x) ∈ ts := by
      induction r with
      | one h => exact ⟨_, h⟩
      | step _ _ ih => exact ih
    have := hg h.toNat (Nat.le_refl _) ex
    have l1 := List.length_filter_le (fun x => decide (R1 ts h.toNat a x)) (rg h)
    have l2 : (rg h).length = h.toNat := by unfold rg; rw [List.length_map, List.length_range]
    omega
/-- nothing is lost, and what is won is reached -/
structure Sub (ts : List (Int × Int)) (h : Nat) (L L' : Rows) : Prop where
  le : ∀ (a : Nat) (x : Int), x ∈ row L a → x ∈ row L' a
def Snd (ts : List (Int × Int)) (L : Rows) : Prop := ∀ (a : Nat) (x : Int), x ∈ row L a → Rp1 ts (a : Int) x
theorem add_mem {L : Rows} {a : Nat} (ha : a < L.length) (to : Int) (b : Nat) (x : Int) : x ∈ row (addTo a L to) b ↔ x ∈ row L b ∨ (a = b ∧ x ∈ row L to.toNat) := by
  unfold addTo
  rw [row_set ha]
  by_cases h : a = b
  · subst h
    rw [if_pos rfl, List.mem_append, List.mem_filter]
    constructor
    · rintro (h | ⟨h, _⟩)
      · exact .inl h
      · exact .inr ⟨rfl, h⟩
    · rintro (h | ⟨_, h⟩)
      · exact .inl h
      · by_cases c : x ∈ row L a
        · exact .inl c
        · exact .inr ⟨h, by simp [c]⟩
  · rw [if_neg h]
    exact ⟨.inl, fun z => z.elim id fun z => absurd z.1 h⟩
theorem fold_len {a : Nat} : ∀ (l : List Int) (L : Rows), (l.foldl (addTo a) L).length = L.length
  | [], L => rfl
  | x :: l, L => by
    show (l.foldl (addTo a) (addTo a L x)).length = _
    rw [fold_len l]
    unfold addTo
    rw [List.length_set]
theorem fold_le {a : Nat} : ∀ (l : List Int) (L : Rows), a < L.length → ∀ (b : Nat) (x : Int), x ∈ row L b → x ∈ row (l.foldl (addTo a) L) b
  | [], L, _, b, x, hx => hx
  | y :: l, L, ha, b, x, hx => fold_le l (addTo a L y) (by unfold addTo; rw [List.length_set]; exact ha) b x ((add_mem ha y b x).mpr (.inl hx))
theorem fold_has {a : Nat} : ∀ (l : List Int) (L : Rows), a < L.length → ∀ y ∈ l, ∀ x ∈ row L y.toNat, x ∈ row (l.foldl (addTo a) L) a
  | z :: l, L, ha, y, hy, x, hx => by
    have hl : a < (addTo a L z).length := by unfold addTo; rw [List.length_set]; exact ha
    rcases List.mem_cons.mp hy with rfl | hy
    · exact fold_le l (addTo a L y) hl a x ((add_mem ha y a x).mpr (.inr ⟨rfl, hx⟩))
    · exact fold_has l (addTo a L z) hl y hy x ((add_mem ha z _ x).mpr (.inl hx))
theorem fold_snd {ts : List (Int × Int)} {a : Nat} : ∀ (l : List Int) (L : Rows), a < L.length → Snd ts L → (∀ y ∈ l, 0 ≤ y ∧ Rp1 ts (a : Int) y) → Snd ts (l.foldl (addTo a) L)
  | [], L, _, s, _ => s
  | y :: l, L, ha, s, hl => by
    refine fold_snd l (addTo a L y) (by unfold addTo; rw [List.length_set]; exact ha) (fun b x hx => ?_) fun z hz => hl z (List.mem_cons_of_mem _ hz)
    rcases (add_mem ha y b x).mp hx with h | ⟨rfl, h⟩
    · exact s b x h
    · obtain ⟨h0, h1⟩ := hl y List.mem_cons_self
      have := s y.toNat x h
      rw [Int.toNat_of_nonneg h0] at this
      exact h1.trans this
theorem foldA_len : ∀ (l : List Nat) (L : Rows), (l.foldl inner L).length = L.length
  | [], _ => rfl
  | a :: l, L => by
    show (l.foldl inner (inner L a)).length = _
    rw [foldA_len l]
    exact fold_len _ _
theorem foldA_le : ∀ (l : List Nat) (L : Rows), (∀ a ∈ l, a < L.length) → ∀ (b : Nat) (x : Int), x ∈ row L b → x ∈ row (l.foldl inner L) b
  | [], L, _, b, x, hx => hx
  | a :: l, L, hl, b, x, hx => foldA_le l (inner L a) (fun c hc => by unfold inner; rw [fold_len]; exact hl c (List.mem_cons_of_mem _ hc)) b x (fold_le _ L (hl a List.mem_cons_self) b x hx)
theorem foldA_has : ∀ (l : List Nat) (L : Rows), (∀ a ∈ l, a < L.length) → ∀ a ∈ l, ∀ y ∈ row L a, ∀ x ∈ row L y.toNat, x ∈ row (l.foldl inner L) a
  | c :: l, L, hl, a, ha, y, hy, x, hx => by
    have hl' : ∀ d ∈ l, d < (inner L c).length := fun d hd => by unfold inner; rw [fold_len]; exact hl d (List.mem_cons_of_mem _ hd)
    have hc := hl c List.mem_cons_self
    rcases List.mem_cons.mp ha with rfl | ha
    · exact foldA_le l (inner L a) hl' a x (fold_has _ L hc y hy x hx)
    · exact foldA_has l (inner L c) hl' a ha y (fold_le _ L hc _ _ hy) x (fold_le _ L hc _ _ hx)
theorem foldA_snd {ts : List (Int × Int)} {h : Nat} : ∀ (l : List Nat) (L : Rows), Good h L → (∀ a ∈ l, a < h) → Snd ts L → Snd ts (l.foldl inner L)
  | [], L, _, _, s => s
  | a :: l, L, g, hl, s => by
    have ha := hl a List.mem_cons_self
    exact foldA_snd l (inner L a) (Good.fold ha _ g) (fun b hb => hl b (List.mem_cons_of_mem _ hb)) (fold_snd _ L (by rw [g.len]; exact ha) s fun y hy => ⟨((g.ok a).2 y hy).1, s a y hy⟩)
def Cmp (ts : List (Int × Int)) (h n : Nat) (L : Rows) : Prop := ∀ (a : Nat) (b : Int), a < h → R1 ts n (a : Int) b → b ∈ row L a
theorem Cmp.pass {ts : List (Int × Int)} {h n : Nat} {L : Rows} (g : Good h L) (c : Cmp ts h n L) (hb : ∀ t ∈ ts, 0 ≤ t.1 ∧ t.1 < (h : Int)) : Cmp ts h (n + 1) (pass h L) := fun a b ha r => by
  have hl : ∀ a ∈ List.range h, a < L.length := fun a ha => by rw [g.len]; exact List.mem_range.mp ha
  cases r with
  | keep r => exact foldA_le _ L hl a b (c a b ha r)
  | @step _ _ m _ r ht =>
    have hm := hb _ ht
    have em : ((m.toNat : Nat) : Int) = m := Int.toNat_of_nonneg hm.1
    exact foldA_has _ L hl a (List.mem_range.mpr ha) m (c a m ha r) b (c m.toNat b (by omega) (by rw [em]; exact R1.base ht))
theorem passes_ok {ts : List (Int × Int)} {h : Nat} (hb : ∀ t ∈ ts, 0 ≤ t.1 ∧ t.1 < (h : Int)) : ∀ (n k : Nat) (L : Rows), Good h L → Cmp ts h k L → Snd ts L → Cmp ts h (k + n) (passes h n L) ∧ Snd ts (passes h n L)
  | 0, k, L, _, c, s => ⟨c, s⟩
  | n + 1, k, L, g, c, s => by
    have := passes_ok hb n (k + 1) (pass h L) g.pass (c.pass g hb) (foldA_snd _ L g (fun a ha => List.mem_range.mp ha) s)
    rw [show k + (n + 1) = k + 1 + n by omega]
    exact this
theorem reach_iff {h : Int} {ts : List (Int × Int)} (t : Ties h ts) {a : Nat} (ha : a < h.toNat) (x : Int) : x ∈ row (reachL h.toNat ts) a ↔ Rp1 ts (a : Int) x := by
  have hb : ∀ u ∈ ts, 0 ≤ u.1 ∧ u.1 < (h.toNat : Int) := fun u hu => by have := t.mem u hu; omega
  have c0 : Cmp ts h.toNat 0 (start0 h.toNat ts) := fun a b ha r => by
    cases r with
    | one r =>
      rw [row_start ha]
      exact List.mem_map.mpr ⟨(_, b), List.mem_filter.mpr ⟨r, by simp⟩, rfl⟩
  have s0 : Snd ts (start0 h.toNat ts) := fun a x hx => by
    by_cases ha : a < h.toNat
    · rw [row_start ha] at hx
      obtain ⟨u, hu, rfl⟩ := List.mem_map.mp hx
      obtain ⟨h1, h2⟩ := List.mem_filter.mp hu
      rw [← of_decide_eq_true h2]
      exact .one h1
    · have : row (start0 h.toNat ts) a = [] := by
        unfold row start0
        rw [List.getElem?_eq_none (by rw [List.length_map, List.length_range]; omega)]
        rfl
      rw [this] at hx
      cases hx
  obtain ⟨c, s⟩ := passes_ok hb h.toNat 0 _ (Good.start t) c0 s0
  refine ⟨s a x, fun r => c a x ha ?_⟩
  rw [Nat.zero_add]
  exact R1.all t _ _ r
end K72
set_option maxHeartbeats 4000000
namespace K72
open PySem PySem.Spec PyProof.Rows L2 DL

theorem put_fr {ρ : En} {i : Nat} {sv : SV} (h : frzAll ρ = ρ) : put ρ i sv = ρ.set i (some sv) := by
  unfold DL.put
  cases immS sv with
  | true => rfl
  | false => show (frzAll ρ).set i (some sv) = _; rw [h]
theorem LD_get {L : Rows} {a : Nat} (h : a < L.length) : (LD L)[a]? = some (rowD (row L a)) := by
  unfold LD row
  rw [List.getElem?_map, List.getElem?_eq_getElem h]
  rfl
theorem LD_at {L : Rows} {a : Nat} (h : a < L.length) : atI (LD L) ((a : Nat) : Int) = some (rowD (row L a)) := atI_nat (LD_get h)
theorem LD_set {L : Rows} {a : Nat} {r : List Int} : (LD L).set a (rowD r) = LD (L.set a r) := by
  unfold LD
  rw [List.map_set]
theorem LD_len {L : Rows} : (LD L).length = L.length := List.length_map _
theorem ixN_nat {n a : Nat} (h : a < n) : ixN n ((a : Nat) : Int) = some a := by
  unfold ixN
  rw [if_pos (by omega), if_pos (by omega)]
  simp
def fstEq (a : Int) : D → Bool
  | .tup [.int i, _] => decide (i = a)
  | _ => false
theorem fstEq_all (ts : List (Int × Int)) (a : Int) : ((ts.map pD).filter (fstEq a)).map sndD = ((ts.filter fun t => decide (t.1 = a)).map (·.2)).map D.int := by
  rw [List.filter_map, List.map_map, List.map_map]
  rfl
def s__law_reach : FS := fun _ ds Q => ∃ (h : Int) (ts : List (Int × Int)), ds = [.int h, tiesD ts] ∧ 1 ≤ h ∧ h ≤ 6 ∧ Ties h ts ∧ Q (.ow (LD (reachL h.toNat ts)))
def rBody : WS := wStoreIx 2 (wVar 4) (wvO (wOpO oAdd (wOp oIx (wVar 2) (wVar 4)) (wFz (wComp (wiSeq (wOp oIx (wVar 2) (wVar 5))) (wgName 8) (wtV (wOp oNotIn (wVar 8) (wOp oIx (wVar 2) (wVar 4)))) (wVar 8) [8]))))
def rMid : WS := wFor (wjSeq (wvO (woCB oList (waCons (wOp oIx (wVar 2) (wVar 4)) (waNil))))) (wgName 5) rBody
abbrev rρ (h : Int) (ts : List (Int × Int)) (L : Rows) (y3 y4 y5 : Option SV) : En := [some (.fz (.int h)), some (.fz (tiesD ts)), some (.ow (LD L)), y3, y4, y5, none, none, none]
theorem r_inner {h : Int} {ts : List (Int × Int)} {G : Gc} {E : EndsD} {n a : Nat} {y3 : Option SV} (hn : n ≤ 6) (ha : a < n) : ∀ (l : List Int) (L : Rows) (y5 : Option SV), Good n L → (∀ y ∈ l, 0 ≤ y ∧ y < (n : Int)) →
    (∀ y5', E.nx (rρ h ts (l.foldl (addTo a) L) y3 (some (.fz (.int (a : Nat)))) y5')) → wForL (wgName 5) rBody G E (l.map D.int) (rρ h ts L y3 (some (.fz (.int (a : Nat)))) y5)
  | [], L, y5, _, _, q => q y5
  | y :: l, L, y5, g, hl, q => by
    have hy := hl y List.mem_cons_self
    have e : ((y.toNat : Nat) : Int) = y := Int.toNat_of_nonneg hy.1
    have hy2 : y.toNat < L.length := by rw [g.len]; omega
    have ha2 : a < L.length := by rw [g.len]; exact ha
    have s1 := g.small a
    have s2 := g.small y.toNat
    have at1 := LD_at hy2
    rw [e] at at1
    have at2 := LD_at ha2
    have ih := r_inner (E := E) (G := G) (h := h) (ts := ts) (y3 := y3) hn ha l (addTo a L y) (some (.fz (.int y))) (g.add ha y) (fun z hz => hl z (List.mem_cons_of_mem _ hz)) q
    refine ⟨by show 5 < 9; decide, .ow (LD L), rfl, .fz (.int (a : Nat)), rfl, (a : Nat), rfl, .inl ⟨LD L, _, rfl, at2, ?_⟩⟩
    refine ⟨.ow (LD L), rfl, .fz (.int y), rfl, y, rfl, .inl ⟨LD L, _, rfl, at1, (row L y.toNat).map .int, rfl, ?_⟩⟩
    refine wcL_fm (fun d => match d with | .int x => !decide (x ∈ row L a) | _ => false) (fun d => d) _ [] _ (fun d hm G' _ Qy Qn hY hN => ?_) (by rw [List.length_nil, List.length_map, sizeLine_eq]; omega) ?_
    · obtain ⟨x, hx, rfl⟩ := List.mem_map.mp hm
      refine ⟨by show 8 < 9; decide, .fz (.int x), rfl, .ow (LD L), rfl, .fz (.int (a : Nat)), rfl, (a : Nat), rfl, .inl ⟨LD L, _, rfl, at2, ?_⟩⟩
      dsimp only [rowD]
      refine oNotIn_lstI ⟨!decide (x ∈ row L a), rfl, ?_⟩
      cases hc : !decide (x ∈ row L a) with
      | true => exact ⟨.fz (.int x), rfl, hY hc⟩
      | false => exact hN hc
    · have er : ((row L y.toNat).map D.int).filter (fun d => match d with | .int x => !decide (x ∈ row L a) | _ => false) = ((row L y.toNat).filter fun x => !decide (x ∈ row L a)).map D.int := List.filter_map
      rw [er, List.map_id', List.nil_append]
      have s3 := List.length_filter_le (fun x => !decide (x ∈ row L a)) (row L y.toNat)
      refine .inr (.inr (.inl ⟨_, _, rfl, rfl, by rw [List.length_map, List.length_map, sizeLine_eq]; omega, ?_⟩))
      have ei : immL ((row L a).map D.int ++ ((row L y.toNat).filter fun x => !decide (x ∈ row L a)).map D.int) = true := by rw [← List.map_append]; exact immL_ints _
      dsimp only
      rw [if_pos ei]
      refine ⟨⟨_, rfl⟩, .fz (.int (a : Nat)), rfl, (a : Nat), a, LD L, rfl, rfl, ixN_nat (by rw [LD_len]; exact ha2), ?_⟩
      rw [← List.map_append]
      show wForL _ _ _ _ _ (rρ h ts L y3 (some (.fz (.int (a : Nat)))) (some (.fz (.int y))) |>.set 2 (some (.ow ((LD L).set a (rowD (row L a ++ (row L y.toNat).filter fun x => !decide (x ∈ row L a)))))))
      rw [LD_set]
      exact ih
theorem r_mid {h : Int} {ts : List (Int × Int)} {G : Gc} {E : EndsD} {n : Nat} {y3 : Option SV} (hn : n ≤ 6) : ∀ (l : List Nat) (L : Rows) (y4 y5 : Option SV), Good n L → (∀ a ∈ l, a < n) →
    (∀ y4' y5', E.nx (rρ h ts (l.foldl inner L) y3 y4' y5')) → wForL (wgName 4) rMid G E (l.map fun a : Nat => D.int (a : Int)) (rρ h ts L y3 y4 y5)
  | [], L, y4, y5, _, _, q => q y4 y5
  | a :: l, L, y4, y5, g, hl, q => by
    have ha := hl a List.mem_cons_self
    have ha2 : a < L.length := by rw [g.len]; exact ha
    refine ⟨by show 4 < 9; decide, .ow (LD L), rfl, .fz (.int (a : Nat)), rfl, (a : Nat), rfl, .inl ⟨LD L, _, rfl, LD_at ha2, ?_⟩⟩
    refine ⟨rowD (row L a), (row L a).map .int, rfl, rfl, ?_⟩
    dsimp only
    rw [if_pos (immL_ints (row L a))]
    refine ⟨_, rfl, ?_⟩
    exact r_inner hn ha (row L a) L y5 g (g.ok a).2 fun y5' => r_mid hn l (inner L a) _ _ (Good.fold ha _ g) (fun b hb => hl b (List.mem_cons_of_mem _ hb)) q
theorem rg_range {h : Int} : (rg h).map D.int = (List.range h.toNat).map fun a : Nat => D.int (a : Int) := by
  unfold rg
  rw [List.map_map]
  rfl
theorem r_outer {h : Int} {ts : List (Int × Int)} {G : Gc} {E : EndsD} (h1 : 1 ≤ h) (h6 : h ≤ 6) : ∀ (l : List D) (L : Rows) (y3 y4 y5 : Option SV), Good h.toNat L → 
    (∀ y3' y4' y5', E.nx (rρ h ts (passes h.toNat l.length L) y3' y4' y5')) → wForL (wgName 3) (wFor (wjRange1 (waCons (wVar 0) (waNil))) (wgName 4) rMid) G E l (rρ h ts L y3 y4 y5)
  | [], L, y3, y4, y5, _, q => q y3 y4 y5
  | d :: l, L, y3, y4, y5, g, q => by
    refine ⟨by show 3 < 9; decide, .fz (.int h), rfl, h, rfl, by omega, by omega, ?_⟩
    rw [rangeD_rg, rg_range]
    exact r_mid (by omega) (List.range h.toNat) L y4 y5 g (fun a ha => List.mem_range.mp ha) fun y4' y5' => r_outer h1 h6 l (pass h.toNat L) _ _ _ g.pass q
theorem p__law_reach : Keeps P__law_reach N__law_reach s__law_reach w__law_reach := fun G ds Qd hh => by
  obtain ⟨h, ts, rfl, h1, h6, ht, q⟩ := hh
  refine ⟨rfl, by show 2 < 9; decide, .fz (.int h), rfl, h, rfl, by omega, by omega, ?_⟩
  rw [rangeD_rg, rg_range]
  refine wcL_fm (fun _ => true) (fun d => match d with | .int a => rowD ((ts.filter fun t => decide (t.1 = a)).map (·.2)) | _ => .non) _ [] _ (fun d hm G' _ Qy Qn hY _ => ?_) (by rw [List.length_nil, List.length_map, List.length_range, sizeLine_eq]; omega) ?_
  · obtain ⟨a, ha, rfl⟩ := List.mem_map.mp hm
    have hY := hY rfl
    refine ⟨by show 4 < 9; decide, .fz (tiesD ts), rfl, ts.map pD, rfl, ?_⟩
    refine wcL_fm (fstEq (a : Nat)) sndD _ [] _ (fun d hm G' _ Qy Qn hy hn => ?_) (by rw [List.length_nil, List.length_map]; have := le_size ht.few; omega) (by rw [List.nil_append, fstEq_all]; exact hY)
    obtain ⟨⟨i, j⟩, _, rfl⟩ := List.mem_map.mp hm
    refine ⟨_, rfl, rfl, _, _, rfl, ⟨by show 6 < 9; decide, _, _, rfl, ⟨by show 7 < 9; decide, rfl, ?_⟩⟩⟩
    refine ⟨.fz (.int i), rfl, .fz (.int (a : Nat)), rfl, oEq_int ⟨decide (i = (a : Nat)), rfl, ?_⟩⟩
    cases hc : decide (i = ((a : Nat) : Int)) with
    | true => exact ⟨.fz (.int j), rfl, hy hc⟩
    | false => exact hn hc
  · rw [filter_all, List.nil_append, List.map_map]
    have e0 : (List.range h.toNat).map ((fun d => match d with | .int a => rowD ((ts.filter fun t => decide (t.1 = a)).map (·.2)) | _ => .non) ∘ fun a : Nat => D.int (a : Int)) = LD (start0 h.toNat ts) := by
      unfold LD start0
      rw [List.map_map]
      rfl
    rw [e0]
    dsimp only
    rw [put_fr (show frzAll (startD N__law_reach [D.int h, tiesD ts]) = startD N__law_reach [D.int h, tiesD ts] from rfl)]
    refine ⟨.fz (.int h), rfl, h, rfl, by omega, by omega, ?_⟩
    rw [rangeD_rg]
    refine r_outer (E := { nx := fun ρ' => wRetV 2 G { nx := fun _ => Qd (.fz .non), rt := Qd } ρ', rt := Qd }) h1 h6 _ (start0 h.toNat ts) none none none (Good.start ht) fun y3 y4 y5 => ?_
    rw [List.length_map, show (rg h).length = h.toNat by unfold rg; rw [List.length_map, List.length_range]]
    exact ⟨_, rfl, q⟩
end K72
set_option maxHeartbeats 4000000
namespace K72
open PySem PySem.Spec PyProof.Rows L2 DL

open Classical in
theorem acyc_of {h : Int} {ts : List (Int × Int)} (t : Ties h ts) (nr : ∀ a, ¬ Rp1 ts a a) : Acyc ts := fun rest hne => by
  let f : Int → Nat := fun x => ((rg h).filter fun y => decide (Rp1 ts y x)).length
  apply Classical.byContradiction
  intro hc
  have hall : ∀ x ∈ rest, ∃ u ∈ ts, u.2 = x ∧ u.1 ∈ rest := fun x hx => by
    apply Classical.byContradiction
    intro hn
    exact hc ⟨x, hx, fun u hu he hm => hn ⟨u, hu, he, hm⟩⟩
  have down : ∀ n, ∀ x ∈ rest, f x ≤ n → False := fun n => by
    induction n with
    | zero =>
      intro x hx hf
      obtain ⟨u, hu, he, hm⟩ := hall x hx
      have hmem := t.mem u hu
      have : u.1 ∈ (rg h).filter fun y => decide (Rp1 ts y x) := List.mem_filter.mpr ⟨mem_rg.mpr ⟨hmem.1, hmem.2.1⟩, decide_eq_true (.one (by rw [← he]; exact hu))⟩
      have := List.length_pos_of_mem this
      have hf : ((rg h).filter fun y => decide (Rp1 ts y x)).length ≤ 0 := hf
      omega
    | succ n ih =>
      intro x hx hf
      obtain ⟨u, hu, he, hm⟩ := hall x hx
      have hmem := t.mem u hu
      have h1 : Rp1 ts u.1 x := .one (by rw [← he]; exact hu)
      have := filter_lt (l := rg h) (p := fun y => decide (Rp1 ts y u.1)) (q := fun y => decide (Rp1 ts y x)) (x := u.1) (fun z hz => decide_eq_true ((of_decide_eq_true hz).trans h1)) (mem_rg.mpr ⟨hmem.1, hmem.2.1⟩) (decide_eq_true h1) (decide_eq_false (nr _))
      have hf : ((rg h).filter fun y => decide (Rp1 ts y x)).length ≤ n + 1 := hf
      exact ih u.1 hm (show ((rg h).filter fun y => decide (Rp1 ts y u.1)).length ≤ n by omega)
  obtain ⟨x, hx⟩ := List.exists_mem_of_ne_nil rest hne
  exact down (f x) x hx (Nat.le_refl _)
theorem rp1_lt {ts : List (Int × Int)} (hl : ∀ t ∈ ts, t.1 < t.2) {a b : Int} (r : Rp1 ts a b) : a < b := by
  induction r with
  | one h => exact hl _ h
  | step _ h ih => have := hl _ h; exact Int.lt_trans ih this
theorem Ties.up {h : Int} {ts : List (Int × Int)} (t : Ties h ts) : Ties h (ts.filter fun t => decide (t.1 < t.2)) where
  mem := fun u hu => t.mem u (List.mem_filter.mp hu).1
  asc := t.asc.sublist List.filter_sublist
  few := Nat.le_trans (List.length_filter_le _ _) t.few
theorem up_acyc {h : Int} {ts : List (Int × Int)} (t : Ties h ts) : Acyc (ts.filter fun t => decide (t.1 < t.2)) := acyc_of t.up fun a r => by
  have := rp1_lt (fun u hu => of_decide_eq_true (List.mem_filter.mp hu).2) r
  omega
theorem rch_iff {ts : List (Int × Int)} {a b : Int} (hne : a ≠ b) : Rch ts a b ↔ Rp1 ts a b := by
  constructor
  · intro r
    have : ∀ {c : Int}, Rch ts a c → a = c ∨ Rp1 ts a c := fun r => by
      induction r with
      | refl => exact .inl rfl
      | step _ h ih =>
        rcases ih with rfl | ih
        · exact .inr (.one h)
        · exact .inr (.step ih h)
    exact (this r).resolve_left hne
  · intro r
    induction r with
    | one h => exact .step (.refl _) h
    | @step b' c' r' h ih =>
      by_cases e : a = b'
      · subst e; exact .step (.refl _) h
      · exact .step (ih e) h

theorem mem_enumD : ∀ (xs : List D) (k : Nat) (d : D), d ∈ enumD k xs ↔ ∃ i x, xs[i]? = some x ∧ d = .tup [.int ((k + i : Nat) : Int), x]
  | [], k, d => ⟨(fun h => by cases h), (fun ⟨i, x, h, _⟩ => by simp at h)⟩
  | x :: xs, k, d => by
    unfold enumD
    rw [List.mem_cons, mem_enumD xs (k + 1) d]
    constructor
    · rintro (rfl | ⟨i, y, h, rfl⟩)
      · exact ⟨0, x, rfl, rfl⟩
      · exact ⟨i + 1, y, h, by rw [show k + 1 + i = k + (i + 1) by omega]⟩
    · rintro ⟨i, y, h, rfl⟩
      cases i with
      | zero => cases h; exact .inl rfl
      | succ i => exact .inr ⟨i, y, h, by rw [show k + 1 + i = k + (i + 1) by omega]⟩
def intsOf : D → List Int
  | .lst xs => xs.map intOf
  | _ => []
theorem intsOf_row (r : List Int) : intsOf (rowD r) = r := by
  show (r.map D.int).map intOf = r
  rw [List.map_map]
  exact List.map_id r
def ringP : D → Bool
  | .tup [.int i, r] => decide (i ∈ intsOf r)
  | _ => false
theorem ints_ones (l : List D) : l.map (fun _ => D.int 1) = (l.map fun _ => (1 : Int)).map D.int := by rw [List.map_map]; rfl
def s__law_has_ring : FS := fun _ ds Q => ∃ (h : Int) (ts : List (Int × Int)), ds = [.int h, tiesD ts] ∧ 1 ≤ h ∧ h ≤ 6 ∧ Ties h ts ∧ ∀ b : Bool, (b = true ↔ ∃ a, Rp1 ts a a) → Q (.fz (.bl b))
theorem Good.reach {h : Int} {ts : List (Int × Int)} (t : Ties h ts) : Good h.toNat (reachL h.toNat ts) := Good.passes _ (Good.start t)
theorem p__law_has_ring : Keeps P__law_has_ring N__law_has_ring s__law_has_ring (w__law_has_ring s__law_reach) := fun G ds Qd hh => by
  obtain ⟨h, ts, rfl, h1, h6, ht, q⟩ := hh
  have g := Good.reach ht
  have hm : ∀ d, d ∈ enumD 0 (LD (reachL h.toNat ts)) ↔ ∃ a : Nat, a < h.toNat ∧ d = .tup [.int (a : Nat), rowD (row (reachL h.toNat ts) a)] := fun d => by
    rw [mem_enumD]
    constructor
    · rintro ⟨i, x, hx, rfl⟩
      have hi : i < (LD (reachL h.toNat ts)).length := (List.getElem?_eq_some_iff.mp hx).1
      rw [LD_len] at hi
      rw [LD_get hi] at hx
      cases hx
      exact ⟨i, by rw [← g.len]; exact hi, by rw [Nat.zero_add]⟩
    · rintro ⟨a, ha, rfl⟩
      exact ⟨a, _, LD_get (by rw [g.len]; exact ha), by rw [Nat.zero_add]⟩
  refine ⟨rfl, .fz (.int h), rfl, .fz (tiesD ts), rfl, h, ts, rfl, h1, h6, ht, LD (reachL h.toNat ts), rfl, ?_⟩
  refine wcL_fm ringP (fun _ => .int 1) _ [] _ (fun d hd G' _ Qy Qn hy hn => ?_) (by rw [List.length_nil, enumD_len, LD_len, g.len, sizeLine_eq]; omega) ?_
  · obtain ⟨a, ha, rfl⟩ := (hm d).mp hd
    refine ⟨_, rfl, rfl, _, _, rfl, ⟨by show 2 < 4; decide, _, _, rfl, ⟨by show 3 < 4; decide, rfl, ?_⟩⟩⟩
    refine ⟨.fz (.int (a : Nat)), rfl, .fz (rowD (row (reachL h.toNat ts) a)), rfl, ?_⟩
    change decide (((a : Nat) : Int) ∈ intsOf (rowD (row (reachL h.toNat ts) a))) = true → _ at hy
    change decide (((a : Nat) : Int) ∈ intsOf (rowD (row (reachL h.toNat ts) a))) = false → _ at hn
    rw [intsOf_row] at hy hn
    refine oIn_lstI ⟨decide (((a : Nat) : Int) ∈ row (reachL h.toNat ts) a), rfl, ?_⟩
    cases hc : decide (((a : Nat) : Int) ∈ row (reachL h.toNat ts) a) with
    | true => exact hy hc
    | false => exact hn hc
  · rw [List.nil_append, ints_ones]
    refine ⟨by show 0 ≤ sizeLine; decide, ?_⟩
    refine oNe_lstI (b := []) (q _ ?_)
    rw [Bool.not_eq_true', decide_eq_false_iff_not, List.map_eq_nil_iff, List.filter_eq_nil_iff]
    constructor
    · intro hne
      obtain ⟨d, hd⟩ := Classical.not_forall.mp hne
      obtain ⟨hd1, hd2⟩ := Classical.not_imp.mp hd
      obtain ⟨a, ha, rfl⟩ := (hm d).mp hd1
      have hd2 := Classical.not_not.mp hd2
      change decide (((a : Nat) : Int) ∈ intsOf (rowD (row (reachL h.toNat ts) a))) = true at hd2
      rw [intsOf_row] at hd2
      exact ⟨a, (reach_iff ht ha _).mp (of_decide_eq_true hd2)⟩
    · rintro ⟨a, r⟩ hall
      have hb := r.mem ht
      have ea : ((a.toNat : Nat) : Int) = a := Int.toNat_of_nonneg hb.1
      have ha : a.toNat < h.toNat := by omega
      refine hall _ ((hm _).mpr ⟨a.toNat, ha, rfl⟩) ?_
      show decide (((a.toNat : Nat) : Int) ∈ intsOf (rowD (row (reachL h.toNat ts) a.toNat))) = true
      rw [intsOf_row]
      refine decide_eq_true ((reach_iff ht ha _).mpr ?_)
      rw [ea]
      exact r
end K72
set_option maxHeartbeats 4000000
namespace K72
open PySem PySem.Spec PyProof.Rows L2 DL

abbrev s__law_is_integer : FS := s_is_integer
theorem p__law_is_integer : Keeps P__law_is_integer N__law_is_integer s__law_is_integer (w__law_is_integer) := fun G ds Qd h => by
  obtain ⟨d, rfl, hd, q⟩ := h
  refine ⟨rfl, .fz d, rfl, okD_ob hd, isD "int" d, rfl, ?_⟩
  cases d with
  | bl b => exact ⟨.fz (.bl b), rfl, okD_ob hd, _, rfl, q⟩
  | int i => exact ⟨.fz (.int i), rfl, okD_ob hd, _, rfl, q⟩
  | _ => exact q
def areInts : D → Bool
  | .tup xs => xs.all isInt
  | _ => false
theorem ones_all (xs : List D) : decide (((xs.filter fun d => !isInt d).map fun _ => (1 : Int)) = []) = xs.all isInt := by
  induction xs with
  | nil => rfl
  | cons x xs ih =>
    rw [List.filter_cons, List.all_cons]
    cases hc : isInt x with
    | true => exact ih
    | false => rfl
def s__law_are_integers : FS := fun _ ds Q => ∃ d, ds = [d] ∧ okD d = true ∧ Q (.fz (.bl (areInts d)))
theorem p__law_are_integers : Keeps P__law_are_integers N__law_are_integers s__law_are_integers (w__law_are_integers s__law_is_integer) := fun G ds Qd h => by
  obtain ⟨d, rfl, hd, q⟩ := h
  refine ⟨rfl, .fz d, rfl, okD_ob hd, isD "tuple" d, rfl, ?_⟩
  cases d with
  | tup xs =>
    obtain ⟨hl, hx⟩ := okD_tup hd
    refine ⟨.fz (.tup xs), rfl, xs, rfl, ?_⟩
    refine wcL_fm (fun d => !isInt d) (fun d => .int 1) xs [] _ (fun d hm G' _ Qy Qn hy hn => ?_) (by rw [List.length_nil]; have := le_size hl; omega) ?_
    · refine ⟨by show 1 < 2; decide, .fz d, rfl, d, rfl, okL_mem hx d hm, isInt d, rfl, ?_⟩
      cases hc : isInt d with
      | true => exact hn (by rw [hc]; rfl)
      | false => exact hy (by rw [hc]; rfl)
    · rw [List.nil_append, ints_ones]
      refine ⟨by show 0 ≤ sizeLine; decide, ?_⟩
      refine oEq_lstI (b := []) ?_
      rw [ones_all]
      exact q
  | _ => exact q
theorem allInts {xs : List D} (h : xs.all isInt = true) : xs = (xs.map intOf).map D.int := by
  induction xs with
  | nil => rfl
  | cons x xs ih =>
    rw [List.all_cons] at h
    obtain ⟨h1, h2⟩ := Bool.and_eq_true_iff.mp h
    rw [List.map_cons, List.map_cons, ← ih h2]
    cases x with
    | int i => rfl
    | _ => cases h1
theorem all_ints (ns : List Int) : (ns.map D.int).all isInt = true := by
  rw [List.all_map, List.all_eq_true]
  intro _ _
  rfl
theorem cut_k2 (xs : List D) (k : Nat) : DL.cutD xs (some ((k : Nat) : Int)) (some (((k + 2 : Nat)) : Int)) = (xs.drop k).take 2 := by
  unfold DL.cutD
  rw [HT.sIx_nat, HT.sIx_nat]
  by_cases h : k + 2 ≤ xs.length
  · rw [show min k xs.length = k by omega, show min (k + 2) xs.length - k = 2 by omega]
  · by_cases h2 : k ≤ xs.length
    · rw [show min k xs.length = k by omega, show min (k + 2) xs.length - k = xs.length - k by omega, List.take_of_length_le (by rw [List.length_drop]; omega), List.take_of_length_le (by rw [List.length_drop]; omega)]
    · rw [show min k xs.length = xs.length by omega, List.drop_of_length_le (Nat.le_refl _), List.drop_of_length_le (by omega), List.take_nil, List.take_nil]
def pairAt (ns : List Int) (k : Nat) : Int × Int := ((ns[k]?).getD 0, (ns[k + 1]?).getD 0)
theorem cut_pair {ns : List Int} {k : Nat} (h : k + 1 < ns.length) : D.tup (DL.cutD (ns.map D.int) (some ((k : Nat) : Int)) (some ((k : Int) + 2))) = pD (pairAt ns k) := by
  rw [show ((k : Int) + 2) = ((k + 2 : Nat) : Int) by omega, cut_k2, ← List.map_drop, ← List.map_take]
  have e : (ns.drop k).take 2 = [ns[k], ns[k + 1]] := by
    rw [List.drop_eq_getElem_cons (by omega), List.drop_eq_getElem_cons h]
    rfl
  rw [e]
  unfold pairAt pD
  rw [List.getElem?_eq_getElem (by omega), List.getElem?_eq_getElem h]
  rfl
theorem mem_pairs {ns : List Int} {t : Int × Int} : t ∈ pairs ns ↔ ∃ k, k + 1 < ns.length ∧ t = pairAt ns k := by
  unfold pairs
  rw [List.mem_iff_getElem]
  constructor
  · rintro ⟨k, hk, rfl⟩
    rw [List.length_zip, List.length_drop] at hk
    refine ⟨k, by omega, ?_⟩
    rw [List.getElem_zip]
    unfold pairAt
    rw [List.getElem?_eq_getElem (by omega), List.getElem?_eq_getElem (by omega)]
    simp [Nat.add_comm]
  · rintro ⟨k, hk, rfl⟩
    refine ⟨k, by rw [List.length_zip, List.length_drop]; omega, ?_⟩
    rw [List.getElem_zip]
    unfold pairAt
    rw [List.getElem?_eq_getElem (by omega), List.getElem?_eq_getElem (by omega)]
    simp [Nat.add_comm]

def s__law_is_way : FS := fun _ ds Q => ∃ (h : Int) (ts : List (Int × Int)) (d : D), ds = [.int h, tiesD ts, d] ∧ 1 ≤ h ∧ h ≤ 6 ∧ Ties h ts ∧ okD d = true ∧ ∀ b : Bool, (b = true ↔ IsWay h ts d) → Q (.fz (.bl b))
def lw2 (s__law_are_integers s__law_reach : FS) : WS := wSeq (wIfS (wtOr (wtV (wOp oNe (wOp oIx (wVar 2) (wC (.int 0))) (wC (.str "two")))) (wtOr (wtV (wOp oNe (wFz (woCB oLen (waCons (wVar 2) (waNil)))) (wC (.int 3)))) (wtNot (wtV (wFz (woCall s__law_are_integers (waCons (wFz (woSl (wVar 2) (wpSome (wC (.int 1))) (wpNone))) (waNil)))))))) (wRet (woFz (wC (.bl false)))) (wNext)) (wSeq (wSetT (wgTup 2 (wgCons (wgName 3) (wgCons (wgName 4) (wgNil)))) (wvO (woSl (wVar 2) (wpSome (wC (.int 1))) (wpNone)))) (wSeq (wIfS (wtNot (wtV (wChain3 (oB0 fun i j => decide (i ≤ j)) (oB0 fun i j => decide (i < j)) (oB0 fun i j => decide (i < j)) (wC (.int 0)) (wVar 3) (wVar 4) (wVar 0)))) (wRet (woFz (wC (.bl false)))) (wNext)) (wSeq (wSet 5 (woCall s__law_reach (waCons (wVar 0) (waCons (wVar 1) (waNil))))) (wRet (woFz (wAnd (wOp oNotIn (wVar 4) (wOp oIx (wVar 5) (wVar 3))) (wOp oNotIn (wVar 3) (wOp oIx (wVar 5) (wVar 4)))))))))
section
variable {G : Gc} {Qd : SV → Prop} {h : Int} {ts : List (Int × Int)} {d : D}
abbrev lwρ (h : Int) (ts : List (Int × Int)) (d : D) : En := [some (.fz (.int h)), some (.fz (tiesD ts)), some (.fz d), none, none, none, none]
theorem oNe_str' {x y : Str} {Q : D → Prop} (hx : PyData.canLay0 (.str x) = true) (hy : PyData.canLay0 (.str y) = true) (q : Q (.bl (!(x == y)))) : oNe (.str x) (.str y) Q := oNe_str hx hy q
theorem lw2_two (h1 : 1 ≤ h) (h6 : h ≤ 6) (ht : Ties h ts) {r : List D} (hd : okD (.tup (.str "two" :: r)) = true) (q : ∀ b : Bool, (b = true ↔ IsWay h ts (.tup (.str "two" :: r))) → Qd (.fz (.bl b))) : lw2 s__law_are_integers s__law_reach G { nx := fun _ => Qd (.fz .non), rt := Qd } (lwρ h ts (.tup (.str "two" :: r))) := by
  obtain ⟨hl, hx⟩ := okD_tup hd
  have hr : okL r = true := okL_drop (xs := .str "two" :: r) 1 hx
  have no : ¬ IsWay h ts (.tup (.str "two" :: r)) → Qd (.fz (.bl false)) := fun n => q false ⟨(fun z => by cases z), fun z => absurd z n⟩
  refine ⟨.fz (.tup (.str "two" :: r)), rfl, 0, rfl, .inl ⟨_, .str "two", rfl, atI_0, ?_⟩⟩
  dsimp only [wC]
  refine oNe_str lay_two lay_two ⟨false, by rw [show (("two" : Str) == ("two" : Str)) = true by decide +kernel]; rfl, ?_⟩
  refine ⟨.fz (.tup (.str "two" :: r)), rfl, _, rfl, .inl ⟨_, rfl, ?_⟩⟩
  dsimp only [wC]
  refine oNe_int ⟨!decide (((.str "two" :: r : List D).length : Int) = 3), rfl, ?_⟩
  by_cases hl3 : r.length = 2
  · have e3 : (!decide (((.str "two" :: r : List D).length : Int) = 3)) = false := by simp [hl3]
    rw [e3]
    match r, hl3 with
    | [y1, y2], _ =>
      refine ⟨.fz (.tup [.str "two", y1, y2]), rfl, 1, rfl, .inr ⟨_, rfl, ?_⟩⟩
      have ec : DL.cutD [.str "two", y1, y2] (some 1) none = [y1, y2] := cut_1 _
      rw [ec]
      refine ⟨.tup [y1, y2], rfl, by unfold okD; simp; exact hr, areInts (.tup [y1, y2]), rfl, ?_⟩
      cases hb : areInts (.tup [y1, y2]) with
      | false =>
        refine no fun z => ?_
        rcases z with ⟨ns, e, _⟩ | ⟨i, j, e, _⟩
        · cases e
        · cases e; cases hb
      | true =>
        have ey : [y1, y2] = [.int (intOf y1), .int (intOf y2)] := allInts (xs := [y1, y2]) hb
        have ey1 : y1 = .int (intOf y1) := (List.cons.inj ey).1
        have ey2 : y2 = .int (intOf y2) := (List.cons.inj (List.cons.inj ey).2).1
        generalize intOf y1 = i at ey1
        generalize intOf y2 = j at ey2
        subst ey1 ey2
        refine ⟨.fz (.tup [.str "two", .int i, .int j]), rfl, 1, rfl, .inr ⟨_, rfl, ?_⟩⟩
        have ec : DL.cutD [.str "two", .int i, .int j] (some 1) none = [.int i, .int j] := cut_1 _
        rw [ec]
        refine ⟨_, rfl, rfl, _, _, rfl, ⟨by show 3 < 7; decide, _, _, rfl, ⟨by show 4 < 7; decide, rfl, ?_⟩⟩⟩
        have stop : ¬ (0 ≤ i ∧ i < j ∧ j < h) → Qd (.fz (.bl false)) := fun hn => no fun z => by
          rcases z with ⟨ns, e, _⟩ | ⟨i', j', e, a, b, c, _⟩
          · cases e
          · cases e; exact hn ⟨a, b, c⟩
        refine ⟨.fz (.int i), rfl, 0, i, rfl, rfl, decide (0 ≤ i), rfl, ?_⟩
        cases hi0 : decide (0 ≤ i) with
        | false => exact ⟨false, rfl, stop fun z => absurd z.1 (of_decide_eq_false hi0)⟩
        | true =>
        have hi0 := of_decide_eq_true hi0
        refine ⟨.fz (.int j), rfl, i, j, rfl, rfl, decide (i < j), rfl, ?_⟩
        cases hij : decide (i < j) with
        | false => exact ⟨false, rfl, stop fun z => absurd z.2.1 (of_decide_eq_false hij)⟩
        | true =>
        have hij := of_decide_eq_true hij
        refine ⟨.fz (.int h), rfl, j, h, rfl, rfl, decide (j < h), rfl, ?_⟩
        cases hjh : decide (j < h) with
        | false => exact stop fun z => absurd z.2.2 (of_decide_eq_false hjh)
        | true =>
        have hjh := of_decide_eq_true hjh
        have g := Good.reach ht
        have ei : ((i.toNat : Nat) : Int) = i := Int.toNat_of_nonneg hi0
        have ej : ((j.toNat : Nat) : Int) = j := Int.toNat_of_nonneg (by omega)
        have li : i.toNat < h.toNat := by omega
        have lj : j.toNat < h.toNat := by omega
        have ai := LD_at (L := reachL h.toNat ts) (a := i.toNat) (by rw [g.len]; exact li)
        have aj := LD_at (L := reachL h.toNat ts) (a := j.toNat) (by rw [g.len]; exact lj)
        have ri := reach_iff ht li j
        have rj := reach_iff ht lj i
        rw [ei] at ai ri
        rw [ej] at aj rj
        have iff : (¬ Rp1 ts i j ∧ ¬ Rp1 ts j i) ↔ IsWay h ts (.tup [.str "two", .int i, .int j]) := by
          rw [← rch_iff (ts := ts) (a := i) (b := j) (by omega), ← rch_iff (ts := ts) (a := j) (b := i) (by omega)]
          constructor
          · rintro ⟨b, c⟩
            exact .inr ⟨i, j, rfl, hi0, hij, hjh, b, c⟩
          · rintro (⟨ns, e, _⟩ | ⟨i', j', e, _, _, _, b, c⟩)
            · cases e
            · cases e; exact ⟨b, c⟩
        refine ⟨by show 5 < 7; decide, .fz (.int h), rfl, .fz (tiesD ts), rfl, h, ts, rfl, h1, h6, ht, ?_⟩
        dsimp only
        rw [put_fr (show frzAll _ = _ from rfl)]
        refine ⟨.fz (.int j), rfl, .ow (LD (reachL h.toNat ts)), rfl, .fz (.int i), rfl, i, rfl, .inl ⟨_, _, rfl, ai, ?_⟩⟩
        dsimp only [rowD]
        refine oNotIn_lstI ⟨!decide (j ∈ row (reachL h.toNat ts) i.toNat), rfl, ?_⟩
        cases hj1 : !decide (j ∈ row (reachL h.toNat ts) i.toNat) with
        | false =>
          have : Rp1 ts i j := ri.mp (by simpa using hj1)
          exact q false ⟨(fun z => by cases z), fun z => absurd this (iff.mpr z).1⟩
        | true =>
          have n1 : ¬ Rp1 ts i j := fun z => by have := ri.mpr z; simp [this] at hj1
          refine ⟨.fz (.int i), rfl, .ow (LD (reachL h.toNat ts)), rfl, .fz (.int j), rfl, j, rfl, .inl ⟨_, _, rfl, aj, ?_⟩⟩
          dsimp only [rowD]
          refine oNotIn_lstI (q _ ?_)
          rw [← iff, Bool.not_eq_true', decide_eq_false_iff_not, rj]
          exact ⟨fun z => ⟨n1, z⟩, fun z => z.2⟩
  · have e3 : (!decide (((.str "two" :: r : List D).length : Int) = 3)) = true := by
      rw [Bool.not_eq_true', decide_eq_false_iff_not, List.length_cons]
      omega
    rw [e3]
    refine no fun z => ?_
    rcases z with ⟨ns, e, _⟩ | ⟨i, j, e, _⟩
    · cases e
    · cases e; exact hl3 rfl
end
end K72
set_option maxHeartbeats 4000000
namespace K72
open PySem PySem.Spec PyProof.Rows L2 DL

theorem rg_len (h : Int) : (rg h).length = h.toNat := by unfold rg; rw [List.length_map, List.length_range]
theorem p__law_is_way : Keeps P__law_is_way N__law_is_way s__law_is_way (w__law_is_way s__law_are_integers s__law_reach) := fun G ds Qd hh => by
  obtain ⟨h, ts, d, rfl, h1, h6, ht, hd, q⟩ := hh
  have no : ¬ IsWay h ts d → Qd (.fz (.bl false)) := fun n => q false ⟨(fun z => by cases z), fun z => absurd z n⟩
  refine ⟨rfl, .fz d, rfl, okD_ob hd, isD "tuple" d, rfl, ?_⟩
  have hnt : (∀ xs, d ≠ .tup xs) → Qd (.fz (.bl false)) := fun n => no fun z => by
    rcases z with ⟨ns, e, _⟩ | ⟨i, j, e, _⟩
    · exact n _ e
    · exact n _ e
  cases d with
  | tup xs =>
    obtain ⟨hl, hx⟩ := okD_tup hd
    cases xs with
    | nil =>
      refine ⟨.fz (.tup []), rfl, by show 0 ≤ sizeLine; decide, [], rfl, rfl, true, rfl, no fun z => ?_⟩
      rcases z with ⟨ns, e, _⟩ | ⟨i, j, e, _⟩
      · cases e
      · cases e
    | cons x r =>
      have ho := okL_mem hx x List.mem_cons_self
      refine ⟨.fz (.tup (x :: r)), rfl, by show 0 ≤ sizeLine; decide, x :: r, rfl, rfl, false, rfl, ?_⟩
      refine ⟨.fz (.tup (x :: r)), rfl, 0, rfl, .inl ⟨x :: r, x, rfl, atI_0, okD_ob ho, isD "str" x, rfl, ?_⟩⟩
      have hns : (∀ z, x ≠ .str z) → Qd (.fz (.bl false)) := fun n => no fun z => by
        rcases z with ⟨ns, e, _⟩ | ⟨i, j, e, _⟩
        · exact n _ (List.cons.inj (D.tup.inj e)).1
        · exact n _ (List.cons.inj (D.tup.inj e)).1
      cases x with
      | str z =>
        refine ⟨.fz (.tup (.str z :: r)), rfl, 0, rfl, .inl ⟨_, .str z, rfl, atI_0, ?_⟩⟩
        dsimp only [wC]
        refine oEq_str ho lay_way ⟨z == "way", rfl, ?_⟩
        by_cases hz : z = "way"
        · subst hz
          rw [show (("way" : Str) == ("way" : Str)) = true by decide +kernel]
          refine ⟨.fz (.tup (.str "way" :: r)), rfl, _, rfl, .inl ⟨_, rfl, ?_⟩⟩
          dsimp only [wC]
          refine oNe_int ⟨!decide (((.str "way" :: r : List D).length : Int) = 2), rfl, ?_⟩
          by_cases hl2 : r.length = 1
          · have e2 : (!decide (((.str "way" :: r : List D).length : Int) = 2)) = false := by simp [hl2]
            rw [e2]
            match r, hl2 with
            | [y], _ =>
              have hy : okD y = true := okL_mem hx y (List.mem_cons_of_mem _ List.mem_cons_self)
              refine ⟨.fz (.tup [.str "way", y]), rfl, 1, rfl, .inl ⟨_, y, rfl, atI_1, y, rfl, hy, areInts y, rfl, ?_⟩⟩
              cases hb : areInts y with
              | false =>
                refine no fun z => ?_
                rcases z with ⟨ns, e, _⟩ | ⟨i, j, e, _⟩
                · have ey : y = .tup (ns.map .int) := (List.cons.inj (List.cons.inj (D.tup.inj e)).2).1
                  subst ey
                  rw [show areInts (.tup (ns.map .int)) = true from all_ints ns] at hb
                  cases hb
                · cases e
              | true =>
                obtain ⟨ns, rfl⟩ : ∃ ns : List Int, y = .tup (ns.map .int) := by
                  match y, hb with
                  | .tup ys, hb => exact ⟨ys.map intOf, congrArg D.tup (allInts hb)⟩
                refine ⟨.fz (.tup [.str "way", .tup (ns.map .int)]), rfl, 1, rfl, .inl ⟨_, .tup (ns.map .int), rfl, atI_1, ?_⟩⟩
                dsimp only [waNil]
                refine oSorted_ints (x := .tup (ns.map .int)) (ns := ns) rfl fun ms hp ha => ?_
                refine ⟨.fz (.int h), rfl, h, rfl, by omega, by omega, ?_⟩
                rw [rangeD_rg]
                refine oNe_lstI ⟨!decide (ms = rg h), rfl, ?_⟩
                by_cases hms : ms = rg h
                · rw [decide_eq_true hms]
                  have hpr : ns.Perm (rg h) := by rw [← hms]; exact hp.symm
                  have hn : (ns.length : Int) = h := by
                    have := hpr.length_eq
                    rw [rg_len] at this
                    omega
                  refine ⟨.fz (.int h), rfl, h, 1, rfl, rfl, h - 1, rfl, by omega, by omega, ?_⟩
                  rw [rangeD_rg]
                  refine wcL_fm (fun d => match d with | .int k => !decide (pairAt ns k.toNat ∈ ts) | _ => false) (fun _ => .int 1) _ [] _ (fun d hm G' _ Qy Qn hY hN => ?_) (by rw [List.length_nil, List.length_map, rg_len, sizeLine_eq]; omega) ?_
                  · obtain ⟨k, hk, rfl⟩ := List.mem_map.mp hm
                    have hk := mem_rg.mp hk
                    have ek : ((k.toNat : Nat) : Int) = k := Int.toNat_of_nonneg hk.1
                    have hc := cut_pair (ns := ns) (k := k.toNat) (by omega)
                    rw [ek] at hc
                    refine ⟨by show 6 < 7; decide, .fz (.tup [.str "way", .tup (ns.map .int)]), rfl, 1, rfl, .inl ⟨_, .tup (ns.map .int), rfl, atI_1, .fz (.int k), rfl, k, rfl, .fz (.int k), rfl, .inl ⟨k, 2, rfl, rfl, k + 2, rfl, .inr ⟨_, rfl, ?_⟩⟩⟩⟩
                    dsimp only
                    rw [hc]
                    refine ⟨.fz (tiesD ts), rfl, oNotIn_pairs ⟨!decide (pairAt ns k.toNat ∈ ts), rfl, ?_⟩⟩
                    cases hcc : !decide (pairAt ns k.toNat ∈ ts) with
                    | true => exact hY hcc
                    | false => exact hN hcc
                  · rw [List.nil_append, ints_ones]
                    refine ⟨by show 0 ≤ sizeLine; decide, ?_⟩
                    refine oEq_lstI (b := []) (q _ ?_)
                    rw [decide_eq_true_iff, List.map_eq_nil_iff, List.filter_eq_nil_iff]
                    constructor
                    · intro z
                      refine .inl ⟨ns, rfl, hpr, fun t htm => ?_⟩
                      obtain ⟨k, hk, rfl⟩ := mem_pairs.mp htm
                      have := z (.int (k : Nat)) (List.mem_map.mpr ⟨(k : Nat), mem_rg.mpr (by omega), rfl⟩)
                      simpa using this
                    · rintro (⟨ms', e, _, z⟩ | ⟨i, j, e, _⟩)
                      · have em := ints_inj (D.tup.inj (List.cons.inj (List.cons.inj (D.tup.inj e)).2).1)
                        subst em
                        intro d hdm
                        obtain ⟨k, hk, rfl⟩ := List.mem_map.mp hdm
                        have hk := mem_rg.mp hk
                        have := z (pairAt ns k.toNat) (mem_pairs.mpr ⟨k.toNat, by omega, rfl⟩)
                        simp [this]
                      · cases e
                · rw [decide_eq_false hms]
                  refine no fun z => ?_
                  rcases z with ⟨ns', e, hp', _⟩ | ⟨i, j, e, _⟩
                  · have em := ints_inj (D.tup.inj (List.cons.inj (List.cons.inj (D.tup.inj e)).2).1)
                    subst em
                    exact hms (sorted_perm ha (rg_asc h) (hp.trans hp'))
                  · cases e
          · have e2 : (!decide (((.str "way" :: r : List D).length : Int) = 2)) = true := by
              rw [Bool.not_eq_true', decide_eq_false_iff_not, List.length_cons]
              omega
            rw [e2]
            refine no fun z => ?_
            rcases z with ⟨ns, e, _⟩ | ⟨i, j, e, _⟩
            · cases e; exact hl2 rfl
            · cases e
        · rw [word_ne hz]
          by_cases h2 : z = "two"
          · subst h2
            exact lw2_two h1 h6 ht hd q
          · refine ⟨.fz (.tup (.str z :: r)), rfl, 0, rfl, .inl ⟨_, .str z, rfl, atI_0, ?_⟩⟩
            dsimp only [wC]
            refine oNe_str ho lay_two ⟨true, by rw [word_ne h2]; rfl, no fun w => ?_⟩
            rcases w with ⟨ns, e, _⟩ | ⟨i, j, e, _⟩
            · cases e; exact hz rfl
            · cases e; exact h2 rfl
      | _ => exact hns (fun _ e => by cases e)
  | _ => exact hnt (fun _ e => by cases e)
end K72
set_option maxHeartbeats 4000000
namespace K72
open PySem PySem.Spec PyProof.Rows L2 DL

def s__law_pick : FS := fun G ds Q => ∃ (da : Addr) (xs : List D), ds = [.ob da, .lst xs] ∧ IsDeck G da ∧ xs ≠ [] ∧ xs.length < 1073741824 ∧ ∀ x ∈ xs, Q (.fz x)
theorem p__law_pick : Keeps P__law_pick N__law_pick s__law_pick (w__law_pick s_draw) := fun G ds Qd hh => by
  obtain ⟨da, xs, rfl, dk, hne, hl, q⟩ := hh
  have hp := List.length_pos_iff.mpr hne
  refine ⟨rfl, .fz (.lst xs), rfl, .fz (.ob da), rfl, .fz (.lst xs), rfl, _, rfl, .inl ⟨xs, rfl, ?_⟩⟩
  refine ⟨da, (xs.length : Int), rfl, dk, by omega, by omega, fun k h0 h1 => ?_⟩
  have ek : ((k.toNat : Nat) : Int) = k := Int.toNat_of_nonneg h0
  have hk : k.toNat < xs.length := by omega
  have ha := atI_nat (List.getElem?_eq_getElem hk)
  rw [ek] at ha
  exact ⟨k, rfl, .inl ⟨xs, _, rfl, ha, q _ (List.getElem_mem hk)⟩⟩
theorem erase_map {α β : Type} (f : α → β) : ∀ (l : List α) (i : Nat), (l.map f).eraseIdx i = (l.eraseIdx i).map f
  | [], _ => rfl
  | x :: l, 0 => rfl
  | x :: l, i + 1 => congrArg (f x :: ·) (erase_map f l i)
theorem take_perm : ∀ (l : List Int) (i : Nat) (h : i < l.length), (l[i] :: l.eraseIdx i).Perm l
  | x :: l, 0, _ => .refl _
  | x :: l, i + 1, h => (List.Perm.swap x _ _).trans ((take_perm l i (by simpa using h)).cons x)
def s__law_order : FS := fun G ds Q => ∃ (da : Addr) (h : Int), ds = [.ob da, .int h] ∧ IsDeck G da ∧ 1 ≤ h ∧ h ≤ 6 ∧ ∀ ns : List Int, ns.Perm (rg h) → Q (.fz (.tup (ns.map .int)))
theorem p__law_order : Keeps P__law_order N__law_order s__law_order (w__law_order s_draw) := fun G ds Qd hh => by
  obtain ⟨da, h, rfl, dk, h1, h6, q⟩ := hh
  have loop : ∀ (l : List D) (left found : List Int) (y : Option SV), left.length = l.length → (left ++ found).Perm (rg h) → wForL (wgName 4) (wApp 3 (wvPopAt 2 (wFz (woCall s_draw (waCons (wVar 0) (waCons (wFz (woCB oLen (waCons (wVar 2) (waNil)))) (waNil))))))) G { nx := fun ρ' => wRet (woCB oTuple (waCons (wVar 3) (waNil))) G { nx := fun _ => Qd (.fz .non), rt := Qd } ρ', rt := Qd } l [some (.fz (.ob da)), some (.fz (.int h)), some (.ow (left.map .int)), some (.ow (found.map .int)), y] := fun l => by
    induction l with
    | nil =>
      intro left found y hl hp
      have : left = [] := List.length_eq_zero_iff.mp hl
      subst this
      exact ⟨.ow (found.map .int), rfl, .lst (found.map .int), found.map .int, rfl, rfl, q found hp⟩
    | cons d l ih =>
      intro left found y hl hp
      have hlen := hp.length_eq
      rw [List.length_append, rg_len] at hlen
      rw [List.length_cons] at hl
      refine ⟨by show 4 < 5; decide, ⟨_, rfl⟩, ⟨_, rfl⟩, .fz (.ob da), rfl, .ow (left.map .int), rfl, _, rfl, .inl ⟨left.map .int, rfl, ?_⟩⟩
      refine ⟨da, ((left.map D.int).length : Int), rfl, dk, by rw [List.length_map]; omega, by rw [List.length_map]; omega, fun k h0 hk => ?_⟩
      rw [List.length_map] at hk
      have hk2 : k.toNat < left.length := by omega
      have e2 : (left.map D.int)[k.toNat]? = some (.int left[k.toNat]) := by rw [List.getElem?_map, List.getElem?_eq_getElem hk2]; rfl
      refine ⟨k, k.toNat, left.map .int, .int left[k.toNat], rfl, rfl, by omega, by omega, ?_, e2, ?_⟩
      · rw [List.length_map]
        unfold seqIndex?
        simp only [if_neg (show ¬ k < 0 by omega)]
        rw [if_pos (by rw [Bool.and_eq_true, decide_eq_true_iff, decide_eq_true_iff]; omega)]
      · refine ⟨found.map .int, rfl, by rw [List.length_map, sizeLine_eq]; omega, ?_⟩
        have := ih (left.eraseIdx k.toNat) (found ++ [left[k.toNat]]) (some (.fz d)) (by rw [List.length_eraseIdx_of_lt hk2]; omega) (by
          refine List.Perm.trans ?_ hp
          have h1 := (take_perm left k.toNat hk2).append_right found
          refine List.Perm.trans ?_ h1
          rw [← List.append_assoc]
          refine List.perm_append_comm.trans ?_
          rfl)
        rw [List.map_append, ← erase_map] at this
        exact this
  have e : put2 (startD N__law_order [D.ob da, D.int h]) 2 (.ow ((rg h).map D.int)) 3 (.ow []) = _ := put2_imm (imm_ints (rg h)) rfl
  refine ⟨rfl, by show 2 < 5; decide, by show 3 < 5; decide, .fz (.int h), rfl, h, rfl, by omega, by omega, fun G' hG => ⟨by show 0 ≤ sizeLine; decide, ?_⟩⟩
  rw [rangeD_rg]
  dsimp only
  rw [e]
  refine ⟨.fz (.int h), rfl, h, rfl, by omega, by omega, ?_⟩
  exact loop _ (rg h) [] none (by rw [rangeD_rg, List.length_map]) (by rw [List.append_nil])
end K72
set_option maxHeartbeats 4000000
namespace K72
open PySem PySem.Spec PyProof.Rows L2 DL

def kP (t : Int × Int) : List Key := [.inl t.1, .inl t.2]
def okP (h : Int) (t : Int × Int) : Prop := 0 ≤ t.1 ∧ t.1 < h ∧ 0 ≤ t.2 ∧ t.2 < h ∧ t.1 ≠ t.2
def TK (h : Int) (kds : List (List Key × D)) (n : Nat) : Prop := ∃ ts : List (Int × Int), kds.map (·.1) = ts.map kP ∧ ts.Nodup ∧ (∀ t ∈ ts, okP h t) ∧ ts.length ≤ n
theorem kP_inj {t u : Int × Int} (e : kP t = kP u) : t = u := by
  obtain ⟨a, b⟩ := t
  obtain ⟨c, d⟩ := u
  cases e
  rfl
theorem TK.put {h : Int} {kds : List (List Key × D)} {n : Nat} (k : TK h kds n) {t : Int × Int} (ht : okP h t) (d : D) : TK h (putD kds (kP t) d) (n + 1) := by
  obtain ⟨ts, e, hn, hm, hl⟩ := k
  unfold putD
  by_cases c : (kds.any fun kv => decide (kv.1 = kP t)) = true
  · rw [if_pos c]
    refine ⟨ts, ?_, hn, hm, by omega⟩
    rw [← e, List.map_map]
    refine List.map_congr_left fun kv _ => ?_
    show (if kv.1 = kP t then (kv.1, d) else kv).1 = kv.1
    split <;> rfl
  · rw [if_neg c]
    refine ⟨ts ++ [t], by rw [List.map_append, e, List.map_append]; rfl, ?_, fun u hu => ?_, by rw [List.length_append, List.length_singleton]; omega⟩
    · rw [List.nodup_append]
      refine ⟨hn, List.pairwise_singleton _ _, fun a ha b hb eab => ?_⟩
      have hb := List.mem_singleton.mp hb
      subst eab hb
      apply c
      have : kP a ∈ kds.map (·.1) := by rw [e]; exact List.mem_map.mpr ⟨a, ha, rfl⟩
      obtain ⟨kv, hkv, ek⟩ := List.mem_map.mp this
      exact List.any_eq_true.mpr ⟨kv, hkv, decide_eq_true ek⟩
    · rcases List.mem_append.mp hu with hu | hu
      · exact hm u hu
      · rw [List.mem_singleton.mp hu]; exact ht
theorem TK.len {h : Int} {kds : List (List Key × D)} {n : Nat} (k : TK h kds n) : kds.length ≤ n := by
  obtain ⟨ts, e, _, _, hl⟩ := k
  have := congrArg List.length e
  rw [List.length_map, List.length_map] at this
  omega
theorem TK.mono {h : Int} {kds : List (List Key × D)} {n m : Nat} (k : TK h kds n) (hm : n ≤ m) : TK h kds m := by
  obtain ⟨ts, e, a, b, hl⟩ := k
  exact ⟨ts, e, a, b, by omega⟩
def nth (ns : List Int) (i : Int) : Int := (ns[i.toNat]?).getD 0
theorem nth_at {ns : List Int} {h : Int} (hp : ns.Perm (rg h)) {i : Int} (h0 : 0 ≤ i) (h1 : i < h) : atI (ns.map D.int) i = some (.int (nth ns i)) ∧ 0 ≤ nth ns i ∧ nth ns i < h := by
  have hl := hp.length_eq
  rw [rg_len] at hl
  have hi : i.toNat < ns.length := by omega
  have e : ((i.toNat : Nat) : Int) = i := Int.toNat_of_nonneg h0
  have ha : (ns.map D.int)[i.toNat]? = some (.int (nth ns i)) := by
    unfold nth
    rw [List.getElem?_map, List.getElem?_eq_getElem hi]
    rfl
  have := atI_nat ha
  rw [e] at this
  refine ⟨this, ?_⟩
  have hm : nth ns i ∈ ns := by
    unfold nth
    rw [List.getElem?_eq_getElem hi]
    exact List.getElem_mem hi
  exact mem_rg.mp (hp.mem_iff.mp hm)
theorem rg_nodup (h : Int) : (rg h).Nodup := by
  unfold rg
  rw [List.Nodup, List.pairwise_map]
  exact (List.pairwise_lt_range).imp fun h => by omega
theorem nth_ne {ns : List Int} {h : Int} (hp : ns.Perm (rg h)) {i j : Int} (h0 : 0 ≤ i) (h1 : i < j) (h2 : j < h) : nth ns i ≠ nth ns j := by
  have hl := hp.length_eq
  rw [rg_len] at hl
  have hn : ns.Nodup := hp.nodup_iff.mpr (rg_nodup h)
  unfold nth
  rw [List.getElem?_eq_getElem (by omega), List.getElem?_eq_getElem (by omega)]
  exact (List.pairwise_iff_getElem.mp hn) i.toNat j.toNat (by omega) (by omega) (by omega)
def s__law_ties : FS := fun G ds Q => ∃ (da : Addr) (h : Int), ds = [.ob da, .int h] ∧ IsDeck G da ∧ 1 ≤ h ∧ h ≤ 6 ∧ ∀ ts, Ties h ts → Q (.fz (tiesD ts))
abbrev tρ (da : Addr) (h : Int) (ns : List Int) (kds : List (List Key × D)) (g : Int) (y5 y6 y7 : Option SV) : En := [some (.fz (.ob da)), some (.fz (.int h)), some (.fz (.tup (ns.map .int))), some (.od kds), some (.fz (.int g)), y5, y6, y7]
section
variable {G : Gc} {E : EndsD} {da : Addr} {h g : Int} {ns : List Int}
theorem t_ret {Qd : SV → Prop} (q : ∀ ts, Ties h ts → Qd (.fz (tiesD ts))) (kds : List (List Key × D)) (k : TK h kds 20) (y5 y6 y7 : Option SV) (hE : E.rt = Qd) : wRet (woCB oTuple (waCons (wFz (woCB oSorted (waCons (wFz (woListD 3)) (waNil)))) (waNil))) G E (tρ da h ns kds g y5 y6 y7) := by
  obtain ⟨ts, e, hn, hm, hl⟩ := k
  have ek : (kds.map fun kv => keyT kv.1) = ts.map pD := by
    have := congrArg (List.map keyT) e
    rw [List.map_map, List.map_map] at this
    exact this
  refine ⟨kds, rfl, ?_⟩
  dsimp only [waNil]
  refine oSorted_pairs (x := .lst (kds.map fun kv => keyT kv.1)) (ts := ts) (congrArg some ek) fun us hp ha => ?_
  refine ⟨.lst (us.map pD), us.map pD, rfl, rfl, ?_⟩
  rw [hE]
  refine q us ⟨by rw [hp.length_eq]; omega, ?_, fun t ht => hm t (hp.mem_iff.mp ht)⟩
  have hu : us.Nodup := hp.nodup_iff.mpr hn
  refine (ha.and hu).imp fun {a b} ⟨h1, h2⟩ => ?_
  rcases h1 with h1 | ⟨h1, h3⟩
  · exact .inl h1
  · refine .inr ⟨h1, ?_⟩
    have : a.2 ≠ b.2 := fun z => h2 (Prod.ext h1 z)
    omega

def tb1 : WS := wIfS (wtOr (wtV (wOp (oB0 fun i j => decide (i < j)) (wVar 4) (wC (.int 2)))) (wtV (wOp (oB0 fun i j => decide (j < i)) (wFz (woCall s_draw (waCons (wVar 0) (waCons (wC (.int 3)) (waNil))))) (wC (.int 0))))) (wStoreT 3 (waCons (wOp oIx (wVar 2) (wVar 5)) (waCons (wOp oIx (wVar 2) (wFz (wOpO oAdd (wVar 5) (wC (.int 1))))) (waNil))) (wvO (woFz (wC (.bl true))))) (wNext)
def tb2 : WS := wSeq (wSet 7 (woCall s_draw (waCons (wVar 0) (waCons (wOp (oI0 fun i j => i - j) (wVar 1) (wC (.int 1))) (waNil))))) (wStoreT 3 (waCons (wOp oIx (wVar 2) (wVar 7)) (waCons (wOp oIx (wVar 2) (wFz (wOpO oAdd (wFz (wOpO oAdd (wVar 7) (wC (.int 1)))) (wFz (woCall s_draw (waCons (wVar 0) (waCons (wOp (oI0 fun i j => i - j) (wOp (oI0 fun i j => i - j) (wVar 1) (wC (.int 1))) (wVar 7)) (waNil)))))))) (waNil))) (wvO (woFz (wC (.bl true)))))
def tb3 : WS := wIfS (wtAnd (wtV (wOp (oB0 fun i j => decide (j < i)) (wVar 1) (wC (.int 1)))) (wtAnd (wtV (wOp oEq (wVar 4) (wC (.int 1)))) (wtV (wOp oEq (wFz (woCall s_draw (waCons (wVar 0) (waCons (wC (.int 2)) (waNil))))) (wC (.int 0)))))) (wSeq (wSet 7 (woCall s_draw (waCons (wVar 0) (waCons (wOp (oI0 fun i j => i - j) (wVar 1) (wC (.int 1))) (waNil))))) (wStoreT 3 (waCons (wOp oIx (wVar 2) (wFz (wOpO oAdd (wFz (wOpO oAdd (wVar 7) (wC (.int 1)))) (wFz (woCall s_draw (waCons (wVar 0) (waCons (wOp (oI0 fun i j => i - j) (wOp (oI0 fun i j => i - j) (wVar 1) (wC (.int 1))) (wVar 7)) (waNil)))))))) (waCons (wOp oIx (wVar 2) (wVar 7)) (waNil))) (wvO (woFz (wC (.bl true)))))) (wNext)
theorem TK.small {h : Int} {kds : List (List Key × D)} {n : Nat} (k : TK h kds n) (hn : n ≤ 20) : kds.length < sizeLine := by
  have := k.len
  rw [sizeLine_eq]
  omega
theorem t_l1 (dk : IsDeck G da) (hp : ns.Perm (rg h)) {y6 y7 : Option SV} : ∀ (l : List Int) (kds : List (List Key × D)) (n : Nat) (y5 : Option SV), (∀ i ∈ l, 0 ≤ i ∧ i < h - 1) → TK h kds n → n + l.length ≤ 20 → (∀ kds' y5', TK h kds' (n + l.length) → E.nx (tρ da h ns kds' g y5' y6 y7)) → wForL (wgName 5) tb1 G E (l.map D.int) (tρ da h ns kds g y5 y6 y7)
  | [], kds, n, y5, _, k, _, q => q kds y5 k
  | i :: l, kds, n, y5, hl, k, hn, q => by
    have hi := hl i List.mem_cons_self
    rw [List.length_cons] at hn
    have q' : ∀ kds' y5', TK h kds' (n + 1 + l.length) → E.nx (tρ da h ns kds' g y5' y6 y7) := fun kds' y5' k' => q kds' y5' (by rw [List.length_cons, show n + (l.length + 1) = n + 1 + l.length by omega]; exact k')
    have a1 := nth_at hp hi.1 (by omega : i < h)
    have a2 := nth_at hp (by omega : 0 ≤ i + 1) (by omega : i + 1 < h)
    have kn : TK h (putD kds (kP (nth ns i, nth ns (i + 1))) (.bl true)) (n + 1) := k.put ⟨a1.2.1, a1.2.2, a2.2.1, a2.2.2, nth_ne hp hi.1 (by omega) (by omega)⟩ _
    have yes := t_l1 dk hp (y6 := y6) (y7 := y7) l _ (n + 1) (some (.fz (.int i))) (fun j hj => hl j (List.mem_cons_of_mem _ hj)) kn (by omega) q'
    have nay := t_l1 dk hp (y6 := y6) (y7 := y7) l kds (n + 1) (some (.fz (.int i))) (fun j hj => hl j (List.mem_cons_of_mem _ hj)) (k.mono (by omega)) (by omega) q'
    refine ⟨by show 5 < 8; decide, .fz (.int g), rfl, g, 2, rfl, rfl, decide (g < 2), rfl, ?_⟩
    cases decide (g < 2) with
    | true => exact ⟨⟨kds, rfl⟩, .fz (.tup (ns.map .int)), rfl, .fz (.int i), rfl, i, rfl, .inl ⟨_, _, rfl, a1.1, .fz (.tup (ns.map .int)), rfl, .fz (.int i), rfl, .inl ⟨i, 1, rfl, rfl, i + 1, rfl, .inl ⟨_, _, rfl, a2.1, kP (nth ns i, nth ns (i + 1)), kds, rfl, by show 2 ≤ sizeLine; decide, rfl, k.small (by omega), yes⟩⟩⟩⟩
    | false =>
      refine ⟨.fz (.ob da), rfl, da, 3, rfl, dk, by decide, by decide, fun z _ _ => ⟨z, 0, rfl, rfl, decide (0 < z), rfl, ?_⟩⟩
      cases decide (0 < z) with
      | true => exact ⟨⟨kds, rfl⟩, .fz (.tup (ns.map .int)), rfl, .fz (.int i), rfl, i, rfl, .inl ⟨_, _, rfl, a1.1, .fz (.tup (ns.map .int)), rfl, .fz (.int i), rfl, .inl ⟨i, 1, rfl, rfl, i + 1, rfl, .inl ⟨_, _, rfl, a2.1, kP (nth ns i, nth ns (i + 1)), kds, rfl, by show 2 ≤ sizeLine; decide, rfl, k.small (by omega), yes⟩⟩⟩⟩
      | false => exact nay
theorem t_l2 (dk : IsDeck G da) (hp : ns.Perm (rg h)) (h1 : 1 < h) (h6 : h ≤ 6) {y5 : Option SV} : ∀ (l : List D) (kds : List (List Key × D)) (n : Nat) (y6 y7 : Option SV), TK h kds n → n + l.length ≤ 20 → (∀ kds' y6' y7', TK h kds' (n + l.length) → E.nx (tρ da h ns kds' g y5 y6' y7')) → wForL (wgName 6) tb2 G E l (tρ da h ns kds g y5 y6 y7)
  | [], kds, n, y6, y7, k, _, q => q kds y6 y7 k
  | d :: l, kds, n, y6, y7, k, hn, q => by
    rw [List.length_cons] at hn
    have q' : ∀ kds' y6' y7', TK h kds' (n + 1 + l.length) → E.nx (tρ da h ns kds' g y5 y6' y7') := fun kds' y6' y7' k' => q kds' y6' y7' (by rw [List.length_cons, show n + (l.length + 1) = n + 1 + l.length by omega]; exact k')
    refine ⟨by show 6 < 8; decide, by show 7 < 8; decide, .fz (.ob da), rfl, .fz (.int h), rfl, h, 1, rfl, rfl, da, h - 1, rfl, dk, by omega, by omega, fun i i0 i1 => ?_⟩
    have a1 := nth_at hp i0 (by omega : i < h)
    refine ⟨⟨kds, rfl⟩, .fz (.tup (ns.map .int)), rfl, .fz (.int i), rfl, i, rfl, .inl ⟨_, _, rfl, a1.1, .fz (.tup (ns.map .int)), rfl, .fz (.int i), rfl, .inl ⟨i, 1, rfl, rfl, .fz (.ob da), rfl, .fz (.int h), rfl, h, 1, rfl, rfl, .fz (.int i), rfl, h - 1, i, rfl, rfl, da, h - 1 - i, rfl, dk, by omega, by omega, fun j j0 j1 => ?_⟩⟩⟩
    have a2 := nth_at hp (by omega : 0 ≤ i + 1 + j) (by omega : i + 1 + j < h)
    have kn : TK h (putD kds (kP (nth ns i, nth ns (i + 1 + j))) (.bl true)) (n + 1) := k.put ⟨a1.2.1, a1.2.2, a2.2.1, a2.2.2, nth_ne hp i0 (by omega) (by omega)⟩ _
    exact .inl ⟨i + 1, j, rfl, rfl, i + 1 + j, rfl, .inl ⟨_, _, rfl, a2.1, kP (nth ns i, nth ns (i + 1 + j)), kds, rfl, by show 2 ≤ sizeLine; decide, rfl, k.small (by omega), t_l2 dk hp h1 h6 l _ (n + 1) _ _ kn (by omega) q'⟩⟩
theorem t_3 (dk : IsDeck G da) (hp : ns.Perm (rg h)) (h6 : h ≤ 6) {y5 y6 y7 : Option SV} {kds : List (List Key × D)} {n : Nat} (k : TK h kds n) (hn : n ≤ 19) (q : ∀ kds' y7', TK h kds' (n + 1) → E.nx (tρ da h ns kds' g y5 y6 y7')) : tb3 G E (tρ da h ns kds g y5 y6 y7) := by
  refine ⟨.fz (.int h), rfl, h, 1, rfl, rfl, decide (1 < h), rfl, ?_⟩
  cases hh : decide (1 < h) with
  | false => exact q kds y7 (k.mono (by omega))
  | true =>
  have hh := of_decide_eq_true hh
  refine ⟨.fz (.int g), rfl, ?_⟩
  dsimp only [wC]
  refine oEq_int ⟨decide (g = 1), rfl, ?_⟩
  cases decide (g = 1) with
  | false => exact q kds y7 (k.mono (by omega))
  | true =>
  refine ⟨.fz (.ob da), rfl, da, 2, rfl, dk, by decide, by decide, fun z _ _ => ?_⟩
  dsimp only [wC]
  refine oEq_int ⟨decide (z = 0), rfl, ?_⟩
  cases decide (z = 0) with
  | false => exact q kds y7 (k.mono (by omega))
  | true =>
  refine ⟨by show 7 < 8; decide, .fz (.ob da), rfl, .fz (.int h), rfl, h, 1, rfl, rfl, da, h - 1, rfl, dk, by omega, by omega, fun i i0 i1 => ?_⟩
  have a1 := nth_at hp i0 (by omega : i < h)
  refine ⟨⟨kds, rfl⟩, .fz (.tup (ns.map .int)), rfl, .fz (.int i), rfl, .inl ⟨i, 1, rfl, rfl, .fz (.ob da), rfl, .fz (.int h), rfl, h, 1, rfl, rfl, .fz (.int i), rfl, h - 1, i, rfl, rfl, da, h - 1 - i, rfl, dk, by omega, by omega, fun j j0 j1 => ?_⟩⟩
  have a2 := nth_at hp (by omega : 0 ≤ i + 1 + j) (by omega : i + 1 + j < h)
  have kn : TK h (putD kds (kP (nth ns (i + 1 + j), nth ns i)) (.bl true)) (n + 1) := k.put ⟨a2.2.1, a2.2.2, a1.2.1, a1.2.2, Ne.symm (nth_ne hp i0 (by omega) (by omega))⟩ _
  exact .inl ⟨i + 1, j, rfl, rfl, i + 1 + j, rfl, .inl ⟨_, _, rfl, a2.1, .fz (.tup (ns.map .int)), rfl, .fz (.int i), rfl, i, rfl, .inl ⟨_, _, rfl, a1.1, kP (nth ns (i + 1 + j), nth ns i), kds, rfl, by show 2 ≤ sizeLine; decide, rfl, k.small (by omega), q _ _ kn⟩⟩⟩
end
theorem p__law_ties : Keeps P__law_ties N__law_ties s__law_ties (w__law_ties s__law_order s_draw) := fun G ds Qd hh => by
  obtain ⟨da, h, rfl, dk, h1, h6, q⟩ := hh
  refine ⟨rfl, by show 2 < 8; decide, by show 3 < 8; decide, by show 4 < 8; decide, .fz (.ob da), rfl, .fz (.int h), rfl, da, h, rfl, dk, h1, h6, fun ns hp G' hG G2 hG2 => ⟨.fz (.ob da), rfl, da, 3, rfl, (dk.ext hG).ext hG2, by decide, by decide, fun g g0 g3 => ?_⟩⟩
  have e : put3 (startD N__law_ties [D.ob da, D.int h]) 2 (.fz (.tup (ns.map .int))) 3 (.od []) 4 (.fz (.int g)) = tρ da h ns [] g none none none := by
    unfold DL.put3
    rw [show immS (.fz (.tup (ns.map D.int))) = true from immL_ints ns]
    rfl
  dsimp only
  rw [e]
  refine ⟨.fz (.int h), rfl, h, 1, rfl, rfl, h - 1, rfl, by omega, by omega, ?_⟩
  rw [rangeD_rg]
  have hlen : (rg (h - 1)).length ≤ 5 := by rw [rg_len]; omega
  refine t_l1 dk hp (rg (h - 1)) [] 0 none (fun i hi => mem_rg.mp hi) ⟨[], rfl, List.nodup_nil, (fun t ht => by cases ht), Nat.le_refl _⟩ (by omega) fun kds1 y5 k1 => ?_
  have k1 := k1.mono (show 0 + (rg (h - 1)).length ≤ 5 by omega)
  have fin : ∀ kds2 y6 y7, TK h kds2 10 → wSeq tb3 (wRet (woCB oTuple (waCons (wFz (woCB oSorted (waCons (wFz (woListD 3)) (waNil)))) (waNil)))) G { nx := fun _ => Qd (.fz .non), rt := Qd } (tρ da h ns kds2 g y5 y6 y7) := fun kds2 y6 y7 k2 =>
    t_3 dk hp h6 k2 (by decide) fun kds3 y7' k3 => t_ret q kds3 (k3.mono (by decide)) y5 y6 y7' rfl
  refine ⟨.fz (.int h), rfl, h, 1, rfl, rfl, decide (1 < h), rfl, ?_⟩
  cases hh : decide (1 < h) with
  | false => exact ⟨0, rfl, by decide, by decide, fin kds1 none none (k1.mono (by decide))⟩
  | true =>
    refine ⟨.fz (.ob da), rfl, da, 5, rfl, dk, by decide, by decide, fun j j0 j5 => ⟨j, rfl, by omega, by omega, ?_⟩⟩
    have hl : (rangeD 0 j.toNat).length ≤ 4 := by rw [rangeD_rg, List.length_map, rg_len]; omega
    exact t_l2 dk hp (of_decide_eq_true hh) h6 _ kds1 5 none none k1 (by omega) fun kds2 y6 y7 k2 => fin kds2 y6 y7 (k2.mono (by omega))
end K72
set_option maxHeartbeats 4000000
namespace K72
open PySem PySem.Spec PyProof.Rows L2 DL

open Classical in
theorem min_of {h : Int} {ts : List (Int × Int)} (t : Ties h ts) (nr : ∀ a, ¬ Rp1 ts a a) {rest : List Int} (hne : rest ≠ []) (hr : ∀ x ∈ rest, 0 ≤ x ∧ x < h) : ∃ x ∈ rest, ∀ y ∈ rest, ¬ Rp1 ts y x := by
  let f : Int → Nat := fun x => ((rg h).filter fun y => decide (Rp1 ts y x)).length
  apply Classical.byContradiction
  intro hc
  have hall : ∀ x ∈ rest, ∃ y ∈ rest, Rp1 ts y x := fun x hx => by
    apply Classical.byContradiction
    intro hn
    exact hc ⟨x, hx, fun y hy hm => hn ⟨y, hy, hm⟩⟩
  have down : ∀ n, ∀ x ∈ rest, f x ≤ n → False := fun n => by
    induction n with
    | zero =>
      intro x hx hf
      obtain ⟨y, hy, h1⟩ := hall x hx
      have : y ∈ (rg h).filter fun y => decide (Rp1 ts y x) := List.mem_filter.mpr ⟨mem_rg.mpr (hr y hy), decide_eq_true h1⟩
      have := List.length_pos_of_mem this
      have hf : ((rg h).filter fun y => decide (Rp1 ts y x)).length ≤ 0 := hf
      omega
    | succ n ih =>
      intro x hx hf
      obtain ⟨u, hu, h1⟩ := hall x hx
      have := filter_lt (l := rg h) (p := fun y => decide (Rp1 ts y u)) (q := fun y => decide (Rp1 ts y x)) (x := u) (fun z hz => decide_eq_true ((of_decide_eq_true hz).trans h1)) (mem_rg.mpr (hr u hu)) (decide_eq_true h1) (decide_eq_false (nr _))
      have hf : ((rg h).filter fun y => decide (Rp1 ts y x)).length ≤ n + 1 := hf
      exact ih u hu (show ((rg h).filter fun y => decide (Rp1 ts y u)).length ≤ n by omega)
  obtain ⟨x, hx⟩ := List.exists_mem_of_ne_nil rest hne
  exact down (f x) x hx (Nat.le_refl _)
def heldIn (L : Rows) (left : List Int) (x : Int) : List Int := left.filter fun y => decide (x ∈ row L y.toNat)
def freeIn (L : Rows) (left : List Int) : List Int := left.filter fun x => decide (heldIn L left x = [])
theorem filt_ints (l : List Int) (p : Int → Bool) (q : D → Bool) (e : ∀ x, q (.int x) = p x) : ((l.map D.int).filter q).map (fun d => d) = (l.filter p).map D.int := by
  rw [List.map_id', List.filter_map]
  congr 1
  exact List.filter_congr fun x _ => e x
def onI (p : Int → Bool) : D → Bool
  | .int x => p x
  | _ => false
def s__law_ahead : FS := fun G ds Q => ∃ (da : Addr) (h : Int) (ts : List (Int × Int)), ds = [.ob da, .int h, tiesD ts] ∧ IsDeck G da ∧ 1 ≤ h ∧ h ≤ 6 ∧ Ties h ts ∧ (∀ a, ¬ Rp1 ts a a) ∧ ∀ ns : List Int, ns.length ≤ 6 → (∀ x ∈ ns, 0 ≤ x ∧ x < h) → Q (.fz (.tup (ns.map .int)))
abbrev aρ (da : Addr) (h : Int) (ts : List (Int × Int)) (L : Rows) (left found : List Int) (y6 y7 y8 : Option SV) : En := [some (.fz (.ob da)), some (.fz (.int h)), some (.fz (tiesD ts)), some (.ow (left.map .int)), some (.ow (found.map .int)), some (.ow (LD L)), y6, y7, y8, none]
def ab : WS := wSeq (wSet 7 (wComp (wiSeq (wVar 3)) (wgName 8) (wtV (wOp oEq (wFz (wComp (wiSeq (wVar 3)) (wgName 9) (wtV (wOp oIn (wVar 8) (wOp oIx (wVar 5) (wVar 9)))) (wVar 9) [9])) (wFz (woLst (waNil))))) (wVar 8) [8])) (wSeq (wSet 8 (woCall s__law_pick (waCons (wVar 0) (waCons (wVar 7) (waNil))))) (wSeq (wApp 4 (wvVar 8)) (wSet 3 (wComp (wiSeq (wVar 3)) (wgName 9) (wtV (wOp oNe (wVar 9) (wVar 8))) (wVar 9) [9]))))
theorem a_loop {G : Gc} {Qd : SV → Prop} {da : Addr} {h : Int} {ts : List (Int × Int)} (dk : IsDeck G da) (h6 : h ≤ 6) (ht : Ties h ts) (nr : ∀ a, ¬ Rp1 ts a a) (q : ∀ ns : List Int, ns.length ≤ 6 → (∀ x ∈ ns, 0 ≤ x ∧ x < h) → Qd (.fz (.tup (ns.map .int)))) : ∀ (l : List D) (left found : List Int) (y6 y7 y8 : Option SV), left.length = l.length → left.Nodup → (∀ x ∈ left, 0 ≤ x ∧ x < h) → (∀ x ∈ found, 0 ≤ x ∧ x < h) → left.length + found.length ≤ 6 →
    wForL (wgName 6) ab G { nx := fun ρ' => wRet (woCB oTuple (waCons (wVar 4) (waNil))) G { nx := fun _ => Qd (.fz .non), rt := Qd } ρ', rt := Qd } l (aρ da h ts (reachL h.toNat ts) left found y6 y7 y8)
  | [], left, found, y6, y7, y8, _, _, _, hf, hs => ⟨.ow (found.map .int), rfl, .lst (found.map .int), found.map .int, rfl, rfl, q found (by omega) hf⟩
  | d :: l, left, found, y6, y7, y8, hl, hn, hm, hf, hs => by
    have g := Good.reach ht
    rw [List.length_cons] at hl
    have hne : left ≠ [] := fun e => by rw [e] at hl; cases hl
    obtain ⟨x0, hx0, hx0m⟩ := min_of ht nr hne hm
    have rat : ∀ y, y ∈ left → atI (LD (reachL h.toNat ts)) y = some (rowD (row (reachL h.toNat ts) y.toNat)) ∧ ∀ x, (x ∈ row (reachL h.toNat ts) y.toNat ↔ Rp1 ts y x) := fun y hy => by
      have hb := hm y hy
      have e : ((y.toNat : Nat) : Int) = y := Int.toNat_of_nonneg hb.1
      have hk : y.toNat < h.toNat := by omega
      have a1 := LD_at (L := reachL h.toNat ts) (a := y.toNat) (by rw [g.len]; exact hk)
      have a2 := reach_iff ht hk
      rw [e] at a1
      exact ⟨a1, fun x => by have := a2 x; rw [e] at this; exact this⟩
    have hfree : freeIn (reachL h.toNat ts) left ≠ [] := by
      refine List.ne_nil_of_mem (a := x0) (List.mem_filter.mpr ⟨hx0, decide_eq_true ?_⟩)
      refine List.filter_eq_nil_iff.mpr fun y hy hc => ?_
      exact hx0m y hy (((rat y hy).2 x0).mp (of_decide_eq_true hc))
    refine ⟨by show 6 < 10; decide, by show 7 < 10; decide, .ow (left.map .int), rfl, left.map .int, rfl, ?_⟩
    refine wcL_fm (onI fun x => decide (heldIn (reachL h.toNat ts) left x = [])) (fun d => d) _ [] _ (fun d hd G' _ Qy Qn hY hN => ?_) (by rw [List.length_nil, List.length_map, sizeLine_eq]; omega) ?_
    · obtain ⟨x, hx, rfl⟩ := List.mem_map.mp hd
      refine ⟨by show 8 < 10; decide, .ow (left.map .int), rfl, left.map .int, rfl, ?_⟩
      refine wcL_fm (onI fun y => decide (x ∈ row (reachL h.toNat ts) y.toNat)) (fun d => d) _ [] _ (fun d hd G' _ Qy Qn hy hn => ?_) (by rw [List.length_nil, List.length_map, sizeLine_eq]; omega) ?_
      · obtain ⟨y, hym, rfl⟩ := List.mem_map.mp hd
        refine ⟨by show 9 < 10; decide, .fz (.int x), rfl, .ow (LD (reachL h.toNat ts)), rfl, .fz (.int y), rfl, y, rfl, .inl ⟨_, _, rfl, (rat y hym).1, ?_⟩⟩
        dsimp only [rowD]
        refine oIn_lstI ⟨decide (x ∈ row (reachL h.toNat ts) y.toNat), rfl, ?_⟩
        cases hc : decide (x ∈ row (reachL h.toNat ts) y.toNat) with
        | true => exact ⟨.fz (.int y), rfl, hy hc⟩
        | false => exact hn hc
      · rw [List.nil_append, filt_ints left (fun y => decide (x ∈ row (reachL h.toNat ts) y.toNat)) _ (fun _ => rfl)]
        refine ⟨by show 0 ≤ sizeLine; decide, ?_⟩
        refine oEq_lstI (b := []) ⟨decide (heldIn (reachL h.toNat ts) left x = []), rfl, ?_⟩
        cases hc : decide (heldIn (reachL h.toNat ts) left x = []) with
        | true => exact ⟨.fz (.int x), rfl, hY hc⟩
        | false => exact hN hc
    · rw [List.nil_append, filt_ints left (fun x => decide (heldIn (reachL h.toNat ts) left x = [])) _ (fun _ => rfl)]
      dsimp only
      rw [put_imm (imm_ints _)]
      change _ ∧ _
      have hfl := List.length_filter_le (fun x => decide (heldIn (reachL h.toNat ts) left x = [])) left
      refine ⟨by show 8 < 10; decide, .fz (.ob da), rfl, .ow ((freeIn (reachL h.toNat ts) left).map .int), rfl, da, _, rfl, dk, fun z => hfree (List.map_eq_nil_iff.mp z), ?_, fun dx hdx => ?_⟩
      · rw [List.length_map]
        have hfl : (freeIn (reachL h.toNat ts) left).length ≤ left.length := hfl
        omega
      · obtain ⟨x, hx, rfl⟩ := List.mem_map.mp hdx
        have hxl : x ∈ left := (List.mem_filter.mp hx).1
        refine ⟨⟨_, rfl⟩, .fz (.int x), rfl, found.map .int, rfl, by rw [List.length_map, sizeLine_eq]; omega, by show 3 < 10; decide, .ow (left.map .int), rfl, left.map .int, rfl, ?_⟩
        refine wcL_fm (onI fun y => !decide (y = x)) (fun d => d) _ [] _ (fun d hd G' _ Qy Qn hy hn => ?_) (by rw [List.length_nil, List.length_map, sizeLine_eq]; omega) ?_
        · obtain ⟨y, hym, rfl⟩ := List.mem_map.mp hd
          refine ⟨by show 9 < 10; decide, .fz (.int y), rfl, .fz (.int x), rfl, oNe_int ⟨!decide (y = x), rfl, ?_⟩⟩
          cases hc : !decide (y = x) with
          | true => exact ⟨.fz (.int y), rfl, hy hc⟩
          | false => exact hn hc
        · rw [List.nil_append, filt_ints left (fun y => !decide (y = x)) _ (fun _ => rfl)]
          dsimp only
          rw [put_imm (imm_ints _)]
          have e1 : left.filter (fun y => !decide (y = x)) = left.erase x := by
            rw [hn.erase_eq_filter]
            exact List.filter_congr fun y _ => by by_cases c : y = x <;> simp [c]
          have e2 : found.map D.int ++ [.int x] = (found ++ [x]).map D.int := by rw [List.map_append]; rfl
          rw [e1]
          have := a_loop dk h6 ht nr q l (left.erase x) (found ++ [x]) (some (.fz d)) (some (.ow ((freeIn (reachL h.toNat ts) left).map .int))) (some (.fz (.int x))) (by rw [List.length_erase_of_mem hxl]; omega) (hn.erase x) (fun y hy => hm y (List.mem_of_mem_erase hy)) (fun y hy => by
            rcases List.mem_append.mp hy with hy | hy
            · exact hf y hy
            · rw [List.mem_singleton.mp hy]; exact hm x hxl) (by rw [List.length_erase_of_mem hxl, List.length_append, List.length_singleton]; omega)
          rw [e2]
          exact this
theorem p__law_ahead : Keeps P__law_ahead N__law_ahead s__law_ahead (w__law_ahead s__law_reach s__law_pick) := fun G ds Qd hh => by
  obtain ⟨da, h, ts, rfl, dk, h1, h6, ht, nr, q⟩ := hh
  refine ⟨rfl, by show 3 < 10; decide, by show 4 < 10; decide, by show 5 < 10; decide, .fz (.int h), rfl, h, rfl, by omega, by omega, fun G' hG => ⟨by show 0 ≤ sizeLine; decide, fun G2 hG2 => ⟨.fz (.int h), rfl, .fz (tiesD ts), rfl, h, ts, rfl, h1, h6, ht, ?_⟩⟩⟩
  rw [rangeD_rg]
  have e : put3 (startD N__law_ahead [D.ob da, D.int h, tiesD ts]) 3 (.ow ((rg h).map D.int)) 4 (.ow []) 5 (.ow (LD (reachL h.toNat ts))) = aρ da h ts (reachL h.toNat ts) (rg h) [] none none none := by
    unfold DL.put3
    split <;> rfl
  dsimp only
  rw [e]
  refine ⟨.fz (.int h), rfl, h, rfl, by omega, by omega, ?_⟩
  exact a_loop dk h6 ht nr q _ (rg h) [] none none none (by rw [rangeD_rg, List.length_map]) (rg_nodup h) (fun x hx => mem_rg.mp hx) (fun x hx => by cases hx) (by rw [rg_len, List.length_nil]; omega)
end K72
set_option maxHeartbeats 4000000
namespace K72
open PySem PySem.Spec PyProof.Rows L2 DL

def BaseD (h : Int) (d : D) : Prop := (∃ ns : List Int, d = .tup [.str "way", .tup (ns.map .int)] ∧ ns.length ≤ 6 ∧ ∀ x ∈ ns, 0 ≤ x ∧ x < h) ∨ ∃ i j : Int, d = .tup [.str "two", .int i, .int j] ∧ 0 ≤ i ∧ i < h ∧ 0 ≤ j ∧ j < h
def s__law_base : FS := fun G ds Q => ∃ (da : Addr) (h : Int) (ts : List (Int × Int)), ds = [.ob da, .int h, tiesD ts] ∧ IsDeck G da ∧ 1 ≤ h ∧ h ≤ 6 ∧ Ties h ts ∧ (∀ a, ¬ Rp1 ts a a) ∧ ∀ d, BaseD h d → Q (.fz d)
def ba4 : WS := wSeq (wSet 7 (woCall s__law_pick (waCons (wVar 0) (waCons (wVar 6) (waNil))))) (wRet (woFz (wTup (waCons (wC (.str "two")) (waCons (wFz (woCB oMin (waCons (wVar 4) (waCons (wVar 7) (waNil))))) (waCons (wFz (woCB oMax (waCons (wVar 4) (waCons (wVar 7) (waNil))))) (waNil)))))))
abbrev bρ (da : Addr) (h : Int) (ts : List (Int × Int)) (way one : Int) (L : Rows) (y6 : Option SV) : En := [some (.fz (.ob da)), some (.fz (.int h)), some (.fz (tiesD ts)), some (.fz (.int way)), some (.fz (.int one)), some (.ow (LD L)), y6, none]
theorem b_4 {G : Gc} {E : EndsD} {da : Addr} {h way one : Int} {ts : List (Int × Int)} {L : Rows} (dk : IsDeck G da) (ho : 0 ≤ one ∧ one < h) (q : ∀ d, BaseD h d → E.rt (.fz d)) (l : List Int) (hne : l ≠ []) (hl : l.length ≤ 6) (hm : ∀ x ∈ l, 0 ≤ x ∧ x < h) : ba4 G E (bρ da h ts way one L (some (.ow (l.map .int)))) := by
  refine ⟨by show 7 < 8; decide, .fz (.ob da), rfl, .ow (l.map .int), rfl, da, _, rfl, dk, fun z => hne (List.map_eq_nil_iff.mp z), by rw [List.length_map]; omega, fun dx hdx => ?_⟩
  obtain ⟨x, hx, rfl⟩ := List.mem_map.mp hdx
  have hb := hm x hx
  refine ⟨.fz (.int one), rfl, .fz (.int x), rfl, one, x, rfl, .fz (.int one), rfl, .fz (.int x), rfl, one, x, rfl, by show 3 ≤ sizeLine; decide, q _ (.inr ⟨_, _, rfl, ?_⟩)⟩
  split <;> split <;> omega
theorem p__law_base : Keeps P__law_base N__law_base s__law_base (w__law_base s_draw s__law_ahead s__law_order s__law_reach s__law_pick) := fun G ds Qd hh => by
  obtain ⟨da, h, ts, rfl, dk, h1, h6, ht, nr, q⟩ := hh
  refine ⟨rfl, by show 3 < 8; decide, .fz (.ob da), rfl, da, 4, rfl, dk, by decide, by decide, fun way w0 w4 => ?_⟩
  refine ⟨.fz (.int way), rfl, way, 2, rfl, rfl, decide (way < 2), rfl, ?_⟩
  have ahead : ∀ Qd' : D → Prop, (∀ ns : List Int, ns.length ≤ 6 → (∀ x ∈ ns, 0 ≤ x ∧ x < h) → Qd' (.tup (ns.map .int))) → wFz (woCall s__law_ahead (waCons (wVar 0) (waCons (wVar 1) (waCons (wVar 2) (waNil))))) G [some (.fz (.ob da)), some (.fz (.int h)), some (.fz (tiesD ts)), some (.fz (.int way)), none, none, none, none] Qd' := fun Qd' qq =>
    ⟨.fz (.ob da), rfl, .fz (.int h), rfl, .fz (tiesD ts), rfl, da, h, ts, rfl, dk, h1, h6, ht, nr, qq⟩
  have first : wRet (woFz (wTup (waCons (wC (.str "way")) (waCons (wIf (wtOr (wtV (wOp oEq (wVar 3) (wC (.int 0)))) (wtV (wOp oEq (wVar 1) (wC (.int 1))))) (wFz (woCall s__law_ahead (waCons (wVar 0) (waCons (wVar 1) (waCons (wVar 2) (waNil)))))) (wFz (woCall s__law_order (waCons (wVar 0) (waCons (wVar 1) (waNil)))))) (waNil))))) G { nx := fun _ => True, rt := Qd } [some (.fz (.ob da)), some (.fz (.int h)), some (.fz (tiesD ts)), some (.fz (.int way)), none, none, none, none] := by
    have fin : ∀ ns : List Int, ns.length ≤ 6 → (∀ x ∈ ns, 0 ≤ x ∧ x < h) → ([D.str "way", .tup (ns.map .int)].length ≤ sizeLine ∧ Qd (.fz (.tup [.str "way", .tup (ns.map .int)]))) := fun ns a b => ⟨by show 2 ≤ sizeLine; decide, q _ (.inl ⟨ns, rfl, a, b⟩)⟩
    refine ⟨.fz (.int way), rfl, ?_⟩
    dsimp only [wC]
    refine oEq_int ⟨decide (way = 0), rfl, ?_⟩
    cases decide (way = 0) with
    | true => exact ahead _ fin
    | false =>
      refine ⟨.fz (.int h), rfl, ?_⟩
      dsimp only [wC]
      refine oEq_int ⟨decide (h = 1), rfl, ?_⟩
      cases decide (h = 1) with
      | true => exact ahead _ fin
      | false => exact ⟨.fz (.ob da), rfl, .fz (.int h), rfl, da, h, rfl, dk, h1, h6, fun ns hp => fin ns (by have := hp.length_eq; rw [rg_len] at this; omega) fun x hx => mem_rg.mp (hp.mem_iff.mp hx)⟩
  cases decide (way < 2) with
  | true => exact first
  | false =>
  refine ⟨.fz (.int h), rfl, ?_⟩
  dsimp only [wC]
  refine oEq_int ⟨decide (h = 1), rfl, ?_⟩
  cases hh1 : decide (h = 1) with
  | true => exact first
  | false =>
  have hh1 := of_decide_eq_false hh1
  refine ⟨by show 4 < 8; decide, by show 5 < 8; decide, .fz (.ob da), rfl, .fz (.int h), rfl, da, h, rfl, dk, by omega, by omega, fun one o0 o1 G' hG => ⟨.fz (.int h), rfl, .fz (tiesD ts), rfl, h, ts, rfl, h1, h6, ht, ?_⟩⟩
  have e : put2 [some (.fz (.ob da)), some (.fz (.int h)), some (.fz (tiesD ts)), some (.fz (.int way)), none, none, none, none] 4 (.fz (.int one)) 5 (.ow (LD (reachL h.toNat ts))) = bρ da h ts way one (reachL h.toNat ts) none := by
    unfold DL.put2
    split <;> rfl
  have g := Good.reach ht
  have rat : ∀ y : Int, 0 ≤ y → y < h → atI (LD (reachL h.toNat ts)) y = some (rowD (row (reachL h.toNat ts) y.toNat)) := fun y y0 y1 => by
    have e : ((y.toNat : Nat) : Int) = y := Int.toNat_of_nonneg y0
    have a1 := LD_at (L := reachL h.toNat ts) (a := y.toNat) (by rw [g.len]; omega)
    rw [e] at a1
    exact a1
  have hl6 : (rg h).length ≤ 6 := by rw [rg_len]; omega
  change (fun ρ' => _) (put2 [some (.fz (.ob da)), some (.fz (.int h)), some (.fz (tiesD ts)), some (.fz (.int way)), none, none, none, none] 4 (.fz (.int one)) 5 (.ow (LD (reachL h.toNat ts))))
  rw [e]
  refine ⟨by show 6 < 8; decide, .fz (.int h), rfl, h, rfl, by omega, by omega, ?_⟩
  rw [rangeD_rg]
  refine wcL_fm (onI fun x => !decide (x = one) && (!decide (x ∈ row (reachL h.toNat ts) one.toNat) && !decide (one ∈ row (reachL h.toNat ts) x.toNat))) (fun d => d) _ [] _ (fun d hd G' _ Qy Qn hY hN => ?_) (by rw [List.length_nil, List.length_map, sizeLine_eq]; omega) ?_
  · obtain ⟨x, hx, rfl⟩ := List.mem_map.mp hd
    have hx := mem_rg.mp hx
    change (!decide (x = one) && (!decide (x ∈ row (reachL h.toNat ts) one.toNat) && !decide (one ∈ row (reachL h.toNat ts) x.toNat))) = true → Qy (.int x) at hY
    change (!decide (x = one) && (!decide (x ∈ row (reachL h.toNat ts) one.toNat) && !decide (one ∈ row (reachL h.toNat ts) x.toNat))) = false → Qn at hN
    refine ⟨by show 7 < 8; decide, .fz (.int x), rfl, .fz (.int one), rfl, oNe_int ⟨!decide (x = one), rfl, ?_⟩⟩
    cases c1 : !decide (x = one) with
    | false => rw [c1] at hN; exact hN rfl
    | true =>
    rw [c1] at hY hN
    refine ⟨.fz (.int x), rfl, .ow (LD (reachL h.toNat ts)), rfl, .fz (.int one), rfl, one, rfl, .inl ⟨_, _, rfl, rat one o0 o1, ?_⟩⟩
    dsimp only [rowD]
    refine oNotIn_lstI ⟨!decide (x ∈ row (reachL h.toNat ts) one.toNat), rfl, ?_⟩
    cases c2 : !decide (x ∈ row (reachL h.toNat ts) one.toNat) with
    | false => rw [c2] at hN; exact hN rfl
    | true =>
    rw [c2] at hY hN
    refine ⟨.fz (.int one), rfl, .ow (LD (reachL h.toNat ts)), rfl, .fz (.int x), rfl, x, rfl, .inl ⟨_, _, rfl, rat x hx.1 hx.2, ?_⟩⟩
    dsimp only [rowD]
    refine oNotIn_lstI ⟨!decide (one ∈ row (reachL h.toNat ts) x.toNat), rfl, ?_⟩
    cases c3 : !decide (one ∈ row (reachL h.toNat ts) x.toNat) with
    | false => rw [c3] at hN; exact hN rfl
    | true => rw [c3] at hY; exact ⟨.fz (.int x), rfl, hY rfl⟩
  · rw [List.nil_append, filt_ints (rg h) (fun x => !decide (x = one) && (!decide (x ∈ row (reachL h.toNat ts) one.toNat) && !decide (one ∈ row (reachL h.toNat ts) x.toNat))) _ (fun _ => rfl)]
    generalize hl1 : (rg h).filter (fun x => !decide (x = one) && (!decide (x ∈ row (reachL h.toNat ts) one.toNat) && !decide (one ∈ row (reachL h.toNat ts) x.toNat))) = l1
    have m1 : ∀ x ∈ l1, 0 ≤ x ∧ x < h := fun x hx => by rw [← hl1] at hx; exact mem_rg.mp (List.mem_filter.mp hx).1
    have n1 : l1.length ≤ 6 := by rw [← hl1]; have := List.length_filter_le (fun x => !decide (x = one) && (!decide (x ∈ row (reachL h.toNat ts) one.toNat) && !decide (one ∈ row (reachL h.toNat ts) x.toNat))) (rg h); omega
    dsimp only
    rw [put_imm (imm_ints l1)]
    have anew : wSet 6 (wComp (wiRange1 (waCons (wVar 1) (waNil))) (wgName 7) (wtV (wOp oNe (wVar 7) (wVar 4))) (wVar 7) [7]) G { nx := fun ρ' => ba4 G { nx := fun _ => Qd (.fz .non), rt := Qd } ρ', rt := Qd } (bρ da h ts way one (reachL h.toNat ts) (some (.ow (l1.map .int)))) := by
      refine ⟨by show 6 < 8; decide, .fz (.int h), rfl, h, rfl, by omega, by omega, ?_⟩
      rw [rangeD_rg]
      refine wcL_fm (onI fun x => !decide (x = one)) (fun d => d) _ [] _ (fun d hd G' _ Qy Qn hY hN => ?_) (by rw [List.length_nil, List.length_map, sizeLine_eq]; omega) ?_
      · obtain ⟨x, hx, rfl⟩ := List.mem_map.mp hd
        refine ⟨by show 7 < 8; decide, .fz (.int x), rfl, .fz (.int one), rfl, oNe_int ⟨!decide (x = one), rfl, ?_⟩⟩
        cases c1 : !decide (x = one) with
        | true => exact ⟨.fz (.int x), rfl, hY c1⟩
        | false => exact hN c1
      · rw [List.nil_append, filt_ints (rg h) (fun x => !decide (x = one)) _ (fun _ => rfl)]
        dsimp only
        rw [put_imm (imm_ints _)]
        refine b_4 dk ⟨o0, o1⟩ q _ ?_ ?_ fun x hx => mem_rg.mp (List.mem_filter.mp hx).1
        · intro z
          have := List.filter_eq_nil_iff.mp z (if one = 0 then 1 else 0) (mem_rg.mpr (by split <;> omega))
          apply this
          split <;> simp <;> omega
        · have := List.length_filter_le (fun x => !decide (x = one)) (rg h)
          omega
    refine ⟨.ow (l1.map .int), rfl, by show 0 ≤ sizeLine; decide, oEq_lstI (a := l1) (b := []) ⟨decide (l1 = []), rfl, ?_⟩⟩
    cases c : decide (l1 = []) with
    | true => exact anew
    | false =>
    have hne := of_decide_eq_false c
    have keep := b_4 (way := way) (ts := ts) (L := reachL h.toNat ts) (E := { nx := fun _ => Qd (.fz .non), rt := Qd }) dk ⟨o0, o1⟩ q l1 hne n1 m1
    refine ⟨.fz (.int way), rfl, ?_⟩
    dsimp only [wC]
    refine oEq_int ⟨decide (way = 3), rfl, ?_⟩
    cases decide (way = 3) with
    | false => exact keep
    | true =>
    refine ⟨.fz (.ob da), rfl, da, 2, rfl, dk, by decide, by decide, fun z _ _ => ?_⟩
    dsimp only [wC]
    refine oEq_int ⟨decide (z = 0), rfl, ?_⟩
    cases decide (z = 0) with
    | false => exact keep
    | true => exact anew
end K72
set_option maxHeartbeats 4000000
namespace K72
open PySem PySem.Spec PyProof.Rows L2 DL

mutual
/-- data at a stage n, tuples nested at most m deep -/
def gd (n : Nat) : D → Nat → Bool
  | .ob _, _ => false
  | .int i, _ => decide (i.natAbs ≤ 2 ^ 100 + 2 * n)
  | .str x, _ => PyData.canLay0 (.str x)
  | .tup xs, m => decide (xs.length ≤ 10 + n) && ((xs.isEmpty || decide (0 < m)) && gdL n xs (m - 1))
  | .lst xs, _ => okL xs
  | _, _ => true
def gdL (n : Nat) : List D → Nat → Bool
  | [], _ => true
  | x :: xs, m => gd n x m && gdL n xs m
end
theorem gdL_iff {n m : Nat} : ∀ {xs : List D}, gdL n xs m = true ↔ ∀ x ∈ xs, gd n x m = true
  | [] => by unfold gdL; simp
  | x :: xs => by
    unfold gdL
    rw [Bool.and_eq_true, gdL_iff, List.forall_mem_cons]
theorem gd_tup {n m : Nat} {xs : List D} : gd n (.tup xs) m = true ↔ xs.length ≤ 10 + n ∧ (xs = [] ∨ 0 < m) ∧ ∀ x ∈ xs, gd n x (m - 1) = true := by
  conv => lhs; unfold gd
  rw [Bool.and_eq_true, Bool.and_eq_true, Bool.or_eq_true, decide_eq_true_iff, decide_eq_true_iff, gdL_iff, List.isEmpty_iff]
mutual
theorem gd_mono {n n' : Nat} (hn : n ≤ n') : ∀ (d : D) {m m' : Nat}, m ≤ m' → gd n d m = true → gd n' d m' = true
  | .ob _, _, _, _, h => by cases h
  | .int i, m, m', hm, h => by
    unfold gd at h ⊢
    rw [decide_eq_true_iff] at h ⊢
    omega
  | .str _, _, _, _, h => h
  | .lst _, _, _, _, h => h
  | .non, _, _, _, _ => rfl
  | .bl _, _, _, _, _ => rfl
  | .dic _, _, _, _, _ => rfl
  | .tup xs, m, m', hm, h => by
    unfold gd at h ⊢
    rw [Bool.and_eq_true, Bool.and_eq_true, Bool.or_eq_true, decide_eq_true_iff, decide_eq_true_iff] at h ⊢
    exact ⟨by omega, h.2.1.imp id (fun z => by omega), gdL_mono hn xs (by omega) h.2.2⟩
theorem gdL_mono {n n' : Nat} (hn : n ≤ n') : ∀ (xs : List D) {m m' : Nat}, m ≤ m' → gdL n xs m = true → gdL n' xs m' = true
  | [], _, _, _, _ => rfl
  | x :: xs, m, m', hm, h => by
    unfold gdL at h ⊢
    rw [Bool.and_eq_true] at h ⊢
    exact ⟨gd_mono hn x hm h.1, gdL_mono hn xs hm h.2⟩
end
mutual
theorem gd_ok {n : Nat} (hn : n ≤ 900) : ∀ (d : D) {m : Nat}, gd n d m = true → okD d = true
  | .ob _, _, h => by cases h
  | .int i, m, h => rfl
  | .str _, _, h => h
  | .lst _, _, h => h
  | .non, _, _ => rfl
  | .bl _, _, _ => rfl
  | .dic _, _, _ => rfl
  | .tup xs, m, h => by
    unfold gd at h
    unfold okD
    rw [Bool.and_eq_true, Bool.and_eq_true, decide_eq_true_iff] at h
    rw [Bool.and_eq_true, decide_eq_true_iff]
    exact ⟨by omega, gdL_ok hn xs h.2.2⟩
theorem gdL_ok {n : Nat} (hn : n ≤ 900) : ∀ (xs : List D) {m : Nat}, gdL n xs m = true → okL xs = true
  | [], _, _ => rfl
  | x :: xs, m, h => by
    unfold gdL at h
    unfold okL
    rw [Bool.and_eq_true] at h ⊢
    exact ⟨gd_ok hn x h.1, gdL_ok hn xs h.2⟩
end
theorem lq {n : Nat} (h : Nat.ble n 1000 = true) : n ≤ sizeLine := le_size (Nat.le_of_ble_eq_true h)
end K72
set_option maxHeartbeats 4000000
namespace K72
open PySem PySem.Spec PyProof.Rows L2 DL

theorem strOk_of (s : String) : PyData.strOk (Str.ofString s) = true := by
  rw [Str.ofString_eq_toList]
  unfold PyData.strOk
  rw [← Array.all_toList, List.all_eq_true]
  intro c hc
  obtain ⟨ch, _, rfl⟩ := List.mem_map.mp hc
  refine decide_eq_true ?_
  have := ch.valid
  rcases this with h | h
  · show ch.val.toNat < _
    omega
  · have := h.2
    show ch.val.toNat < _
    omega
def oddA : List D := [.non, .bl true, .bl false, .int 0, .int 1, .int (-1), .int 2, .str "", .str "0", .tup [], .tup [.tup []], .lst [], .dic [], .tup [.int 0], .tup [.int 0, .int 1], .lst [.int 0, .int 1], .tup [.int 1, .int 0], .int (10 ^ 30)]
def oddB : List D := [.dic [(.inr "a", .tup [.int 1, .int 2])], .tup [.tup [.int 0, .int 1]], .tup [.int 0, .bl true], .tup [.non], .tup [.str "0", .int 1], .str "a b\n~", .tup [.str "way", .tup [.int 0]], .tup [.str "two", .int 0, .int 1]]
theorem oddAB : gdL 0 (oddA ++ oddB) 2 = true := by decide +kernel
def s__law_odd : FS := fun G ds Q => ∃ (da : Addr) (d : D) (n m : Nat), ds = [.ob da, d] ∧ IsDeck G da ∧ n ≤ 800 ∧ gd n d m = true ∧ ∀ d', gd (n + 1) d' (m + 2) = true → Q (.fz d')
abbrev oρ (da : Addr) (d : D) (y : Option SV) : En := [some (.fz (.ob da)), some (.fz d), y]
theorem put_odd {da : Addr} {d : D} {xs : List D} {y : List D} : put (oρ da d (some (.ow xs))) 2 (.ow y) = oρ da d (some (.ow y)) := by
  unfold DL.put
  split <;> rfl
theorem put_odd0 {da : Addr} {d : D} {y : List D} : put (oρ da d none) 2 (.ow y) = oρ da d (some (.ow y)) := by
  unfold DL.put
  split <;> rfl
theorem o_last {G : Gc} {Qd : SV → Prop} {da : Addr} {d : D} (dk : IsDeck G da) {xs : List D} (hne : xs ≠ []) (hl : xs.length ≤ 1000) (q : ∀ x ∈ xs, Qd (.fz x)) : wRet (woCall s__law_pick (waCons (wVar 0) (waCons (wVar 2) (waNil)))) G { nx := fun _ => Qd (.fz .non), rt := Qd } (oρ da d (some (.ow xs))) :=
  ⟨.fz (.ob da), rfl, .ow xs, rfl, da, xs, rfl, dk, hne, by omega, q⟩
theorem cut_mem {xs : List D} {lo hi : Option Int} {y : D} (h : y ∈ DL.cutD xs lo hi) : y ∈ xs := List.mem_of_mem_drop (List.mem_of_mem_take h)
theorem cut_len (xs : List D) (lo hi : Option Int) : (DL.cutD xs lo hi).length ≤ xs.length := by
  unfold DL.cutD
  rw [List.length_take, List.length_drop]
  omega
theorem cut_len1 (xs : List D) : (DL.cutD xs none (some 1)).length ≤ 1 := by
  have e : HT.sIx xs.length xs.length (some ((1 : Nat) : Int)) = min 1 xs.length := HT.sIx_nat _ _ 1
  unfold DL.cutD
  rw [List.length_take]
  have : HT.sIx xs.length xs.length (some (1 : Int)) = min 1 xs.length := e
  omega
theorem p__law_odd : Keeps P__law_odd N__law_odd s__law_odd (w__law_odd s__law_is_integer s__law_pick) := fun G ds Qd hh => by
  obtain ⟨da, d, n, m, rfl, dk, hn, hd, q⟩ := hh
  have hok := gd_ok (by omega) d hd
  have qAB : ∀ x ∈ oddA ++ oddB, Qd (.fz x) := fun x hx => q x (gd_mono (Nat.zero_le _) x (by omega) (gdL_iff.mp oddAB x hx))
  refine ⟨rfl, by show 2 < 3; decide, 1, rfl, lq rfl, lq rfl, lq rfl, lq rfl, ?_⟩
  refine ⟨lq rfl, lq rfl, lq rfl, lq rfl, 10, 30, rfl, rfl, ⟨by decide, by decide, by decide⟩, lq rfl, ?_⟩
  dsimp only
  change wSeq _ _ G _ (put (oρ da d none) 2 (.ow oddA))
  rw [put_odd0]
  refine ⟨by show 2 < 3; decide, .ow oddA, rfl, ?_⟩
  refine fun G' hG => ⟨lq rfl, lq rfl, lq rfl, lq rfl, lq rfl, lq rfl, lq rfl, lq rfl, lq rfl, lq rfl, .inr (.inr (.inl ⟨oddA, oddB, rfl, rfl, lq rfl, ?_⟩))⟩
  dsimp only
  rw [put_odd]
  refine ⟨.fz d, rfl, okD_ob hok, isD "tuple" d, rfl, ?_⟩
  have plain : wRet (woCall s__law_pick (waCons (wVar 0) (waCons (wVar 2) (waNil)))) G { nx := fun _ => Qd (.fz .non), rt := Qd } (oρ da d (some (.ow (oddA ++ oddB)))) := o_last dk (by decide) (by decide) qAB
  cases d with
  | tup xs =>
    obtain ⟨hl, hdep, hx⟩ := gd_tup.mp hd
    have le : ∀ {k : Nat}, k ≤ 2 * xs.length + 5 → k ≤ sizeLine := fun hk => by rw [sizeLine_eq]; omega
    refine ⟨by show 2 < 3; decide, .ow (oddA ++ oddB), rfl, .fz (.tup xs), rfl, .tup xs, xs, rfl, rfl, .fz (.tup xs), rfl, lq rfl, .inr (.inr (.inr ⟨xs, [.int 0], rfl, rfl, le (by simp; omega), ?_⟩))⟩
    refine ⟨.fz (.tup xs), rfl, 1, rfl, .inr ⟨xs, rfl, .fz (.tup xs), rfl, 1, rfl, -1, rfl, .inr ⟨xs, rfl, .inr ⟨.fz (.tup xs), rfl, xs, rfl, .fz (.tup xs), rfl, .fz (.tup xs), rfl, 1, rfl, .inr ⟨xs, rfl, .inr (.inr (.inr ⟨xs, DL.cutD xs none (some 1), rfl, rfl, le (by have := cut_len1 xs; omega), ?_⟩))⟩⟩⟩⟩⟩
    refine ⟨.fz (.tup xs), rfl, lq rfl, .fz (.tup xs), rfl, 1, rfl, .inr ⟨xs, rfl, .fz (.tup xs), rfl, .inr (.inr (.inr ⟨DL.cutD xs none (some 1), xs, rfl, rfl, le (by have := cut_len1 xs; omega), ?_⟩))⟩⟩
    refine ⟨.fz (.tup xs), rfl, lq rfl, lq rfl, .inr (.inr (.inr ⟨xs, [.tup []], rfl, rfl, le (by simp; omega), ?_⟩))⟩
    refine ⟨lq rfl, .inr (.inl ⟨[.lst xs, .tup (xs ++ [.int 0]), .tup (DL.cutD xs (some 1) none), .tup (DL.cutD xs none (some (-1))), .tup xs.reverse, .tup (xs ++ DL.cutD xs none (some 1)), .tup [.tup xs], .tup (DL.cutD xs none (some 1) ++ xs), .tup (xs ++ [.tup []])], 3, rfl, rfl, ⟨by decide, by decide, lq rfl⟩, .inr (.inr (.inl ⟨_, _, rfl, rfl, lq rfl, ?_⟩))⟩)⟩
    dsimp only
    rw [put_odd]
    refine o_last dk (by simp [oddA]) (by show 53 ≤ 1000; decide) fun x hx' => ?_
    rcases List.mem_append.mp hx' with h | h
    · exact qAB x h
    · refine q x ?_
      obtain ⟨C, hC, hxC⟩ := List.mem_flatten.mp h
      rw [(List.mem_replicate.mp hC).2] at hxC
      have gt : ∀ ys : List D, ys.length ≤ 11 + n → (∀ y ∈ ys, y ∈ xs ∨ y = .int 0 ∨ y = .tup xs ∨ y = .tup []) → gd (n + 1) (.tup ys) (m + 2) = true := fun ys h1 h2 => by
        refine gd_tup.mpr ⟨by omega, .inr (by omega), fun y hy => ?_⟩
        rcases h2 y hy with h | rfl | rfl | rfl
        · exact gd_mono (by omega) y (by omega) (hx y h)
        · exact decide_eq_true (show (0 : Int).natAbs ≤ 2 ^ 100 + 2 * (n + 1) from Nat.zero_le _)
        · exact gd_mono (by omega) _ (by omega) hd
        · exact gd_tup.mpr ⟨Nat.zero_le _, .inl rfl, (fun y hy => by cases hy)⟩
      have hc1 := cut_len1 xs
      simp only [List.mem_cons, List.not_mem_nil, or_false] at hxC
      rcases hxC with rfl | rfl | rfl | rfl | rfl | rfl | rfl | rfl | rfl
      · exact gdL_ok (n := n) (by omega) xs (gdL_iff.mpr hx)
      · exact gt _ (by simp; omega) fun y hy => (List.mem_append.mp hy).imp id fun z => .inl (List.mem_singleton.mp z)
      · exact gt _ (by have := cut_len xs (some 1) none; omega) fun y hy => .inl (cut_mem hy)
      · exact gt _ (by have := cut_len xs none (some (-1)); omega) fun y hy => .inl (cut_mem hy)
      · exact gt _ (by simp; omega) fun y hy => .inl (List.mem_reverse.mp hy)
      · exact gt _ (by rw [List.length_append]; omega) fun y hy => (List.mem_append.mp hy).elim .inl fun z => .inl (cut_mem z)
      · exact gt _ (by show 1 ≤ _; omega) fun y hy => .inr (.inr (.inl (List.mem_singleton.mp hy)))
      · exact gt _ (by rw [List.length_append]; omega) fun y hy => (List.mem_append.mp hy).elim (fun z => .inl (cut_mem z)) .inl
      · exact gt _ (by simp; omega) fun y hy => (List.mem_append.mp hy).imp id fun z => .inr (.inr (List.mem_singleton.mp z))
  | int i =>
    have hi : i.natAbs ≤ 2 ^ 100 + 2 * n := of_decide_eq_true hd
    refine ⟨.fz (.int i), rfl, .int i, rfl, rfl, true, rfl, ?_⟩
    refine ⟨by show 2 < 3; decide, .ow (oddA ++ oddB), rfl, .fz (.int i), rfl, .inl ⟨i, 1, rfl, rfl, .fz (.int i), rfl, i, 1, rfl, rfl, .fz (.int i), rfl, i, rfl, .fz (.int i), rfl, ?_⟩⟩
    dsimp only [wC]
    refine oEq_int ?_
    refine ⟨.fz (.int i), rfl, lq rfl, .fz (.int i), rfl, lq rfl, .fz (.int i), rfl, i, rfl, ?_, .fz (.int i), rfl, .inl ⟨i, 2, rfl, rfl, lq rfl, .inr (.inl ⟨[.int (i + 1), .int (i - 1), .int (-i), .bl (decide (i = 1)), .lst [.int i], .tup [.int i], .str (toString i), .int 0, .int (i + 2)], 4, rfl, rfl, ⟨by decide, by decide, lq rfl⟩, .inr (.inr (.inl ⟨_, _, rfl, rfl, lq rfl, ?_⟩))⟩)⟩⟩
    · have : i.natAbs < 2 ^ 1920 := by
        have : (2 : Nat) ^ 100 + 2 * 800 < 2 ^ 1920 := by decide +kernel
        omega
      by_cases z : i.natAbs = 0
      · rw [z]; decide
      · exact (Nat.log2_lt z).mpr this
    · dsimp only
      rw [put_odd]
      refine o_last dk (by simp [oddA]) (by show 62 ≤ 1000; decide) fun x hx' => ?_
      rcases List.mem_append.mp hx' with h | h
      · exact qAB x h
      · refine q x ?_
        obtain ⟨C, hC, hxC⟩ := List.mem_flatten.mp h
        rw [(List.mem_replicate.mp hC).2] at hxC
        have gi : ∀ (j : Int) (k : Nat), j.natAbs ≤ i.natAbs + 2 → gd (n + 1) (.int j) k = true := fun j k hj => decide_eq_true (show j.natAbs ≤ 2 ^ 100 + 2 * (n + 1) by omega)
        simp only [List.mem_cons, List.not_mem_nil, or_false] at hxC
        rcases hxC with rfl | rfl | rfl | rfl | rfl | rfl | rfl | rfl | rfl
        · exact gi _ _ (by omega)
        · exact gi _ _ (by omega)
        · exact gi _ _ (by omega)
        · rfl
        · rfl
        · exact gd_tup.mpr ⟨by show 1 ≤ _; omega, .inr (by omega), fun y hy => by rw [List.mem_singleton.mp hy]; exact gi _ _ (by omega)⟩
        · exact strOk_of _
        · exact gi _ _ (by simp)
        · exact gi _ _ (by omega)
  | ob a => cases hd
  | non => exact ⟨.fz .non, rfl, _, rfl, hok, false, rfl, plain⟩
  | bl b => exact ⟨.fz (.bl b), rfl, _, rfl, hok, false, rfl, plain⟩
  | str x => exact ⟨.fz (.str x), rfl, _, rfl, hok, false, rfl, plain⟩
  | lst x => exact ⟨.fz (.lst x), rfl, _, rfl, hok, false, rfl, plain⟩
  | dic x => exact ⟨.fz (.dic x), rfl, _, rfl, hok, false, rfl, plain⟩
end K72
set_option maxHeartbeats 4000000
namespace K72
open PySem PySem.Spec PyProof.Rows L2 DL

theorem cut_to (xs : List D) (a : Nat) : (DL.cutD xs none (some ((a : Nat) : Int))).length ≤ a := by
  unfold DL.cutD
  rw [List.length_take, HT.sIx_nat]
  omega
theorem cut_from (xs : List D) (a : Nat) : (DL.cutD xs (some ((a : Nat) : Int)) none).length ≤ xs.length - a := by
  unfold DL.cutD
  rw [List.length_take, List.length_drop, HT.sIx_nat]
  omega
def s__law_bent (j : Nat) : FS := fun G ds Q => ∃ (da : Addr) (d : D) (n m : Nat), ds = [.ob da, d] ∧ IsDeck G da ∧ n ≤ 800 ∧ m < j ∧ gd n d m = true ∧ ∀ d', gd (n + 1) d' (m + 2) = true → Q (.fz d')
theorem p__law_bent (j : Nat) : Keeps P__law_bent N__law_bent (s__law_bent (j + 1)) (w__law_bent s_draw s__law_odd (s__law_bent j)) := fun G ds Qd hh => by
  obtain ⟨da, d, n, m, rfl, dk, hn, hm, hd, q⟩ := hh
  have hok := gd_ok (by omega) d hd
  refine ⟨rfl, .fz d, rfl, okD_ob hok, isD "tuple" d, rfl, ?_⟩
  have odd : wRet (woCall s__law_odd (waCons (wVar 0) (waCons (wVar 1) (waNil)))) G { nx := fun _ => True, rt := Qd } [some (.fz (.ob da)), some (.fz d), none] := by
    cases d with
    | _ => exact ⟨.fz (.ob da), rfl, .fz _, rfl, da, _, n, m, rfl, dk, hn, hd, q⟩
  cases d with
  | tup xs =>
    refine ⟨.fz (.tup xs), rfl, lq rfl, xs, rfl, rfl, xs.isEmpty, rfl, ?_⟩
    obtain ⟨hl, hdep, hx⟩ := gd_tup.mp hd
    cases hxe : xs.isEmpty with
    | true => exact odd
    | false =>
      have hne : xs ≠ [] := fun z => by subst z; cases hxe
      have hpos := List.length_pos_iff.mpr hne
      have hm0 : 0 < m := hdep.resolve_left hne
      refine ⟨.fz (.ob da), rfl, da, 7, rfl, dk, by decide, by decide, fun z _ _ => ?_⟩
      dsimp only [wC]
      refine oEq_int ⟨decide (z = 0), rfl, ?_⟩
      cases decide (z = 0) with
      | true => exact odd
      | false =>
      refine ⟨by show 2 < 3; decide, .fz (.ob da), rfl, .fz (.tup xs), rfl, _, rfl, .inl ⟨xs, rfl, da, _, rfl, dk, by omega, by omega, fun a a0 a1 => ?_⟩⟩
      have ea : ((a.toNat : Nat) : Int) = a := Int.toNat_of_nonneg a0
      have hk : a.toNat < xs.length := by omega
      have hat := atI_nat (List.getElem?_eq_getElem hk)
      rw [ea] at hat
      have hxm := hx _ (List.getElem_mem hk)
      have c1 := cut_to xs a.toNat
      rw [ea] at c1
      have c2 := cut_from xs (a.toNat + 1)
      rw [show ((a.toNat + 1 : Nat) : Int) = a + 1 by omega] at c2
      refine ⟨.fz (.tup xs), rfl, .fz (.int a), rfl, a, rfl, .inr ⟨xs, rfl, .fz (.ob da), rfl, .fz (.tup xs), rfl, .fz (.int a), rfl, a, rfl, .inl ⟨xs, _, rfl, hat, da, _, n, m - 1, rfl, dk, hn, by omega, hxm, fun d' hd' => ⟨lq rfl, ?_⟩⟩⟩⟩
      refine .inr (.inr (.inr ⟨DL.cutD xs none (some a), [d'], rfl, rfl, ?_, .fz (.tup xs), rfl, .fz (.int a), rfl, .inl ⟨a, 1, rfl, rfl, a + 1, rfl, .inr ⟨xs, rfl, .inr (.inr (.inr ⟨_, _, rfl, rfl, ?_, q _ ?_⟩))⟩⟩⟩))
      · rw [List.length_singleton, sizeLine_eq]; omega
      · rw [List.length_append, List.length_singleton, sizeLine_eq]; omega
      · refine gd_tup.mpr ⟨by rw [List.length_append, List.length_append, List.length_singleton]; omega, .inr (by omega), fun y hy => ?_⟩
        rcases List.mem_append.mp hy with hy | hy
        · rcases List.mem_append.mp hy with hy | hy
          · exact gd_mono (by omega) y (by omega) (hx y (cut_mem hy))
          · rw [List.mem_singleton.mp hy]
            exact gd_mono (Nat.le_refl _) d' (by omega) hd'
        · exact gd_mono (by omega) y (by omega) (hx y (cut_mem hy))
  | _ => exact odd
end K72
set_option maxHeartbeats 4000000
namespace K72
open PySem PySem.Spec PyProof.Rows L2 DL

theorem gd_int {n m : Nat} {i : Int} (h : i.natAbs ≤ 1000) : gd n (.int i) m = true := by
  refine decide_eq_true (show i.natAbs ≤ 2 ^ 100 + 2 * n from ?_)
  have : (1000 : Nat) ≤ 2 ^ 100 := by decide +kernel
  omega
theorem gd_ints {n m : Nat} {ns : List Int} (hl : ns.length ≤ 6) (hb : ∀ x ∈ ns, 0 ≤ x ∧ x < 6) : gd n (.tup (ns.map .int)) (m + 1) = true := gd_tup.mpr ⟨by rw [List.length_map]; omega, .inr (by omega), fun y hy => by
  obtain ⟨x, hx, rfl⟩ := List.mem_map.mp hy
  have := hb x hx
  exact gd_int (by omega)⟩
theorem gd_list {n m : Nat} {xs : List D} (hl : xs.length ≤ 10) (h : ∀ x ∈ xs, gd n x (m + 1) = true) : gd n (.tup xs) (m + 2) = true := gd_tup.mpr ⟨by omega, .inr (by omega), h⟩
theorem gd_word {n m : Nat} {w : Str} (h : PyData.canLay0 (.str w) = true) : gd n (.str w) m = true := h
def s__law_thing : FS := fun G ds Q => ∃ (da : Addr) (h : Int) (d : D), ds = [.ob da, d] ∧ IsDeck G da ∧ h ≤ 6 ∧ BaseD h d ∧ ∀ d', gd 2 d' 6 = true → Q (.fz d')
abbrev hρ (da : Addr) (d : D) (way : Int) (t : D) (y4 : Option SV) : En := [some (.fz (.ob da)), some (.fz d), some (.fz (.int way)), some (.fz t), y4]
def thB (s_bent : FS) : WS := wIfS (wtV (wIsi "tuple" (wVar 3))) (wSet 3 (woCall s_bent (waCons (wVar 0) (waCons (wVar 3) (waNil))))) (wNext)
theorem th_loop {G : Gc} {Qd : SV → Prop} {da : Addr} {d : D} {way : Int} (dk : IsDeck G da) (q : ∀ d', gd 2 d' 6 = true → Qd (.fz d')) : ∀ (l : List D) (k : Nat) (t : D) (y4 : Option SV), k + l.length ≤ 2 → gd k t (2 + 2 * k) = true →
    wForL (wgName 4) (thB (s__law_bent 5)) G { nx := fun ρ' => wRetV 3 G { nx := fun _ => Qd (.fz .non), rt := Qd } ρ', rt := Qd } l (hρ da d way t y4)
  | [], k, t, y4, hk, ht => ⟨.fz t, rfl, q t (gd_mono (by rw [List.length_nil] at hk; omega) t (by rw [List.length_nil] at hk; omega) ht)⟩
  | x :: l, k, t, y4, hk, ht => by
    rw [List.length_cons] at hk
    refine ⟨by show 4 < 5; decide, .fz t, rfl, okD_ob (gd_ok (by omega) t ht), isD "tuple" t, rfl, ?_⟩
    cases isD "tuple" t with
    | false => exact th_loop dk q l (k + 1) t _ (by omega) (gd_mono (by omega) t (by omega) ht)
    | true =>
      refine ⟨by show 3 < 5; decide, .fz (.ob da), rfl, .fz t, rfl, da, t, k, 2 + 2 * k, rfl, dk, by omega, by omega, ht, fun d' hd' => ?_⟩
      dsimp only
      rw [put_fr (show frzAll _ = _ from rfl)]
      exact th_loop dk q l (k + 1) d' (some (.fz x)) (by omega) (by rw [show 2 + 2 * (k + 1) = 2 + 2 * k + 2 by omega]; exact hd')
theorem base_gd {h : Int} {d : D} (h6 : h ≤ 6) (b : BaseD h d) : gd 0 d 2 = true := by
  rcases b with ⟨ns, rfl, hl, hb⟩ | ⟨i, j, rfl, a, b, c, e⟩
  · refine gd_list (by show 2 ≤ 10; decide) fun x hx => ?_
    simp only [List.mem_cons, List.not_mem_nil, or_false] at hx
    rcases hx with rfl | rfl
    · exact gd_word lay_way
    · exact gd_ints hl fun x hx => by have := hb x hx; omega
  · refine gd_list (by show 3 ≤ 10; decide) fun x hx => ?_
    simp only [List.mem_cons, List.not_mem_nil, or_false] at hx
    rcases hx with rfl | rfl | rfl
    · exact gd_word lay_two
    · exact gd_int (by omega)
    · exact gd_int (by omega)
theorem base_word {h : Int} {d : D} (b : BaseD h d) : ∃ w r, d = .tup (.str w :: r) ∧ r.length ≤ 2 ∧ PyData.canLay0 (.str w) = true ∧ (w = "two" → ∃ i j : Int, r = [.int i, .int j] ∧ 0 ≤ i ∧ i < h ∧ 0 ≤ j ∧ j < h) := by
  rcases b with ⟨ns, rfl, hl, hb⟩ | ⟨i, j, rfl, a, b, c, e⟩
  · exact ⟨"way", _, rfl, by show 1 ≤ 2; decide, lay_way, fun z => absurd z (by decide +kernel)⟩
  · exact ⟨"two", _, rfl, by show 2 ≤ 2; decide, lay_two, fun _ => ⟨i, j, rfl, a, b, c, e⟩⟩
theorem p__law_thing : Keeps P__law_thing N__law_thing s__law_thing (w__law_thing s_draw s__law_odd s__law_pick (s__law_bent 5)) := fun G ds Qd hh => by
  obtain ⟨da, h, d, rfl, dk, h6, hb, q⟩ := hh
  have g0 := base_gd h6 hb
  obtain ⟨w, r, rfl, hr, hw, h2⟩ := base_word hb
  refine ⟨rfl, by show 2 < 5; decide, by show 3 < 5; decide, .fz (.ob da), rfl, da, 7, rfl, dk, by decide, by decide, fun way _ _ G' hG => ⟨.fz (.tup (.str w :: r)), rfl, ?_⟩⟩
  have e : put2 (startD N__law_thing [D.ob da, .tup (.str w :: r)]) 2 (.fz (.int way)) 3 (.fz (.tup (.str w :: r))) = hρ da (.tup (.str w :: r)) way (.tup (.str w :: r)) none := by
    unfold DL.put2
    split <;> rfl
  dsimp only
  rw [e]
  refine ⟨.fz (.int way), rfl, ?_⟩
  dsimp only [wC]
  refine oEq_int ⟨decide (way = 0), rfl, ?_⟩
  cases decide (way = 0) with
  | true => exact ⟨.fz (.ob da), rfl, da, .non, 0, 0, rfl, dk, by decide, rfl, fun d' hd' => q d' (gd_mono (by decide) d' (by decide) hd')⟩
  | false =>
  have tail2 : wSeq (wIfS (wtV (wOp oEq (wVar 2) (wC (.int 2)))) (wRet (wOpO oAdd (wTup (waCons (wIf (wtV (wOp oEq (wOp oIx (wVar 1) (wC (.int 0))) (wC (.str "way")))) (wC (.str "two")) (wC (.str "way"))) (waNil))) (wFz (woSl (wVar 1) (wpSome (wC (.int 1))) (wpNone))))) (wNext)) (wSeq (wFor (wjRange1 (waCons (wFz (woCall s__law_pick (waCons (wVar 0) (waCons (wFz (woLst (waCons (wC (.int 0)) (waCons (wC (.int 1)) (waCons (wC (.int 1)) (waCons (wC (.int 2)) (waNil))))))) (waNil))))) (waNil))) (wgName 4) (thB (s__law_bent 5))) (wRetV 3)) G { nx := fun _ => Qd (.fz .non), rt := Qd } (hρ da (.tup (.str w :: r)) way (.tup (.str w :: r)) none) := by
    refine ⟨.fz (.int way), rfl, ?_⟩
    dsimp only [wC]
    refine oEq_int ⟨decide (way = 2), rfl, ?_⟩
    cases decide (way = 2) with
    | true =>
      refine ⟨.fz (.tup (.str w :: r)), rfl, 0, rfl, .inl ⟨_, .str w, rfl, atI_0, ?_⟩⟩
      dsimp only [wC]
      refine oEq_str hw lay_way ⟨w == "way", rfl, ?_⟩
      have fin : ∀ w' : Str, PyData.canLay0 (.str w') = true → gd 2 (.tup ([.str w'] ++ DL.cutD (.str w :: r) (some 1) none)) 6 = true := fun w' hw' => by
        rw [cut_1]
        have hg := gd_tup.mp g0
        refine gd_tup.mpr ⟨by show r.length + 1 ≤ 10 + 2; omega, .inr (by decide), fun x hx => ?_⟩
        rcases List.mem_cons.mp hx with rfl | hx
        · exact gd_word hw'
        · exact gd_mono (by decide) x (by decide) (hg.2.2 x (List.mem_cons_of_mem _ hx))
      have len : ∀ w' : Str, ([D.str w']).length + (DL.cutD (.str w :: r) (some 1) none).length ≤ sizeLine := fun w' => by
        rw [cut_1, sizeLine_eq]; show 1 + r.length ≤ _; omega
      cases (w == "way") with
      | true => exact ⟨lq rfl, .fz (.tup (.str w :: r)), rfl, 1, rfl, .inr ⟨_, rfl, .inr (.inr (.inr ⟨[.str "two"], _, rfl, rfl, len _, q _ (fin _ lay_two)⟩))⟩⟩
      | false => exact ⟨lq rfl, .fz (.tup (.str w :: r)), rfl, 1, rfl, .inr ⟨_, rfl, .inr (.inr (.inr ⟨[.str "way"], _, rfl, rfl, len _, q _ (fin _ lay_way)⟩))⟩⟩
    | false =>
      refine ⟨.fz (.ob da), rfl, lq rfl, da, _, rfl, dk, by simp, by simp, fun x hx => ?_⟩
      have hk : ∃ k : Int, x = .int k ∧ 0 ≤ k ∧ k ≤ 2 := by
        simp only [List.mem_cons, List.not_mem_nil, or_false] at hx
        rcases hx with rfl | rfl | rfl | rfl
        · exact ⟨0, rfl, by decide, by decide⟩
        · exact ⟨1, rfl, by decide, by decide⟩
        · exact ⟨1, rfl, by decide, by decide⟩
        · exact ⟨2, rfl, by decide, by decide⟩
      obtain ⟨k, rfl, k0, k2⟩ := hk
      refine ⟨k, rfl, by omega, by omega, ?_⟩
      exact th_loop dk q _ 0 _ none (by rw [rangeD_rg, List.length_map, rg_len]; omega) g0
  refine ⟨.fz (.int way), rfl, ?_⟩
  dsimp only [wC]
  refine oEq_int ⟨decide (way = 1), rfl, ?_⟩
  cases decide (way = 1) with
  | false => exact tail2
  | true =>
  refine ⟨.fz (.tup (.str w :: r)), rfl, 0, rfl, .inl ⟨_, .str w, rfl, atI_0, ?_⟩⟩
  dsimp only [wC]
  refine oEq_str hw lay_two ⟨w == "two", rfl, ?_⟩
  cases hww : (w == "two") with
  | false => exact tail2
  | true =>
    obtain ⟨i, j, rfl, a, b, c, e⟩ := h2 (beq_iff_eq.mp hww)
    refine ⟨.fz (.tup (.str w :: [.int i, .int j])), rfl, 2, rfl, .inl ⟨_, .int j, rfl, rfl, .fz (.tup (.str w :: [.int i, .int j])), rfl, 1, rfl, .inl ⟨_, .int i, rfl, rfl, lq rfl, q _ ?_⟩⟩⟩
    refine gd_list (by show 3 ≤ 10; decide) fun x hx => ?_
    simp only [List.mem_cons, List.not_mem_nil, or_false] at hx
    rcases hx with rfl | rfl | rfl
    · exact gd_word lay_two
    · exact gd_int (by omega)
    · exact gd_int (by omega)
end K72
set_option maxHeartbeats 4000000
namespace K72
open PySem PySem.Spec PyProof.Rows L2 DL

def oz : Option D → Option SV
  | none => none
  | some d => some (.fz d)
abbrev lρ (sc da : Addr) (o2 o3 o4 o5 o6 o7 o8 : Option D) : En := [some (.fz (.ob sc)), some (.fz (.ob da)), oz o2, oz o3, oz o4, oz o5, oz o6, oz o7, oz o8, none, none]
theorem frz_oz (o : Option D) (ρ : En) : frzAll (oz o :: ρ) = oz o :: frzAll ρ := by cases o <;> rfl
theorem frz_l (sc da : Addr) (o2 o3 o4 o5 o6 o7 o8 : Option D) : frzAll (lρ sc da o2 o3 o4 o5 o6 o7 o8) = lρ sc da o2 o3 o4 o5 o6 o7 o8 := by
  show frzAll (oz (some (.ob sc)) :: oz (some (.ob da)) :: oz o2 :: oz o3 :: oz o4 :: oz o5 :: oz o6 :: oz o7 :: oz o8 :: oz none :: oz none :: []) = _
  simp only [frz_oz]
  rfl
def s_law (K : PySem.W.Frag) : FS := fun G ds Q => ∃ (a : Addr) (ns : List Int), ds = [.ob a] ∧ ns.length ≤ 63 ∧ (∀ H, G.Wd H → SqL K H a (ns.map V.int)) ∧ Q (.fz (.bl true))
def lwB : WS := wSeq (wSet 6 (woCall s__law_thing (waCons (wVar 1) (waCons (wFz (woCall s__law_base (waCons (wVar 1) (waCons (wVar 3) (waCons (wVar 4) (waNil)))))) (waNil))))) (wSeq (wSet 7 (woCall s__law_is_way (waCons (wVar 3) (waCons (wVar 4) (waCons (wVar 6) (waNil)))))) (wSeq (wIfS (wtV (wOp oEq (wOp (oI (fun _ j => 0 < j) fun i j => i % j) (wFz (woCB oInt (waCons (wVar 5) (waNil)))) (wC (.int 2))) (wC (.int 0)))) (wSet 8 (woCall s_way_holds (waCons (wVar 3) (waCons (wVar 4) (waCons (wVar 6) (waNil)))))) (wSet 8 (woCallK 3 [2, 1, 0] s_way_holds (waCons (wVar 6) (waCons (wVar 4) (waCons (wVar 3) (waNil))))))) (wIfS (wtV (wOp oNe (wFz (woCB oRepr (waCons (wVar 8) (waNil)))) (wFz (woCB oRepr (waCons (wVar 7) (waNil)))))) (wRet (woFz (wC (.bl false)))) (wNext))))
section
variable {G : Gc} {E : EndsD} {sc da : Addr} {h : Int} {ts : List (Int × Int)}
theorem l_same {o2 o3 o4 o5 o6 : Option D} {b : Bool} (q : E.nx (lρ sc da o2 o3 o4 o5 o6 (some (.bl b)) (some (.bl b)))) : wIfS (wtV (wOp oNe (wFz (woCB oRepr (waCons (wVar 8) (waNil)))) (wFz (woCB oRepr (waCons (wVar 7) (waNil)))))) (wRet (woFz (wC (.bl false)))) (wNext) G E (lρ sc da o2 o3 o4 o5 o6 (some (.bl b)) (some (.bl b))) := by
  refine ⟨.fz (.bl b), rfl, .bl b, .bool b, rfl, rfl, rfl, rfl, ?_, .fz (.bl b), rfl, .bl b, .bool b, rfl, rfl, rfl, rfl, ?_, ?_⟩
  · cases b <;> decide +kernel
  · cases b <;> decide +kernel
  · refine oNe_str (by cases b <;> decide +kernel) (by cases b <;> decide +kernel) ⟨false, ?_, q⟩
    cases b <;> exact congrArg D.bl (by decide +kernel)
theorem l_turns (dk : IsDeck G da) (h1 : 1 ≤ h) (h6 : h ≤ 6) (ht : Ties h ts) (nr : ∀ a, ¬ Rp1 ts a a) {o2 : Option D} (q : ∀ o5 o6 o7 o8, E.nx (lρ sc da o2 (some (.int h)) (some (tiesD ts)) o5 o6 o7 o8)) : ∀ (l : List Int) (o5 o6 o7 o8 : Option D), wForL (wgName 5) lwB G E (l.map D.int) (lρ sc da o2 (some (.int h)) (some (tiesD ts)) o5 o6 o7 o8)
  | [], o5, o6, o7, o8 => q o5 o6 o7 o8
  | t :: l, o5, o6, o7, o8 => by
    refine ⟨by show 5 < 11; decide, by show 6 < 11; decide, .fz (.ob da), rfl, .fz (.ob da), rfl, .fz (.int h), rfl, .fz (tiesD ts), rfl, da, h, ts, rfl, dk, h1, h6, ht, nr, fun d hb => ⟨da, h, d, rfl, dk, h6, hb, fun d' hd' => ?_⟩⟩
    have hok := gd_ok (by decide) d' hd'
    dsimp only
    change wSeq _ _ G _ (put (lρ sc da o2 (some (.int h)) (some (tiesD ts)) (some (.int t)) o6 o7 o8) 6 (.fz d'))
    rw [put_fr (frz_l ..)]
    refine ⟨by show 7 < 11; decide, .fz (.int h), rfl, .fz (tiesD ts), rfl, .fz d', rfl, h, ts, d', rfl, h1, h6, ht, hok, fun b1 hb1 => ?_⟩
    have same : ∀ b2 : Bool, (b2 = true ↔ IsWay h ts d') → b2 = b1 := fun b2 hb2 => by
      cases b1 <;> cases b2 <;> simp_all
    have nxt := l_turns dk h1 h6 ht nr q l (some (.int t)) (some d') (some (.bl b1)) (some (.bl b1))
    refine ⟨.fz (.int t), rfl, t, rfl, t, 2, rfl, rfl, by show (0 : Int) < 2; decide, ?_⟩
    dsimp only [wC]
    refine oEq_int ⟨decide (t % 2 = 0), rfl, ?_⟩
    cases decide (t % 2 = 0) with
    | true =>
      refine ⟨by show 8 < 11; decide, .fz (.int h), rfl, .fz (tiesD ts), rfl, .fz d', rfl, h, ts, d', rfl, h1, h6, ht, acyc_of ht nr, hok, fun b2 hb2 => ?_⟩
      rw [same b2 hb2]
      exact l_same (E := { E with nx := wForL (wgName 5) lwB G E (l.map D.int), bk := E.nx, ct := wForL (wgName 5) lwB G E (l.map D.int) }) nxt
    | false =>
      refine ⟨by show 8 < 11; decide, .fz d', rfl, .fz (tiesD ts), rfl, .fz (.int h), rfl, rfl, h, ts, d', rfl, h1, h6, ht, acyc_of ht nr, hok, fun b2 hb2 => ?_⟩
      rw [same b2 hb2]
      exact l_same (E := { E with nx := wForL (wgName 5) lwB G E (l.map D.int), bk := E.nx, ct := wForL (wgName 5) lwB G E (l.map D.int) }) nxt

def lwA : WS := wSeq (wSet 3 (woCall s__law_pick (waCons (wVar 1) (waCons (wFz (woLst (waCons (wC (.int 3)) (waCons (wC (.int 4)) (waCons (wC (.int 2)) (waCons (wC (.int 5)) (waCons (wC (.int 6)) (waCons (wC (.int 1)) (waCons (wC (.int 3)) (waNil)))))))))) (waNil))))) (wSeq (wSet 4 (woCall s__law_ties (waCons (wVar 1) (waCons (wVar 3) (waNil))))) (wSeq (wIfS (wtV (wFz (woCall s__law_has_ring (waCons (wVar 3) (waCons (wVar 4) (waNil)))))) (wSet 4 (woCB oTuple (waCons (wFz (wComp (wiSeq (wVar 4)) (wgTup 2 (wgCons (wgName 9) (wgCons (wgName 10) (wgNil)))) (wtV (wOp (oB0 fun i j => decide (i < j)) (wVar 9) (wVar 10))) (wTup (waCons (wVar 9) (waCons (wVar 10) (waNil)))) [9, 10])) (waNil)))) (wNext)) (wFor (wjRange1 (waCons (wC (.int 8)) (waNil))) (wgName 5) lwB)))
def upP : D → Bool
  | .tup [.int i, .int j] => decide (i < j)
  | _ => false
theorem up_all (ts : List (Int × Int)) : ((ts.map pD).filter upP).map (fun d => d) = (ts.filter fun t => decide (t.1 < t.2)).map pD := by
  rw [List.map_id', List.filter_map]
  rfl
theorem l_rounds (dk : IsDeck G da) (q : ∀ o2 o3 o4 o5 o6 o7 o8, E.nx (lρ sc da o2 o3 o4 o5 o6 o7 o8)) : ∀ (l : List D) (o2 o3 o4 o5 o6 o7 o8 : Option D), wForL (wgName 2) lwA G E l (lρ sc da o2 o3 o4 o5 o6 o7 o8)
  | [], o2, o3, o4, o5, o6, o7, o8 => q o2 o3 o4 o5 o6 o7 o8
  | x :: l, o2, o3, o4, o5, o6, o7, o8 => by
    refine ⟨by show 2 < 11; decide, by show 3 < 11; decide, .fz (.ob da), rfl, lq rfl, da, _, rfl, dk, by simp, by simp, fun y hy => ?_⟩
    have hk : ∃ k : Int, y = .int k ∧ 1 ≤ k ∧ k ≤ 6 := by
      simp only [List.mem_cons, List.not_mem_nil, or_false] at hy
      rcases hy with rfl | rfl | rfl | rfl | rfl | rfl | rfl
      · exact ⟨3, rfl, by decide, by decide⟩
      · exact ⟨4, rfl, by decide, by decide⟩
      · exact ⟨2, rfl, by decide, by decide⟩
      · exact ⟨5, rfl, by decide, by decide⟩
      · exact ⟨6, rfl, by decide, by decide⟩
      · exact ⟨1, rfl, by decide, by decide⟩
      · exact ⟨3, rfl, by decide, by decide⟩
    obtain ⟨h, rfl, h1, h6⟩ := hk
    have go : ∀ ts, Ties h ts → (∀ a, ¬ Rp1 ts a a) → wFor (wjRange1 (waCons (wC (.int 8)) (waNil))) (wgName 5) lwB G { E with nx := wForL (wgName 2) lwA G E l, bk := E.nx, ct := wForL (wgName 2) lwA G E l } (lρ sc da (some x) (some (.int h)) (some (tiesD ts)) o5 o6 o7 o8) := fun ts ht nr => by
      refine ⟨8, rfl, by decide, by decide, ?_⟩
      rw [rangeD_rg]
      exact l_turns dk h1 h6 ht nr (fun o5 o6 o7 o8 => l_rounds dk q l _ _ _ o5 o6 o7 o8) _ o5 o6 o7 o8
    refine ⟨by show 4 < 11; decide, .fz (.ob da), rfl, .fz (.int h), rfl, da, h, rfl, dk, h1, h6, fun ts ht => ?_⟩
    dsimp only
    change wSeq _ _ G _ (put (lρ sc da (some x) (some (.int h)) o4 o5 o6 o7 o8) 4 (.fz (tiesD ts)))
    rw [put_fr (frz_l ..)]
    refine ⟨.fz (.int h), rfl, .fz (tiesD ts), rfl, h, ts, rfl, h1, h6, ht, fun b hb => ⟨b, rfl, ?_⟩⟩
    cases b with
    | false => exact go ts ht fun a r => by have := hb.mpr ⟨a, r⟩; cases this
    | true =>
      refine ⟨by show 4 < 11; decide, .fz (tiesD ts), rfl, ts.map pD, rfl, ?_⟩
      refine wcL_fm upP (fun d => d) _ [] _ (fun d hd G' _ Qy Qn hY hN => ?_) (by rw [List.length_nil, List.length_map]; have := le_size ht.few; omega) ?_
      · obtain ⟨⟨i, j⟩, _, rfl⟩ := List.mem_map.mp hd
        change decide (i < j) = true → _ at hY
        change decide (i < j) = false → _ at hN
        refine ⟨_, rfl, rfl, _, _, rfl, ⟨by show 9 < 11; decide, _, _, rfl, ⟨by show 10 < 11; decide, rfl, ?_⟩⟩⟩
        refine ⟨.fz (.int i), rfl, .fz (.int j), rfl, i, j, rfl, rfl, decide (i < j), rfl, ?_⟩
        cases hc : decide (i < j) with
        | true => exact ⟨.fz (.int i), rfl, .fz (.int j), rfl, lq rfl, hY hc⟩
        | false => exact hN hc
      · rw [List.nil_append, up_all]
        refine ⟨_, _, rfl, rfl, ?_⟩
        dsimp only
        change wFor _ _ _ G _ (put (lρ sc da (some x) (some (.int h)) (some (tiesD ts)) o5 o6 o7 o8) 4 (.fz (tiesD (ts.filter fun t => decide (t.1 < t.2)))))
        rw [put_fr (frz_l ..)]
        exact go _ ht.up fun a r => by
          have := rp1_lt (fun u hu => of_decide_eq_true (List.mem_filter.mp hu).2) r
          omega
end
theorem p_law (K : PySem.W.Frag) : Keeps P_law N_law (s_law K) (w_law K s__law_pick s__law_ties s__law_has_ring s__law_thing s__law_base s__law_is_way s_way_holds) := fun G ds Qd hh => by
  obtain ⟨a, ns, rfl, hl, hs, q⟩ := hh
  refine ⟨rfl, by show 1 < 11; decide, fun k sv hk => ?_, ⟨a, ns, rfl, hl, hs⟩, fun da G' hG dk => ?_⟩
  · obtain ⟨d, rfl, _⟩ := startD_get hk
    rfl
  · refine ⟨4, rfl, by decide, by decide, ?_⟩
    exact l_rounds (E := { nx := fun ρ' => wRet (woFz (wC (.bl true))) G' { nx := fun _ => Qd (.fz .non), rt := Qd } ρ', rt := Qd }) dk (fun _ _ _ _ _ _ _ => q) _ none none none none none none none
end K72
set_option maxHeartbeats 4000000
namespace K72
open PySem PySem.Spec PyProof.Rows L2 DL

abbrev Fact (B : Bs) (x : Str) (st : Stmt) (P : List Str) : Prop := ∃ f fd, FunD B.K x x (defArgs st) (defBody st) (defScope st) [] [] f fd ∧ B.mg x = some (.ref f) ∧ Binds B.K fd P []
def s_never : FS := fun _ _ _ => False
theorem chain {B : Bs} (ff : FF B) {kD : Nat} {aD : Addr} {fD : FuncData} (FD : FnOk B.P B.w B.K B.mg B.base CX0 1 aD fD P__law_deck (spDeck B.K)) (hmD : B.mg "_law_deck" = some (.ref aD)) (hkD : PySem.W.keepIn B.K (.ref aD) = true) (hbD : Binds B.K fD P__law_deck [])
    (k__law_draw : Kn B 1 "_law_draw" t__law_draw P__law_draw s_draw) (k_ring_among : Kn B 1 "ring_among" t_ring_among P_ring_among s_never) (k_bent0 : Kn B 1 "_law_bent" t__law_bent P__law_bent (s__law_bent 0))
    (h_is_integer : Fact B "is_integer" t_is_integer P_is_integer) (h_is_between : Fact B "is_between" t_is_between P_is_between) (h_are_between : Fact B "are_between" t_are_between P_are_between) (h_is_word : Fact B "is_word" t_is_word P_is_word) (h_is_ascending : Fact B "is_ascending" t_is_ascending P_is_ascending) (h_is_meeting_value : Fact B "is_meeting_value" t_is_meeting_value P_is_meeting_value) (h_are_meetings : Fact B "are_meetings" t_are_meetings P_are_meetings) (h_are_ties_value : Fact B "are_ties_value" t_are_ties_value P_are_ties_value) (h_is_order_value : Fact B "is_order_value" t_is_order_value P_is_order_value) (h_need_hands : Fact B "need_hands" t_need_hands P_need_hands) (h_need_ties : Fact B "need_ties" t_need_ties P_need_ties) (h_need_hands_and_ties : Fact B "need_hands_and_ties" t_need_hands_and_ties P_need_hands_and_ties) (h_order_or_rest : Fact B "order_or_rest" t_order_or_rest P_order_or_rest) (h_raw_round : Fact B "raw_round" t_raw_round P_raw_round) (h_need_no_ring : Fact B "need_no_ring" t_need_no_ring P_need_no_ring) (h_reached_from : Fact B "reached_from" t_reached_from P_reached_from) (h_way_holds : Fact B "way_holds" t_way_holds P_way_holds) (h__law_pick : Fact B "_law_pick" t__law_pick P__law_pick) (h__law_order : Fact B "_law_order" t__law_order P__law_order) (h__law_ties : Fact B "_law_ties" t__law_ties P__law_ties) (h__law_reach : Fact B "_law_reach" t__law_reach P__law_reach) (h__law_has_ring : Fact B "_law_has_ring" t__law_has_ring P__law_has_ring) (h__law_is_integer : Fact B "_law_is_integer" t__law_is_integer P__law_is_integer) (h__law_are_integers : Fact B "_law_are_integers" t__law_are_integers P__law_are_integers) (h__law_is_way : Fact B "_law_is_way" t__law_is_way P__law_is_way) (h__law_odd : Fact B "_law_odd" t__law_odd P__law_odd) (h__law_bent : Fact B "_law_bent" t__law_bent P__law_bent) (h__law_ahead : Fact B "_law_ahead" t__law_ahead P__law_ahead) (h__law_base : Fact B "_law_base" t__law_base P__law_base) (h__law_thing : Fact B "_law_thing" t__law_thing P__law_thing) (h_law : Fact B "law" t_law P_law) : Kn B 10 "law" t_law P_law (s_law B.K) := by
  have k_is_integer : Kn B 1 "is_integer" t_is_integer P_is_integer s_is_integer := by
    obtain ⟨f, fd, F, hm, hb⟩ := h_is_integer
    exact kn_of F sc_is_integer hm hb (d_is_integer ff ) (p_is_integer)
  have k_is_between : Kn B 2 "is_between" t_is_between P_is_between s_is_between := by
    obtain ⟨f, fd, F, hm, hb⟩ := h_is_between
    exact kn_of F sc_is_between hm hb (d_is_between ff k_is_integer (by decide)) (p_is_between)
  have k_are_between : Kn B 3 "are_between" t_are_between P_are_between s_are_between := by
    obtain ⟨f, fd, F, hm, hb⟩ := h_are_between
    exact kn_of F sc_are_between hm hb (d_are_between ff k_is_between (by decide)) (p_are_between)
  have k_is_word : Kn B 1 "is_word" t_is_word P_is_word s_is_word := by
    obtain ⟨f, fd, F, hm, hb⟩ := h_is_word
    exact kn_of F sc_is_word hm hb (d_is_word ff ) (p_is_word)
  have k_is_ascending : Kn B 1 "is_ascending" t_is_ascending P_is_ascending s_is_ascending := by
    obtain ⟨f, fd, F, hm, hb⟩ := h_is_ascending
    exact kn_of F sc_is_ascending hm hb (d_is_ascending ff ) (p_is_ascending)
  have k_is_meeting_value : Kn B 4 "is_meeting_value" t_is_meeting_value P_is_meeting_value s_is_meeting_value := by
    obtain ⟨f, fd, F, hm, hb⟩ := h_is_meeting_value
    exact kn_of F sc_is_meeting_value hm hb (d_is_meeting_value ff k_are_between (by decide)) (p_is_meeting_value)
  have k_are_meetings : Kn B 5 "are_meetings" t_are_meetings P_are_meetings s_are_meetings := by
    obtain ⟨f, fd, F, hm, hb⟩ := h_are_meetings
    exact kn_of F sc_are_meetings hm hb (d_are_meetings ff k_is_meeting_value (by decide)) (p_are_meetings)
  have k_are_ties_value : Kn B 6 "are_ties_value" t_are_ties_value P_are_ties_value s_are_ties_value := by
    obtain ⟨f, fd, F, hm, hb⟩ := h_are_ties_value
    exact kn_of F sc_are_ties_value hm hb (d_are_ties_value ff k_are_meetings (by decide) k_is_ascending (by decide)) (p_are_ties_value)
  have k_is_order_value : Kn B 4 "is_order_value" t_is_order_value P_is_order_value s_is_order_value := by
    obtain ⟨f, fd, F, hm, hb⟩ := h_is_order_value
    exact kn_of F sc_is_order_value hm hb (d_is_order_value ff k_are_between (by decide)) (p_is_order_value)
  have k_need_hands : Kn B 3 "need_hands" t_need_hands P_need_hands s_need_hands := by
    obtain ⟨f, fd, F, hm, hb⟩ := h_need_hands
    exact kn_of F sc_need_hands hm hb (d_need_hands ff k_is_between (by decide)) (p_need_hands)
  have k_need_ties : Kn B 7 "need_ties" t_need_ties P_need_ties s_need_ties := by
    obtain ⟨f, fd, F, hm, hb⟩ := h_need_ties
    exact kn_of F sc_need_ties hm hb (d_need_ties ff k_are_ties_value (by decide)) (p_need_ties)
  have k_need_hands_and_ties : Kn B 8 "need_hands_and_ties" t_need_hands_and_ties P_need_hands_and_ties s_need_hands_and_ties := by
    obtain ⟨f, fd, F, hm, hb⟩ := h_need_hands_and_ties
    exact kn_of F sc_need_hands_and_ties hm hb (d_need_hands_and_ties ff k_need_hands (by decide) k_need_ties (by decide)) (p_need_hands_and_ties)
  have k_order_or_rest : Kn B 1 "order_or_rest" t_order_or_rest P_order_or_rest s_order_or_rest := by
    obtain ⟨f, fd, F, hm, hb⟩ := h_order_or_rest
    exact kn_of F sc_order_or_rest hm hb (d_order_or_rest ff ) (p_order_or_rest)
  have k_raw_round : Kn B 2 "raw_round" t_raw_round P_raw_round s_raw_round := by
    obtain ⟨f, fd, F, hm, hb⟩ := h_raw_round
    exact kn_of F sc_raw_round hm hb (d_raw_round ff k_order_or_rest (by decide) k_ring_among (by decide)) (p_raw_round s_never)
  have k_need_no_ring : Kn B 3 "need_no_ring" t_need_no_ring P_need_no_ring s_need_no_ring := by
    obtain ⟨f, fd, F, hm, hb⟩ := h_need_no_ring
    exact kn_of F sc_need_no_ring hm hb (d_need_no_ring ff k_raw_round (by decide)) (p_need_no_ring)
  have k_reached_from : Kn B 1 "reached_from" t_reached_from P_reached_from s_reached_from := by
    obtain ⟨f, fd, F, hm, hb⟩ := h_reached_from
    exact kn_of F sc_reached_from hm hb (d_reached_from ff ) (p_reached_from)
  have k_way_holds : Kn B 9 "way_holds" t_way_holds P_way_holds s_way_holds := by
    obtain ⟨f, fd, F, hm, hb⟩ := h_way_holds
    exact kn_of F sc_way_holds hm hb (d_way_holds ff k_need_hands_and_ties (by decide) k_need_no_ring (by decide) k_is_word (by decide) k_is_order_value (by decide) k_are_between (by decide) k_reached_from (by decide)) (p_way_holds)
  have k__law_pick : Kn B 2 "_law_pick" t__law_pick P__law_pick s__law_pick := by
    obtain ⟨f, fd, F, hm, hb⟩ := h__law_pick
    exact kn_of F sc__law_pick hm hb (d__law_pick ff k__law_draw (by decide)) (p__law_pick)
  have k__law_order : Kn B 2 "_law_order" t__law_order P__law_order s__law_order := by
    obtain ⟨f, fd, F, hm, hb⟩ := h__law_order
    exact kn_of F sc__law_order hm hb (d__law_order ff k__law_draw (by decide)) (p__law_order)
  have k__law_ties : Kn B 3 "_law_ties" t__law_ties P__law_ties s__law_ties := by
    obtain ⟨f, fd, F, hm, hb⟩ := h__law_ties
    exact kn_of F sc__law_ties hm hb (d__law_ties ff k__law_order (by decide) k__law_draw (by decide)) (p__law_ties)
  have k__law_reach : Kn B 1 "_law_reach" t__law_reach P__law_reach s__law_reach := by
    obtain ⟨f, fd, F, hm, hb⟩ := h__law_reach
    exact kn_of F sc__law_reach hm hb (d__law_reach ff ) (p__law_reach)
  have k__law_has_ring : Kn B 2 "_law_has_ring" t__law_has_ring P__law_has_ring s__law_has_ring := by
    obtain ⟨f, fd, F, hm, hb⟩ := h__law_has_ring
    exact kn_of F sc__law_has_ring hm hb (d__law_has_ring ff k__law_reach (by decide)) (p__law_has_ring)
  have k__law_is_integer : Kn B 1 "_law_is_integer" t__law_is_integer P__law_is_integer s__law_is_integer := by
    obtain ⟨f, fd, F, hm, hb⟩ := h__law_is_integer
    exact kn_of F sc__law_is_integer hm hb (d__law_is_integer ff ) (p__law_is_integer)
  have k__law_are_integers : Kn B 2 "_law_are_integers" t__law_are_integers P__law_are_integers s__law_are_integers := by
    obtain ⟨f, fd, F, hm, hb⟩ := h__law_are_integers
    exact kn_of F sc__law_are_integers hm hb (d__law_are_integers ff k__law_is_integer (by decide)) (p__law_are_integers)
  have k__law_is_way : Kn B 3 "_law_is_way" t__law_is_way P__law_is_way s__law_is_way := by
    obtain ⟨f, fd, F, hm, hb⟩ := h__law_is_way
    exact kn_of F sc__law_is_way hm hb (d__law_is_way ff k__law_are_integers (by decide) k__law_reach (by decide)) (p__law_is_way)
  have k__law_odd : Kn B 3 "_law_odd" t__law_odd P__law_odd s__law_odd := by
    obtain ⟨f, fd, F, hm, hb⟩ := h__law_odd
    exact kn_of F sc__law_odd hm hb (d__law_odd ff k__law_is_integer (by decide) k__law_pick (by decide)) (p__law_odd)
  have k_bent1 : Kn B 4 "_law_bent" t__law_bent P__law_bent (s__law_bent 1) := by
    obtain ⟨f, fd, F, hm, hb⟩ := h__law_bent
    exact kn_of F sc__law_bent hm hb (d__law_bent ff k__law_draw (by decide) k__law_odd (by decide) k_bent0 (by decide)) (p__law_bent 0)
  have k_bent2 : Kn B 5 "_law_bent" t__law_bent P__law_bent (s__law_bent 2) := by
    obtain ⟨f, fd, F, hm, hb⟩ := h__law_bent
    exact kn_of F sc__law_bent hm hb (d__law_bent ff k__law_draw (by decide) k__law_odd (by decide) k_bent1 (by decide)) (p__law_bent 1)
  have k_bent3 : Kn B 6 "_law_bent" t__law_bent P__law_bent (s__law_bent 3) := by
    obtain ⟨f, fd, F, hm, hb⟩ := h__law_bent
    exact kn_of F sc__law_bent hm hb (d__law_bent ff k__law_draw (by decide) k__law_odd (by decide) k_bent2 (by decide)) (p__law_bent 2)
  have k_bent4 : Kn B 7 "_law_bent" t__law_bent P__law_bent (s__law_bent 4) := by
    obtain ⟨f, fd, F, hm, hb⟩ := h__law_bent
    exact kn_of F sc__law_bent hm hb (d__law_bent ff k__law_draw (by decide) k__law_odd (by decide) k_bent3 (by decide)) (p__law_bent 3)
  have k__law_bent : Kn B 8 "_law_bent" t__law_bent P__law_bent (s__law_bent 5) := by
    obtain ⟨f, fd, F, hm, hb⟩ := h__law_bent
    exact kn_of F sc__law_bent hm hb (d__law_bent ff k__law_draw (by decide) k__law_odd (by decide) k_bent4 (by decide)) (p__law_bent 4)
  have k__law_ahead : Kn B 3 "_law_ahead" t__law_ahead P__law_ahead s__law_ahead := by
    obtain ⟨f, fd, F, hm, hb⟩ := h__law_ahead
    exact kn_of F sc__law_ahead hm hb (d__law_ahead ff k__law_reach (by decide) k__law_pick (by decide)) (p__law_ahead)
  have k__law_base : Kn B 4 "_law_base" t__law_base P__law_base s__law_base := by
    obtain ⟨f, fd, F, hm, hb⟩ := h__law_base
    exact kn_of F sc__law_base hm hb (d__law_base ff k__law_draw (by decide) k__law_ahead (by decide) k__law_order (by decide) k__law_reach (by decide) k__law_pick (by decide)) (p__law_base)
  have k__law_thing : Kn B 9 "_law_thing" t__law_thing P__law_thing s__law_thing := by
    obtain ⟨f, fd, F, hm, hb⟩ := h__law_thing
    exact kn_of F sc__law_thing hm hb (d__law_thing ff k__law_draw (by decide) k__law_odd (by decide) k__law_pick (by decide) k__law_bent (by decide)) (p__law_thing)
  have k_law : Kn B 10 "law" t_law P_law (s_law B.K) := by
    obtain ⟨f, fd, F, hm, hb⟩ := h_law
    exact kn_of F sc_law hm hb (d_law ff FD hmD hkD hbD (by decide) k__law_pick (by decide) k__law_ties (by decide) k__law_has_ring (by decide) k__law_thing (by decide) k__law_base (by decide) k__law_is_way (by decide) k_way_holds (by decide)) (p_law B.K)
  exact k_law
end K72
set_option maxHeartbeats 4000000
namespace K72
open PySem PySem.Spec PyProof.Rows L2 DL
theorem iteB {b : Bool} {p q : Prop} (h : b = true) (hp : p) : if b = true then p else q := by rw [if_pos h]; exact hp
abbrev int1 : List V → Hp → VK → Prop := fun xs H Q => (∃ i, xs = [V.int i] ∧ Q (V.int i) H) ∨ ∃ k, xs = [V.bl k] ∧ Q (V.int (if k = true then 1 else 0)) H
abbrev md : R2 := rI (fun _ j => 0 < j) fun i j => V.int (i % j)
def tail72b : TS :=
  tSeq (tAsg (tOp md (tCB int1 (tCons (tOp (rI0 fun i j => V.int (i + j)) (tOp (rI0 fun i j => V.int (i + j)) (tOp (rI CMul fun i j => V.int (i * j)) (tVar 2) (tVar 2)) (tOp (rI CMul fun i j => V.int (i * j)) (tC (V.int 58391)) (tDGet (tVar 0) (tC (V.str (Str.ofString "turn")))))) (tC (V.int 72))) tNil)) (tC (V.int 2147483629))) (gName 2))
    (tSeq (tAsg (tOp md (tCB int1 (tCons (tOp (rI CMul fun i j => V.int (i * j)) (tVar 2) (tC (V.int 69621))) tNil)) (tC (V.int 2147483579))) (gName 2))
      (tRet (tOp md (tCB int1 (tCons (tOp (rI CDiv fun i j => V.int (i / j)) (tVar 2) (tC (V.int 64))) tNil)) (tVar 1))))
def tail72 : TS := tSeq (tAsg (tOp md (tCB int1 (tCons (tOp (rI0 fun i j => V.int (i + j)) (tOp (rI CMul fun i j => V.int (i * j)) (tVar 2) (tC (V.int 40692))) (tC (V.int 72))) tNil)) (tC (V.int 2147483579))) (gName 2)) tail72b
theorem kn_draw {B : Bs} (hmax : B.mg "max" = none) (hint : B.mg "int" = none) {k : Nat} {f : Addr} {fd : FuncData} (F : FunD B.K "_law_draw" "_law_draw" (defArgs t__law_draw) (defBody t__law_draw) (defScope t__law_draw) [] [] f fd) (hm : B.mg "_law_draw" = some (.ref f)) (hb : Binds B.K fd P__law_draw []) :
    Kn B (k + 1) "_law_draw" t__law_draw P__law_draw s_draw := by
  refine kn_raw F sc__law_draw hm hb (fun G ds Q ⟨da, n, e, _⟩ => by rw [e]; rfl) fun X fX vs H Q E ⟨G, F, ds, Qd, sF, sR, sW, r, ⟨da, n, e, ⟨ca, dk⟩, hn0, hn1, hQ⟩, g⟩ => ?_
  subst e
  obtain ⟨u, u2, rfl, ra, rb⟩ := r.two
  have e2 := rb.intI
  subst e2
  cases ra
  have nd : X.N.Nodup := by rw [fX.N]; exact (by decide +kernel : N__law_draw.Nodup)
  have hu : X.A.units + 1 < cLine := by have := fX.room.un; omega
  have hu64 : X.A.units + 64 < cLine := by have := fX.room.un; omega
  have hc := fX.calm
  have nm : ∀ {i : Nat} {x : Str} {p : Pos}, (N__law_draw[i]? == some x) = true → ((defScope t__law_draw).names.lookup x == some .local || (defScope t__law_draw).names.lookup x == some .cell || (defScope t__law_draw).names.lookup x == some .free) = true → (x == ("__debug__" : Str)) = false → (x == ("__classdict__" : Str)) = false → PE X (.Name x p) (tVar i) :=
    fun h1 h2 h3 h4 => pvN fX h1 h2 h3 h4
  have st : ∀ {i : Nat} {x : Str} {e : Expr} {te : TE} {pos pos' : Pos}, PE X e te → (N__law_draw[i]? == some x) = true → ((defScope t__law_draw).names.lookup x == some .local || ((defScope t__law_draw).names.lookup x == some .cell && true)) = true → (∀ env, swapsWith e (some (.Name x pos')) pos.line env = pure false) → PS X (.Assign [.Name x pos'] e pos) (tAsg te (gName i)) :=
    fun he h1 h2 h3 => ps_set nd (by rw [fX.N]; exact beq_iff_eq.mp h1) (locOf fX h2).1 he (h3 _) (locOf fX h2).2
  have n0 : ∀ {p : Pos}, PE X (.Name "_law_deck_here" p) (tVar 0) := fun {p} => nm (by kernel_rfl) (by kernel_rfl) (by kernel_rfl) (by kernel_rfl)
  have n1 : ∀ {p : Pos}, PE X (.Name "_law_below" p) (tVar 1) := fun {p} => nm (by kernel_rfl) (by kernel_rfl) (by kernel_rfl) (by kernel_rfl)
  have n2 : ∀ {p : Pos}, PE X (.Name "_law_figure" p) (tVar 2) := fun {p} => nm (by kernel_rfl) (by kernel_rfl) (by kernel_rfl) (by kernel_rfl)
  have n3 : ∀ {p : Pos}, PE X (.Name "_law_cell" p) (tVar 3) := fun {p} => nm (by kernel_rfl) (by kernel_rfl) (by kernel_rfl) (by kernel_rfl)
  have dg : ∀ {x : Str} {p p2 pos : Pos} {j : Nat}, PE X (.Subscript (.Name "_law_deck_here" p) (.Constant (.str x) j p2) pos) (tDGet (tVar 0) (tC (.str x))) := fun {x p p2 pos j} => pe_dget hu n0 pe_str fun _ _ => rfl
  have gi : Gl X "int" := glOf fX (by kernel_rfl)
  have gm : Gl X "max" := glOf fX (by kernel_rfl)
  have mi : X.mg "int" = none := by rw [fX.mg]; exact hint
  have mm : X.mg "max" = none := by rw [fX.mg]; exact hmax
  have ci : ∀ {e : Expr} {te : TE} {p pos : Pos}, PE X e te → (∀ env, starEach [e] env = (false, eval e env) :: starEach [] env) → PE X (.Call (.Name "int" p) [e] [] pos) (tCB _ (tCons te tNil)) := fun he hs => pe_callTy call_int1 gi mi (by decide +kernel) (pa_cons he pa_nil (hs _)) (by decide) (by decide) (hs _) rfl
  refine ⟨_, pss_cons (ps_dput hu n0 pe_str (pe_op op_add dg pe_int) (by rfl)) <|
    pss_cons (st (i := 2) (pe_op op_add dg (pe_op op_mul pe_int dg)) (by kernel_rfl) (by kernel_rfl) (by intro _; rfl)) <|
    pss_cons (ps_if (pt_cmpR (op_neD hu64) dg (pe_lst pa_nil) (nomark _)) (
      pss_cons (st (i := 3) (pe_bm0 PySem.F.plainAttrs_list PySem.F.slot_list_pop PySem.F.type_list_pop mt_pop dg (by rfl) (by kernel_rfl)) (by kernel_rfl) (by kernel_rfl) (by intro _; rfl)) <|
      pss_cons (ps_if (pt_cmpR op_ge n3 (pe_op op_pow pe_int pe_int) (nomark _)) (
        pss_cons (ps_expr (pe_bm PySem.F.plainAttrs_list PySem.F.slot_list_append PySem.F.type_list_append mt_append dg (pa_cons (pe_op op_fdiv n3 (pe_callB (call_max2 hc) gm mm (by decide +kernel) (pa_cons pe_int (pa_cons n1 pa_nil)) (by decide) (by decide))) pa_nil) (by rfl) (by rfl) (by kernel_rfl)) (by rfl)) <|
        pss_one (ps_ret (pe_op op_mod (ci n3 (by intro _; rfl)) n1))) pss_nil) <|
      pss_one (st (i := 2) (pe_op op_add n2 (pe_op op_mod (ci n3 (by intro _; rfl)) pe_int)) (by kernel_rfl) (by kernel_rfl) (by intro _; rfl))) pss_nil) <|
    pss_cons (st (i := 2) (pe_op op_mod (ci (pe_op op_add (pe_op op_mul n2 pe_int) pe_int) (by intro _; rfl)) pe_int) (by kernel_rfl) (by kernel_rfl) (by intro _; rfl)) <|
    pss_cons (st (i := 2) (pe_op op_mod (ci (pe_op op_add (pe_op op_add (pe_op op_mul n2 n2) (pe_op op_mul pe_int dg)) pe_int) (by intro _; rfl)) pe_int) (by kernel_rfl) (by kernel_rfl) (by intro _; rfl)) <|
    pss_cons (st (i := 2) (pe_op op_mod (ci (pe_op op_mul n2 pe_int) (by intro _; rfl)) pe_int) (by kernel_rfl) (by kernel_rfl) (by intro _; rfl)) <|
    pss_one (ps_ret (pe_op op_mod (ci (pe_op op_fdiv n2 pe_int) (by intro _; rfl)) n1)), ?_⟩
  obtain ⟨m, t, cs, hcs, hd, hl⟩ := dk.at_ _ sW
  have J0 : DkAt H H da ca m t cs := ⟨hd, hl, fun _ _ _ _ h => h⟩
  have fin : ∀ {H' : Hp} {m t : Int} {cs : List Int}, cs.length < 100 → DkAt H H' da ca m t cs → ∀ k : Int, 0 ≤ k → k < n → Q (.int k) H' := fun hl J k h0 h1 => J.fin dk hl sF sR sW (hQ k h0 h1) g
  refine ⟨.ref da, rfl, da, .int t, rfl, J0.turn, t, _, rfl, rfl, .ref da, rfl, da, _, rfl, J0.put _, ?_⟩
  have J1 := J0.after (t + 1)
  refine ⟨.ref da, rfl, da, .int m, rfl, J1.mixed, .ref da, rfl, da, .int (t + 1), rfl, J1.turn, _, t + 1, rfl, rfl, .inl ⟨by decide, by decide⟩, m, _, rfl, rfl, ?_⟩
  refine ⟨.ref da, rfl, da, .ref ca, rfl, J1.cells, by decide, fun p hp => ?_⟩
  have J2 := J1.new (o := .lst []) hp
  refine ⟨.list (cs.map .int), .list [], .lst (SqL.of J2.c) (dp_ints cs), .lst (SqL.of upd_same) .nil, shaped_ints cs, shaped_ints [], _, rfl, ?_⟩
  have pos : ∀ {j : Int}, 0 < j → ∀ i : Int, (fun (_ j : Int) => 0 < j) i j := fun h _ => h
  have tb : ∀ {H' : Hp} {m t : Int} {cs : List Int}, cs.length < 100 → DkAt H H' da ca m t cs → ∀ (x : Int) (y : Option V), 0 ≤ x → x < 2147483648 → tail72b { nx := fun _ H' => Q .non H', rt := Q } [some (.ref da), some (.int n), some (.int x), y] H' := fun {H' m t cs} hl J x1 y b1 b2 => by
    refine ⟨.int x1, rfl, .int x1, rfl, x1, x1, rfl, rfl, .inl ⟨by omega, by omega⟩, .ref da, rfl, da, .int t, rfl, J.turn, _, t, rfl, rfl, .inl ⟨by decide, by decide⟩, _, _, rfl, rfl, _, _, rfl, rfl, .inl ⟨_, rfl, _, _, rfl, rfl, (by show (0 : Int) < _; decide), ?_⟩⟩
    refine ⟨.int _, rfl, _, _, rfl, rfl, .inr ⟨by decide, by decide⟩, .inl ⟨_, rfl, _, _, rfl, rfl, (by show (0 : Int) < _; decide), ?_⟩⟩
    refine ⟨.int _, rfl, _, _, rfl, rfl, ⟨by decide, by decide⟩, .inl ⟨_, rfl, .int n, rfl, _, n, rfl, rfl, hn0, ?_⟩⟩
    exact fin hl J _ (Int.emod_nonneg _ (by omega)) (Int.emod_lt_of_pos _ hn0)
  have tail : ∀ {H' : Hp} {m t : Int} {cs : List Int}, cs.length < 100 → DkAt H H' da ca m t cs → ∀ (x : Int) (y : Option V), tail72 { nx := fun _ H' => Q .non H', rt := Q } [some (.ref da), some (.int n), some (.int x), y] H' := fun {H' m t cs} hl J x y =>
    ⟨.int x, rfl, x, _, rfl, rfl, .inr ⟨by decide, by decide⟩, _, _, rfl, rfl, .inl ⟨_, rfl, _, _, rfl, rfl, (by show (0 : Int) < _; decide),
      tb hl J _ y (Int.emod_nonneg _ (by decide)) (Int.lt_of_lt_of_le (Int.emod_lt_of_pos _ (by decide)) (by decide))⟩⟩
  have hcc : cs = [] ∨ ∃ l c, cs = l ++ [c] := by
    rcases List.eq_nil_or_concat cs with h | ⟨l, c, h⟩
    · exact .inl h
    · exact .inr ⟨l, c, by rw [h, List.concat_eq_append]⟩
  rcases hcc with rfl | ⟨l, c, rfl⟩
  · exact tail hcs J2 _ none
  · have hlen : l.length < 99 := by simp at hcs; omega
    have he : (!PyData.eqv (.list ((l ++ [c]).map .int)) (.list [])) = true := by
      cases l <;> simp [PyData.eqv, PyData.eqvAll]
    refine iteB he ?_
    refine ⟨.ref da, rfl, da, .ref ca, rfl, J2.cells, .inl ⟨rfl, _, .inl (.inl J2.c)⟩, ca, _, .int c, rfl, rfl, J2.c, by simp, ?_⟩
    have J3 := J2.set l (vs := ((l ++ [c]).map V.int).dropLast) (by simp)
    refine ⟨.int c, rfl, _, _, rfl, rfl, ⟨by decide, by decide, by decide⟩, c, _, rfl, rfl, _, rfl, ?_⟩
    cases decide ((10 : Int) ^ (18 : Int).toNat ≤ c) with
    | true =>
      refine ⟨.ref da, rfl, da, .ref ca, rfl, J3.cells, .inl ⟨rfl, _, .inl (.inl J3.c)⟩, .int c, rfl, .int n, rfl, 2, n, rfl, c, _, rfl, rfl, ⟨by split <;> omega, by split <;> omega⟩, ca, _, _, rfl, rfl, J3.c, by rw [List.length_map, sizeLine_eq]; omega, ?_⟩
      have J4 := J3.set (l ++ [c / (if n > 2 then n else 2)]) (vs := l.map V.int ++ [.int (c / (if n > 2 then n else 2))]) (by simp)
      exact ⟨.int c, rfl, .inl ⟨c, rfl, .int n, rfl, c, n, rfl, rfl, hn0, fin (by simp; omega) J4 _ (Int.emod_nonneg _ (by omega)) (Int.emod_lt_of_pos _ hn0)⟩⟩
    | false =>
      exact ⟨.int _, rfl, .int c, rfl, .inl ⟨c, rfl, c, _, rfl, rfl, (by show (0 : Int) < _; decide), _, _, rfl, rfl, tail (by omega) J3 _ _⟩⟩
end K72
set_option maxHeartbeats 4000000
namespace K72
open PySem PySem.Spec PyProof.Rows L2 DL
abbrev S__law_deck (B : Bs) (k : Nat) : Sta := { B with N := N__law_deck, names := (defScope t__law_deck).names, k := k, fc := fun _ => true }
theorem kn_deck {B : Bs} (hint : B.mg "int" = none) {k : Nat} {f : Addr} {fd : FuncData} (F : FunD B.K "_law_deck" "_law_deck" (defArgs t__law_deck) (defBody t__law_deck) (defScope t__law_deck) [] [] f fd) :
    FnOk B.P B.w B.K B.mg B.base CX0 (k + 1) f fd P__law_deck (spDeck B.K) := by
  refine F.ok sc__law_deck (fun vs H Q E ⟨a, ns, e, _⟩ => by rw [e]; rfl) (fun cdv A outer s H vs Q E hr h => ?_)
  have fX : Fam (S__law_deck B k) (Cx.nox (cxOf CX0 B.P B.w B.K B.mg B.base N__law_deck "_law_deck" (defScope t__law_deck) f cdv A outer s H E)) := ⟨rfl, rfl, rfl, rfl, rfl, rfl, rfl, rfl, hr, rfl, fun _ _ => rfl, sc__law_deck.kind⟩
  have nd : (S__law_deck B k).N.Nodup := (by decide +kernel : N__law_deck.Nodup)
  suffices hs : ∃ t, PSs (Cx.nox (cxOf CX0 B.P B.w B.K B.mg B.base N__law_deck "_law_deck" (defScope t__law_deck) f cdv A outer s H E)) (defBody t__law_deck) t ∧ t { nx := fun _ H' => Q .non H', rt := Q } (L2.start N__law_deck vs) H by
    obtain ⟨t, h1, h2⟩ := hs
    exact ⟨t, PSs.nox h1, h2⟩
  generalize Cx.nox (cxOf CX0 B.P B.w B.K B.mg B.base N__law_deck "_law_deck" (defScope t__law_deck) f cdv A outer s H E) = X at fX
  obtain ⟨a, ns, rfl, hlen, hsq, hQ⟩ := h
  have dsX : ∀ {st : Stmt} {w : WS}, DS (S__law_deck B k) st w → PS X st (tS B.K w) := fun h => h X fX
  have doX : ∀ {e : Expr} {w : WO}, DO (S__law_deck B k) e w → PE X e (tO B.K w) := fun h => h X fX
  have deX : ∀ {e : Expr} {w : W}, DE (S__law_deck B k) e w → PE X e (tD B.K w) := fun h => h X fX
  refine ⟨_, pss_cons (dsX (ds_set (i := 1) (do_fz de_int) nd)) <|
    pss_cons (dsX (ds_for (dj_seq (dv_do (do_scr (i := 0)))) (dg_name (i := 2) nd) (dss_one (ds_set (i := 1) (do_fz (de_mod (de_fz (do_callTy cd_int hint (by decide +kernel) (da_cons (de_fz (do_op od_add (de_fz (do_op od_add (de_fz (do_op od_mul (de_nm (i := 1)) de_int)) (de_mod (de_fz (do_callTy cd_int hint (by decide +kernel) (da_cons (de_nm (i := 2)) da_nil))) de_int))) de_int)) da_nil))) de_int)) nd)))) <|
    pss_one (ps_ret (pe_disp (pps_cons pe_str (doX (do_rev (de_fz (do_lc (own := [("_law_cell", 2)]) (di_seq (de_fz (do_scr (i := 0)))) nd (by kernel_rfl) (dg_name (i := 2) nd) (by decide) dts_nil (de_fz (do_callTy cd_int hint (by decide +kernel) (da_cons (de_nm (i := 2)) da_nil))))))) (pps_cons pe_str (deX (de_nm (i := 1))) (pps_cons pe_str pe_int pps_nil))) rfl rfl (by simp) (by decide))), ?_⟩
  obtain ⟨G, gw, gR, gs⟩ := script_gc hsq
  have fresh : ∀ {H' : Hp} {b : Addr}, G.Wd H' → DL.Fr G H H' → H' b = none → H b = none := fun {H' b} w fr h => by
    cases e : H b with
    | none => rfl
    | some o =>
      by_cases r : G.R b
      · have := gR b H' r w
        rw [h, e] at this; cases this
      · rw [fr b o e r] at h; cases h
  have ev0 : Ev B.K G H noHp noHp H (L2.start N__law_deck [V.ref a]) [some (.fz (.ob a)), none, none] := by
    refine ⟨⟨noHp_same, fun _ _ => rfl, gw, fun i sv h => ?_, rfl⟩, Same.refl _, Fr.refl, fun i sv b h ho => ?_, fun i j sv sw b _ h ho => ?_⟩
    · match i, h with
      | 0, h => cases h; exact ⟨_, rfl, Rp.ob a⟩
      | 1, h => cases h
      | 2, h => cases h
      | (i + 3), h => simp at h
    · match i, h with
      | 0, h => cases h; cases ho
      | 1, h => cases h
      | 2, h => cases h
      | (i + 3), h => simp at h
    · match i, h with
      | 0, h => cases h; cases ho
      | 1, h => cases h
      | 2, h => cases h
      | (i + 3), h => simp at h
  refine ⟨G, H, noHp, noHp, _, { nx := fun ρ' => ∃ c : Int, ρ' = [some (.fz (.ob a)), some (.fz (.int c)), none], rt := fun _ => False }, ev0, ⟨by show 1 < 3; decide, _, rfl⟩, ⟨fun σ1 H1 F1 ρ1 ev1 s1 ⟨c1, e1⟩ => ?_, fun _ _ _ _ _ _ q => q.elim, fun _ _ _ _ _ _ q => q.elim, fun _ _ _ _ _ _ _ _ _ _ q => q.elim⟩⟩
  subst e1
  refine ⟨G, H, noHp, F1, _, { nx := fun ρ' => ∃ (c : Int) (y : Option SV), ρ' = [some (.fz (.ob a)), some (.fz (.int c)), y], rt := fun _ => False }, ev1, ?_, ⟨fun σ2 H2 F2 ρ2 ev2 s2 ⟨c, y, e2⟩ => ?_, fun _ _ _ _ _ _ q => q.elim, fun _ _ _ _ _ _ q => q.elim, fun _ _ _ _ _ _ _ _ _ _ q => q.elim⟩⟩
  · refine ⟨a, ns, rfl, gs, ?_⟩
    refine ⟨_, rfl, ?_⟩
    rw [cutD_ints, immL_ints, if_pos rfl]
    generalize cutI ns none (some 63) = l
    clear ev1
    generalize (none : Option SV) = y
    induction l generalizing c1 y with
    | nil => exact ⟨c1, y, rfl⟩
    | cons x l ih =>
      refine ⟨by show 2 < 3; decide, by show 1 < 3; decide, .fz (.int c1), rfl, .inl ⟨c1, _, rfl, rfl, .inr ⟨by decide, by decide⟩, .fz (.int x), rfl, x, rfl, x, _, rfl, rfl, (by show (0 : Int) < _; decide), .inl ⟨_, _, rfl, rfl, .inl ⟨_, _, rfl, rfl, _, rfl, _, _, rfl, rfl, (by show (0 : Int) < _; decide), ?_⟩⟩⟩⟩
      exact ih _ ⟨_, rfl⟩ (some (.fz (.int x)))
  · subst e2
    intro p hp
    have e1 := evr_more (ev2.r.liveO (o := .dK []) hp) upd_same rfl (ev2.r.fnone hp) (ev2.ne hp)
    refine ⟨_, F2, _, fun sv => sv = .ow (((cutI ns none (some 63)).map D.int).reverse), e1, ⟨a, ns, rfl, fun H' w => gs H' w.1, ?_⟩, fun v H3 F3 sv s3 e3 f3 r3 q3 => ?_⟩
    · show ∃ ds, itemsOf (.lst (cutD (ns.map D.int) none (some 63))) = some ds ∧ _
      rw [cutD_ints]
      refine ⟨_, rfl, ?_⟩
      have hl := cutI_len ns none (some 63)
      generalize cutI ns none (some 63) = l at hl ⊢
      have h63 : l.length + 0 ≤ 63 := by omega
      have go : ∀ (l acc : List Int), l.length + acc.length ≤ 63 → ∀ Qf : List D → Prop, Qf ((acc ++ l).map D.int) → wcL (wgName 2) wtTrue (wFz (woCB oInt (waCons (wVar 2) waNil))) [2] (G.more p (.dK [])) [some (.fz (.ob a)), some (.fz (.int c)), y] (l.map D.int) (acc.map D.int) Qf := fun l => by
        induction l with
        | nil => intro acc _ Qf q; rw [List.append_nil] at q; exact q
        | cons x l ih =>
          intro acc hz Qf q G' _
          refine ⟨by show 2 < 3; decide, ?_⟩
          refine ⟨.fz (.int x), rfl, x, rfl, by rw [List.length_map, sizeLine_eq]; simp at hz; omega, ?_⟩
          have := ih (acc ++ [x]) (by simp at hz ⊢; omega) Qf (by rw [List.append_assoc]; exact q)
          rw [List.map_append] at this
          exact this
      exact go l [] (by simp only [List.length_nil]; omega) _ ⟨_, rfl, rfl⟩
    · subst q3
      obtain ⟨ca, vs, rfl, h1, h2, h3, h4, h5⟩ := r3
      refine ⟨_, F3, _, fun d => d = .int c, e3, ⟨.fz (.int c), rfl, rfl⟩, fun u H4 F4 d s4 e4 f4 r4 q4 => ?_⟩
      subst q4
      have eu := r4.intI
      subst eu
      have hp4 := e4.wd.2.1
      have hc4 : H4 ca = some (.lst vs) := f4 _ _ h1 h3
      have nep : ca ≠ p := fun z => by rw [z, upd_same] at h4; cases h4
      have frA : ∀ b o, H b = some o → H4 b = some o := fun b o hb => by
        by_cases r : G.R b
        · rw [gR b H4 r e4.wd.1]; exact hb
        · have hb2 := ev2.fr b o hb r
          have nb : b ≠ p := ne_of_none hb2 hp
          have nr : ¬ (G.more p (.dK [])).R b := fun z => z.elim r nb
          exact f4 b o (f3 b o (by rw [upd_ne nb]; exact hb2) nr) nr
      have hp0 : H p = none := fresh ev2.r.wd ev2.fr hp
      have hc0 : H ca = none := by
        cases e : H ca with
        | none => rfl
        | some o =>
          by_cases r : G.R ca
          · exact absurd (.inl r) h3
          · have q := ev2.fr ca o e r
            rw [upd_ne nep, q] at h4; cases h4
      refine ⟨hp4, dkV (.ref ca) (.int c) (.int 0), rfl, by show 3 ≤ 15; decide, ?_⟩
      have em : mergeK [] (dkV (.ref ca) (.int c) (.int 0)) = dkV (.ref ca) (.int c) (.int 0) := by first | rfl | kernel_rfl
      rw [em]
      refine hQ p ca _ hp0 hc0 (fun b o hb => by rw [upd_ne (ne_of_none hb hp0)]; exact frA b o hb) ⟨c, 0, (cutI ns none (some 63)).reverse, ?_, upd_same, ?_⟩
      · have := cutI_len ns none (some 63)
        rw [List.length_reverse]; omega
      · rw [upd_ne nep, hc4]
        rw [← List.map_reverse] at h2
        rw [h2.ints]
end K72
set_option maxHeartbeats 0
namespace K72
open PySem PySem.Spec PyProof.Rows L2
def dd (x : Str) (i : Nat) : He.DefD := ⟨(x, none), x, x, defArgs (top i), defBody (top i), defScope (top i), [], []⟩
def fn0 : List He.DefD := [dd "is_integer" 7, dd "is_between" 8, dd "are_between" 9, dd "is_word" 10, dd "is_ascending" 11, dd "is_meeting_value" 12, dd "are_meetings" 13, dd "are_ties_value" 14, dd "is_order_value" 15, dd "need_hands" 17, dd "need_ties" 18, dd "need_hands_and_ties" 20, dd "order_or_rest" 21, dd "ring_among" 22, dd "raw_round" 23, dd "need_no_ring" 24, dd "reached_from" 25, dd "way_holds" 26, dd "_law_deck" 28, dd "_law_draw" 29]
def fn1 : List He.DefD := [dd "_law_pick" 30, dd "_law_order" 31, dd "_law_ties" 32, dd "_law_reach" 33, dd "_law_has_ring" 34, dd "_law_is_integer" 35, dd "_law_are_integers" 36, dd "_law_is_way" 37, dd "_law_odd" 38, dd "_law_bent" 39, dd "_law_ahead" 40, dd "_law_base" 41, dd "_law_thing" 42, dd "law" 43]
def fn : List He.DefD := fn0 ++ fn1
def fa0 : List He.Fa := [.glo "is_integer", .glo "is_between", .glo "are_between", .glo "is_word", .glo "is_ascending", .glo "is_meeting_value", .glo "are_meetings", .glo "are_ties_value", .glo "is_order_value", .glo "need_hands", .glo "need_ties", .glo "need_hands_and_ties", .glo "order_or_rest", .glo "ring_among", .glo "raw_round", .glo "need_no_ring", .glo "reached_from", .glo "way_holds", .glo "_law_deck", .glo "_law_draw", .glo "_law_pick", .glo "_law_order", .glo "_law_ties", .glo "_law_reach", .glo "_law_has_ring", .glo "_law_is_integer", .glo "_law_are_integers", .glo "_law_is_way", .glo "_law_odd", .glo "_law_bent"]
def fa1 : List He.Fa := [.glo "_law_ahead", .glo "_law_base", .glo "_law_thing", .glo "law", .int "MOST_HANDS" 6, .free "all", .free "any", .free "bool", .free "enumerate", .free "int", .free "isinstance", .free "len", .free "list", .free "max", .free "min", .free "range", .free "repr", .free "set", .free "sorted", .free "str", .free "tuple", .free "zip"]
def fa : List He.Fa := fa0 ++ fa1
def loose0 : List Str := ["HouseError", "BadNumber", "BadTies", "HasRing", "MOST_HANDS", "is_integer", "is_between", "are_between", "is_word", "is_ascending", "is_meeting_value", "are_meetings", "are_ties_value", "is_order_value", "need_hands", "need_ties", "need_hands_and_ties", "order_or_rest", "ring_among", "raw_round", "need_no_ring", "reached_from", "way_holds", "_law_deck", "_law_draw", "_law_pick", "_law_order", "_law_ties", "_law_reach", "_law_has_ring"]
def loose1 : List Str := ["_law_is_integer", "_law_are_integers", "_law_is_way", "_law_odd", "_law_bent", "_law_ahead", "_law_base", "_law_thing"]
abbrev loose : List Str := loose0 ++ loose1
abbrev R : PySem.W.OpenRow := PySem.W.OpenLaw.row PySem.Challenge.rw_bothandall_k72_any_values_as_certificate
abbrev hk : PySem.W.Hook := He.hookD 4 fa fn
def ob (s : PySem.W.SharedT) : He.AlD := He.obsDG 4 fa fn (HandSHeadRun.getT s)
theorem ob_eq (s : PySem.W.SharedT) : ob s = hk.obs s.abs := He.obsDG_eq (HandSHeadRun.getT_eq s)
theorem run (w : World) : HandSHeadRun.RunEq R (PySem.W.view R.prog [43]) hk ob 4000 loose w := by
  intro os
  kernel_rfl
end K72
set_option maxHeartbeats 4000000
namespace K72
open PySem PySem.Spec PyProof.Rows L2 DL
theorem chained {P : Program} {w : World} {K : PySem.W.Frag} {h : Heap} {mg : Str → Option Value} {base : Heap} (X : K.In h) (G : h.Ns mainGlobals mg) (c : He.SaysD fa fn K) : Kn ⟨P, w, K, mg, base⟩ 10 "law" t_law P_law (s_law K) := by
  have ff : FF ⟨P, w, K, mg, base⟩ := ⟨He.int_ok X G (c.fact 34 (f := .int "MOST_HANDS" 6) rfl), He.free_ok X G (c.fact 35 (f := .free "all") rfl), He.free_ok X G (c.fact 36 (f := .free "any") rfl), He.free_ok X G (c.fact 37 (f := .free "bool") rfl), He.free_ok X G (c.fact 38 (f := .free "enumerate") rfl), He.free_ok X G (c.fact 39 (f := .free "int") rfl), He.free_ok X G (c.fact 40 (f := .free "isinstance") rfl), He.free_ok X G (c.fact 41 (f := .free "len") rfl), He.free_ok X G (c.fact 42 (f := .free "list") rfl), He.free_ok X G (c.fact 43 (f := .free "max") rfl), He.free_ok X G (c.fact 44 (f := .free "min") rfl), He.free_ok X G (c.fact 45 (f := .free "range") rfl), He.free_ok X G (c.fact 46 (f := .free "repr") rfl), He.free_ok X G (c.fact 47 (f := .free "set") rfl), He.free_ok X G (c.fact 48 (f := .free "sorted") rfl), He.free_ok X G (c.fact 49 (f := .free "str") rfl), He.free_ok X G (c.fact 50 (f := .free "tuple") rfl), He.free_ok X G (c.fact 51 (f := .free "zip") rfl)⟩
  have h_is_integer : Fact ⟨P, w, K, mg, base⟩ "is_integer" t_is_integer P_is_integer := by
    obtain ⟨fd, F⟩ := c.def_ 0 (d := dd "is_integer" 7) rfl
    exact ⟨_, fd, F, He.glo_ok X G (c.fact 0 (f := .glo "is_integer") rfl), F.bindsN fun _ _ _ _ _ _ us hl => match us, hl with | [_], _ => rfl⟩
  have h_is_between : Fact ⟨P, w, K, mg, base⟩ "is_between" t_is_between P_is_between := by
    obtain ⟨fd, F⟩ := c.def_ 1 (d := dd "is_between" 8) rfl
    exact ⟨_, fd, F, He.glo_ok X G (c.fact 1 (f := .glo "is_between") rfl), F.bindsN fun _ _ _ _ _ _ us hl => match us, hl with | [_, _, _], _ => rfl⟩
  have h_are_between : Fact ⟨P, w, K, mg, base⟩ "are_between" t_are_between P_are_between := by
    obtain ⟨fd, F⟩ := c.def_ 2 (d := dd "are_between" 9) rfl
    exact ⟨_, fd, F, He.glo_ok X G (c.fact 2 (f := .glo "are_between") rfl), F.bindsN fun _ _ _ _ _ _ us hl => match us, hl with | [_, _, _], _ => rfl⟩
  have h_is_word : Fact ⟨P, w, K, mg, base⟩ "is_word" t_is_word P_is_word := by
    obtain ⟨fd, F⟩ := c.def_ 3 (d := dd "is_word" 10) rfl
    exact ⟨_, fd, F, He.glo_ok X G (c.fact 3 (f := .glo "is_word") rfl), F.bindsN fun _ _ _ _ _ _ us hl => match us, hl with | [_, _], _ => rfl⟩
  have h_is_ascending : Fact ⟨P, w, K, mg, base⟩ "is_ascending" t_is_ascending P_is_ascending := by
    obtain ⟨fd, F⟩ := c.def_ 4 (d := dd "is_ascending" 11) rfl
    exact ⟨_, fd, F, He.glo_ok X G (c.fact 4 (f := .glo "is_ascending") rfl), F.bindsN fun _ _ _ _ _ _ us hl => match us, hl with | [_], _ => rfl⟩
  have h_is_meeting_value : Fact ⟨P, w, K, mg, base⟩ "is_meeting_value" t_is_meeting_value P_is_meeting_value := by
    obtain ⟨fd, F⟩ := c.def_ 5 (d := dd "is_meeting_value" 12) rfl
    exact ⟨_, fd, F, He.glo_ok X G (c.fact 5 (f := .glo "is_meeting_value") rfl), F.bindsN fun _ _ _ _ _ _ us hl => match us, hl with | [_, _], _ => rfl⟩
  have h_are_meetings : Fact ⟨P, w, K, mg, base⟩ "are_meetings" t_are_meetings P_are_meetings := by
    obtain ⟨fd, F⟩ := c.def_ 6 (d := dd "are_meetings" 13) rfl
    exact ⟨_, fd, F, He.glo_ok X G (c.fact 6 (f := .glo "are_meetings") rfl), F.bindsN fun _ _ _ _ _ _ us hl => match us, hl with | [_, _], _ => rfl⟩
  have h_are_ties_value : Fact ⟨P, w, K, mg, base⟩ "are_ties_value" t_are_ties_value P_are_ties_value := by
    obtain ⟨fd, F⟩ := c.def_ 7 (d := dd "are_ties_value" 14) rfl
    exact ⟨_, fd, F, He.glo_ok X G (c.fact 7 (f := .glo "are_ties_value") rfl), F.bindsN fun _ _ _ _ _ _ us hl => match us, hl with | [_, _], _ => rfl⟩
  have h_is_order_value : Fact ⟨P, w, K, mg, base⟩ "is_order_value" t_is_order_value P_is_order_value := by
    obtain ⟨fd, F⟩ := c.def_ 8 (d := dd "is_order_value" 15) rfl
    exact ⟨_, fd, F, He.glo_ok X G (c.fact 8 (f := .glo "is_order_value") rfl), F.bindsN fun _ _ _ _ _ _ us hl => match us, hl with | [_, _], _ => rfl⟩
  have h_need_hands : Fact ⟨P, w, K, mg, base⟩ "need_hands" t_need_hands P_need_hands := by
    obtain ⟨fd, F⟩ := c.def_ 9 (d := dd "need_hands" 17) rfl
    exact ⟨_, fd, F, He.glo_ok X G (c.fact 9 (f := .glo "need_hands") rfl), F.bindsN fun _ _ _ _ _ _ us hl => match us, hl with | [_], _ => rfl⟩
  have h_need_ties : Fact ⟨P, w, K, mg, base⟩ "need_ties" t_need_ties P_need_ties := by
    obtain ⟨fd, F⟩ := c.def_ 10 (d := dd "need_ties" 18) rfl
    exact ⟨_, fd, F, He.glo_ok X G (c.fact 10 (f := .glo "need_ties") rfl), F.bindsN fun _ _ _ _ _ _ us hl => match us, hl with | [_, _], _ => rfl⟩
  have h_need_hands_and_ties : Fact ⟨P, w, K, mg, base⟩ "need_hands_and_ties" t_need_hands_and_ties P_need_hands_and_ties := by
    obtain ⟨fd, F⟩ := c.def_ 11 (d := dd "need_hands_and_ties" 20) rfl
    exact ⟨_, fd, F, He.glo_ok X G (c.fact 11 (f := .glo "need_hands_and_ties") rfl), F.bindsN fun _ _ _ _ _ _ us hl => match us, hl with | [_, _], _ => rfl⟩
  have h_order_or_rest : Fact ⟨P, w, K, mg, base⟩ "order_or_rest" t_order_or_rest P_order_or_rest := by
    obtain ⟨fd, F⟩ := c.def_ 12 (d := dd "order_or_rest" 21) rfl
    exact ⟨_, fd, F, He.glo_ok X G (c.fact 12 (f := .glo "order_or_rest") rfl), F.bindsN fun _ _ _ _ _ _ us hl => match us, hl with | [_, _], _ => rfl⟩
  have h_raw_round : Fact ⟨P, w, K, mg, base⟩ "raw_round" t_raw_round P_raw_round := by
    obtain ⟨fd, F⟩ := c.def_ 14 (d := dd "raw_round" 23) rfl
    exact ⟨_, fd, F, He.glo_ok X G (c.fact 14 (f := .glo "raw_round") rfl), F.bindsN fun _ _ _ _ _ _ us hl => match us, hl with | [_, _], _ => rfl⟩
  have h_need_no_ring : Fact ⟨P, w, K, mg, base⟩ "need_no_ring" t_need_no_ring P_need_no_ring := by
    obtain ⟨fd, F⟩ := c.def_ 15 (d := dd "need_no_ring" 24) rfl
    exact ⟨_, fd, F, He.glo_ok X G (c.fact 15 (f := .glo "need_no_ring") rfl), F.bindsN fun _ _ _ _ _ _ us hl => match us, hl with | [_, _], _ => rfl⟩
  have h_reached_from : Fact ⟨P, w, K, mg, base⟩ "reached_from" t_reached_from P_reached_from := by
    obtain ⟨fd, F⟩ := c.def_ 16 (d := dd "reached_from" 25) rfl
    exact ⟨_, fd, F, He.glo_ok X G (c.fact 16 (f := .glo "reached_from") rfl), F.bindsN fun _ _ _ _ _ _ us hl => match us, hl with | [_, _], _ => rfl⟩
  have h_way_holds : Fact ⟨P, w, K, mg, base⟩ "way_holds" t_way_holds P_way_holds := by
    obtain ⟨fd, F⟩ := c.def_ 17 (d := dd "way_holds" 26) rfl
    exact ⟨_, fd, F, He.glo_ok X G (c.fact 17 (f := .glo "way_holds") rfl), F.bindsN fun _ _ _ _ _ _ us hl => match us, hl with | [_, _, _], _ => rfl⟩
  have h__law_pick : Fact ⟨P, w, K, mg, base⟩ "_law_pick" t__law_pick P__law_pick := by
    obtain ⟨fd, F⟩ := c.def_ 20 (d := dd "_law_pick" 30) rfl
    exact ⟨_, fd, F, He.glo_ok X G (c.fact 20 (f := .glo "_law_pick") rfl), F.bindsN fun _ _ _ _ _ _ us hl => match us, hl with | [_, _], _ => rfl⟩
  have h__law_order : Fact ⟨P, w, K, mg, base⟩ "_law_order" t__law_order P__law_order := by
    obtain ⟨fd, F⟩ := c.def_ 21 (d := dd "_law_order" 31) rfl
    exact ⟨_, fd, F, He.glo_ok X G (c.fact 21 (f := .glo "_law_order") rfl), F.bindsN fun _ _ _ _ _ _ us hl => match us, hl with | [_, _], _ => rfl⟩
  have h__law_ties : Fact ⟨P, w, K, mg, base⟩ "_law_ties" t__law_ties P__law_ties := by
    obtain ⟨fd, F⟩ := c.def_ 22 (d := dd "_law_ties" 32) rfl
    exact ⟨_, fd, F, He.glo_ok X G (c.fact 22 (f := .glo "_law_ties") rfl), F.bindsN fun _ _ _ _ _ _ us hl => match us, hl with | [_, _], _ => rfl⟩
  have h__law_reach : Fact ⟨P, w, K, mg, base⟩ "_law_reach" t__law_reach P__law_reach := by
    obtain ⟨fd, F⟩ := c.def_ 23 (d := dd "_law_reach" 33) rfl
    exact ⟨_, fd, F, He.glo_ok X G (c.fact 23 (f := .glo "_law_reach") rfl), F.bindsN fun _ _ _ _ _ _ us hl => match us, hl with | [_, _], _ => rfl⟩
  have h__law_has_ring : Fact ⟨P, w, K, mg, base⟩ "_law_has_ring" t__law_has_ring P__law_has_ring := by
    obtain ⟨fd, F⟩ := c.def_ 24 (d := dd "_law_has_ring" 34) rfl
    exact ⟨_, fd, F, He.glo_ok X G (c.fact 24 (f := .glo "_law_has_ring") rfl), F.bindsN fun _ _ _ _ _ _ us hl => match us, hl with | [_, _], _ => rfl⟩
  have h__law_is_integer : Fact ⟨P, w, K, mg, base⟩ "_law_is_integer" t__law_is_integer P__law_is_integer := by
    obtain ⟨fd, F⟩ := c.def_ 25 (d := dd "_law_is_integer" 35) rfl
    exact ⟨_, fd, F, He.glo_ok X G (c.fact 25 (f := .glo "_law_is_integer") rfl), F.bindsN fun _ _ _ _ _ _ us hl => match us, hl with | [_], _ => rfl⟩
  have h__law_are_integers : Fact ⟨P, w, K, mg, base⟩ "_law_are_integers" t__law_are_integers P__law_are_integers := by
    obtain ⟨fd, F⟩ := c.def_ 26 (d := dd "_law_are_integers" 36) rfl
    exact ⟨_, fd, F, He.glo_ok X G (c.fact 26 (f := .glo "_law_are_integers") rfl), F.bindsN fun _ _ _ _ _ _ us hl => match us, hl with | [_], _ => rfl⟩
  have h__law_is_way : Fact ⟨P, w, K, mg, base⟩ "_law_is_way" t__law_is_way P__law_is_way := by
    obtain ⟨fd, F⟩ := c.def_ 27 (d := dd "_law_is_way" 37) rfl
    exact ⟨_, fd, F, He.glo_ok X G (c.fact 27 (f := .glo "_law_is_way") rfl), F.bindsN fun _ _ _ _ _ _ us hl => match us, hl with | [_, _, _], _ => rfl⟩
  have h__law_odd : Fact ⟨P, w, K, mg, base⟩ "_law_odd" t__law_odd P__law_odd := by
    obtain ⟨fd, F⟩ := c.def_ 28 (d := dd "_law_odd" 38) rfl
    exact ⟨_, fd, F, He.glo_ok X G (c.fact 28 (f := .glo "_law_odd") rfl), F.bindsN fun _ _ _ _ _ _ us hl => match us, hl with | [_, _], _ => rfl⟩
  have h__law_bent : Fact ⟨P, w, K, mg, base⟩ "_law_bent" t__law_bent P__law_bent := by
    obtain ⟨fd, F⟩ := c.def_ 29 (d := dd "_law_bent" 39) rfl
    exact ⟨_, fd, F, He.glo_ok X G (c.fact 29 (f := .glo "_law_bent") rfl), F.bindsN fun _ _ _ _ _ _ us hl => match us, hl with | [_, _], _ => rfl⟩
  have h__law_ahead : Fact ⟨P, w, K, mg, base⟩ "_law_ahead" t__law_ahead P__law_ahead := by
    obtain ⟨fd, F⟩ := c.def_ 30 (d := dd "_law_ahead" 40) rfl
    exact ⟨_, fd, F, He.glo_ok X G (c.fact 30 (f := .glo "_law_ahead") rfl), F.bindsN fun _ _ _ _ _ _ us hl => match us, hl with | [_, _, _], _ => rfl⟩
  have h__law_base : Fact ⟨P, w, K, mg, base⟩ "_law_base" t__law_base P__law_base := by
    obtain ⟨fd, F⟩ := c.def_ 31 (d := dd "_law_base" 41) rfl
    exact ⟨_, fd, F, He.glo_ok X G (c.fact 31 (f := .glo "_law_base") rfl), F.bindsN fun _ _ _ _ _ _ us hl => match us, hl with | [_, _, _], _ => rfl⟩
  have h__law_thing : Fact ⟨P, w, K, mg, base⟩ "_law_thing" t__law_thing P__law_thing := by
    obtain ⟨fd, F⟩ := c.def_ 32 (d := dd "_law_thing" 42) rfl
    exact ⟨_, fd, F, He.glo_ok X G (c.fact 32 (f := .glo "_law_thing") rfl), F.bindsN fun _ _ _ _ _ _ us hl => match us, hl with | [_, _], _ => rfl⟩
  have h_law : Fact ⟨P, w, K, mg, base⟩ "law" t_law P_law := by
    obtain ⟨fd, F⟩ := c.def_ 33 (d := dd "law" 43) rfl
    exact ⟨_, fd, F, He.glo_ok X G (c.fact 33 (f := .glo "law") rfl), F.bindsN fun _ _ _ _ _ _ us hl => match us, hl with | [_], _ => rfl⟩
  obtain ⟨fd_dr, F_dr⟩ := c.def_ 19 (d := dd "_law_draw" 29) rfl
  have m_dr := He.glo_ok X G (c.fact 19 (f := .glo "_law_draw") rfl)
  obtain ⟨fd_ra, F_ra⟩ := c.def_ 13 (d := dd "ring_among" 22) rfl
  have m_ra := He.glo_ok X G (c.fact 13 (f := .glo "ring_among") rfl)
  obtain ⟨fd_be, F_be⟩ := c.def_ 29 (d := dd "_law_bent" 39) rfl
  have m_be := He.glo_ok X G (c.fact 29 (f := .glo "_law_bent") rfl)
  obtain ⟨fd_de, F_de⟩ := c.def_ 18 (d := dd "_law_deck" 28) rfl
  have m_de := He.glo_ok X G (c.fact 18 (f := .glo "_law_deck") rfl)
  have b_dr : Binds K fd_dr P__law_draw [] := F_dr.bindsN fun _ _ _ _ _ _ us hl => match us, hl with | [_, _], _ => rfl
  have b_ra : Binds K fd_ra ["rest", "ties"] [] := F_ra.bindsN fun _ _ _ _ _ _ us hl => match us, hl with | [_, _], _ => rfl
  have b_be : Binds K fd_be P__law_bent [] := F_be.bindsN fun _ _ _ _ _ _ us hl => match us, hl with | [_, _], _ => rfl
  have b_de : Binds K fd_de P__law_deck [] := F_de.bindsN fun _ _ _ _ _ _ us hl => match us, hl with | [_], _ => rfl
  have k_dr := kn_draw (B := ⟨P, w, K, mg, base⟩) ff.f_max ff.f_int (k := 0) F_dr m_dr b_dr
  have k_ra : Kn ⟨P, w, K, mg, base⟩ 1 "ring_among" (top 22) ["rest", "ties"] s_never := kn_raw (k := 0) F_ra (N := ["rest", "ties", "back", "i", "j"]) ⟨rfl, rfl, rfl, by decide +kernel, rfl, by decide +kernel, by decide +kernel⟩ m_ra b_ra (fun _ _ _ z => z.elim) fun _ _ _ _ _ _ ⟨_, _, _, _, _, _, _, _, z, _⟩ => z.elim
  have k_be : Kn ⟨P, w, K, mg, base⟩ 1 "_law_bent" t__law_bent P__law_bent (s__law_bent 0) := kn_raw (k := 0) F_be sc__law_bent m_be b_be (fun _ _ _ ⟨_, _, _, _, _, _, _, z, _⟩ => absurd z (Nat.not_lt_zero _)) fun _ _ _ _ _ _ ⟨_, _, _, _, _, _, _, _, ⟨_, _, _, _, _, _, _, z, _⟩, _⟩ => absurd z (Nat.not_lt_zero _)
  have k_de := kn_deck (B := ⟨P, w, K, mg, base⟩) ff.f_int (k := 0) F_de
  exact chain (kD := 1) ff k_de m_de F_de.kp b_de k_dr k_ra k_be h_is_integer h_is_between h_are_between h_is_word h_is_ascending h_is_meeting_value h_are_meetings h_are_ties_value h_is_order_value h_need_hands h_need_ties h_need_hands_and_ties h_order_or_rest h_raw_round h_need_no_ring h_reached_from h_way_holds h__law_pick h__law_order h__law_ties h__law_reach h__law_has_ring h__law_is_integer h__law_are_integers h__law_is_way h__law_odd h__law_bent h__law_ahead h__law_base h__law_thing h_law
end K72
set_option maxHeartbeats 0
namespace K72
open PySem PySem.Spec PyProof.Rows L2 DL
abbrev spL (K : PySem.W.Frag) : Sp := spV K (s_law K)
theorem fd_eq {K : PySem.W.Frag} {x q : Str} {a : Arguments} {b : List Stmt} {s : Scope} {f : Addr} {fd fd' : FuncData} (F : FunD K x q a b s [] [] f fd) (F' : FunD K x q a b s [] [] f fd') : fd = fd' := by
  obtain ⟨_, _, _, _, _, _, _, _, _, _, _, lk, _⟩ := F.ex
  obtain ⟨_, _, _, _, _, _, _, _, _, _, _, lk', _⟩ := F'.ex
  have e := lk.symm.trans lk'
  injection e with e
  injection e with _ _ e _
  injection e
theorem facts {P : Program} {w : World} {K : PySem.W.Frag} {h : Heap} {mg : Str → Option Value} {f : Addr} (X : K.In h) (G : h.Ns mainGlobals mg) (hfa : mg ("law" : Str) = some (.ref f)) (c : He.SaysD fa fn K) :
    ∃ fd : FuncData, (∀ (s : Shared) (v : Value), BindsTo s fd ⟨[v], []⟩ [("_law_script", v)]) ∧ ∀ base : Heap, K.In base → base.Ns mainGlobals mg → FnOk P w K mg base CX0 10 f fd ["_law_script"] (spL K) := by
  obtain ⟨fd, F⟩ := c.def_ 33 (d := dd "law" 43) rfl
  have e := hfa.symm.trans (He.glo_ok X G (c.fact 33 (f := .glo "law") rfl))
  cases e
  have b := FunD.bindsA (ps := ["_law_script"]) F fun _ _ _ _ _ _ us hl => match us, hl with | [_], _ => rfl
  refine ⟨fd, fun s v => b s [v] rfl, fun base _ _ => ?_⟩
  obtain ⟨f0, fd0, F0, hm, FD, hb⟩ := (chained (P := P) (w := w) (base := base) X G c).ex
  have e1 := hfa.symm.trans hm
  cases e1
  have e2 := fd_eq F FD
  subst e2
  exact F0
end K72
set_option maxHeartbeats 0
open PySem PySem.W PySem.Calls PyProof.Rows
theorem PySem.Challenge.cw_bothandall_k72_any_values_as_certificate_holds : PySem.Challenge.rw_bothandall_k72_any_values_as_certificate.Holds := by
  w_on; o_law
  refine HandSHeadRun.head_any (r := OpenLaw.row PySem.Challenge.rw_bothandall_k72_any_values_as_certificate) (q := view (OpenLaw.row PySem.Challenge.rw_bothandall_k72_any_values_as_certificate).prog [43]) (H := K72.hk) (ob := K72.ob) (M := 4000) (loose := K72.loose) (d := HandSHeadRun.topDef (OpenLaw.row PySem.Challenge.rw_bothandall_k72_any_values_as_certificate).prog 43) (kwd := []) K72.ob_eq
    (by kernel_rfl) (fun s => by kernel_rfl) K72.run (by kernel_rfl) (by kernel_rfl) (by kernel_rfl) (by rfl) (by first | assumption | decide +kernel) (by decide +kernel) ⟨rfl, rfl, rfl, rfl, rfl, by decide +kernel⟩ ?hw ?hc
  case hw => w_witness2
  case hc =>
    refine L2.walk_ofE (l := PySem.Challenge.rw_bothandall_k72_any_values_as_certificate) (n := 63) (k := 10) (x := "_law_script") (CX := L2.CX0) rfl (by decide) (by kernel_rfl) ⟨rfl, by decide, by decide⟩ ?F (fun _ _ _ _ z => z)
    intro w mg fa h Y G hmg0
    obtain ⟨K, KX, c⟩ := Y
    have hmg : mg ("law" : PySem.Str) = some (.ref fa) := by
      have e : (HandSHeadRun.topDef (OpenLaw.row PySem.Challenge.rw_bothandall_k72_any_values_as_certificate).prog 43).name = ("law" : PySem.Str) := by kernel_rfl
      rw [← e]
      exact hmg0
    obtain ⟨fd, hb, hF⟩ := K72.facts (P := (PySem.Challenge.rw_bothandall_k72_any_values_as_certificate).prog) (w := w) KX G hmg c
    refine ⟨K, fd, K72.spL K, KX, hb, fun H a ns hl _ hS => ?_, hF⟩
    obtain ⟨G0, gw, gR, gs⟩ := DL.script_gc hS
    exact ⟨G0, DL.noHp, [.ob a], fun sv => sv = .fz (.bl true), DL.noHp_same, fun _ _ => rfl, gw, .cons (.ob a) .nil, ⟨a, ns, rfl, hl, gs, rfl⟩, fun v H' F' sv _ _ _ _ _ r e => by subst e; cases r; rfl⟩
