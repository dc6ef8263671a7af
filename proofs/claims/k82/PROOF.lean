import PyProof.Rows.All
import Wide.All
import OpenK.AllK
import Wide.FinOn
import HandS.ForMost
import HandS.ForExc
import HandS.Walk
import HandS.Flow
import HandS.Style
import HandS.StrMore
import HandS.IsInst
import HandS.TupAny
import HandS.TupLe
import HandS.SortInts
import HandS.Zip
import HandS.Wide
import HandS.Lambda
import HandS.ExcValue
import HandS.ExcIs
import HandS.Defaults
import HandS.HeadHook4
import HandS.HeadWalk
import HandS.EndTab
import KE.GoesEnum
import KE.GoesZip
import KE.GoesMore
import PyProof.EnumMake
import PyProof.WalksT
import HandS.New
import HandS.MapJoin
import HandS.TryMany
import HandS.SuiteRaise
import HandS.Small
import HandS.SetFor
import HandS.More
import PyProof.ReprRoads
import HandS.Conv
import HandS.NestedK
import KE.KStateDown
import HandS.Head0
import HandS.Head1
import HandS.Head2
import HandS.HeadEnd
import HandS.HeadHook1
import HandS.HeadHook2
import HandS.HeadHook3
import PySem.Challenge.RW_sureweights_k82_whole_claims_carried_bac
import PyProof.ReprBulk
set_option Elab.async false
set_option linter.all false
set_option maxRecDepth 100000
set_option maxHeartbeats 2000000
/-! SwD: data as trees (Da), how the heap bears them (Re), a stable part G of the heap; what an expression, a statement reckons over data. -/
namespace Sw
open PySem PySem.Spec PyProof.Rows L2

/-- data as trees; dic: an empty dict; exc c: a caught exception of the class that the module's name c means -/
inductive Da where
  | non | bl (b : Bool) | int (i : Int) | str (x : Str) | lst (ds : List Da) | tup (ds : List Da) | dic | exc (c : Str) | fn (x : Str)

/-- an exception object that is held -/
def ExH (cls : Value) (a : Addr) : HO := .ext fun h => ∃ (oe : Obj) (vs : Array Value), h.get? a = some oe ∧ Zc cls none oe ∧ oe.data = .fields vs

/-- a list that is read: tracked, frozen, or a plain one of the module -/
def SqX (K : PySem.W.Frag) (H : Hp) (a : Addr) (xs : List V) : Prop := Rd H a (.lst xs) ∨ ∃ (its : Array Value) (n : Nat), K.lookup a = some { cls := .type "list", data := .seq its n } ∧ its.size ≤ sizeLine ∧ Vals xs its.toList
theorem SqX.of {K : PySem.W.Frag} {H : Hp} {a : Addr} {xs : List V} (h : H a = some (.lst xs)) : SqX K H a xs := .inl (.inl h)
theorem SqX.sq {K : PySem.W.Frag} {H : Hp} {a : Addr} {xs : List V} (h : SqX K H a xs) : SqL K H a xs := by
  rcases h with h | ⟨its, n, e, z, r⟩
  · exact .inl h
  · exact .inr ⟨_, its, n, e, rfl, rfl, rfl, z, r⟩
theorem SqX.mono {K : PySem.W.Frag} {H H' : Hp} {a : Addr} {xs : List V} (e : Same H H') (h : SqX K H a xs) : SqX K H' a xs := by
  rcases h with (h | ⟨o, h⟩) | h
  · exact .inl (.inl (e _ _ h))
  · exact .inl (.inr ⟨o, e _ _ h⟩)
  · exact .inr h
mutual
inductive Re (K : PySem.W.Frag) (G : Hp) : V → Da → Prop
  | non : Re K G .non .non
  | bl (b : Bool) : Re K G (.bl b) (.bl b)
  | int (i : Int) : Re K G (.int i) (.int i)
  | str (x : Str) : Re K G (.str x) (.str x)
  | lst {a : Addr} {xs : List V} {ds : List Da} : SqX K G a xs → ReL K G xs ds → Re K G (.ref a) (.lst ds)
  | tup {a : Addr} {xs : List V} {ds : List Da} : SqT K G a xs → ReL K G xs ds → Re K G (.ref a) (.tup ds)
  | dic {a : Addr} : G a = some (.dK []) → Re K G (.ref a) .dic
  | exc {a : Addr} {c : Str} : G a = some (ExH (.ref (He.ga K c)) a) → Re K G (.ref a) (.exc c)
  | fn (x : Str) : Re K G (.ref (He.fAd K (x, none))) (.fn x)
inductive ReL (K : PySem.W.Frag) (G : Hp) : List V → List Da → Prop
  | nil : ReL K G [] []
  | cons {v : V} {vs : List V} {d : Da} {ds : List Da} : Re K G v d → ReL K G vs ds → ReL K G (v :: vs) (d :: ds)
end
theorem same_t {K : PySem.W.Frag} {H H' : Hp} {a : Addr} {xs : List V} (e : Same H H') (h : SqT K H a xs) : SqT K H' a xs := by
  rcases h with (h | ⟨o, h⟩) | h
  · exact .inl (.inl (e _ _ h))
  · exact .inl (.inr ⟨o, e _ _ h⟩)
  · exact .inr h
mutual
theorem Re.mono {K : PySem.W.Frag} {G G' : Hp} (e : Same G G') : ∀ {v : V} {d : Da}, Re K G v d → Re K G' v d
  | _, _, .non => .non
  | _, _, .bl b => .bl b
  | _, _, .int i => .int i
  | _, _, .str x => .str x
  | _, _, .lst h r => .lst (h.mono e) (ReL.mono e r)
  | _, _, .tup h r => .tup (same_t e h) (ReL.mono e r)
  | _, _, .dic h => .dic (e _ _ h)
  | _, _, .exc h => .exc (e _ _ h)
  | _, _, .fn x => .fn x
theorem ReL.mono {K : PySem.W.Frag} {G G' : Hp} (e : Same G G') : ∀ {v : List V} {d : List Da}, ReL K G v d → ReL K G' v d
  | _, _, .nil => .nil
  | _, _, .cons r s => .cons (Re.mono e r) (ReL.mono e s)
end
section
variable {K : PySem.W.Frag} {G : Hp}
theorem ReL.length : ∀ {vs : List V} {ds : List Da}, ReL K G vs ds → vs.length = ds.length
  | _, _, .nil => rfl
  | _, _, .cons _ s => congrArg (· + 1) (ReL.length s)
theorem ReL.get : ∀ {vs : List V} {ds : List Da} {i : Nat} {v : V}, ReL K G vs ds → vs[i]? = some v → ∃ d, ds[i]? = some d ∧ Re K G v d
  | _, _, _, _, .nil, e => by simp at e
  | _, _, 0, _, .cons r _, e => by simp at e; subst e; exact ⟨_, rfl, r⟩
  | _, _, i + 1, _, .cons _ s, e => ReL.get (i := i) s (by simpa using e)
theorem ReL.get' : ∀ {vs : List V} {ds : List Da} {i : Nat} {d : Da}, ReL K G vs ds → ds[i]? = some d → ∃ v, vs[i]? = some v ∧ Re K G v d
  | _, _, _, _, .nil, e => by simp at e
  | _, _, 0, _, .cons r _, e => by simp at e; subst e; exact ⟨_, rfl, r⟩
  | _, _, i + 1, _, .cons _ s, e => ReL.get' (i := i) s (by simpa using e)
theorem ReL.append : ∀ {vs ws : List V} {ds es : List Da}, ReL K G vs ds → ReL K G ws es → ReL K G (vs ++ ws) (ds ++ es)
  | _, _, _, _, .nil, s => s
  | _, _, _, _, .cons r t, s => .cons r (ReL.append t s)
theorem ReL.take : ∀ {vs : List V} {ds : List Da} (n : Nat), ReL K G vs ds → ReL K G (vs.take n) (ds.take n)
  | _, _, 0, _ => .nil
  | _, _, _ + 1, .nil => .nil
  | _, _, n + 1, .cons r t => .cons r (ReL.take n t)
theorem ReL.drop : ∀ {vs : List V} {ds : List Da} (n : Nat), ReL K G vs ds → ReL K G (vs.drop n) (ds.drop n)
  | _, _, 0, r => r
  | _, _, _ + 1, .nil => .nil
  | _, _, n + 1, .cons _ t => ReL.drop n t
theorem ReL.set {v : V} {d : Da} (r : Re K G v d) : ∀ {vs : List V} {ds : List Da} (i : Nat), ReL K G vs ds → ReL K G (vs.set i v) (ds.set i d)
  | _, _, _, .nil => .nil
  | _, _, 0, .cons _ t => .cons r t
  | _, _, i + 1, .cons q t => .cons q (ReL.set r i t)
theorem ReL.snoc {vs : List V} {ds : List Da} {v : V} {d : Da} (h : ReL K G vs ds) (r : Re K G v d) : ReL K G (vs ++ [v]) (ds ++ [d]) := h.append (.cons r .nil)
theorem ReL.eraseIdx : ∀ {vs : List V} {ds : List Da} (i : Nat), ReL K G vs ds → ReL K G (vs.eraseIdx i) (ds.eraseIdx i)
  | _, _, _, .nil => .nil
  | _, _, 0, .cons _ t => t
  | _, _, i + 1, .cons q t => .cons q (ReL.eraseIdx i t)
theorem ReL.dropLast {vs : List V} {ds : List Da} (h : ReL K G vs ds) : ReL K G vs.dropLast ds.dropLast := by
  rw [List.dropLast_eq_take, List.dropLast_eq_take, h.length]
  exact h.take _
theorem ReL.ints : ∀ {ns : List Int} {vs : List V}, ReL K G vs (ns.map Da.int) → vs = ns.map V.int
  | [], _, h => by cases h; rfl
  | n :: ns, _, h => by
    rw [List.map_cons] at h
    cases h with
    | cons r s => cases r; rw [ReL.ints s]; rfl
theorem ReL.of_ints : ∀ (ns : List Int), ReL K G (ns.map V.int) (ns.map Da.int)
  | [] => .nil
  | n :: ns => .cons (.int n) (ReL.of_ints ns)
theorem ReL.bools : ∀ {bs : List Bool} {vs : List V}, ReL K G vs (bs.map Da.bl) → vs = bs.map V.bl
  | [], _, h => by cases h; rfl
  | b :: bs, _, h => by
    rw [List.map_cons] at h
    cases h with
    | cons r s => cases r; rw [ReL.bools s]; rfl
theorem ReL.strs : ∀ {bs : List Str} {vs : List V}, ReL K G vs (bs.map Da.str) → vs = bs.map V.str
  | [], _, h => by cases h; rfl
  | b :: bs, _, h => by
    rw [List.map_cons] at h
    cases h with
    | cons r s => cases r; rw [ReL.strs s]; rfl
end

/-! ### from a stable part G within H to G' within H': what is not at mu is kept, what was in H stays out of G -/
structure Xt (mu : List Addr) (G H G' H' : Hp) : Prop where
  ext : ∀ a o, a ∉ mu → H a = some o → H' a = some o
  dom : ∀ a, H a ≠ none → H' a ≠ none
  sub : Same G G'
  in_ : Same G' H'
  new : ∀ a, G a = none → H a ≠ none → G' a = none
theorem Xt.refl {mu : List Addr} {G H : Hp} (h : Same G H) : Xt mu G H G H := ⟨fun _ _ _ e => e, fun _ e => e, .refl G, h, fun _ e _ => e⟩
theorem Xt.trans {mu : List Addr} {G H G1 H1 G2 H2 : Hp} (a : Xt mu G H G1 H1) (b : Xt mu G1 H1 G2 H2) : Xt mu G H G2 H2 :=
  ⟨fun x o n e => b.ext x o n (a.ext x o n e), fun x e => b.dom x (a.dom x e), a.sub.trans b.sub, b.in_, fun x e n => b.new x (a.new x e n) (a.dom x n)⟩
/-- nothing at all is changed -/
abbrev Xp (G H G' H' : Hp) : Prop := Xt [] G H G' H'
theorem Xp.xt {mu : List Addr} {G H G' H' : Hp} (a : Xp G H G' H') : Xt mu G H G' H' := ⟨fun x o _ e => a.ext x o (by simp) e, a.dom, a.sub, a.in_, a.new⟩
theorem Xp.same {G H G' H' : Hp} (a : Xp G H G' H') : Same H H' := fun x o e => a.ext x o (by simp) e
theorem Xp.of_same {G H H' : Hp} (h : Same G H) (e : Same H H') : Xp G H G H' :=
  ⟨fun x o _ q => e x o q, fun x n q => n (e.free q), .refl G, h.trans e, fun _ e _ => e⟩
/-- a new object, stable from now on -/
theorem Xp.new_ {G H : Hp} (h : Same G H) {p : Addr} {o : HO} (hp : H p = none) : Xp G H (upd G p o) (upd H p o) := by
  have gp : G p = none := h.free hp
  refine ⟨fun x u _ e => by rw [upd_ne (ne_of_none e hp)]; exact e, fun x e q => ?_, fun x u e => by rw [upd_ne (ne_of_none e gp)]; exact e, fun x u e => ?_, fun x e n => ?_⟩
  · by_cases hx : x = p
    · rw [hx, upd_same] at q; cases q
    · rw [upd_ne hx] at q; exact e q
  · by_cases hx : x = p
    · rw [hx, upd_same] at e ⊢; exact e
    · rw [upd_ne hx] at e ⊢; exact h x u e
  · have hx : x ≠ p := fun q => n (by rw [q]; exact hp)
    rw [upd_ne hx]; exact e
/-- a new object that is not stable -/
theorem Xp.new0 {G H : Hp} (h : Same G H) {p : Addr} {o : HO} (hp : H p = none) : Xp G H G (upd H p o) := Xp.of_same h fun x u e => by
  rw [upd_ne (ne_of_none e hp)]; exact e

/-! ### values that may be read: stable data, or a list that stands in H whose items are stable -/
def ReO (K : PySem.W.Frag) (mu : List Addr) (G H : Hp) (v : V) (d : Da) : Prop :=
  Re K G v d ∨ ∃ ds p vs, d = .lst ds ∧ v = .ref p ∧ H p = some (.lst vs) ∧ p ∉ mu ∧ ReL K G vs ds
theorem Re.o {K : PySem.W.Frag} {mu : List Addr} {G H : Hp} {v : V} {d : Da} (h : Re K G v d) : ReO K mu G H v d := .inl h
theorem ReO.xt {K : PySem.W.Frag} {mu : List Addr} {G H G' H' : Hp} {v : V} {d : Da} (h : ReO K mu G H v d) (x : Xt mu G H G' H') : ReO K mu G' H' v d := by
  rcases h with h | ⟨ds, p, vs, e1, e2, e3, e4, e5⟩
  · exact .inl (h.mono x.sub)
  · exact .inr ⟨ds, p, vs, e1, e2, x.ext _ _ e4 e3, e4, e5.mono x.sub⟩
theorem ReO.lstx {K : PySem.W.Frag} {mu : List Addr} {G H : Hp} {v : V} {ds : List Da} (s : Same G H) (h : ReO K mu G H v (.lst ds)) : ∃ p vs, v = .ref p ∧ SqX K H p vs ∧ ReL K G vs ds := by
  rcases h with h | ⟨ds', p, vs, e1, e2, e3, e4, e5⟩
  · cases h with
    | lst q r => exact ⟨_, _, rfl, q.mono s, r⟩
  · cases e1
    exact ⟨p, vs, e2, SqX.of e3, e5⟩
theorem ReO.lst {K : PySem.W.Frag} {mu : List Addr} {G H : Hp} {v : V} {ds : List Da} (s : Same G H) (h : ReO K mu G H v (.lst ds)) : ∃ p vs, v = .ref p ∧ SqL K H p vs ∧ ReL K G vs ds := by
  obtain ⟨p, vs, e, q, r⟩ := h.lstx s
  exact ⟨p, vs, e, q.sq, r⟩
theorem ReO.re {K : PySem.W.Frag} {mu : List Addr} {G H : Hp} {v : V} {d : Da} (h : ReO K mu G H v d) (n : ∀ ds, d ≠ .lst ds) : Re K G v d := by
  rcases h with h | ⟨ds', p, vs, e1, _⟩
  · exact h
  · exact absurd e1 (n ds')

/-! ### what comes: a value, an exception's class, nothing told -/
inductive Rp (α : Type) where
  | ok (a : α) | er (c : Str) | no
abbrev Fx (S α : Type) := S → Rp (α × S)
def ret {S α : Type} (a : α) : Fx S α := fun s => .ok (a, s)
def bnd {S α β : Type} (m : Fx S α) (k : α → Fx S β) : Fx S β := fun s => match m s with
  | .ok (a, s') => k a s'
  | .er c => .er c
  | .no => .no
def lift {S α : Type} : Option α → Fx S α
  | some a => ret a
  | none => fun _ => .no
def liftR {S α : Type} : Rp α → Fx S α
  | .ok a => ret a
  | .er c => fun _ => .er c
  | .no => fun _ => .no

/-! ### worlds: what is changed by calls, at mu, is told by s -/
structure Wd where
  S : Type
  mu : List Addr
  rel : S → Hp → Hp → Prop
  mono : ∀ {s : S} {G H G' H' : Hp}, rel s G H → Same G G' → (∀ a ∈ mu, H' a = H a) → (∀ a o, H a = some o → (∀ xs, o ≠ .lst xs) → H' a = some o) → rel s G' H'
/-- nothing is changed -/
def pureW : Wd := ⟨Unit, [], fun _ _ _ => True, fun _ _ _ _ => trivial⟩

/-! ### slots: no name, data, an own list (grown, changed), a value -/
inductive Sl where
  | no | dat (d : Da) | own (ds : List Da) | raw (v : V)
abbrev Ev := List Sl
def SlOk (K : PySem.W.Frag) (mu : List Addr) (G H : Hp) (v : Option V) : Sl → Prop
  | .no => True
  | .dat d => ∃ x, v = some x ∧ Re K G x d
  | .own ds => ∃ p vs, v = some (.ref p) ∧ H p = some (.lst vs) ∧ G p = none ∧ p ∉ mu ∧ ReL K G vs ds
  | .raw x => v = some x
structure Stt (K : PySem.W.Frag) (Wd : Wd) (G H : Hp) (σ : L2.St) (ρ : Ev) (s : Wd.S) : Prop where
  in_ : Same G H
  mu : ∀ a ∈ Wd.mu, G a = none ∧ H a ≠ none
  len : σ.length = ρ.length
  sl : ∀ (i : Nat) (sl : Sl), ρ[i]? = some sl → ∃ v, σ[i]? = some v ∧ SlOk K Wd.mu G H v sl
  apart : ∀ (i j : Nat) (p : Addr) (ds es : List Da), ρ[i]? = some (.own ds) → ρ[j]? = some (.own es) → σ[i]? = some (some (.ref p)) → σ[j]? = some (some (.ref p)) → i = j
  rel : Wd.rel s G H
section
variable {K : PySem.W.Frag} {W : Wd} {G H G' H' : Hp} {σ : L2.St} {ρ : Ev} {s s' : W.S}
theorem SlOk.xt {mu : List Addr} {v : Option V} {sl : Sl} (h : SlOk K mu G H v sl) (x : Xt mu G H G' H') : SlOk K mu G' H' v sl := by
  cases sl with
  | no => trivial
  | dat d => obtain ⟨y, e, r⟩ := h; exact ⟨y, e, r.mono x.sub⟩
  | own ds =>
    obtain ⟨p, vs, e, e2, e3, e4, e5⟩ := h
    exact ⟨p, vs, e, x.ext _ _ e4 e2, x.new p e3 (by rw [e2]; simp), e4, e5.mono x.sub⟩
  | raw y => exact h
theorem Stt.xt (h : Stt K W G H σ ρ s) (x : Xt W.mu G H G' H') (r : W.rel s' G' H') : Stt K W G' H' σ ρ s' :=
  ⟨x.in_, fun a ha => ⟨x.new a (h.mu a ha).1 (h.mu a ha).2, x.dom a (h.mu a ha).2⟩, h.len, fun i sl e => by
    obtain ⟨v, e1, e2⟩ := h.sl i sl e
    exact ⟨v, e1, e2.xt x⟩, h.apart, r⟩
theorem Stt.keep (h : Stt K W G H σ ρ s) (x : Xp G H G' H') : W.rel s G' H' := W.mono h.rel x.sub (fun a ha => by
  cases q : H a with
  | none => exact absurd q (h.mu a ha).2
  | some o => rw [x.same a o q]) fun a o e _ => x.same a o e
theorem Stt.xp (h : Stt K W G H σ ρ s) (x : Xp G H G' H') : Stt K W G' H' σ ρ s := h.xt x.xt (h.keep x)
end

/-! ### what is wanted behind an expression -/
abbrev WX := Str → Hp → Prop
def EPost (K : PySem.W.Frag) (W : Wd) (E : WX) (G H : Hp) (r : Rp (Da × W.S)) (Q : VK) : Prop := match r with
  | .ok (d, s') => ∀ v G' H', Xt W.mu G H G' H' → W.rel s' G' H' → Re K G' v d → Q v H'
  | .er c => ∀ G' H', Xt W.mu G H G' H' → E c H'
  | .no => False
def OPost (K : PySem.W.Frag) (W : Wd) (E : WX) (G H : Hp) (r : Rp (Da × W.S)) (Q : VK) : Prop := match r with
  | .ok (d, s') => ∀ v G' H', Xt W.mu G H G' H' → W.rel s' G' H' → ReO K W.mu G' H' v d → Q v H'
  | .er c => ∀ G' H', Xt W.mu G H G' H' → E c H'
  | .no => False
def TPost (K : PySem.W.Frag) (W : Wd) (E : WX) (G H : Hp) (r : Rp (Bool × W.S)) (Q : Bool → Hp → Prop) : Prop := match r with
  | .ok (b, s') => ∀ G' H', Xt W.mu G H G' H' → W.rel s' G' H' → Q b H'
  | .er c => ∀ G' H', Xt W.mu G H G' H' → E c H'
  | .no => False
def APost (K : PySem.W.Frag) (W : Wd) (E : WX) (G H : Hp) (r : Rp (List Da × W.S)) (Q : List V → Hp → Prop) : Prop := match r with
  | .ok (ds, s') => ∀ vs G' H', Xt W.mu G H G' H' → W.rel s' G' H' → ReL K G' vs ds → Q vs H'
  | .er c => ∀ G' H', Xt W.mu G H G' H' → E c H'
  | .no => False
/-- an expression whose value is stable -/
structure DE (X : Cx) (W : Wd) (E : WX) (e : Expr) (f : Ev → Fx W.S Da) : Prop where
  ex : ∃ te, PE X e te ∧ ∀ G H σ ρ s (Q : VK), Stt X.K W G H σ ρ s → EPost X.K W E G H (f ρ s) Q → te σ H Q
/-- an operand -/
structure DO (X : Cx) (W : Wd) (E : WX) (e : Expr) (f : Ev → Fx W.S Da) : Prop where
  ex : ∃ te, PE X e te ∧ ∀ G H σ ρ s (Q : VK), Stt X.K W G H σ ρ s → OPost X.K W E G H (f ρ s) Q → te σ H Q
/-- a test -/
structure DT (X : Cx) (W : Wd) (E : WX) (e : Expr) (f : Ev → Fx W.S Bool) : Prop where
  ex : ∃ te, PT X e te ∧ ∀ G H σ ρ s (Q : Bool → Hp → Prop), Stt X.K W G H σ ρ s → TPost X.K W E G H (f ρ s) Q → te σ H Q
/-- arguments -/
structure DA (X : Cx) (W : Wd) (E : WX) (es : List Expr) (f : Ev → Fx W.S (List Da)) : Prop where
  ex : ∃ te, PA X es te ∧ ∀ G H σ ρ s (Q : List V → Hp → Prop), Stt X.K W G H σ ρ s → APost X.K W E G H (f ρ s) Q → te σ H Q

section
variable {X : Cx} {W : Wd} {E : WX} {e a b : Expr} {f g : Ev → Fx W.S Da}
theorem DE.o (h : DE X W E e f) : DO X W E e f := by
  obtain ⟨te, p, q⟩ := h.ex
  refine ⟨te, p, fun G H σ ρ s Q S h => q G H σ ρ s Q S ?_⟩
  unfold OPost at h
  unfold EPost
  cases r : f ρ s with
  | ok z => obtain ⟨d, s'⟩ := z; rw [r] at h; exact fun v G' H' x w y => h v G' H' x w y.o
  | er c => rw [r] at h; exact h
  | no => rw [r] at h; exact h

/-! ### names, constants -/
def fName {S : Type} (i : Nat) : Ev → Fx S Da := fun ρ => match ρ[i]? with
  | some (.dat d) => ret d
  | _ => fun _ => .no
def fNameO {S : Type} (i : Nat) : Ev → Fx S Da := fun ρ => match ρ[i]? with
  | some (.dat d) => ret d
  | some (.own ds) => ret (.lst ds)
  | _ => fun _ => .no
def fC {S : Type} (d : Da) : Ev → Fx S Da := fun _ => ret d
theorem de_name (i : Nat) (h : PE X e (tVar i)) : DE X W E e (fName i) := by
  refine ⟨tVar i, h, fun G H σ ρ s Q S h => ?_⟩
  unfold EPost fName at h
  cases r : ρ[i]? with
  | none => rw [r] at h; exact h.elim
  | some sl =>
    rw [r] at h
    cases sl with
    | dat d =>
      obtain ⟨v, e1, x, e2, e3⟩ := S.sl i _ r
      subst e2
      exact ⟨x, e1, h x G H (.refl S.in_) S.rel e3⟩
    | no => exact h.elim
    | own ds => exact h.elim
    | raw v => exact h.elim
theorem do_name (i : Nat) (h : PE X e (tVar i)) : DO X W E e (fNameO i) := by
  refine ⟨tVar i, h, fun G H σ ρ s Q S h => ?_⟩
  unfold OPost fNameO at h
  cases r : ρ[i]? with
  | none => rw [r] at h; exact h.elim
  | some sl =>
    rw [r] at h
    cases sl with
    | dat d =>
      obtain ⟨v, e1, x, e2, e3⟩ := S.sl i _ r
      subst e2
      exact ⟨x, e1, h x G H (.refl S.in_) S.rel e3.o⟩
    | no => exact h.elim
    | own ds =>
      obtain ⟨v, e1, p, vs, e2, e3, e4, e5, e6⟩ := S.sl i _ r
      subst e2
      exact ⟨.ref p, e1, h (.ref p) G H (.refl S.in_) S.rel (.inr ⟨ds, p, vs, rfl, rfl, e3, e5, e6⟩)⟩
    | raw v => exact h.elim
theorem de_c {v : V} {d : Da} (h : PE X e (tC v)) (r : ∀ G, Re X.K G v d) : DE X W E e (fC d) := by
  refine ⟨tC v, h, fun G H σ ρ s Q S h => ?_⟩
  exact h v G H (.refl S.in_) S.rel (r G)
theorem de_int {i : Int} {j : Nat} {pos : Pos} : DE X W E (.Constant (.int i) j pos) (fC (.int i)) := de_c pe_int fun _ => .int i
theorem de_bl {i : Bool} {j : Nat} {pos : Pos} : DE X W E (.Constant (.bool i) j pos) (fC (.bl i)) := de_c pe_bl fun _ => .bl i
theorem de_non {j : Nat} {pos : Pos} : DE X W E (.Constant .none j pos) (fC .non) := de_c pe_non fun _ => .non
theorem de_str {i : Str} {j : Nat} {pos : Pos} : DE X W E (.Constant (.str i) j pos) (fC (.str i)) := de_c pe_str fun _ => .str i

/-! ### two places -/
def fBin {S : Type} (F : Da → Da → Option Da) (f g : Ev → Fx S Da) : Ev → Fx S Da := fun ρ => bnd (f ρ) fun x => bnd (g ρ) fun y => lift (F x y)
/-- what an operation by values does over data -/
def OpD (K : PySem.W.Frag) (r : R2) (F : Da → Da → Option Da) : Prop := ∀ (mu : List Addr) (G H : Hp) (x y : V) (d e z : Da) (Q : VK), Same G H → ReO K mu G H x d → ReO K mu G H y e → F d e = some z →
  (∀ v G' H', Xp G H G' H' → Re K G' v z → Q v H') → r x y H Q
theorem bin_post {r : R2} {F : Da → Da → Option Da} {ta tb : TE} (hr : OpD X.K r F)
    (qa : ∀ G H σ ρ s (Q : VK), Stt X.K W G H σ ρ s → OPost X.K W E G H (f ρ s) Q → ta σ H Q) (qb : ∀ G H σ ρ s (Q : VK), Stt X.K W G H σ ρ s → OPost X.K W E G H (g ρ s) Q → tb σ H Q)
    {G H : Hp} {σ : L2.St} {ρ : Ev} {s : W.S} {Q : VK} (S : Stt X.K W G H σ ρ s) (h : EPost X.K W E G H (fBin F f g ρ s) Q) : tOp r ta tb σ H Q := by
  unfold fBin bnd at h
  refine qa G H σ ρ s _ S ?_
  cases r1 : f ρ s with
  | no => rw [r1] at h; exact h.elim
  | er c => rw [r1] at h; exact h
  | ok z =>
    obtain ⟨d, s1⟩ := z
    rw [r1] at h
    intro x G1 H1 x1 w1 y1
    have S1 := S.xt x1 w1
    refine qb G1 H1 σ ρ s1 _ S1 ?_
    simp only at h
    cases r2 : g ρ s1 with
    | no => rw [r2] at h; exact h.elim
    | er c => rw [r2] at h; exact fun G' H' x' => h G' H' (x1.trans x')
    | ok z =>
      obtain ⟨e, s2⟩ := z
      rw [r2] at h
      intro y G2 H2 x2 w2 y2
      have S2 := S1.xt x2 w2
      simp only at h
      cases r3 : F d e with
      | none => rw [r3] at h; exact h.elim
      | some z =>
        rw [r3] at h
        refine hr W.mu G2 H2 x y d e z Q S2.in_ (y1.xt x2) y2 r3 fun v G' H' xp rz => ?_
        exact h v G' H' ((x1.trans x2).trans xp.xt) (S2.keep xp) rz
theorem de_bin {op : Operator} {r : R2} {F : Da → Da → Option Da} {pos : Pos} (ho : OpR X (binaryOp op) r) (hr : OpD X.K r F) (ha : DO X W E a f) (hb : DO X W E b g) : DE X W E (.BinOp a op b pos) (fBin F f g) := by
  obtain ⟨ta, pa, qa⟩ := ha.ex
  obtain ⟨tb, pb, qb⟩ := hb.ex
  exact ⟨_, pe_op ho pa pb, fun G H σ ρ s Q S h => bin_post hr qa qb S h⟩
theorem de_cmp {op : CmpOp} {r : R2} {F : Da → Da → Option Da} {pos : Pos} (ho : OpR X (compareOp op) r) (hr : OpD X.K r F) (ha : DO X W E a f) (hb : DO X W E b g) (hm : behindInMarks op b = false) : DE X W E (.Compare a [op] [b] pos) (fBin F f g) := by
  obtain ⟨ta, pa, qa⟩ := ha.ex
  obtain ⟨tb, pb, qb⟩ := hb.ex
  exact ⟨_, pe_cmpR ho pa pb hm, fun G H σ ρ s Q S h => bin_post hr qa qb S h⟩

/-! ### tests -/
def fTest {S : Type} (f : Ev → Fx S Da) : Ev → Fx S Bool := fun ρ => bnd (f ρ) fun x => match x with
  | .bl b => ret b
  | _ => fun _ => .no
theorem test_post {ta : TE} (qa : ∀ G H σ ρ s (Q : VK), Stt X.K W G H σ ρ s → EPost X.K W E G H (f ρ s) Q → ta σ H Q) {G H : Hp} {σ : L2.St} {ρ : Ev} {s : W.S} {Q : Bool → Hp → Prop} (S : Stt X.K W G H σ ρ s)
    (h : TPost X.K W E G H (fTest f ρ s) Q) : ta σ H fun x H' => ∃ k, x = .bl k ∧ Q k H' := by
  unfold fTest bnd at h
  refine qa G H σ ρ s _ S ?_
  cases r1 : f ρ s with
  | no => rw [r1] at h; exact h.elim
  | er c => rw [r1] at h; exact h
  | ok z =>
    obtain ⟨d, s1⟩ := z
    rw [r1] at h
    intro x G1 H1 x1 w1 y1
    simp only at h
    cases y1 with
    | bl b => exact ⟨b, rfl, h G1 H1 x1 w1⟩
    | non => exact h.elim
    | int _ => exact h.elim
    | str _ => exact h.elim
    | lst _ _ => exact h.elim
    | tup _ _ => exact h.elim
    | dic _ => exact h.elim
    | exc _ => exact h.elim
    | fn _ => exact h.elim
theorem dt_val (h : DE X W E e f) (he : ∀ whole, isTrue e X.env whole = (do let v ← whole; standAt e.pos; holding [v] (truthy v)) := by intro _; rfl) : DT X W E e (fTest f) := by
  obtain ⟨ta, pa, qa⟩ := h.ex
  exact ⟨_, pt_val pa he, fun G H σ ρ s Q S h => test_post qa S h⟩
theorem dt_cmp {op : CmpOp} {r : R2} {F : Da → Da → Option Da} {pos : Pos} (ho : OpR X (compareOp op) r) (hr : OpD X.K r F) (ha : DO X W E a f) (hb : DO X W E b g) (hm : behindInMarks op b = false) : DT X W E (.Compare a [op] [b] pos) (fTest (fBin F f g)) := by
  obtain ⟨ta, pa, qa⟩ := ha.ex
  obtain ⟨tb, pb, qb⟩ := hb.ex
  exact ⟨_, pt_cmpR ho pa pb hm, fun G H σ ρ s Q S h => test_post (fun G H σ ρ s Q S h => bin_post hr qa qb S h) S h⟩
end
/-! ### not, and, or as tests -/
section
variable {X : Cx} {W : Wd} {E : WX} {e a b : Expr} {f g : Ev → Fx W.S Da} {t u : Ev → Fx W.S Bool} {rest : List Expr} {pos : Pos}
def fNot {S : Type} (f : Ev → Fx S Bool) : Ev → Fx S Bool := fun ρ => bnd (f ρ) fun x => ret (!x)
def fAnd {S : Type} (f g : Ev → Fx S Bool) : Ev → Fx S Bool := fun ρ => bnd (f ρ) fun x => if x = true then g ρ else ret false
def fOr {S : Type} (f g : Ev → Fx S Bool) : Ev → Fx S Bool := fun ρ => bnd (f ρ) fun x => if x = true then ret true else g ρ
/-- a test in a row of and | or, whatever its whole is -/
structure DW (X : Cx) (W : Wd) (E : WX) (e : Expr) (f : Ev → Fx W.S Bool) : Prop where
  ex : ∃ te, PW X e te ∧ ∀ G H σ ρ s (Q : Bool → Hp → Prop), Stt X.K W G H σ ρ s → TPost X.K W E G H (f ρ s) Q → te σ H Q
theorem DW.dt (h : DW X W E e t) : DT X W E e t := by
  obtain ⟨te, p, q⟩ := h.ex
  exact ⟨te, p.pt, q⟩
theorem dt_not (h : DT X W E a t) : DT X W E (.UnaryOp .Not a pos) (fNot t) := by
  obtain ⟨ta, pa, qa⟩ := h.ex
  refine ⟨_, pt_not pa, fun G H σ ρ s Q S h => qa G H σ ρ s _ S ?_⟩
  unfold fNot bnd at h
  cases r1 : t ρ s with
  | no => rw [r1] at h; exact h.elim
  | er c => rw [r1] at h; exact h
  | ok z => obtain ⟨d, s1⟩ := z; rw [r1] at h; exact h
theorem dw_and1 (h : DT X W E a t) : DW X W E (.BoolOp .And [a] pos) t := by
  obtain ⟨ta, pa, qa⟩ := h.ex
  exact ⟨_, pw_and1 pa, qa⟩
theorem dw_or1 (h : DT X W E a t) : DW X W E (.BoolOp .Or [a] pos) t := by
  obtain ⟨ta, pa, qa⟩ := h.ex
  exact ⟨_, pw_or1 pa, qa⟩
theorem dw_and (ha : DT X W E a t) (hb : DW X W E (.BoolOp .And (b :: rest) pos) u) : DW X W E (.BoolOp .And (a :: b :: rest) pos) (fAnd t u) := by
  obtain ⟨ta, pa, qa⟩ := ha.ex
  obtain ⟨tb, pb, qb⟩ := hb.ex
  refine ⟨_, pw_and pa pb, fun G H σ ρ s Q S h => qa G H σ ρ s _ S ?_⟩
  unfold fAnd bnd at h
  cases r1 : t ρ s with
  | no => rw [r1] at h; exact h.elim
  | er c => rw [r1] at h; exact h
  | ok z =>
    obtain ⟨d, s1⟩ := z
    rw [r1] at h
    intro G1 H1 x1 w1
    cases d with
    | false => exact h G1 H1 x1 w1
    | true =>
      refine qb G1 H1 σ ρ s1 Q (S.xt x1 w1) ?_
      have h2 : TPost X.K W E G H (u ρ s1) Q := h
      unfold TPost at h2 ⊢
      cases r2 : u ρ s1 with
      | no => rw [r2] at h2; exact h2
      | er c => rw [r2] at h2; exact fun G' H' x' => h2 G' H' (x1.trans x')
      | ok z => obtain ⟨d, s2⟩ := z; rw [r2] at h2; exact fun G' H' x' w' => h2 G' H' (x1.trans x') w'
theorem dw_or (ha : DT X W E a t) (hb : DW X W E (.BoolOp .Or (b :: rest) pos) u) : DW X W E (.BoolOp .Or (a :: b :: rest) pos) (fOr t u) := by
  obtain ⟨ta, pa, qa⟩ := ha.ex
  obtain ⟨tb, pb, qb⟩ := hb.ex
  refine ⟨_, pw_or pa pb, fun G H σ ρ s Q S h => qa G H σ ρ s _ S ?_⟩
  unfold fOr bnd at h
  cases r1 : t ρ s with
  | no => rw [r1] at h; exact h.elim
  | er c => rw [r1] at h; exact h
  | ok z =>
    obtain ⟨d, s1⟩ := z
    rw [r1] at h
    intro G1 H1 x1 w1
    cases d with
    | true => exact h G1 H1 x1 w1
    | false =>
      refine qb G1 H1 σ ρ s1 Q (S.xt x1 w1) ?_
      have h2 : TPost X.K W E G H (u ρ s1) Q := h
      unfold TPost at h2 ⊢
      cases r2 : u ρ s1 with
      | no => rw [r2] at h2; exact h2
      | er c => rw [r2] at h2; exact fun G' H' x' => h2 G' H' (x1.trans x')
      | ok z => obtain ⟨d, s2⟩ := z; rw [r2] at h2; exact fun G' H' x' w' => h2 G' H' (x1.trans x') w'
/-! ### a post carried to a later place -/
theorem EPost.later {G H G1 H1 : Hp} {r : Rp (Da × W.S)} {Q : VK} (h : EPost X.K W E G H r Q) (x1 : Xt W.mu G H G1 H1) : EPost X.K W E G1 H1 r Q := by
  unfold EPost at h ⊢
  cases r with
  | no => exact h
  | er c => exact fun G' H' x' => h G' H' (x1.trans x')
  | ok z => obtain ⟨d, s2⟩ := z; exact fun v G' H' x' w' y => h v G' H' (x1.trans x') w' y
theorem OPost.later {G H G1 H1 : Hp} {r : Rp (Da × W.S)} {Q : VK} (h : OPost X.K W E G H r Q) (x1 : Xt W.mu G H G1 H1) : OPost X.K W E G1 H1 r Q := by
  unfold OPost at h ⊢
  cases r with
  | no => exact h
  | er c => exact fun G' H' x' => h G' H' (x1.trans x')
  | ok z => obtain ⟨d, s2⟩ := z; exact fun v G' H' x' w' y => h v G' H' (x1.trans x') w' y
theorem APost.later {G H G1 H1 : Hp} {r : Rp (List Da × W.S)} {Q : List V → Hp → Prop} (h : APost X.K W E G H r Q) (x1 : Xt W.mu G H G1 H1) : APost X.K W E G1 H1 r Q := by
  unfold APost at h ⊢
  cases r with
  | no => exact h
  | er c => exact fun G' H' x' => h G' H' (x1.trans x')
  | ok z => obtain ⟨d, s2⟩ := z; exact fun v G' H' x' w' y => h v G' H' (x1.trans x') w' y
/-! ### and, or, not as values; a if t else b -/
def fAndV {S : Type} (f g : Ev → Fx S Da) : Ev → Fx S Da := fun ρ => bnd (f ρ) fun x => match x with
  | .bl true => g ρ
  | .bl false => ret (.bl false)
  | _ => fun _ => .no
def fOrV {S : Type} (f g : Ev → Fx S Da) : Ev → Fx S Da := fun ρ => bnd (f ρ) fun x => match x with
  | .bl true => ret (.bl true)
  | .bl false => g ρ
  | _ => fun _ => .no
def fNotV {S : Type} (f : Ev → Fx S Da) : Ev → Fx S Da := fun ρ => bnd (f ρ) fun x => match x with
  | .bl b => ret (.bl (!b))
  | _ => fun _ => .no
def fIf {S : Type} (t : Ev → Fx S Bool) (f g : Ev → Fx S Da) : Ev → Fx S Da := fun ρ => bnd (t ρ) fun x => if x = true then f ρ else g ρ
theorem de_one {op : BoolOp} (h : DE X W E a f) : DE X W E (.BoolOp op [a] pos) f := by
  obtain ⟨ta, pa, qa⟩ := h.ex
  exact ⟨_, pe_one pa, qa⟩
theorem de_and (ha : DE X W E a f) (hb : DE X W E (.BoolOp .And (b :: rest) pos) g) : DE X W E (.BoolOp .And (a :: b :: rest) pos) (fAndV f g) := by
  obtain ⟨ta, pa, qa⟩ := ha.ex
  obtain ⟨tb, pb, qb⟩ := hb.ex
  refine ⟨_, pe_and pa pb, fun G H σ ρ s Q S h => qa G H σ ρ s _ S ?_⟩
  unfold fAndV bnd at h
  cases r1 : f ρ s with
  | no => rw [r1] at h; exact h.elim
  | er c => rw [r1] at h; exact h
  | ok z =>
    obtain ⟨d, s1⟩ := z
    rw [r1] at h
    intro v G1 H1 x1 w1 y1
    cases y1 with
    | bl k =>
      refine ⟨k, rfl, ?_⟩
      cases k with
      | false => exact iteF (h (.bl false) G1 H1 x1 w1 (.bl false))
      | true => exact iteT (qb G1 H1 σ ρ s1 Q (S.xt x1 w1) (EPost.later h x1))
    | non => exact h.elim
    | int _ => exact h.elim
    | str _ => exact h.elim
    | lst _ _ => exact h.elim
    | tup _ _ => exact h.elim
    | dic _ => exact h.elim
    | exc _ => exact h.elim
    | fn _ => exact h.elim
theorem de_or (ha : DE X W E a f) (hb : DE X W E (.BoolOp .Or (b :: rest) pos) g) : DE X W E (.BoolOp .Or (a :: b :: rest) pos) (fOrV f g) := by
  obtain ⟨ta, pa, qa⟩ := ha.ex
  obtain ⟨tb, pb, qb⟩ := hb.ex
  refine ⟨_, pe_or pa pb, fun G H σ ρ s Q S h => qa G H σ ρ s _ S ?_⟩
  unfold fOrV bnd at h
  cases r1 : f ρ s with
  | no => rw [r1] at h; exact h.elim
  | er c => rw [r1] at h; exact h
  | ok z =>
    obtain ⟨d, s1⟩ := z
    rw [r1] at h
    intro v G1 H1 x1 w1 y1
    cases y1 with
    | bl k =>
      refine ⟨k, rfl, ?_⟩
      cases k with
      | true => exact iteT (h (.bl true) G1 H1 x1 w1 (.bl true))
      | false => exact iteF (qb G1 H1 σ ρ s1 Q (S.xt x1 w1) (EPost.later h x1))
    | non => exact h.elim
    | int _ => exact h.elim
    | str _ => exact h.elim
    | lst _ _ => exact h.elim
    | tup _ _ => exact h.elim
    | dic _ => exact h.elim
    | exc _ => exact h.elim
    | fn _ => exact h.elim
theorem de_not (ha : DE X W E a f) : DE X W E (.UnaryOp .Not a pos) (fNotV f) := by
  obtain ⟨ta, pa, qa⟩ := ha.ex
  refine ⟨_, pe_not pa, fun G H σ ρ s Q S h => qa G H σ ρ s _ S ?_⟩
  unfold fNotV bnd at h
  cases r1 : f ρ s with
  | no => rw [r1] at h; exact h.elim
  | er c => rw [r1] at h; exact h
  | ok z =>
    obtain ⟨d, s1⟩ := z
    rw [r1] at h
    intro v G1 H1 x1 w1 y1
    cases y1 with
    | bl k => exact ⟨k, rfl, h _ G1 H1 x1 w1 (.bl _)⟩
    | non => exact h.elim
    | int _ => exact h.elim
    | str _ => exact h.elim
    | lst _ _ => exact h.elim
    | tup _ _ => exact h.elim
    | dic _ => exact h.elim
    | exc _ => exact h.elim
    | fn _ => exact h.elim
theorem de_if {c : Expr} (hc : DT X W E c t) (ha : DE X W E a f) (hb : DE X W E b g) : DE X W E (.IfExp c a b pos) (fIf t f g) := by
  obtain ⟨tc, pc, qc⟩ := hc.ex
  obtain ⟨ta, pa, qa⟩ := ha.ex
  obtain ⟨tb, pb, qb⟩ := hb.ex
  refine ⟨_, pe_ifExp pc pa pb, fun G H σ ρ s Q S h => qc G H σ ρ s _ S ?_⟩
  unfold fIf bnd at h
  cases r1 : t ρ s with
  | no => rw [r1] at h; exact h.elim
  | er c => rw [r1] at h; exact h
  | ok z =>
    obtain ⟨d, s1⟩ := z
    rw [r1] at h
    intro G1 H1 x1 w1
    cases d with
    | true => exact iteT (qa G1 H1 σ ρ s1 Q (S.xt x1 w1) (EPost.later h x1))
    | false => exact iteF (qb G1 H1 σ ρ s1 Q (S.xt x1 w1) (EPost.later h x1))
/-! ### arguments -/
def fNil {S : Type} : Ev → Fx S (List Da) := fun _ => ret []
def fCons {S : Type} (f : Ev → Fx S Da) (g : Ev → Fx S (List Da)) : Ev → Fx S (List Da) := fun ρ => bnd (f ρ) fun x => bnd (g ρ) fun y => ret (x :: y)
theorem da_nil : DA X W E [] (fNil (S := W.S)) := by
  refine ⟨tNil, pa_nil, fun G H σ ρ s Q S h => ?_⟩
  exact h [] G H (.refl S.in_) S.rel .nil
theorem da_cons {es : List Expr} {h : Ev → Fx W.S (List Da)} (ha : DE X W E e f) (hb : DA X W E es h) (hs : starEach (e :: es) X.env = (false, eval e X.env) :: starEach es X.env := by rfl) : DA X W E (e :: es) (fCons f h) := by
  obtain ⟨ta, pa, qa⟩ := ha.ex
  obtain ⟨tb, pb, qb⟩ := hb.ex
  refine ⟨tCons ta tb, pa_cons pa pb hs, fun G H σ ρ s Q S h0 => qa G H σ ρ s _ S ?_⟩
  unfold fCons bnd at h0
  cases r1 : f ρ s with
  | no => rw [r1] at h0; exact h0.elim
  | er c => rw [r1] at h0; exact h0
  | ok z =>
    obtain ⟨d, s1⟩ := z
    rw [r1] at h0
    intro v G1 H1 x1 w1 y1
    refine qb G1 H1 σ ρ s1 _ (S.xt x1 w1) ?_
    simp only at h0
    cases r2 : h ρ s1 with
    | no => rw [r2] at h0; exact h0.elim
    | er c => rw [r2] at h0; exact fun G' H' x' => h0 G' H' (x1.trans x')
    | ok z =>
      obtain ⟨ds, s2⟩ := z
      rw [r2] at h0
      exact fun vs G' H' x' w' y' => h0 (v :: vs) G' H' (x1.trans x') w' (.cons (y1.mono x'.sub) y')
/-- operands as arguments -/
inductive ReOL (K : PySem.W.Frag) (mu : List Addr) (G H : Hp) : List V → List Da → Prop where
  | nil : ReOL K mu G H [] []
  | cons {v : V} {vs : List V} {d : Da} {ds : List Da} : ReO K mu G H v d → ReOL K mu G H vs ds → ReOL K mu G H (v :: vs) (d :: ds)
theorem ReOL.xt {K : PySem.W.Frag} {mu : List Addr} {G H G' H' : Hp} {v : List V} {d : List Da} (h : ReOL K mu G H v d) (x : Xt mu G H G' H') : ReOL K mu G' H' v d := by
  induction h with
  | nil => exact .nil
  | cons a _ ih => exact .cons (a.xt x) ih
def OAPost (K : PySem.W.Frag) (W : Wd) (E : WX) (G H : Hp) (r : Rp (List Da × W.S)) (Q : List V → Hp → Prop) : Prop := match r with
  | .ok (ds, s') => ∀ vs G' H', Xt W.mu G H G' H' → W.rel s' G' H' → ReOL K W.mu G' H' vs ds → Q vs H'
  | .er c => ∀ G' H', Xt W.mu G H G' H' → E c H'
  | .no => False
structure DOA (X : Cx) (W : Wd) (E : WX) (es : List Expr) (f : Ev → Fx W.S (List Da)) : Prop where
  ex : ∃ te, PA X es te ∧ ∀ G H σ ρ s (Q : List V → Hp → Prop), Stt X.K W G H σ ρ s → OAPost X.K W E G H (f ρ s) Q → te σ H Q
theorem doa_nil : DOA X W E [] (fNil (S := W.S)) := by
  refine ⟨tNil, pa_nil, fun G H σ ρ s Q S h => ?_⟩
  exact h [] G H (.refl S.in_) S.rel .nil
theorem doa_cons {es : List Expr} {h : Ev → Fx W.S (List Da)} (ha : DO X W E e f) (hb : DOA X W E es h) (hs : starEach (e :: es) X.env = (false, eval e X.env) :: starEach es X.env := by rfl) : DOA X W E (e :: es) (fCons f h) := by
  obtain ⟨ta, pa, qa⟩ := ha.ex
  obtain ⟨tb, pb, qb⟩ := hb.ex
  refine ⟨tCons ta tb, pa_cons pa pb hs, fun G H σ ρ s Q S h0 => qa G H σ ρ s _ S ?_⟩
  unfold fCons bnd at h0
  cases r1 : f ρ s with
  | no => rw [r1] at h0; exact h0.elim
  | er c => rw [r1] at h0; exact h0
  | ok z =>
    obtain ⟨d, s1⟩ := z
    rw [r1] at h0
    intro v G1 H1 x1 w1 y1
    refine qb G1 H1 σ ρ s1 _ (S.xt x1 w1) ?_
    simp only at h0
    cases r2 : h ρ s1 with
    | no => rw [r2] at h0; exact h0.elim
    | er c => rw [r2] at h0; exact fun G' H' x' => h0 G' H' (x1.trans x')
    | ok z =>
      obtain ⟨ds, s2⟩ := z
      rw [r2] at h0
      exact fun vs G' H' x' w' y' => h0 (v :: vs) G' H' (x1.trans x') w' (.cons (y1.xt x') y')
/-! ### calls of built-ins, by what they do over data -/
def fApp {S : Type} (F : List Da → Option Da) (h : Ev → Fx S (List Da)) : Ev → Fx S Da := fun ρ => bnd (h ρ) fun x => lift (F x)
def CalD (K : PySem.W.Frag) (r : List V → Hp → VK → Prop) (F : List Da → Option Da) : Prop := ∀ (mu : List Addr) (G H : Hp) (vs : List V) (ds : List Da) (z : Da) (Q : VK), Same G H → ReOL K mu G H vs ds → F ds = some z →
  (∀ v G' H', Xp G H G' H' → Re K G' v z → Q v H') → r vs H Q
theorem app_post {r : List V → Hp → VK → Prop} {F : List Da → Option Da} {ta : TA} {h : Ev → Fx W.S (List Da)} (hr : CalD X.K r F)
    (qa : ∀ G H σ ρ s (Q : List V → Hp → Prop), Stt X.K W G H σ ρ s → OAPost X.K W E G H (h ρ s) Q → ta σ H Q) {G H : Hp} {σ : L2.St} {ρ : Ev} {s : W.S} {Q : VK} (S : Stt X.K W G H σ ρ s)
    (h0 : EPost X.K W E G H (fApp F h ρ s) Q) : tCB r ta σ H Q := by
  unfold fApp bnd at h0
  refine qa G H σ ρ s _ S ?_
  cases r1 : h ρ s with
  | no => rw [r1] at h0; exact h0.elim
  | er c => rw [r1] at h0; exact h0
  | ok z =>
    obtain ⟨ds, s1⟩ := z
    rw [r1] at h0
    intro vs G1 H1 x1 w1 y1
    simp only at h0
    have S1 := S.xt x1 w1
    cases r3 : F ds with
    | none => rw [r3] at h0; exact h0.elim
    | some z =>
      rw [r3] at h0
      exact hr W.mu G1 H1 vs ds z Q S1.in_ y1 r3 fun v G' H' xp rz => h0 v G' H' (x1.trans xp.xt) (S1.keep xp) rz
theorem de_callB {id : String} {x : Str} {p : Pos} {es : List Expr} {r : List V → Hp → VK → Prop} {F : List Da → Option Da} {h : Ev → Fx W.S (List Da)} (hc : CallR X (.builtin id) r) (hr : CalD X.K r F) (hg : Gl X x) (hm : X.mg x = none) (hv : bootBuiltins x = some (.builtin id)) (ha : DOA X W E (e :: es) h)
    (hn : x ≠ "__name__" := by decide) (hdb : (x == ("__debug__" : Str)) = false := by decide)
    (he : starEach (e :: es) X.env = (false, eval e X.env) :: starEach es X.env := by rfl) (hpl : (backTo pos (starEach es X.env)).any (·.1) = false := by rfl) : DE X W E (.Call (.Name x p) (e :: es) [] pos) (fApp F h) := by
  obtain ⟨ta, pa, qa⟩ := ha.ex
  exact ⟨_, pe_callB hc hg hm hv pa hn hdb he hpl, fun G H σ ρ s Q S h0 => app_post hr qa S h0⟩
theorem de_callTy {T : String} {x : Str} {p : Pos} {es : List Expr} {r : List V → Hp → VK → Prop} {F : List Da → Option Da} {h : Ev → Fx W.S (List Da)} (hc : CallR X (.type T) r) (hr : CalD X.K r F) (hg : Gl X x) (hm : X.mg x = none) (hv : bootBuiltins x = some (.type T)) (ha : DOA X W E (e :: es) h)
    (hn : x ≠ "__name__" := by decide) (hdb : (x == ("__debug__" : Str)) = false := by decide)
    (he : starEach (e :: es) X.env = (false, eval e X.env) :: starEach es X.env := by rfl) (hpl : (backTo pos (starEach es X.env)).any (·.1) = false := by rfl) : DE X W E (.Call (.Name x p) (e :: es) [] pos) (fApp F h) := by
  obtain ⟨ta, pa, qa⟩ := ha.ex
  exact ⟨_, pe_callTy hc hg hm hv pa hn hdb he hpl, fun G H σ ρ s Q S h0 => app_post hr qa S h0⟩
end
/-! ### displays; a new list -/
section
variable {X : Cx} {W : Wd} {E : WX} {e a b : Expr} {es : List Expr} {f g : Ev → Fx W.S Da} {t u : Ev → Fx W.S Bool} {h : Ev → Fx W.S (List Da)} {rest : List Expr} {pos : Pos}
theorem de_tup {k : Nat} (ha : DA X W E es h) (hl : es.length ≤ 1000) (hh : ∀ ρ s ds s', h ρ s = .ok (ds, s') → ds.length = es.length) : DE X W E (.Tuple es k pos) (fun ρ => bnd (h ρ) fun ds => ret (.tup ds)) := by
  obtain ⟨ta, pa, qa⟩ := ha.ex
  refine ⟨_, pe_tup pa, fun G H σ ρ s Q S h0 => qa G H σ ρ s _ S ?_⟩
  unfold bnd at h0
  cases r1 : h ρ s with
  | no => rw [r1] at h0; exact h0.elim
  | er c => rw [r1] at h0; exact h0
  | ok z =>
    obtain ⟨ds, s1⟩ := z
    rw [r1] at h0
    intro vs G1 H1 x1 w1 y1
    have hz : vs.length ≤ 1000 := by rw [y1.length, hh _ _ _ _ r1]; exact hl
    refine ⟨Nat.le_of_lt (small1000 hz), fun p hp => ?_⟩
    have xp : Xp G1 H1 _ _ := Xp.new_ (o := .tup vs) x1.in_ hp
    exact h0 (.ref p) _ _ (x1.trans xp.xt) ((S.xt x1 w1).keep xp) (.tup (SqT.of upd_same) (y1.mono xp.sub))
/-- what is wanted behind a new list -/
def NPost (K : PySem.W.Frag) (W : Wd) (E : WX) (G H : Hp) (r : Rp (List Da × W.S)) (Q : VK) : Prop := match r with
  | .ok (ds, s') => ∀ p vs G' H', Xt W.mu G H G' H' → W.rel s' G' H' → H' p = some (.lst vs) → G' p = none → H p = none → ReL K G' vs ds → Q (.ref p) H'
  | .er c => ∀ G' H', Xt W.mu G H G' H' → E c H'
  | .no => False
structure DN (X : Cx) (W : Wd) (E : WX) (e : Expr) (f : Ev → Fx W.S (List Da)) : Prop where
  ex : ∃ te, PE X e te ∧ ∀ G H σ ρ s (Q : VK), Stt X.K W G H σ ρ s → NPost X.K W E G H (f ρ s) Q → te σ H Q
def fLst {S : Type} (h : Ev → Fx S (List Da)) : Ev → Fx S Da := fun ρ => bnd (h ρ) fun ds => ret (.lst ds)
/-- made stable -/
theorem Xt.fix {mu : List Addr} {G H G' H' : Hp} (x : Xt mu G H G' H') {p : Addr} {o : HO} (hp : H' p = some o) (hg : G' p = none) (hn : H p = none) : Xt mu G H (upd G' p o) H' :=
  ⟨x.ext, x.dom, x.sub.trans fun b u e => by rw [upd_ne (ne_of_none e hg)]; exact e, fun b u e => by
    by_cases hb : b = p
    · rw [hb, upd_same] at e; rw [hb, hp]; exact e
    · rw [upd_ne hb] at e; exact x.in_ b u e, fun b e n => by
    have hb : b ≠ p := fun q => n (by rw [q]; exact hn)
    rw [upd_ne hb]; exact x.new b e n⟩
theorem DN.de (hd : DN X W E e h) : DE X W E e (fLst h) := by
  obtain ⟨te, pe, qe⟩ := hd.ex
  refine ⟨te, pe, fun G H σ ρ s Q S h0 => qe G H σ ρ s Q S ?_⟩
  unfold fLst bnd at h0
  unfold NPost
  cases r1 : h ρ s with
  | no => rw [r1] at h0; exact h0.elim
  | er c => rw [r1] at h0; exact h0
  | ok z =>
    obtain ⟨ds, s1⟩ := z
    rw [r1] at h0
    intro p vs G' H' x w hp hg hn r
    have sb : Same G' (upd G' p (.lst vs)) := fun b u e => by rw [upd_ne (ne_of_none e hg)]; exact e
    exact h0 (.ref p) _ _ (x.fix hp hg hn) (W.mono w sb (fun _ _ => rfl) fun _ _ e _ => e) (.lst (SqX.of upd_same) (r.mono sb))
theorem dn_lst (ha : DA X W E es h) (hl : es.length ≤ 1000) (hh : ∀ ρ s ds s', h ρ s = .ok (ds, s') → ds.length = es.length) : DN X W E (.List es pos) h := by
  obtain ⟨ta, pa, qa⟩ := ha.ex
  refine ⟨_, pe_lst pa, fun G H σ ρ s Q S h0 => qa G H σ ρ s _ S ?_⟩
  unfold NPost at h0
  unfold APost
  cases r1 : h ρ s with
  | no => rw [r1] at h0; exact h0.elim
  | er c => rw [r1] at h0; exact h0
  | ok z =>
    obtain ⟨ds, s1⟩ := z
    rw [r1] at h0
    intro vs G1 H1 x1 w1 y1
    have hz : vs.length ≤ 1000 := by rw [y1.length, hh _ _ _ _ r1]; exact hl
    refine ⟨Nat.le_of_lt (small1000 hz), fun p hp => ?_⟩
    have xp : Xp G1 H1 G1 _ := Xp.new0 (o := .lst vs) x1.in_ hp
    refine h0 p vs G1 _ (x1.trans xp.xt) ((S.xt x1 w1).keep xp) upd_same (x1.in_.free hp) ?_ y1
    cases q : H p with
    | none => rfl
    | some o => exact absurd hp (x1.dom p (by rw [q]; simp))
theorem fCons_len {ρ : Ev} {s s' : W.S} {ds : List Da} {n : Nat} (hh : ∀ ρ s ds s', h ρ s = .ok (ds, s') → ds.length = n) (e : fCons f h ρ s = .ok (ds, s')) : ds.length = n + 1 := by
  unfold fCons bnd at e
  cases r1 : f ρ s with
  | no => rw [r1] at e; cases e
  | er c => rw [r1] at e; cases e
  | ok z =>
    obtain ⟨d, s1⟩ := z
    rw [r1] at e
    simp only at e
    cases r2 : h ρ s1 with
    | no => rw [r2] at e; cases e
    | er c => rw [r2] at e; cases e
    | ok z =>
      obtain ⟨ds', s2⟩ := z
      rw [r2] at e
      injection e with e
      injection e with e1 e2
      subst e1
      exact congrArg (· + 1) (hh _ _ _ _ r2)
theorem fNil_len {ρ : Ev} {s s' : W.S} {ds : List Da} (e : fNil (S := W.S) ρ s = .ok (ds, s')) : ds.length = 0 := by
  injection e with e
  injection e with e1 e2
  subst e1
  rfl
/-! ### a[b] -/
theorem de_ix {r : R2} {F : Da → Da → Option Da} (ho : IxR X r) (hr : OpD X.K r F) (ha : DO X W E a f) (hb : DO X W E b g) (hs : PlainIx b) : DE X W E (.Subscript a b pos) (fBin F f g) := by
  obtain ⟨ta, pa, qa⟩ := ha.ex
  obtain ⟨tb, pb, qb⟩ := hb.ex
  exact ⟨_, pe_ix ho pa pb hs, fun G H σ ρ s Q S h => bin_post hr qa qb S h⟩
/-! ### calls of the package's defs -/
/-- what is told of what is raised: the class by its name, no dict -/
abbrev wk (K : PySem.W.Frag) (Ek : XK) : WX := fun c H => Ek (.ref (He.ga K c)) none H
def spP (K : PySem.W.Frag) (F : List Da → Rp Da) : Sp := fun vs H Q E => ∃ G ds, Same G H ∧ ReL K G vs ds ∧ match F ds with
  | .ok d => ∀ v G' H', Xp G H G' H' → Re K G' v d → Q v H'
  | .er c => ∀ G' H', Xp G H G' H' → E (.ref (He.ga K c)) none H'
  | .no => False
/-- the def that the name x means keeps F, by at most k calls within one another -/
structure FnP (P : Program) (w : World) (K : PySem.W.Frag) (mg : Str → Option Value) (base : Heap) (k : Nat) (x : Str) (ps : List Str) (F : List Da → Rp Da) : Prop where
  ex : ∃ f fd, FnOk P w K mg base (L2.CX P w) k f fd ps (spP K F) ∧ mg x = some (.ref f) ∧ PySem.W.keepIn K (.ref f) = true ∧ Binds K fd ps []
def fCall {S : Type} (F : List Da → Rp Da) (h : Ev → Fx S (List Da)) : Ev → Fx S Da := fun ρ => bnd (h ρ) fun ds => liftR (F ds)
theorem call_post {F : List Da → Rp Da} {ta : TA} {Ek : XK} (qa : ∀ G H σ ρ s (Q : List V → Hp → Prop), Stt X.K W G H σ ρ s → APost X.K W (wk X.K Ek) G H (h ρ s) Q → ta σ H Q) {G H : Hp} {σ : L2.St} {ρ : Ev} {s : W.S} {Q : VK} (S : Stt X.K W G H σ ρ s)
    (h0 : EPost X.K W (wk X.K Ek) G H (fCall F h ρ s) Q) : ta σ H fun vs H1 => spP X.K F vs H1 Q Ek := by
  refine qa G H σ ρ s _ S ?_
  unfold fCall bnd at h0
  cases r1 : h ρ s with
  | no => rw [r1] at h0; exact h0.elim
  | er c => rw [r1] at h0; exact h0
  | ok z =>
    obtain ⟨ds, s1⟩ := z
    rw [r1] at h0
    intro vs G1 H1 x1 w1 y1
    have S1 := S.xt x1 w1
    refine ⟨G1, ds, x1.in_, y1, ?_⟩
    simp only at h0
    cases r2 : F ds with
    | no => rw [r2] at h0; exact h0.elim
    | er c => rw [r2] at h0; exact fun G' H' xp => h0 G' H' (x1.trans xp.xt)
    | ok d => rw [r2] at h0; exact fun v G' H' xp y => h0 v G' H' (x1.trans xp.xt) (S1.keep xp) y
theorem de_call {k j : Nat} {x : Str} {ps : List Str} {F : List Da → Rp Da} {Ek : XK} {p : Pos} (Fn : FnP X.prog X.w X.K X.mg X.base k x ps F) (hr : Room j X.A) (hk : k ≤ j) (hx : Passes (L2.CX X.prog X.w) X Ek) (hg : Gl X x) (ha : DA X W (wk X.K Ek) (e :: es) h)
    (hdb : (x == ("__debug__" : Str)) = false := by decide) (he : starEach (e :: es) X.env = (false, eval e X.env) :: starEach es X.env := by rfl) (hpl : (backTo pos (starEach es X.env)).any (·.1) = false := by rfl) :
    DE X W (wk X.K Ek) (.Call (.Name x p) (e :: es) [] pos) (fCall F h) := by
  obtain ⟨fa, fd, G, hm, kp, b⟩ := Fn.ex
  obtain ⟨ta, pa, qa⟩ := ha.ex
  refine ⟨_, pe_call G (hr.mono hk) hg hm kp b .nil hx pa hdb he hpl, fun G H σ ρ s Q S h0 => ?_⟩
  have q := call_post qa S h0
  unfold tCall
  simpa using q
theorem de_call0 {k j : Nat} {x : Str} {ps : List Str} {F : List Da → Rp Da} {Ek : XK} {p : Pos} (Fn : FnP X.prog X.w X.K X.mg X.base k x ps F) (hr : Room j X.A) (hk : k ≤ j) (hx : Passes (L2.CX X.prog X.w) X Ek) (hg : Gl X x)
    (hdb : (x == ("__debug__" : Str)) = false := by decide) : DE X W (wk X.K Ek) (.Call (.Name x p) [] [] pos) (fCall F (fNil (S := W.S))) := by
  obtain ⟨fa, fd, G, hm, kp, b⟩ := Fn.ex
  obtain ⟨ta, pa, qa⟩ := (da_nil (X := X) (W := W) (E := wk X.K Ek)).ex
  refine ⟨_, pe_call0 G (hr.mono hk) hg hm kp b .nil hx hdb, fun G H σ ρ s Q S h0 => ?_⟩
  have q := call_post (W := W) (h := fNil (S := W.S)) (F := F) (Ek := Ek) (ta := tNil) (fun G H σ ρ s Q S hz => (show ∀ vs G' H', Xt W.mu G H G' H' → W.rel s G' H' → ReL X.K G' vs [] → Q vs H' from hz) [] G H (.refl S.in_) S.rel .nil) S h0
  unfold tCall
  simpa using q
end
end Sw

set_option Elab.async false
set_option linter.all false
set_option maxRecDepth 100000
set_option maxHeartbeats 2000000
/-! SwE: what is walked, targets, comprehensions, statements over data. -/
namespace Sw
open PySem PySem.Spec PyProof.Rows L2

/-! ### one reading for all contexts -/
theorem pe_imp {X : Cx} {e : Expr} {t t' : TE} (h : PE X e t) (i : ∀ σ H Q, t' σ H Q → t σ H Q) : PE X e t' := ⟨fun pins s σ H Q I hw => h.run pins s σ H Q I (i σ H Q hw)⟩
theorem pt_imp {X : Cx} {e : Expr} {t t' : TT} (h : PT X e t) (i : ∀ σ H Q, t' σ H Q → t σ H Q) : PT X e t' := ⟨fun pins s σ H Q I hw => h.run pins s σ H Q I (i σ H Q hw)⟩
def tE (K : PySem.W.Frag) (W : Wd) (E : WX) (f : Ev → Fx W.S Da) : TE := fun σ H Q => ∃ G ρ s, Stt K W G H σ ρ s ∧ EPost K W E G H (f ρ s) Q
def tT (K : PySem.W.Frag) (W : Wd) (E : WX) (f : Ev → Fx W.S Bool) : TT := fun σ H Q => ∃ G ρ s, Stt K W G H σ ρ s ∧ TPost K W E G H (f ρ s) Q
section
variable {X : Cx} {W : Wd} {E : WX} {e : Expr} {f : Ev → Fx W.S Da} {t : Ev → Fx W.S Bool}
theorem DE.pe (h : DE X W E e f) : PE X e (tE X.K W E f) := by
  obtain ⟨te, p, q⟩ := h.ex
  exact pe_imp p fun σ H Q ⟨G, ρ, s, S, z⟩ => q G H σ ρ s Q S z
theorem DT.pt (h : DT X W E e t) : PT X e (tT X.K W E t) := by
  obtain ⟨te, p, q⟩ := h.ex
  exact pt_imp p fun σ H Q ⟨G, ρ, s, S, z⟩ => q G H σ ρ s Q S z
end

/-! ### targets -/
/-- behind an assignment: slots other than those at js are as they were -/
def OnlyAt (js : List Nat) (σ σ' : L2.St) : Prop := ∀ vs, (∀ j ∈ js, j ∈ vs) → wipe σ' vs = wipe σ vs
theorem wipe_set {σ : L2.St} {i : Nat} {x : Option V} : ∀ {vs : List Nat}, i ∈ vs → wipe (σ.set i x) vs = wipe σ vs
  | [], h => absurd h (by simp)
  | v :: vs, h => by
    by_cases hv : i ∈ vs
    · show (wipe (σ.set i x) vs).set v none = (wipe σ vs).set v none
      rw [wipe_set hv]
    · have e : i = v := by
        rcases List.mem_cons.mp h with h | h
        · exact h
        · exact absurd h hv
      subst e
      have key : ∀ {ws : List Nat}, i ∉ ws → wipe (σ.set i x) ws = (wipe σ ws).set i x := by
        intro ws
        induction ws with
        | nil => intro _; rfl
        | cons w ws ih =>
          intro hw
          simp only [List.mem_cons, not_or] at hw
          show (wipe (σ.set i x) ws).set w none = ((wipe σ ws).set w none).set i x
          rw [ih hw.2, List.set_comm _ _ hw.1]
      show (wipe (σ.set i x) vs).set i none = (wipe σ vs).set i none
      rw [key hv, List.set_set]
theorem wipe_mem {σ : L2.St} : ∀ {vs : List Nat} {i : Nat}, i ∈ vs → (L2.wipe σ vs).set i none = L2.wipe σ vs
  | [], _, h => absurd h (by simp)
  | v :: vs, i, h => by
    show ((L2.wipe σ vs).set v none).set i none = (L2.wipe σ vs).set v none
    by_cases e : v = i
    · rw [e, List.set_set]
    · rcases List.mem_cons.mp h with h | h
      · exact absurd h.symm e
      · rw [List.set_comm _ _ e, wipe_mem h]
theorem wipe_sub {σ : L2.St} {vs : List Nat} : ∀ ws : List Nat, (∀ j ∈ ws, j ∈ vs) → L2.wipe (L2.wipe σ vs) ws = L2.wipe σ vs
  | [], _ => rfl
  | w :: ws, h => by
    show (L2.wipe (L2.wipe σ vs) ws).set w none = L2.wipe σ vs
    rw [wipe_sub ws fun j hj => h j (List.mem_cons_of_mem _ hj), wipe_mem (h w List.mem_cons_self)]
theorem wipe_idem (σ : L2.St) (vs : List Nat) : L2.wipe (L2.wipe σ vs) vs = L2.wipe σ vs := wipe_sub vs fun _ h => h
theorem OnlyAt.refl (js : List Nat) (σ : L2.St) : OnlyAt js σ σ := fun _ _ => rfl
theorem OnlyAt.trans {a b c : L2.St} {js ks : List Nat} (h : OnlyAt js a b) (k : OnlyAt ks b c) : OnlyAt (js ++ ks) a c := fun vs hv =>
  (k vs fun j hj => hv j (List.mem_append_right _ hj)).trans (h vs fun j hj => hv j (List.mem_append_left _ hj))
/-- .. and own lists are those that were -/
structure After (js : List Nat) (σ σ' : L2.St) (ρ ρ' : Ev) : Prop where
  only : OnlyAt js σ σ'
  keep : ∀ (i : Nat) (ds : List Da), ρ'[i]? = some (.own ds) → ρ[i]? = some (.own ds) ∧ σ'[i]? = σ[i]?
theorem After.refl (js : List Nat) (σ : L2.St) (ρ : Ev) : After js σ σ ρ ρ := ⟨.refl _ _, fun _ _ h => ⟨h, rfl⟩⟩
theorem After.trans {a b c : L2.St} {x y z : Ev} {js ks : List Nat} (h : After js a b x y) (k : After ks b c y z) : After (js ++ ks) a c x z :=
  ⟨h.only.trans k.only, fun i ds e => by
    obtain ⟨e1, e2⟩ := k.keep i ds e
    obtain ⟨e3, e4⟩ := h.keep i ds e1
    exact ⟨e3, e2.trans e4⟩⟩
theorem After.dat (i : Nat) (σ : L2.St) (ρ : Ev) (v : Option V) (d : Da) : After [i] σ (σ.set i v) ρ (ρ.set i (.dat d)) :=
  ⟨fun vs hv => wipe_set (hv i (by simp)), fun j ds e => by
    by_cases hj : i = j
    · subst hj
      by_cases hl : i < ρ.length
      · rw [List.getElem?_set_self hl] at e; cases e
      · rw [List.getElem?_eq_none (by simpa using hl)] at e; cases e
    · rw [List.getElem?_set_ne hj] at e
      exact ⟨e, List.getElem?_set_ne hj⟩⟩
def tG (K : PySem.W.Frag) (W : Wd) (js : List Nat) (h : Ev → Da → Option Ev) : TG := fun v σ H Q => ∃ G ρ s d ρ', Stt K W G H σ ρ s ∧ Re K G v d ∧ h ρ d = some ρ' ∧ ∀ σ', Stt K W G H σ' ρ' s → After js σ σ' ρ ρ' → Q σ' H
def tGs (K : PySem.W.Frag) (W : Wd) (js : List Nat) (h : Ev → List Da → Option Ev) : TGs := fun v σ H Q => ∃ G ρ s d ρ', Stt K W G H σ ρ s ∧ ReL K G v d ∧ h ρ d = some ρ' ∧ ∀ σ', Stt K W G H σ' ρ' s → After js σ σ' ρ ρ' → Q σ' H
theorem pg_imp {X : Cx} {e : Expr} {t t' : TG} (h : PG X e t) (i : ∀ v σ H Q, t' v σ H Q → t v σ H Q) : PG X e t' := ⟨fun pins s σ H v u Q I r hw => h.run pins s σ H v u Q I r (i v σ H Q hw)⟩
theorem pgs_imp {X : Cx} {e : List Expr} {t t' : TGs} (h : PGs X e t) (i : ∀ v σ H Q, t' v σ H Q → t v σ H Q) : PGs X e t' := ⟨fun pins s σ H v u Q I r hw => h.run pins s σ H v u Q I r (i v σ H Q hw)⟩
/-- a name gets data -/
theorem Stt.set {K : PySem.W.Frag} {W : Wd} {G H : Hp} {σ : L2.St} {ρ : Ev} {s : W.S} (S : Stt K W G H σ ρ s) (i : Nat) {v : Option V} {sl : Sl} (h : SlOk K W.mu G H v sl)
    (hn : ∀ p ds, sl = .own ds → v = some (.ref p) → ∀ j es, ρ[j]? = some (.own es) → σ[j]? = some (some (.ref p)) → j = i) : Stt K W G H (σ.set i v) (ρ.set i sl) s := by
  refine ⟨S.in_, S.mu, by rw [List.length_set, List.length_set]; exact S.len, fun j sl' e => ?_, fun a b p ds es e1 e2 e3 e4 => ?_, S.rel⟩
  · by_cases hj : i = j
    · subst hj
      by_cases hl : i < ρ.length
      · rw [List.getElem?_set_self hl] at e
        cases e
        exact ⟨v, by rw [List.getElem?_set_self (by rw [S.len]; exact hl)], h⟩
      · rw [List.getElem?_eq_none (by simpa using hl)] at e
        cases e
    · rw [List.getElem?_set_ne hj] at e
      obtain ⟨w, e1, e2⟩ := S.sl j sl' e
      exact ⟨w, by rw [List.getElem?_set_ne hj]; exact e1, e2⟩
  · have self : ∀ {x : Nat} {zs : List Da}, i = x → (ρ.set i sl)[x]? = some (.own zs) → sl = .own zs ∧ i < ρ.length := fun {x zs} hx e => by
      subst hx
      by_cases hl : i < ρ.length
      · rw [List.getElem?_set_self hl] at e
        cases e
        exact ⟨rfl, hl⟩
      · rw [List.getElem?_eq_none (by simpa using hl)] at e
        cases e
    have val : ∀ {x : Nat} {z : Option V}, i = x → i < ρ.length → (σ.set i v)[x]? = some z → v = z := fun {x z} hx hl e => by
      subst hx
      rw [List.getElem?_set_self (by rw [S.len]; exact hl)] at e
      exact Option.some.inj e
    by_cases ha : i = a
    · by_cases hb : i = b
      · rw [← ha, ← hb]
      · obtain ⟨q1, q2⟩ := self ha e1
        have q3 := val ha q2 e3
        rw [List.getElem?_set_ne hb] at e2 e4
        exact absurd (hn p ds q1 q3 b es e2 e4).symm hb
    · by_cases hb : i = b
      · obtain ⟨q1, q2⟩ := self hb e2
        have q3 := val hb q2 e4
        rw [List.getElem?_set_ne ha] at e1 e3
        exact absurd (hn p es q1 q3 a ds e1 e3).symm ha
      · rw [List.getElem?_set_ne ha] at e1 e3
        rw [List.getElem?_set_ne hb] at e2 e4
        exact S.apart a b p ds es e1 e2 e3 e4
theorem Stt.setD {K : PySem.W.Frag} {W : Wd} {G H : Hp} {σ : L2.St} {ρ : Ev} {s : W.S} (S : Stt K W G H σ ρ s) (i : Nat) {v : V} {d : Da} (h : Re K G v d) : Stt K W G H (σ.set i (some v)) (ρ.set i (.dat d)) s :=
  S.set i ⟨v, rfl, h⟩ fun _ _ e => nomatch e
theorem Stt.setN {K : PySem.W.Frag} {W : Wd} {G H : Hp} {σ : L2.St} {ρ : Ev} {s : W.S} (S : Stt K W G H σ ρ s) (i : Nat) (v : Option V) : Stt K W G H (σ.set i v) (ρ.set i .no) s :=
  S.set i trivial fun _ _ e => nomatch e
def wipeE (ρ : Ev) : List Nat → Ev
  | [] => ρ
  | v :: vs => (wipeE ρ vs).set v .no
theorem Stt.wipe {K : PySem.W.Frag} {W : Wd} {G H : Hp} {σ : L2.St} {ρ : Ev} {s : W.S} (S : Stt K W G H σ ρ s) : ∀ vs : List Nat, Stt K W G H (L2.wipe σ vs) (wipeE ρ vs) s
  | [] => S
  | v :: vs => (Stt.wipe S vs).setN v none
section
variable {X : Cx} {W : Wd}
def hName (i : Nat) : Ev → Da → Option Ev := fun ρ d => some (ρ.set i (.dat d))
def hNil : Ev → List Da → Option Ev := fun ρ ds => match ds with
  | [] => some ρ
  | _ => none
def hCons (h : Ev → Da → Option Ev) (k : Ev → List Da → Option Ev) : Ev → List Da → Option Ev := fun ρ ds => match ds with
  | d :: r => (match h ρ d with
    | some ρ' => k ρ' r
    | none => none)
  | [] => none
def hTup (k : Ev → List Da → Option Ev) : Ev → Da → Option Ev := fun ρ d => match d with
  | .tup ds => k ρ ds
  | _ => none
theorem dg_name {e : Expr} (i : Nat) (h : PG X e (gName i)) : PG X e (tG X.K W [i] (hName i)) := pg_imp h fun v σ H Q ⟨G, ρ, s, d, ρ', S, r, e, q⟩ => by
  cases e
  exact q _ (S.setD i r) (.dat ..)
theorem dgs_nil : PGs X [] (tGs X.K W [] hNil) := pgs_imp pgs_nil fun v σ H Q ⟨G, ρ, s, d, ρ', S, r, e, q⟩ => by
  cases r with
  | nil =>
    cases e
    exact ⟨rfl, q σ S (.refl ..)⟩
  | cons _ _ => cases e
theorem dgs_cons {e : Expr} {es : List Expr} {js ks : List Nat} {h : Ev → Da → Option Ev} {k : Ev → List Da → Option Ev} (h1 : PG X e (tG X.K W js h)) (h2 : PGs X es (tGs X.K W ks k))
    (hs : (assignEach (e :: es) X.env).map (·.2) = assign e X.env :: (assignEach es X.env).map (·.2) := by rfl) : PGs X (e :: es) (tGs X.K W (js ++ ks) (hCons h k)) := pgs_imp (pgs_cons h1 h2 hs) fun v σ H Q ⟨G, ρ, s, d, ρ', S, r, e, q⟩ => by
  cases r with
  | nil => cases e
  | @cons v0 vs d0 ds r1 r2 =>
    refine ⟨v0, vs, rfl, G, ρ, s, d0, ?_⟩
    unfold hCons at e
    simp only at e
    cases q1 : h ρ d0 with
    | none => rw [q1] at e; cases e
    | some ρ1 =>
      rw [q1] at e
      exact ⟨ρ1, S, r1, rfl, fun σ1 S1 o1 => ⟨G, ρ1, s, ds, ρ', S1, r2, e, fun σ2 S2 o2 => q σ2 S2 (o1.trans o2)⟩⟩
theorem dg_tup {es : List Expr} {k : Nat} {js : List Nat} {pos : Pos} {h : Ev → List Da → Option Ev} {n : Nat} (hc : X.calm = true) (hh : PGs X es (tGs X.K W js h)) (hlen : ∀ ρ ds ρ', h ρ ds = some ρ' → ds.length = n)
    (hn : (assignEach es X.env).length = n := by rfl) (hst : (assignEach es X.env).findIdx? (·.1) = none := by rfl) : PG X (.Tuple es k pos) (tG X.K W js (hTup h)) := pg_imp (pg_tup hc hh hn hst) fun v σ H Q ⟨G, ρ, s, d, ρ', S, r, e, q⟩ => by
  cases r with
  | tup hq rl =>
    refine ⟨_, _, rfl, same_t S.in_ hq, ?_, G, ρ, s, _, ρ', S, rl, e, q⟩
    rw [rl.length]
    exact hlen _ _ _ e
  | _ => cases e
theorem hNil_len {ρ ρ' : Ev} {ds : List Da} (e : hNil ρ ds = some ρ') : ds.length = 0 := by
  cases ds with
  | nil => rfl
  | cons _ _ => cases e
theorem hCons_len {h : Ev → Da → Option Ev} {k : Ev → List Da → Option Ev} {n : Nat} (hk : ∀ ρ ds ρ', k ρ ds = some ρ' → ds.length = n) {ρ ρ' : Ev} {ds : List Da} (e : hCons h k ρ ds = some ρ') : ds.length = n + 1 := by
  cases ds with
  | nil => cases e
  | cons d r =>
    unfold hCons at e
    simp only at e
    cases q : h ρ d with
    | none => rw [q] at e; cases e
    | some ρ1 => rw [q] at e; exact congrArg (· + 1) (hk _ _ _ e)
end

/-! ### what is walked -/
structure ItOk (K : PySem.W.Frag) (J : It) (ds : List Da) (G : Hp) : Prop where
  goes : ∀ i G2 H2, i < ds.length → Same G G2 → Same G2 H2 → J.go i H2
  stops : ∀ G2 H2, Same G G2 → Same G2 H2 → J.stop ds.length H2
  yields : ∀ i G2 H2 x H3, i < ds.length → Same G G2 → Same G2 H2 → J.yld i H2 x H3 → ∃ G3 d, Xp G2 H2 G3 H3 ∧ ds[i]? = some d ∧ Re K G3 x d
def IPost (K : PySem.W.Frag) (W : Wd) (E : WX) (G H : Hp) (r : Rp (List Da × W.S)) (R : It → Hp → Prop) : Prop := match r with
  | .ok (ds, s') => ∀ J G' H', Xt W.mu G H G' H' → W.rel s' G' H' → ItOk K J ds G' → R J H'
  | .er c => ∀ G' H', Xt W.mu G H G' H' → E c H'
  | .no => False
structure DI (X : Cx) (W : Wd) (E : WX) (tg e : Expr) (f : Ev → Fx W.S (List Da)) : Prop where
  ex : ∃ ti, PI X tg e ti ∧ ∀ G H σ ρ s (R : It → Hp → Prop), Stt X.K W G H σ ρ s → IPost X.K W E G H (f ρ s) R → ti σ H R

/-! ### comprehensions -/
def compF {S : Type} (h : Ev → Da → Option Ev) (t : Ev → Fx S Bool) (f : Ev → Fx S Da) (ρ : Ev) : List Da → Fx S (List Da)
  | [] => Sw.ret []
  | d :: ds => match h ρ d with
    | none => fun _ => .no
    | some ρ1 => bnd (t ρ1) fun b => if b = true then bnd (f ρ1) fun x => bnd (compF h t f ρ ds) fun xs => Sw.ret (x :: xs) else compF h t f ρ ds
/-- [f for h in it if t], the block's own slots vs -/
def noEr {S α : Type} (m : Fx S α) : Fx S α := fun s => match m s with
  | .ok z => .ok z
  | _ => .no
def fComp {S : Type} (it : Ev → Fx S (List Da)) (h : Ev → Da → Option Ev) (t : Ev → Fx S Bool) (f : Ev → Fx S Da) (vs : List Nat) : Ev → Fx S (List Da) := fun ρ => bnd (it ρ) fun ds => if ds.length < sizeLine then noEr (compF h t f (wipeE ρ vs) ds) else fun _ => .no
abbrev noX : WX := fun _ _ => False
section
variable {X : Cx} {W : Wd} {E : WX}
theorem comp_post {ti : TI} {it : Ev → Fx W.S (List Da)} {h : Ev → Da → Option Ev} {t : Ev → Fx W.S Bool} {f : Ev → Fx W.S Da} {js vs : List Nat} (hj : ∀ j ∈ js, j ∈ vs)
    (qi : ∀ G H σ ρ s (R : It → Hp → Prop), Stt X.K W G H σ ρ s → IPost X.K W E G H (it ρ s) R → ti σ H R) {G H : Hp} {σ : L2.St} {ρ : Ev} {s : W.S} {Q : VK} (S : Stt X.K W G H σ ρ s) (h0 : NPost X.K W E G H (fComp it h t f vs ρ s) Q) : tLc ti (tG X.K W js h) (tT X.K W noX t) (tE X.K W noX f) vs σ H Q := by
  refine qi G H σ ρ s _ S ?_
  unfold fComp bnd at h0
  unfold IPost
  cases r1 : it ρ s with
  | no => rw [r1] at h0; exact h0.elim
  | er c => rw [r1] at h0; exact h0
  | ok z =>
    obtain ⟨ds, s1⟩ := z
    rw [r1] at h0
    intro J G1 H1 x1 w1 hJ D hD
    simp only at h0
    by_cases hl : ds.length < sizeLine
    · rw [if_pos hl] at h0
      have S1 := (S.xt x1 w1).wipe vs
      have gD : G1 D = none := x1.in_.free hD
      have oD : H D = none := by
        cases q : H D with
        | none => rfl
        | some o => exact absurd hD (x1.dom D (by rw [q]; simp))
      have muD : D ∉ W.mu := fun hm => (S1.mu D hm).2 hD
      -- the state between two turns
      let Pv : Nat → Hp → Prop := fun i H' => ∃ G' s' us acc, Stt X.K W G' H' (L2.wipe σ vs) (wipeE ρ vs) s' ∧ Xt W.mu G1 H1 G' H' ∧ H' D = some (.lst us) ∧ G' D = none ∧ ReL X.K G' us acc ∧ acc.length ≤ i ∧
        NPost X.K W noX G H (match compF h t f (wipeE ρ vs) (ds.drop i) s' with
          | .ok (rs, s2) => .ok (acc ++ rs, s2)
          | .er c => .er c
          | .no => .no) Q
      refine ⟨fun i m H' => m = ds.length - i ∧ i ≤ ds.length ∧ Pv i H', ⟨ds.length, by simp, Nat.zero_le _, ?_⟩, ?_⟩
      · have xp : Xp G1 H1 G1 (upd H1 D (.lst [])) := Xp.new0 x1.in_ hD
        refine ⟨G1, s1, [], [], S1.xp xp, xp.xt, upd_same, gD, .nil, Nat.zero_le _, ?_⟩
        rw [List.drop_zero]
        unfold noEr at h0
        cases r2 : compF h t f (wipeE ρ vs) ds s1 with
        | no => rw [r2] at h0; exact h0
        | er c => rw [r2] at h0; exact h0.elim
        | ok z => obtain ⟨rs, s2⟩ := z; rw [r2] at h0; exact h0
      · rintro i m H' ⟨rfl, hi, G', s', us, acc, S', x', hus, hG', ra, la, post⟩
        by_cases hlt : i < ds.length
        · refine .inr ⟨hJ.goes i G' H' hlt x'.sub S'.in_, Pv (i + 1), fun H2 p => ⟨ds.length - (i + 1), by omega, rfl, hlt, p⟩, fun x H2 y => ?_⟩
          obtain ⟨G3, d, xp, hd, rx⟩ := hJ.yields i G' H' x H2 hlt x'.sub S'.in_ y
          have S3 := S'.xp xp
          have ed : ds.drop i = d :: ds.drop (i + 1) := by
            rw [List.drop_eq_getElem_cons hlt]
            have q := List.getElem?_eq_getElem hlt
            rw [hd] at q
            rw [Option.some.inj q]
          rw [ed] at post
          unfold compF at post
          cases r2 : h (wipeE ρ vs) d with
          | none => rw [r2] at post; exact post.elim
          | some ρ1 =>
            rw [r2] at post
            refine ⟨G3, wipeE ρ vs, s', d, ρ1, S3, rx, r2, fun σ2 S2 o2 => ⟨(o2.only vs hj).trans (wipe_idem σ vs), ?_⟩⟩
            refine ⟨G3, ρ1, s', S2, ?_⟩
            simp only [bnd] at post
            cases r3 : t ρ1 s' with
            | no => rw [r3] at post; exact post.elim
            | er c => exact fun G4 H4 _ => by rw [r3] at post; exact post G4 H4 (((x1.trans x').trans xp.xt).trans (by assumption))
            | ok z =>
              obtain ⟨b, s4⟩ := z
              rw [r3] at post
              intro G4 H4 x4 w4
              have S4 := S2.xt x4 w4
              have St4 := S3.xt x4 w4
              have hD4 : H4 D = some (.lst us) := x4.ext D _ muD (xp.same D _ hus)
              have gD4 : G4 D = none := x4.new D (xp.new D hG' (by rw [hus]; simp)) (by rw [xp.same D _ hus]; simp)
              cases b with
              | false =>
                exact iteF ⟨G4, s4, us, acc, St4, (x'.trans xp.xt).trans x4, hD4, gD4, ra.mono (xp.sub.trans x4.sub), Nat.le_succ_of_le la, post⟩
              | true =>
                refine iteT ⟨G4, ρ1, s4, S4, ?_⟩
                simp only [if_true, bnd] at post
                cases r5 : f ρ1 s4 with
                | no => rw [r5] at post; exact post.elim
                | er c => exact fun G5 H5 x5 => by rw [r5] at post; exact post G5 H5 ((((x1.trans x').trans xp.xt).trans x4).trans x5)
                | ok z =>
                  obtain ⟨w, s5⟩ := z
                  rw [r5] at post
                  intro v5 G5 H5 x5 w5 y5
                  have St5 := St4.xt x5 w5
                  have hD5 : H5 D = some (.lst us) := x5.ext D _ muD hD4
                  have gD5 : G5 D = none := x5.new D gD4 (by rw [hD4]; simp)
                  have lus : us.length = acc.length := ra.length
                  refine ⟨us, hD5, by omega, G5, s5, us ++ [v5], acc ++ [w], ?_, ?_, upd_same, gD5, (ra.mono ((xp.sub.trans x4.sub).trans x5.sub)).snoc y5, by simp; omega, ?_⟩
                  · -- the list has grown: nothing else sees it
                    refine ⟨fun a o e => ?_, fun a ha => ⟨(St5.mu a ha).1, ?_⟩, St5.len, fun j sl e => ?_, St5.apart, ?_⟩
                    · have ne : a ≠ D := fun q => by rw [q, gD5] at e; cases e
                      rw [upd_ne ne]; exact St5.in_ a o e
                    · have ne : a ≠ D := fun q => muD (q ▸ ha)
                      rw [upd_ne ne]; exact (St5.mu a ha).2
                    · obtain ⟨v, e1, e2⟩ := St5.sl j sl e
                      refine ⟨v, e1, ?_⟩
                      cases sl with
                      | no => trivial
                      | dat d => exact e2
                      | raw x => exact e2
                      | own es =>
                        obtain ⟨p, vs', q1, q2, q3, q4, q5⟩ := e2
                        refine ⟨p, vs', q1, ?_, q3, q4, q5⟩
                        have ne : p ≠ D := fun q => by
                          obtain ⟨v0, e3, e4⟩ := S1.sl j _ e
                          obtain ⟨p0, vs0, z1, z2, _⟩ := e4
                          rw [e3] at e1
                          have e5 := Option.some.inj e1
                          rw [e5, q1] at z1
                          cases z1
                          rw [q, hD] at z2
                          cases z2
                        rw [upd_ne ne]; exact q2
                    · exact W.mono St5.rel (.refl _) (fun a ha => upd_ne fun q => muD (q ▸ ha)) fun a o e nl => by rw [upd_ne (fun q => by rw [q, hD5] at e; exact nl _ (Option.some.inj e).symm)]; exact e
                  · have x5' := ((x'.trans xp.xt).trans x4).trans x5
                    refine ⟨fun a o hm e => ?_, fun a e => ?_, x5'.sub, fun a o e => ?_, x5'.new⟩
                    · have ne : a ≠ D := fun q => by rw [q, hD] at e; cases e
                      rw [upd_ne ne]; exact x5'.ext a o hm e
                    · by_cases ha : a = D
                      · rw [ha, upd_same]; simp
                      · rw [upd_ne ha]; exact x5'.dom a e
                    · have ne : a ≠ D := fun q => by rw [q, gD5] at e; cases e
                      rw [upd_ne ne]; exact x5'.in_ a o e
                  · simp only at post
                    cases r6 : compF h t f (wipeE ρ vs) (List.drop (i + 1) ds) s5 with
                    | no => rw [r6] at post; exact post
                    | er c => rw [r6] at post; exact post
                    | ok z =>
                      obtain ⟨rs, s6⟩ := z
                      rw [r6] at post
                      simpa [Sw.ret, NPost] using post
        · have e : i = ds.length := by omega
          subst e
          refine .inl ⟨hJ.stops G' H' x'.sub S'.in_, ?_⟩
          rw [List.drop_length] at post
          have post2 : NPost X.K W noX G H (.ok (acc ++ [], s')) Q := post
          rw [List.append_nil] at post2
          exact post2 D us G' H' (x1.trans x') S'.rel hus hG' oD ra
    · rw [if_neg hl] at h0
      exact h0.elim
end
end Sw

set_option Elab.async false
set_option linter.all false
set_option maxRecDepth 100000
set_option maxHeartbeats 2000000
/-! SwS: statements over data. -/
namespace Sw
open PySem PySem.Spec PyProof.Rows L2

inductive Out (S : Type) where
  | nx (ρ : Ev) (s : S) | rt (d : Da) (s : S) | bk (ρ : Ev) (s : S) | ct (ρ : Ev) (s : S) | er (c : Str) | no
abbrev Sx (S : Type) := Ev → S → Out S

/-- a state of a body: B the heap at its entry, G0 what was stable there -/
structure Sb (K : PySem.W.Frag) (W : Wd) (B G0 G H : Hp) (σ : L2.St) (ρ : Ev) (s : W.S) : Prop where
  st : Stt K W G H σ ρ s
  xt : Xt W.mu G0 B G H
  own : ∀ (i : Nat) (ds : List Da) (p : Addr), ρ[i]? = some (.own ds) → σ[i]? = some (some (.ref p)) → B p = none
def SPost (K : PySem.W.Frag) (W : Wd) (E : WX) (B G0 : Hp) (D : Ends) : Out W.S → Prop
  | .nx ρ s => ∀ σ G H, Sb K W B G0 G H σ ρ s → D.nx σ H
  | .bk ρ s => ∀ σ G H, Sb K W B G0 G H σ ρ s → D.bk σ H
  | .ct ρ s => ∀ σ G H, Sb K W B G0 G H σ ρ s → D.ct σ H
  | .rt d s => ∀ v G H, Xt W.mu G0 B G H → W.rel s G H → Re K G v d → D.rt v H
  | .er c => ∀ G H, Xt W.mu G0 B G H → E c H
  | .no => False
def tS (K : PySem.W.Frag) (W : Wd) (E : WX) (g : Sx W.S) : TS := fun D σ H => ∃ B G0 G ρ s, Sb K W B G0 G H σ ρ s ∧ SPost K W E B G0 D (g ρ s)
theorem ps_imp {X : Cx} {st : Stmt} {t t' : TS} (h : PS X st t) (i : ∀ D σ H, t' D σ H → t D σ H) : PS X st t' := ⟨fun pins s σ H D I hw => h.run pins s σ H D I (i D σ H hw)⟩
theorem pss_imp {X : Cx} {st : List Stmt} {t t' : TS} (h : PSs X st t) (i : ∀ D σ H, t' D σ H → t D σ H) : PSs X st t' := ⟨fun pins s σ H D I hw => h.run pins s σ H D I (i D σ H hw)⟩

section
variable {K : PySem.W.Frag} {W : Wd} {E : WX} {B G0 G H G' H' : Hp} {σ : L2.St} {ρ : Ev} {s s' : W.S}
theorem Sb.go (h : Sb K W B G0 G H σ ρ s) (x : Xt W.mu G H G' H') (r : W.rel s' G' H') : Sb K W B G0 G' H' σ ρ s' := ⟨h.st.xt x r, h.xt.trans x, h.own⟩
theorem Sb.setD (h : Sb K W B G0 G H σ ρ s) (i : Nat) {v : V} {d : Da} (r : Re K G v d) : Sb K W B G0 G H (σ.set i (some v)) (ρ.set i (.dat d)) s :=
  ⟨h.st.setD i r, h.xt, fun j ds p e1 e2 => by
    by_cases hj : i = j
    · subst hj
      by_cases hl : i < ρ.length
      · rw [List.getElem?_set_self hl] at e1; cases e1
      · rw [List.getElem?_eq_none (by simpa using hl)] at e1; cases e1
    · rw [List.getElem?_set_ne hj] at e1 e2
      exact h.own j ds p e1 e2⟩
theorem Sb.setN (h : Sb K W B G0 G H σ ρ s) (i : Nat) (v : Option V) : Sb K W B G0 G H (σ.set i v) (ρ.set i .no) s :=
  ⟨h.st.setN i v, h.xt, fun j ds p e1 e2 => by
    by_cases hj : i = j
    · subst hj
      by_cases hl : i < ρ.length
      · rw [List.getElem?_set_self hl] at e1; cases e1
      · rw [List.getElem?_eq_none (by simpa using hl)] at e1; cases e1
    · rw [List.getElem?_set_ne hj] at e1 e2
      exact h.own j ds p e1 e2⟩
/-- a name gets a new list -/
theorem Sb.setO (h : Sb K W B G0 G H σ ρ s) (i : Nat) {p : Addr} {vs : List V} {ds : List Da} (hp : H p = some (.lst vs)) (hg : G p = none) (hb : B p = none) (hm : p ∉ W.mu) (r : ReL K G vs ds)
    (hn : ∀ (j : Nat) (es : List Da), ρ[j]? = some (.own es) → σ[j]? = some (some (.ref p)) → j = i) : Sb K W B G0 G H (σ.set i (some (.ref p))) (ρ.set i (.own ds)) s :=
  ⟨h.st.set i ⟨p, vs, rfl, hp, hg, hm, r⟩ fun q es e1 e2 => by
    cases e2
    exact hn, h.xt, fun j es q e1 e2 => by
    by_cases hj : i = j
    · subst hj
      by_cases hl : i < ρ.length
      · rw [List.getElem?_set_self (by rw [h.st.len]; exact hl)] at e2
        cases e2
        exact hb
      · rw [List.getElem?_eq_none (by simpa using hl)] at e1; cases e1
    · rw [List.getElem?_set_ne hj] at e1 e2
      exact h.own j es q e1 e2⟩
/-- an own list changes -/
theorem Sb.chg (h : Sb K W B G0 G H σ ρ s) {i : Nat} {p : Addr} {vs vs' : List V} {ds ds' : List Da} (e1 : ρ[i]? = some (.own ds)) (e2 : σ[i]? = some (some (.ref p))) (hp : H p = some (.lst vs)) (hg : G p = none) (hm : p ∉ W.mu) (r : ReL K G vs' ds') :
    Sb K W B G0 G (upd H p (.lst vs')) σ (ρ.set i (.own ds')) s := by
  have hb := h.own i ds p e1 e2
  have hi : i < ρ.length := (List.getElem?_eq_some_iff.mp e1).1
  have neG : ∀ a o, G a = some o → a ≠ p := fun a o e q => by rw [q, hg] at e; cases e
  refine ⟨⟨fun a o e => by rw [upd_ne (neG a o e)]; exact h.st.in_ a o e, fun a ha => ⟨(h.st.mu a ha).1, by rw [upd_ne (fun q => hm (by rw [← q]; exact ha))]; exact (h.st.mu a ha).2⟩, by rw [List.length_set]; exact h.st.len, fun j sl e => ?_, fun a b q ds es q1 q2 q3 q4 => ?_, W.mono h.st.rel (.refl _) (fun a ha => upd_ne fun q => hm (q ▸ ha)) fun a o e nl => by rw [upd_ne (fun q => by rw [q, hp] at e; exact nl _ (Option.some.inj e).symm)]; exact e⟩, ?_, fun j es q q1 q2 => ?_⟩
  · by_cases hj : i = j
    · subst hj
      rw [List.getElem?_set_self hi] at e
      cases e
      exact ⟨_, e2, p, vs', rfl, upd_same, hg, hm, r⟩
    · rw [List.getElem?_set_ne hj] at e
      obtain ⟨v, z1, z2⟩ := h.st.sl j sl e
      refine ⟨v, z1, ?_⟩
      cases sl with
      | no => trivial
      | dat d => exact z2
      | raw x => exact z2
      | own es =>
        obtain ⟨q, ws, y1, y2, y3, y4, y5⟩ := z2
        have ne : q ≠ p := fun z => hj (h.st.apart i j p ds es e1 e e2 (by rw [z1, y1, z]))
        exact ⟨q, ws, y1, by rw [upd_ne ne]; exact y2, y3, y4, y5⟩
  · have back : ∀ {j : Nat} {es : List Da}, (ρ.set i (.own ds'))[j]? = some (.own es) → ∃ fs, ρ[j]? = some (.own fs) := fun {j es} z => by
      by_cases hj : i = j
      · subst hj; exact ⟨_, e1⟩
      · rw [List.getElem?_set_ne hj] at z; exact ⟨_, z⟩
    obtain ⟨fa, z1⟩ := back q1
    obtain ⟨fb, z2⟩ := back q2
    exact h.st.apart a b q fa fb z1 z2 q3 q4
  · refine ⟨fun a o hm' e => ?_, fun a e => ?_, h.xt.sub, fun a o e => by rw [upd_ne (neG a o e)]; exact h.xt.in_ a o e, h.xt.new⟩
    · rw [upd_ne fun q => by rw [q, hb] at e; cases e]
      exact h.xt.ext a o hm' e
    · by_cases ha : a = p
      · rw [ha, upd_same]; simp
      · rw [upd_ne ha]; exact h.xt.dom a e
  · by_cases hj : i = j
    · subst hj
      rw [e2] at q2
      cases q2
      exact hb
    · rw [List.getElem?_set_ne hj] at q1
      exact h.own j es q q1 q2
/-- an own list is changed no more -/
theorem Sb.frz (h : Sb K W B G0 G H σ ρ s) {i : Nat} {ds : List Da} (e1 : ρ[i]? = some (.own ds)) : ∃ G', Sb K W B G0 G' H σ (ρ.set i (.dat (.lst ds))) s ∧ Same G G' ∧ ∃ p, σ[i]? = some (some (.ref p)) ∧ Re K G' (.ref p) (.lst ds) := by
  obtain ⟨v, q1, p, vs, q2, q3, q4, q5, q6⟩ := h.st.sl i _ e1
  subst q2
  have hb := h.own i ds p e1 q1
  have hi : i < ρ.length := (List.getElem?_eq_some_iff.mp e1).1
  have sb : Same G (upd G p (.lst vs)) := fun b u e => by rw [upd_ne (ne_of_none e q4)]; exact e
  have rp : Re K (upd G p (.lst vs)) (.ref p) (.lst ds) := .lst (SqX.of upd_same) (q6.mono sb)
  refine ⟨upd G p (.lst vs), ⟨⟨fun a o e => ?_, fun a ha => ⟨by rw [upd_ne (fun z => q5 (by rw [← z]; exact ha))]; exact (h.st.mu a ha).1, (h.st.mu a ha).2⟩, by rw [List.length_set]; exact h.st.len, fun j sl e => ?_, fun a b q ds' es z1 z2 z3 z4 => ?_, W.mono h.st.rel sb (fun _ _ => rfl) fun _ _ e _ => e⟩, ⟨h.xt.ext, h.xt.dom, h.xt.sub.trans sb, fun a o e => ?_, fun a e n => ?_⟩, fun j es q z1 z2 => ?_⟩, sb, p, q1, rp⟩
  · by_cases ha : a = p
    · rw [ha, upd_same] at e; rw [ha, q3]; exact e
    · rw [upd_ne ha] at e; exact h.st.in_ a o e
  · by_cases hj : i = j
    · subst hj
      rw [List.getElem?_set_self hi] at e
      cases e
      exact ⟨_, q1, _, rfl, rp⟩
    · rw [List.getElem?_set_ne hj] at e
      obtain ⟨v, z1, z2⟩ := h.st.sl j sl e
      refine ⟨v, z1, ?_⟩
      cases sl with
      | no => trivial
      | dat d => obtain ⟨x, y1, y2⟩ := z2; exact ⟨x, y1, y2.mono sb⟩
      | raw x => exact z2
      | own es =>
        obtain ⟨q, ws, y1, y2, y3, y4, y5⟩ := z2
        have ne : q ≠ p := fun z => hj (h.st.apart i j p ds es e1 e q1 (by rw [z1, y1, z]))
        exact ⟨q, ws, y1, y2, by rw [upd_ne ne]; exact y3, y4, y5.mono sb⟩
  · have nj : ∀ {j : Nat} {es : List Da}, (ρ.set i (.dat (.lst ds)))[j]? = some (.own es) → ρ[j]? = some (.own es) := fun {j es} z => by
      by_cases hj : i = j
      · subst hj; rw [List.getElem?_set_self hi] at z; cases z
      · rw [List.getElem?_set_ne hj] at z; exact z
    exact h.st.apart a b q ds' es (nj z1) (nj z2) z3 z4
  · by_cases ha : a = p
    · rw [ha, upd_same] at e; rw [ha, q3]; exact e
    · rw [upd_ne ha] at e; exact h.xt.in_ a o e
  · have ne : a ≠ p := fun z => n (by rw [z]; exact hb)
    rw [upd_ne ne]; exact h.xt.new a e n
  · by_cases hj : i = j
    · subst hj; rw [List.getElem?_set_self hi] at z1; cases z1
    · rw [List.getElem?_set_ne hj] at z1; exact h.own j es q z1 z2
end

/-! ### blocks -/
section
variable {X : Cx} {W : Wd} {E : WX} {st : Stmt} {rest sts : List Stmt} {g k : Sx W.S} {f : Ev → Fx W.S Da} {t : Ev → Fx W.S Bool} {pos : Pos}
def gNx {S : Type} : Sx S := fun ρ s => .nx ρ s
def gSeq {S : Type} (g k : Sx S) : Sx S := fun ρ s => match g ρ s with
  | .nx ρ' s' => k ρ' s'
  | o => o
theorem dss_nil : PSs X [] (tS X.K W E gNx) := pss_imp pss_nil fun D σ H ⟨B, G0, G, ρ, s, S, q⟩ => q σ G H S
theorem dss_one (h : PS X st (tS X.K W E g)) : PSs X [st] (tS X.K W E g) := pss_one h
theorem dss_cons (h1 : PS X st (tS X.K W E g)) (h2 : PSs X rest (tS X.K W E k)) : PSs X (st :: rest) (tS X.K W E (gSeq g k)) := pss_imp (pss_cons h1 h2) fun D σ H ⟨B, G0, G, ρ, s, S, q⟩ => by
  refine ⟨B, G0, G, ρ, s, S, ?_⟩
  unfold gSeq at q
  cases r : g ρ s with
  | nx ρ' s' => rw [r] at q; exact fun σ' G' H' S' => ⟨B, G0, G', ρ', s', S', q⟩
  | rt d s' => rw [r] at q; exact q
  | bk _ _ => rw [r] at q; exact q
  | ct _ _ => rw [r] at q; exact q
  | er _ => rw [r] at q; exact q
  | no => rw [r] at q; exact q
theorem ds_pass : PS X (.Pass pos) (tS X.K W E gNx) := ps_imp ps_pass fun D σ H ⟨B, G0, G, ρ, s, S, q⟩ => q σ G H S
def gBk {S : Type} : Sx S := fun ρ s => .bk ρ s
def gCt {S : Type} : Sx S := fun ρ s => .ct ρ s
theorem ds_break : PS X (.Break pos) (tS X.K W E gBk) := ps_imp ps_break fun D σ H ⟨B, G0, G, ρ, s, S, q⟩ => q σ G H S
theorem ds_continue : PS X (.Continue pos) (tS X.K W E gCt) := ps_imp ps_continue fun D σ H ⟨B, G0, G, ρ, s, S, q⟩ => q σ G H S
/-! ### x = e; return e; an expression -/
def gSet {S : Type} (i : Nat) (f : Ev → Fx S Da) : Sx S := fun ρ s => match f ρ s with
  | .ok (d, s') => .nx (ρ.set i (.dat d)) s'
  | .er c => .er c
  | .no => .no
theorem ds_set {i : Nat} (h : PS X st (tAsg (tE X.K W E f) (gName i))) : PS X st (tS X.K W E (gSet i f)) := ps_imp h fun D σ H ⟨B, G0, G, ρ, s, S, q⟩ => by
  refine ⟨G, ρ, s, S.st, ?_⟩
  unfold gSet at q
  cases r : f ρ s with
  | no => rw [r] at q; exact q.elim
  | er c => rw [r] at q; exact fun G' H' x => q G' H' (S.xt.trans x)
  | ok z =>
    obtain ⟨d, s'⟩ := z
    rw [r] at q
    exact fun v G' H' x w y => q _ G' H' ((S.go x w).setD i y)
def gRet {S : Type} (f : Ev → Fx S Da) : Sx S := fun ρ s => match f ρ s with
  | .ok (d, s') => .rt d s'
  | .er c => .er c
  | .no => .no
theorem ds_ret (h : PS X st (tRet (tE X.K W E f))) : PS X st (tS X.K W E (gRet f)) := ps_imp h fun D σ H ⟨B, G0, G, ρ, s, S, q⟩ => by
  refine ⟨G, ρ, s, S.st, ?_⟩
  unfold gRet at q
  cases r : f ρ s with
  | no => rw [r] at q; exact q.elim
  | er c => rw [r] at q; exact fun G' H' x => q G' H' (S.xt.trans x)
  | ok z =>
    obtain ⟨d, s'⟩ := z
    rw [r] at q
    exact fun v G' H' x w y => q v G' H' (S.xt.trans x) w y
def gRetN {S : Type} : Sx S := fun ρ s => .rt .non s
theorem ds_retN (h : PS X st tRetN) : PS X st (tS X.K W E gRetN) := ps_imp h fun D σ H ⟨B, G0, G, ρ, s, S, q⟩ => q .non G H S.xt S.st.rel .non
/-- return of an own list -/
def gRetO {S : Type} (i : Nat) : Sx S := fun ρ s => match ρ[i]? with
  | some (.own ds) => .rt (.lst ds) s
  | some (.dat d) => .rt d s
  | _ => .no
theorem ds_retO {i : Nat} (h : PS X st (tRet (tVar i))) : PS X st (tS X.K W E (gRetO i)) := ps_imp h fun D σ H ⟨B, G0, G, ρ, s, S, q⟩ => by
  unfold gRetO at q
  cases r : ρ[i]? with
  | none => rw [r] at q; exact q.elim
  | some sl =>
    rw [r] at q
    cases sl with
    | no => exact q.elim
    | raw _ => exact q.elim
    | dat d =>
      obtain ⟨v, e1, x, e2, e3⟩ := S.st.sl i _ r
      subst e2
      exact ⟨x, e1, q x G H S.xt S.st.rel e3⟩
    | own ds =>
      obtain ⟨G', S', sb, p, e1, e2⟩ := S.frz r
      exact ⟨_, e1, q _ G' H S'.xt S'.st.rel e2⟩
def gDrop {S : Type} (f : Ev → Fx S Da) : Sx S := fun ρ s => match f ρ s with
  | .ok (d, s') => .nx ρ s'
  | .er c => .er c
  | .no => .no
theorem ds_expr (h : PS X st (tDrop (tE X.K W E f))) : PS X st (tS X.K W E (gDrop f)) := ps_imp h fun D σ H ⟨B, G0, G, ρ, s, S, q⟩ => by
  refine ⟨G, ρ, s, S.st, ?_⟩
  unfold gDrop at q
  cases r : f ρ s with
  | no => rw [r] at q; exact q.elim
  | er c => rw [r] at q; exact fun G' H' x => q G' H' (S.xt.trans x)
  | ok z =>
    obtain ⟨d, s'⟩ := z
    rw [r] at q
    exact fun v G' H' x w y => q _ G' H' (S.go x w)
/-- an own list is changed no more, from here -/
def gFrz {S : Type} (i : Nat) (g : Sx S) : Sx S := fun ρ s => match ρ[i]? with
  | some (.own ds) => g (ρ.set i (.dat (.lst ds))) s
  | _ => g ρ s
theorem ds_frz {i : Nat} (h : PS X st (tS X.K W E g)) : PS X st (tS X.K W E (gFrz i g)) := ps_imp h fun D σ H ⟨B, G0, G, ρ, s, S, q⟩ => by
  unfold gFrz at q
  cases r : ρ[i]? with
  | none => rw [r] at q; exact ⟨B, G0, G, ρ, s, S, q⟩
  | some sl =>
    rw [r] at q
    cases sl with
    | own ds =>
      obtain ⟨G', S', _⟩ := S.frz r
      exact ⟨B, G0, G', _, s, S', q⟩
    | no => exact ⟨B, G0, G, ρ, s, S, q⟩
    | raw _ => exact ⟨B, G0, G, ρ, s, S, q⟩
    | dat _ => exact ⟨B, G0, G, ρ, s, S, q⟩
/-! ### if -/
def gIf {S : Type} (t : Ev → Fx S Bool) (g k : Sx S) : Sx S := fun ρ s => match t ρ s with
  | .ok (b, s') => if b = true then g ρ s' else k ρ s'
  | .er c => .er c
  | .no => .no
theorem ds_if (h : PS X st (tIfS (tT X.K W E t) (tS X.K W E g) (tS X.K W E k))) : PS X st (tS X.K W E (gIf t g k)) := ps_imp h fun D σ H ⟨B, G0, G, ρ, s, S, q⟩ => by
  refine ⟨G, ρ, s, S.st, ?_⟩
  unfold gIf at q
  cases r : t ρ s with
  | no => rw [r] at q; exact q.elim
  | er c => rw [r] at q; exact fun G' H' x => q G' H' (S.xt.trans x)
  | ok z =>
    obtain ⟨b, s'⟩ := z
    rw [r] at q
    intro G' H' x w
    cases b with
    | true => exact iteT ⟨B, G0, G', ρ, s', S.go x w, q⟩
    | false => exact iteF ⟨B, G0, G', ρ, s', S.go x w, q⟩
/-! ### for -/
def forF {S : Type} (h : Ev → Da → Option Ev) (g : Sx S) : List Da → Sx S
  | [], ρ, s => .nx ρ s
  | d :: ds, ρ, s => match h ρ d with
    | none => .no
    | some ρ1 => (match g ρ1 s with
      | .nx ρ2 s2 => forF h g ds ρ2 s2
      | .ct ρ2 s2 => forF h g ds ρ2 s2
      | .bk ρ2 s2 => .nx ρ2 s2
      | o => o)
def gFor {S : Type} (it : Ev → Fx S (List Da)) (h : Ev → Da → Option Ev) (g : Sx S) : Sx S := fun ρ s => match it ρ s with
  | .ok (ds, s') => forF h g ds ρ s'
  | .er c => .er c
  | .no => .no
theorem Sb.tgt {K : PySem.W.Frag} {B G0 G H : Hp} {σ σ' : L2.St} {ρ ρ' : Ev} {s : W.S} {js : List Nat} (S : Sb K W B G0 G H σ ρ s) (S' : Stt K W G H σ' ρ' s) (a : After js σ σ' ρ ρ') : Sb K W B G0 G H σ' ρ' s :=
  ⟨S', S.xt, fun i ds p e1 e2 => by
    obtain ⟨q1, q2⟩ := a.keep i ds e1
    exact S.own i ds p q1 (by rw [← q2]; exact e2)⟩
theorem Xt.rebase {mu : List Addr} {G0 B G3 H3 G H : Hp} (a : Xt mu G0 B G3 H3) (b : Xt mu G3 B G H) : Xt mu G0 B G H :=
  ⟨b.ext, b.dom, a.sub.trans b.sub, b.in_, fun x e n => b.new x (a.new x e n) n⟩
theorem Xt.here {mu : List Addr} {G0 B G3 H3 : Hp} (a : Xt mu G0 B G3 H3) : Xt mu G3 B G3 H3 := ⟨a.ext, a.dom, .refl _, a.in_, fun _ e _ => e⟩
theorem Sb.rebase {K : PySem.W.Frag} {B G0 G3 H3 G H : Hp} {σ : L2.St} {ρ : Ev} {s : W.S} (a : Xt W.mu G0 B G3 H3) (b : Sb K W B G3 G H σ ρ s) : Sb K W B G0 G H σ ρ s := ⟨b.st, a.rebase b.xt, b.own⟩
theorem ds_for {ti : TI} {it : Ev → Fx W.S (List Da)} {h : Ev → Da → Option Ev} {js : List Nat} (qi : ∀ G H σ ρ s (R : It → Hp → Prop), Stt X.K W G H σ ρ s → IPost X.K W E G H (it ρ s) R → ti σ H R)
    (hp : PS X st (tFor ti (tG X.K W js h) (tS X.K W E g))) : PS X st (tS X.K W E (gFor it h g)) := ps_imp hp fun D σ H ⟨B, G0, G, ρ, s, S, q⟩ => by
  refine qi G H σ ρ s _ S.st ?_
  unfold gFor at q
  unfold IPost
  cases r : it ρ s with
  | no => rw [r] at q; exact q.elim
  | er c => rw [r] at q; exact fun G' H' x => q G' H' (S.xt.trans x)
  | ok z =>
    obtain ⟨ds, s1⟩ := z
    rw [r] at q
    intro J G1 H1 x1 w1 hJ
    refine ⟨fun i m σ' H' => m = ds.length - i ∧ i ≤ ds.length ∧ ∃ G' ρ' s', Sb X.K W B G0 G' H' σ' ρ' s' ∧ Same G1 G' ∧ SPost X.K W E B G0 D (forF h g (ds.drop i) ρ' s'), ⟨ds.length, by simp, Nat.zero_le _, G1, ρ, s1, S.go x1 w1, .refl _, by rw [List.drop_zero]; exact q⟩, ?_⟩
    rintro i m σ' H' ⟨rfl, hi, G', ρ', s', S', e1, post⟩
    by_cases hlt : i < ds.length
    · refine .inr ⟨hJ.goes i G' H' hlt e1 S'.st.in_, fun σ2 H2 => ds.length - (i + 1) = ds.length - (i + 1) ∧ i + 1 ≤ ds.length ∧ ∃ G2 ρ2 s2, Sb X.K W B G0 G2 H2 σ2 ρ2 s2 ∧ Same G1 G2 ∧ SPost X.K W E B G0 D (forF h g (ds.drop (i + 1)) ρ2 s2), fun σ2 H2 p => ⟨ds.length - (i + 1), by omega, p⟩, fun x H2 y => ?_⟩
      obtain ⟨G3, d, xp, hd, rx⟩ := hJ.yields i G' H' x H2 hlt e1 S'.st.in_ y
      have S3 := S'.go xp.xt (S'.st.keep xp)
      have ed : ds.drop i = d :: ds.drop (i + 1) := by
        rw [List.drop_eq_getElem_cons hlt]
        have q := List.getElem?_eq_getElem hlt
        rw [hd] at q
        rw [Option.some.inj q]
      rw [ed] at post
      unfold forF at post
      cases r2 : h ρ' d with
      | none => rw [r2] at post; exact post.elim
      | some ρ1 =>
        rw [r2] at post
        refine ⟨G3, ρ', s', d, ρ1, S3.st, rx, r2, fun σ2 S2 a2 => ⟨B, G3, G3, ρ1, s', ?_, ?_⟩⟩
        · exact (Sb.tgt (G0 := G3) ⟨S3.st, S3.xt.here, S3.own⟩ S2 a2)
        · have back : ∀ {G4 H4 : Hp} {σ4 : L2.St} {ρ4 : Ev} {s4 : W.S}, SPost X.K W E B G0 D (forF h g (ds.drop (i + 1)) ρ4 s4) → Sb X.K W B G3 G4 H4 σ4 ρ4 s4 →
              ds.length - (i + 1) = ds.length - (i + 1) ∧ i + 1 ≤ ds.length ∧ ∃ G2 ρ2 s2, Sb X.K W B G0 G2 H4 σ4 ρ2 s2 ∧ Same G1 G2 ∧ SPost X.K W E B G0 D (forF h g (ds.drop (i + 1)) ρ2 s2) := fun {G4 H4 σ4 ρ4 s4} p S4 =>
            ⟨rfl, hlt, G4, ρ4, s4, S4.rebase S3.xt, (e1.trans xp.sub).trans S4.xt.sub, p⟩
          simp only at post
          cases r3 : g ρ1 s' with
          | nx ρ4 s4 => rw [r3] at post; exact fun σ4 G4 H4 S4 => back post S4
          | ct ρ4 s4 => rw [r3] at post; exact fun σ4 G4 H4 S4 => back post S4
          | bk ρ4 s4 => rw [r3] at post; exact fun σ4 G4 H4 S4 => post σ4 G4 H4 (S4.rebase S3.xt)
          | rt d4 s4 => rw [r3] at post; exact fun v G4 H4 x4 w4 y4 => post v G4 H4 (S3.xt.rebase x4) w4 y4
          | er c => rw [r3] at post; exact fun G4 H4 x4 => post G4 H4 (S3.xt.rebase x4)
          | no => rw [r3] at post; exact post.elim
    · have e : i = ds.length := by omega
      subst e
      rw [List.drop_length] at post
      exact .inl ⟨hJ.stops G' H' e1 S'.st.in_, post σ' G' H' S'⟩
end
/-! ### while -/
section
variable {X : Cx} {W : Wd} {E : WX} {st : Stmt} {g k : Sx W.S} {f : Ev → Fx W.S Da} {t : Ev → Fx W.S Bool} {h : Ev → Fx W.S (List Da)} {pos : Pos}
def whileF {S : Type} (t : Ev → Fx S Bool) (g : Sx S) : Nat → Sx S
  | 0, _, _ => .no
  | n + 1, ρ, s => match t ρ s with
    | .ok (true, s1) => (match g ρ s1 with
      | .nx ρ2 s2 => whileF t g n ρ2 s2
      | .ct ρ2 s2 => whileF t g n ρ2 s2
      | .bk ρ2 s2 => .nx ρ2 s2
      | o => o)
    | .ok (false, s1) => .nx ρ s1
    | .er c => .er c
    | .no => .no
def gWhile {S : Type} (fuel : Ev → Nat) (t : Ev → Fx S Bool) (g : Sx S) : Sx S := fun ρ s => whileF t g (fuel ρ) ρ s
theorem ds_while (fuel : Ev → Nat) (hp : PS X st (tWhile (tT X.K W E t) (tS X.K W E g))) : PS X st (tS X.K W E (gWhile fuel t g)) := ps_imp hp fun D σ H ⟨B, G0, G, ρ, s, S, q⟩ => by
  refine ⟨fun m σ' H' => ∃ G' ρ' s', Sb X.K W B G0 G' H' σ' ρ' s' ∧ SPost X.K W E B G0 D (whileF t g m ρ' s'), ⟨fuel ρ, G, ρ, s, S, q⟩, ?_⟩
  rintro m σ' H' ⟨G', ρ', s', S', post⟩
  cases m with
  | zero => exact post.elim
  | succ m =>
    refine ⟨G', ρ', s', S'.st, ?_⟩
    unfold whileF at post
    cases r : t ρ' s' with
    | no => rw [r] at post; exact post.elim
    | er c => rw [r] at post; exact fun G2 H2 x => post G2 H2 (S'.xt.trans x)
    | ok z =>
      obtain ⟨b, s1⟩ := z
      rw [r] at post
      intro G2 H2 x w
      have S2 := S'.go x w
      cases b with
      | false => exact iteF (post σ' G2 H2 S2)
      | true =>
        refine iteT ⟨fun σ4 H4 => ∃ G4 ρ4 s4, Sb X.K W B G0 G4 H4 σ4 ρ4 s4 ∧ SPost X.K W E B G0 D (whileF t g m ρ4 s4), fun σ4 H4 p => ⟨m, Nat.lt_succ_self m, p⟩, B, G0, G2, ρ', s1, S2, ?_⟩
        simp only at post
        cases r3 : g ρ' s1 with
        | nx ρ4 s4 => rw [r3] at post; exact fun σ4 G4 H4 S4 => ⟨G4, ρ4, s4, S4, post⟩
        | ct ρ4 s4 => rw [r3] at post; exact fun σ4 G4 H4 S4 => ⟨G4, ρ4, s4, S4, post⟩
        | bk ρ4 s4 => rw [r3] at post; exact post
        | rt d4 s4 => rw [r3] at post; exact post
        | er c => rw [r3] at post; exact post
        | no => rw [r3] at post; exact post.elim
/-! ### raise C() -/
def gRaise {S : Type} (c : Str) : Sx S := fun _ _ => .er c
theorem ds_raise {c : Str} {Ek : XK} (hp : PS X st (fun _ _ H => Ek (.ref (He.ga X.K c)) none H)) : PS X st (tS X.K W (wk X.K Ek) (gRaise c)) := ps_imp hp fun D σ H ⟨B, G0, G, ρ, s, S, q⟩ => q G H S.xt
/-! ### own lists: made, changed -/
def tN (K : PySem.W.Frag) (W : Wd) (E : WX) (f : Ev → Fx W.S (List Da)) : TE := fun σ H Q => ∃ G ρ s, Stt K W G H σ ρ s ∧ NPost K W E G H (f ρ s) Q
theorem DN.pe {e : Expr} (h0 : DN X W E e h) : PE X e (tN X.K W E h) := by
  obtain ⟨te, p, q⟩ := h0.ex
  exact pe_imp p fun σ H Q ⟨G, ρ, s, S, z⟩ => q G H σ ρ s Q S z
def gSetO {S : Type} (i : Nat) (h : Ev → Fx S (List Da)) : Sx S := fun ρ s => match h ρ s with
  | .ok (ds, s') => .nx (ρ.set i (.own ds)) s'
  | .er c => .er c
  | .no => .no
theorem ds_setO {i : Nat} (hp : PS X st (tAsg (tN X.K W E h) (gName i))) : PS X st (tS X.K W E (gSetO i h)) := ps_imp hp fun D σ H ⟨B, G0, G, ρ, s, S, q⟩ => by
  refine ⟨G, ρ, s, S.st, ?_⟩
  unfold gSetO at q
  unfold NPost
  cases r : h ρ s with
  | no => rw [r] at q; exact q.elim
  | er c => rw [r] at q; exact fun G' H' x => q G' H' (S.xt.trans x)
  | ok z =>
    obtain ⟨ds, s'⟩ := z
    rw [r] at q
    intro p vs G' H' x w hp hg hn y
    have S' := S.go x w
    have hb : B p = none := by
      cases e : B p with
      | none => rfl
      | some o => exact absurd hn (S.xt.dom p (by rw [e]; simp))
    have hm : p ∉ W.mu := fun z => (S.st.mu p z).2 hn
    refine q _ G' H' (S'.setO i hp hg hb hm y fun j es e1 e2 => ?_)
    obtain ⟨v, z1, p', vs', z2, z3, _⟩ := S.st.sl j _ e1
    rw [e2] at z1
    have z4 := (Option.some.inj z1).trans z2
    cases z4
    rw [hn] at z3
    cases z3
/-- x.append(e), x an own list -/
def gApp {S : Type} (i : Nat) (f : Ev → Fx S Da) : Sx S := fun ρ s => match ρ[i]? with
  | some (.own _) => (match f ρ s with
    | .ok (d, s') => (match ρ[i]? with
      | some (.own ds) => if ds.length < 1000000 then .nx (ρ.set i (.own (ds ++ [d]))) s' else .no
      | _ => .no)
    | .er c => .er c
    | .no => .no)
  | _ => .no
theorem line_million : (1000000 : Nat) < sizeLine := by decide
theorem ds_app {i : Nat} (hp : PS X st (tDrop (tBM X.K "list" (fun x vs H Q => ∃ l xs y, x = .ref l ∧ vs = [y] ∧ H l = some (.lst xs) ∧ xs.length < sizeLine ∧ Q .non (upd H l (.lst (xs ++ [y])))) (tVar i) (tCons (tE X.K W E f) tNil)))) :
    PS X st (tS X.K W E (gApp i f)) := ps_imp hp fun D σ H ⟨B, G0, G, ρ, s, S, q⟩ => by
  unfold gApp at q
  cases r0 : ρ[i]? with
  | none => rw [r0] at q; exact q.elim
  | some sl =>
    rw [r0] at q
    cases sl with
    | no => exact q.elim
    | raw _ => exact q.elim
    | dat _ => exact q.elim
    | own ds =>
      obtain ⟨v, e1, p, vs, e2, e3, e4, e5, e6⟩ := S.st.sl i _ r0
      subst e2
      refine ⟨_, e1, .inl ⟨rfl, vs, SqL.of e3⟩, ?_⟩
      refine ⟨G, ρ, s, S.st, ?_⟩
      simp only at q
      cases r : f ρ s with
      | no => rw [r] at q; exact q.elim
      | er c => rw [r] at q; exact fun G' H' x => q G' H' (S.xt.trans x)
      | ok z =>
        obtain ⟨d, s'⟩ := z
        rw [r] at q
        intro v G' H' x w y
        have S' := S.go x w
        have hp' := x.ext p _ e5 e3
        simp only at q
        by_cases hl : ds.length < 1000000
        · rw [if_pos hl] at q
          have el := e6.length
          refine ⟨p, vs, v, rfl, rfl, hp', by have := line_million; omega, ?_⟩
          exact q _ G' _ (S'.chg r0 e1 hp' (x.new p e4 (by rw [e3]; simp)) e5 ((e6.mono x.sub).snoc y))
        · rw [if_neg hl] at q
          exact q.elim
end
/-! ### a def of the text -/
def runD (g : Sx Unit) (n : Nat) (ds : List Da) : Rp Da := match g (ds.map .dat ++ List.replicate (n - ds.length) .no) () with
  | .rt d _ => .ok d
  | .nx _ _ => .ok .non
  | .er c => .er c
  | _ => .no
section
variable {P : Program} {w : World} {K : PySem.W.Frag} {mg : Str → Option Value} {base : Heap}
theorem start_stt {G H : Hp} {vs : List V} {ds : List Da} (s : Same G H) (r : ReL K G vs ds) (N : List Str) : Stt K pureW G H (L2.start N vs) (ds.map Sl.dat ++ List.replicate (N.length - ds.length) .no) () := by
  have hl := r.length
  refine ⟨s, fun a ha => absurd ha (by show a ∉ ([] : List Addr); simp), ?_, fun i sl e => ?_, fun i j p ds' es e => ?_, trivial⟩
  · unfold L2.start
    simp [hl]
  · unfold L2.start
    by_cases h1 : i < ds.length
    · rw [List.getElem?_append_left (by simpa using h1), List.getElem?_map] at e
      cases q : ds[i]? with
      | none => rw [q] at e; cases e
      | some d =>
        rw [q] at e
        cases e
        obtain ⟨v, z1, z2⟩ := r.get' q
        exact ⟨some v, by rw [List.getElem?_append_left (by simp; omega), List.getElem?_map, z1]; rfl, v, rfl, z2⟩
    · rw [List.getElem?_append_right (by simpa using h1)] at e
      have e' := e
      rw [List.getElem?_replicate] at e
      split at e
      · rename_i hlt
        cases e
        refine ⟨none, ?_, trivial⟩
        rw [List.getElem?_append_right (by simp; omega), List.getElem?_replicate, if_pos (by simpa [hl] using hlt)]
      · cases e
  · exfalso
    by_cases h1 : i < ds.length
    · rw [List.getElem?_append_left (by simpa using h1), List.getElem?_map] at e
      cases q : ds[i]? with
      | none => rw [q] at e; cases e
      | some d => rw [q] at e; cases e
    · rw [List.getElem?_append_right (by simpa using h1), List.getElem?_replicate] at e
      split at e <;> cases e
/-- the body reckons g; F is what g comes to -/
theorem fnOk_of {x : Str} {st : Stmt} {f : Addr} {fd : FuncData} {N ps : List Str} {k : Nat} {g : Sx Unit} {F : List Da → Rp Da} (Fd : FunD K x x (defArgs st) (defBody st) (defScope st) [] [] f fd) (S : FnScope N ps (defScope st))
    (hbody : ∀ (cdv : Value) (A : Around) (outer : List Env) (s : Shared) (H : Hp) (E : XK), Room k (A.deeper (envOfC x (defScope st) s.heap.objs.size f cdv)) →
      PSs (cxOf (L2.CX P w) P w K mg base N x (defScope st) f cdv A outer s H E) (defBody st) (tS K pureW (wk K E) g))
    (hF : ∀ ds, F ds ≠ .no → ds.length = ps.length ∧ runD g N.length ds = F ds) : FnOk P w K mg base (L2.CX P w) (k + 1) f fd ps (spP K F) := by
  refine Fd.ok S (fun vs H Q E h => ?_) fun cdv A outer s H vs Q E hr h => ?_
  · obtain ⟨G, ds, s, r, q⟩ := h
    rw [r.length]
    refine (hF ds fun z => ?_).1
    rw [z] at q
    exact q
  · obtain ⟨G, ds, hs, r, q⟩ := h
    have ne : F ds ≠ .no := fun z => by rw [z] at q; exact q
    obtain ⟨h1, h2⟩ := hF ds ne
    refine ⟨_, hbody cdv A outer s H E hr, H, G, G, ds.map Sl.dat ++ List.replicate (N.length - ds.length) .no, (), ⟨start_stt hs r N, .refl hs, fun i ds' p e => ?_⟩, ?_⟩
    · exfalso
      by_cases h1 : i < ds.length
      · rw [List.getElem?_append_left (by simpa using h1), List.getElem?_map] at e
        cases q : ds[i]? with
        | none => rw [q] at e; cases e
        | some d => rw [q] at e; cases e
      · rw [List.getElem?_append_right (by simpa using h1), List.getElem?_replicate] at e
        split at e <;> cases e
    · unfold runD at h2
      cases r2 : g (ds.map Sl.dat ++ List.replicate (N.length - ds.length) .no) () with
      | nx ρ' s' => rw [r2] at h2; rw [← h2] at q; exact fun σ G' H' S' => q .non G' H' S'.xt .non
      | rt d s' => rw [r2] at h2; rw [← h2] at q; exact fun v G' H' x _ y => q v G' H' x y
      | er c => rw [r2] at h2; rw [← h2] at q; exact fun G' H' x => q G' H' x
      | bk _ _ => rw [r2] at h2; exact absurd h2.symm ne
      | ct _ _ => rw [r2] at h2; exact absurd h2.symm ne
      | no => rw [r2] at h2; exact absurd h2.symm ne
theorem fnP_of {x : Str} {st : Stmt} {f : Addr} {fd : FuncData} {ps : List Str} {k : Nat} {F : List Da → Rp Da} (Fd : FunD K x x (defArgs st) (defBody st) (defScope st) [] [] f fd) (hm : mg x = some (.ref f)) (hb : Binds K fd ps []) (h : FnOk P w K mg base (L2.CX P w) k f fd ps (spP K F)) : FnP P w K mg base k x ps F :=
  ⟨f, fd, h, hm, Fd.kp, hb⟩
end
end Sw

set_option Elab.async false
set_option linter.all false
set_option maxRecDepth 100000
set_option maxHeartbeats 2000000
/-! SwO: the operations over data. -/
namespace Sw
open PySem PySem.Spec PyProof.Rows L2

theorem OpR.or {X : Cx} {f : Value → Value → Sem Value} {r r' : R2} (h : OpR X f r) (h' : OpR X f r') : OpR X f (fun x y H Q => r x y H Q ∨ r' x y H Q) := by
  intro pins s σ H x y v u Q I rx ry q
  rcases q with q | q
  · exact h pins s σ H x y v u Q I rx ry q
  · exact h' pins s σ H x y v u Q I rx ry q
theorem CallR.or {X : Cx} {f : Value} {r r' : List V → Hp → VK → Prop} (h : CallR X f r) (h' : CallR X f r') : CallR X f (fun xs H Q => r xs H Q ∨ r' xs H Q) := by
  intro pins s σ H xs us Q I rx q
  rcases q with q | q
  · exact h pins s σ H xs us Q I rx q
  · exact h' pins s σ H xs us Q I rx q

section
variable {K : PySem.W.Frag} {mu : List Addr} {G H : Hp} {v : V} {i : Int} {z : Str} {b : Bool}
theorem ReO.int (h : ReO K mu G H v (.int i)) : v = .int i := by
  cases h.re (fun ds => by simp) with
  | int => rfl
theorem ReO.str (h : ReO K mu G H v (.str z)) : v = .str z := by
  cases h.re (fun ds => by simp) with
  | str => rfl
theorem ReO.bl (h : ReO K mu G H v (.bl b)) : v = .bl b := by
  cases h.re (fun ds => by simp) with
  | bl => rfl
theorem ReO.non (h : ReO K mu G H v .non) : v = .non := by
  cases h.re (fun ds => by simp) with
  | non => rfl
theorem ReO.tup {ds : List Da} (s : Same G H) (h : ReO K mu G H v (.tup ds)) : ∃ p vs, v = .ref p ∧ SqT K H p vs ∧ ReL K G vs ds := by
  cases h.re (fun ds => by simp) with
  | tup q r => exact ⟨_, _, rfl, same_t s q, r⟩
end

/-! ### + -/
def addF : Da → Da → Option Da
  | .int i, .int j => some (.int (i + j))
  | .str a, .str b => if a.length + b.length ≤ sizeLine then some (.str (a ++ b)) else none
  | .tup a, .tup b => if a.length + b.length ≤ sizeLine then some (.tup (a ++ b)) else none
  | .lst a, .lst b => if a.length + b.length ≤ 1000000 then some (.lst (a ++ b)) else none
  | _, _ => none
/-- list + list, readable lists: by the module's or a locked list too it would be another rule; here both stand in H or are stable in G -/
def rAdd (K : PySem.W.Frag) : R2 := fun x y H Q => (((∃ i j, x = .int i ∧ y = .int j ∧ Q (.int (i + j)) H) ∨ (∃ i j, x = .str i ∧ y = .str j ∧ i.length + j.length ≤ sizeLine ∧ Q (.str (i ++ j)) H)) ∨ rCatA K x y H Q) ∨ rCat x y H Q
theorem op_addA {X : Cx} : OpR X (binaryOp .Add) (rAdd X.K) := OpR.or (OpR.or (OpR.or op_add op_add_str) op_catA) op_cat
/-- lists of addF stand in H themselves -/
def NoK (K : PySem.W.Frag) : Prop := ∀ (a : Addr) (o : Obj), K.lookup a = some o → o.cls ≠ .type "list"
theorem addF_int {d e : Da} {z : Da} (h : addF d e = some z) : (∃ i j, d = .int i ∧ e = .int j ∧ z = .int (i + j)) ∨ (∃ a b, d = .str a ∧ e = .str b ∧ a.length + b.length ≤ sizeLine ∧ z = .str (a ++ b)) ∨
    (∃ a b, d = .tup a ∧ e = .tup b ∧ a.length + b.length ≤ sizeLine ∧ z = .tup (a ++ b)) ∨ (∃ a b, d = .lst a ∧ e = .lst b ∧ a.length + b.length ≤ 1000000 ∧ z = .lst (a ++ b)) := by
  unfold addF at h
  split at h
  · exact .inl ⟨_, _, rfl, rfl, (Option.some.inj h).symm⟩
  · split at h
    · exact .inr (.inl ⟨_, _, rfl, rfl, by assumption, (Option.some.inj h).symm⟩)
    · cases h
  · split at h
    · exact .inr (.inr (.inl ⟨_, _, rfl, rfl, by assumption, (Option.some.inj h).symm⟩))
    · cases h
  · split at h
    · exact .inr (.inr (.inr ⟨_, _, rfl, rfl, by assumption, (Option.some.inj h).symm⟩))
    · cases h
  · cases h
/-- + but for lists -/
def addF0 (d e : Da) : Option Da := match d with
  | .lst _ => none
  | _ => addF d e
theorem opd_add (K : PySem.W.Frag) : OpD K (rAdd K) addF0 := by
  intro mu G H x y d e z Q s rx ry h q
  have h' : (∀ ds, d ≠ .lst ds) ∧ addF d e = some z := by
    unfold addF0 at h
    split at h
    · cases h
    · rename_i hd
      exact ⟨fun ds e => hd ds e, h⟩
  rcases addF_int h'.2 with ⟨i, j, rfl, rfl, rfl⟩ | ⟨a, b, rfl, rfl, hl, rfl⟩ | ⟨a, b, rfl, rfl, hl, rfl⟩ | ⟨a, b, rfl, rfl, hl, rfl⟩
  · exact .inl (.inl (.inl ⟨i, j, rx.int, ry.int, q _ G H (.refl s) (.int _)⟩))
  · exact .inl (.inl (.inr ⟨a, b, rx.str, ry.str, hl, q _ G H (.refl s) (.str _)⟩))
  · obtain ⟨p, vs, rfl, h1, r1⟩ := rx.tup s
    obtain ⟨p', ws, rfl, h2, r2⟩ := ry.tup s
    refine .inl (.inr ⟨p, p', vs, ws, rfl, rfl, h1, h2, by rw [r1.length, r2.length]; exact hl, fun e => ?_, fun _ e => ?_, fun _ _ t ht => ?_⟩)
    · subst e
      cases r1
      exact q _ G H (.refl s) (ry.re fun ds => by simp)
    · subst e
      cases r2
      rw [List.append_nil] at q
      exact q _ G H (.refl s) (rx.re fun ds => by simp)
    · have xp : Xp G H _ _ := Xp.new_ (o := .tup (vs ++ ws)) s ht
      exact q _ _ _ xp (.tup (SqT.of upd_same) ((r1.append r2).mono xp.sub))
  · exact absurd rfl (h'.1 a)
/-! ### - * % // ** -/
def subF : Da → Da → Option Da
  | .int i, .int j => some (.int (i - j))
  | _, _ => none
theorem opd_sub (K : PySem.W.Frag) : OpD K (rI0 fun i j => .int (i - j)) subF := by
  intro mu G H x y d e z Q s rx ry h q
  unfold subF at h
  split at h
  · cases h; exact ⟨_, _, rx.int, ry.int, q _ G H (.refl s) (.int _)⟩
  · cases h
instance (i j : Int) : Decidable (CMulW i j) := by unfold CMulW; infer_instance
instance (i j : Int) : Decidable (CDivW i j) := by unfold CDivW; infer_instance
instance (i j : Int) : Decidable (CPow i j) := by unfold CPow; infer_instance
def mulF : Da → Da → Option Da
  | .int i, .int j => if CMulW i j then some (.int (i * j)) else none
  | _, _ => none
theorem opd_mul (K : PySem.W.Frag) : OpD K (rI CMulW fun i j => .int (i * j)) mulF := by
  intro mu G H x y d e z Q s rx ry h q
  unfold mulF at h
  split at h
  · split at h
    · cases h; exact ⟨_, _, rx.int, ry.int, by assumption, q _ G H (.refl s) (.int _)⟩
    · cases h
  · cases h
def divF : Da → Da → Option Da
  | .int i, .int j => if CDivW i j then some (.int (i / j)) else none
  | _, _ => none
theorem opd_div (K : PySem.W.Frag) : OpD K (rI CDivW fun i j => .int (i / j)) divF := by
  intro mu G H x y d e z Q s rx ry h q
  unfold divF at h
  split at h
  · split at h
    · cases h; exact ⟨_, _, rx.int, ry.int, by assumption, q _ G H (.refl s) (.int _)⟩
    · cases h
  · cases h
def modF : Da → Da → Option Da
  | .int i, .int j => if j ≠ 0 then some (.int (i.fmod j)) else none
  | _, _ => none
theorem opd_mod (K : PySem.W.Frag) : OpD K (rI (fun _ j => j ≠ 0) fun i j => .int (i.fmod j)) modF := by
  intro mu G H x y d e z Q s rx ry h q
  unfold modF at h
  split at h
  · split at h
    · cases h; exact ⟨_, _, rx.int, ry.int, by assumption, q _ G H (.refl s) (.int _)⟩
    · cases h
  · cases h
def powF : Da → Da → Option Da
  | .int i, .int j => if CPow i j then some (.int (i ^ j.toNat)) else none
  | _, _ => none
theorem opd_pow (K : PySem.W.Frag) : OpD K (rI CPow fun i j => .int (i ^ j.toNat)) powF := by
  intro mu G H x y d e z Q s rx ry h q
  unfold powF at h
  split at h
  · split at h
    · cases h; exact ⟨_, _, rx.int, ry.int, by assumption, q _ G H (.refl s) (.int _)⟩
    · cases h
  · cases h
/-! ### order: ints, texts -/
def rOrd (r1 r2 : R2) : R2 := fun x y H Q => r1 x y H Q ∨ r2 x y H Q
def ltF : Da → Da → Option Da
  | .int i, .int j => some (.bl (decide (i < j)))
  | .str i, .str j => some (.bl (decide (i.cps.toList < j.cps.toList)))
  | _, _ => none
def leF : Da → Da → Option Da
  | .int i, .int j => some (.bl (decide (i ≤ j)))
  | .str i, .str j => some (.bl (!decide (j.cps.toList < i.cps.toList)))
  | _, _ => none
def gtF : Da → Da → Option Da
  | .int i, .int j => some (.bl (decide (j < i)))
  | .str i, .str j => some (.bl (decide (j.cps.toList < i.cps.toList)))
  | _, _ => none
def geF : Da → Da → Option Da
  | .int i, .int j => some (.bl (decide (j ≤ i)))
  | .str i, .str j => some (.bl (!decide (i.cps.toList < j.cps.toList)))
  | _, _ => none
theorem op_ltA {X : Cx} : OpR X (compareOp .Lt) (rOrd (rI0 fun i j => .bl (decide (i < j))) fun x y H Q => ∃ i j, x = .str i ∧ y = .str j ∧ Q (.bl (decide (i.cps.toList < j.cps.toList))) H) := OpR.or op_lt op_lt_str
theorem op_leA {X : Cx} : OpR X (compareOp .LtE) (rOrd (rI0 fun i j => .bl (decide (i ≤ j))) fun x y H Q => ∃ i j, x = .str i ∧ y = .str j ∧ Q (.bl (!decide (j.cps.toList < i.cps.toList))) H) := OpR.or op_le op_le_str
theorem op_gtA {X : Cx} : OpR X (compareOp .Gt) (rOrd (rI0 fun i j => .bl (decide (j < i))) fun x y H Q => ∃ i j, x = .str i ∧ y = .str j ∧ Q (.bl (decide (j.cps.toList < i.cps.toList))) H) := OpR.or op_gt op_gt_str
theorem op_geA {X : Cx} : OpR X (compareOp .GtE) (rOrd (rI0 fun i j => .bl (decide (j ≤ i))) fun x y H Q => ∃ i j, x = .str i ∧ y = .str j ∧ Q (.bl (!decide (i.cps.toList < j.cps.toList))) H) := OpR.or op_ge op_ge_str
theorem opd_ord (K : PySem.W.Frag) {p : Int → Int → Bool} {q0 : Str → Str → Bool} {F : Da → Da → Option Da} (hF : ∀ d e z, F d e = some z → (∃ i j, d = .int i ∧ e = .int j ∧ z = .bl (p i j)) ∨ ∃ i j, d = .str i ∧ e = .str j ∧ z = .bl (q0 i j)) :
    OpD K (rOrd (rI0 fun i j => .bl (p i j)) fun x y H Q => ∃ i j, x = .str i ∧ y = .str j ∧ Q (.bl (q0 i j)) H) F := by
  intro mu G H x y d e z Q s rx ry h q
  rcases hF d e z h with ⟨i, j, rfl, rfl, rfl⟩ | ⟨i, j, rfl, rfl, rfl⟩
  · exact .inl ⟨i, j, rx.int, ry.int, q _ G H (.refl s) (.bl _)⟩
  · exact .inr ⟨i, j, rx.str, ry.str, q _ G H (.refl s) (.bl _)⟩
theorem opd_lt (K : PySem.W.Frag) : OpD K (rOrd (rI0 fun i j => .bl (decide (i < j))) fun x y H Q => ∃ i j, x = .str i ∧ y = .str j ∧ Q (.bl (decide (i.cps.toList < j.cps.toList))) H) ltF := opd_ord (q0 := fun i j => decide (i.cps.toList < j.cps.toList)) K fun d e z h => by
  unfold ltF at h
  split at h
  · exact .inl ⟨_, _, rfl, rfl, (Option.some.inj h).symm⟩
  · exact .inr ⟨_, _, rfl, rfl, (Option.some.inj h).symm⟩
  · cases h
theorem opd_le (K : PySem.W.Frag) : OpD K (rOrd (rI0 fun i j => .bl (decide (i ≤ j))) fun x y H Q => ∃ i j, x = .str i ∧ y = .str j ∧ Q (.bl (!decide (j.cps.toList < i.cps.toList))) H) leF := opd_ord (q0 := fun i j => !decide (j.cps.toList < i.cps.toList)) K fun d e z h => by
  unfold leF at h
  split at h
  · exact .inl ⟨_, _, rfl, rfl, (Option.some.inj h).symm⟩
  · exact .inr ⟨_, _, rfl, rfl, (Option.some.inj h).symm⟩
  · cases h
theorem opd_gt (K : PySem.W.Frag) : OpD K (rOrd (rI0 fun i j => .bl (decide (j < i))) fun x y H Q => ∃ i j, x = .str i ∧ y = .str j ∧ Q (.bl (decide (j.cps.toList < i.cps.toList))) H) gtF := opd_ord (p := fun i j => decide (j < i)) (q0 := fun i j => decide (j.cps.toList < i.cps.toList)) K fun d e z h => by
  unfold gtF at h
  split at h
  · exact .inl ⟨_, _, rfl, rfl, (Option.some.inj h).symm⟩
  · exact .inr ⟨_, _, rfl, rfl, (Option.some.inj h).symm⟩
  · cases h
theorem opd_ge (K : PySem.W.Frag) : OpD K (rOrd (rI0 fun i j => .bl (decide (j ≤ i))) fun x y H Q => ∃ i j, x = .str i ∧ y = .str j ∧ Q (.bl (!decide (i.cps.toList < j.cps.toList))) H) geF := opd_ord (p := fun i j => decide (j ≤ i)) (q0 := fun i j => !decide (i.cps.toList < j.cps.toList)) K fun d e z h => by
  unfold geF at h
  split at h
  · exact .inl ⟨_, _, rfl, rfl, (Option.some.inj h).symm⟩
  · exact .inr ⟨_, _, rfl, rfl, (Option.some.inj h).symm⟩
  · cases h
/-! ### == -/
mutual
/-- the library's data; texts within its codes' line -/
def Da.py : Da → Option PyData
  | .non => some .none
  | .bl b => some (.bool b)
  | .int i => some (.int i)
  | .str x => some (.str x)
  | .lst ds => (pyL ds).map .list
  | .tup ds => (pyL ds).map .tuple
  | .dic => none
  | .exc _ => none
  | .fn _ => none
def pyL : List Da → Option (List PyData)
  | [] => some []
  | d :: ds => match d.py, pyL ds with
    | some p, some ps => some (p :: ps)
    | _, _ => none
end
mutual
theorem Re.dp {K : PySem.W.Frag} {G : Hp} : ∀ {d : Da} {v : V} {p : PyData}, Re K G v d → d.py = some p → Dp K G v p
  | _, _, _, .non, e => by unfold Da.py at e; cases e; exact .non
  | _, _, _, .bl b, e => by unfold Da.py at e; cases e; exact .bl b
  | _, _, _, .int i, e => by unfold Da.py at e; cases e; exact .int i
  | _, _, _, .str x, e => by unfold Da.py at e; cases e; exact .str x
  | .lst ds, _, _, .lst q r, e => by
    unfold Da.py at e
    cases h : pyL ds with
    | none => rw [h] at e; cases e
    | some ps => rw [h] at e; cases e; exact .lst q.sq (ReL.dp r h)
  | .tup ds, _, _, .tup q r, e => by
    unfold Da.py at e
    cases h : pyL ds with
    | none => rw [h] at e; cases e
    | some ps => rw [h] at e; cases e; exact .tup q (ReL.dp r h)
  | _, _, _, .dic _, e => by unfold Da.py at e; cases e
  | _, _, _, .exc _, e => by unfold Da.py at e; cases e
  | _, _, _, .fn _, e => by unfold Da.py at e; cases e
theorem ReL.dp {K : PySem.W.Frag} {G : Hp} : ∀ {d : List Da} {v : List V} {p : List PyData}, ReL K G v d → pyL d = some p → DpAll K G v p
  | _, _, _, .nil, e => by unfold pyL at e; cases e; exact .nil
  | d :: ds, _, _, .cons r s, e => by
    unfold pyL at e
    cases h1 : d.py with
    | none => rw [h1] at e; cases e
    | some p =>
      cases h2 : pyL ds with
      | none => rw [h1, h2] at e; cases e
      | some ps => rw [h1, h2] at e; cases e; exact .cons (Re.dp r h1) (ReL.dp s h2)
end
mutual
theorem dp_mono {K : PySem.W.Frag} {G G' : Hp} (e : Same G G') : ∀ {v : V} {d : PyData}, Dp K G v d → Dp K G' v d
  | _, _, .non => .non
  | _, _, .bl b => .bl b
  | _, _, .int i => .int i
  | _, _, .str x => .str x
  | _, _, .lst h r => .lst (e.seq h) (dpL_mono e r)
  | _, _, .tup h r => .tup (same_t e h) (dpL_mono e r)
theorem dpL_mono {K : PySem.W.Frag} {G G' : Hp} (e : Same G G') : ∀ {v : List V} {d : List PyData}, DpAll K G v d → DpAll K G' v d
  | _, _, .nil => .nil
  | _, _, .cons r s => .cons (dp_mono e r) (dpL_mono e s)
end
theorem ReO.dp {K : PySem.W.Frag} {mu : List Addr} {G H : Hp} {v : V} {d : Da} {p : PyData} (s : Same G H) (h : ReO K mu G H v d) (e : d.py = some p) : Dp K H v p := by
  rcases h with h | ⟨ds, a, vs, rfl, rfl, e3, e4, e5⟩
  · exact dp_mono s (h.dp e)
  · unfold Da.py at e
    cases q : pyL ds with
    | none => rw [q] at e; cases e
    | some ps => rw [q] at e; cases e; exact .lst (SqL.of e3) (dpL_mono s (e5.dp q))
def scaV : Da → Option V
  | .non => some .non
  | .bl b => some (.bl b)
  | .int i => some (.int i)
  | .str x => some (.str x)
  | _ => none
theorem scaV_re {K : PySem.W.Frag} {mu : List Addr} {G H : Hp} {v x : V} {d : Da} (h : ReO K mu G H v d) (e : scaV d = some x) : v = x := by
  cases d with
  | non => cases e; exact h.non
  | bl b => cases e; exact h.bl
  | int i => cases e; exact h.int
  | str y => cases e; exact h.str
  | _ => cases e
def eqvF (d e : Da) : Option Bool := match d.py, e.py with
  | some p, some q => if SeqAt.shaped p = true ∧ SeqAt.shaped q = true then some (PyData.eqv p q) else none
  | _, _ => none
/-- a tuple beside () -/
def nilT : Da → Da → Option Bool
  | .tup ds, .tup [] => some ds.isEmpty
  | _, _ => none
def eqB0 (d e : Da) : Option Bool := match scaV d, scaV e with
  | some x, some y => if scal x y = true then some (decide (x = y)) else eqvF d e
  | _, _ => eqvF d e
def eqB (d e : Da) : Option Bool := match nilT d e with
  | some b => some b
  | none => eqB0 d e
def eqF (d e : Da) : Option Da := (eqB d e).map .bl
def neF (d e : Da) : Option Da := (eqB d e).map fun b => .bl (!b)
theorem eqB_of {K : PySem.W.Frag} {mu : List Addr} {G H : Hp} {x y : V} {d e : Da} {b : Bool} (s : Same G H) (rx : ReO K mu G H x d) (ry : ReO K mu G H y e) (h : eqB d e = some b) :
    ((scal x y = true ∧ b = decide (x = y)) ∨ ∃ p q, Dp K H x p ∧ Dp K H y q ∧ SeqAt.shaped p = true ∧ SeqAt.shaped q = true ∧ b = PyData.eqv p q) ∨ ∃ p q xs, x = .ref p ∧ y = .ref q ∧ SqT K H p xs ∧ SqT K H q [] ∧ b = xs.isEmpty := by
  have k : eqvF d e = some b → ∃ p q, Dp K H x p ∧ Dp K H y q ∧ SeqAt.shaped p = true ∧ SeqAt.shaped q = true ∧ b = PyData.eqv p q := fun h => by
    unfold eqvF at h
    split at h
    · rename_i p q e1 e2
      split at h
      · rename_i c
        exact ⟨p, q, rx.dp s e1, ry.dp s e2, c.1, c.2, (Option.some.inj h).symm⟩
      · cases h
    · cases h
  unfold eqB at h
  split at h
  · rename_i b' hb
    cases h
    unfold nilT at hb
    split at hb
    · cases hb
      obtain ⟨p, xs, rfl, h1, r1⟩ := rx.tup s
      obtain ⟨q, ys, rfl, h2, r2⟩ := ry.tup s
      cases r2
      refine .inr ⟨p, q, xs, rfl, rfl, h1, h2, ?_⟩
      have := r1.length
      cases xs with
      | nil => cases r1; rfl
      | cons _ _ => cases r1; rfl
    · cases hb
  · unfold eqB0 at h
    split at h
    · rename_i v w e1 e2
      have z1 := scaV_re rx e1
      have z2 := scaV_re ry e2
      subst z1 z2
      split at h
      · exact .inl (.inl ⟨by assumption, (Option.some.inj h).symm⟩)
      · exact .inl (.inr (k h))
    · exact .inl (.inr (k h))
def rNil (K : PySem.W.Frag) (neg : Bool) : R2 := fun x y H Q => ∃ p q xs, x = .ref p ∧ y = .ref q ∧ SqT K H p xs ∧ SqT K H q [] ∧ Q (.bl (if neg then !xs.isEmpty else xs.isEmpty)) H
theorem nil_size {vs : List V} {its : List Value} (r : Vals vs its) (e : Nat → Bool) : ((List.range (min its.toArray.size 0)).all e && its.toArray.size == 0) = vs.isEmpty := by
  have := r.length
  cases vs with
  | nil => cases r; rfl
  | cons _ _ => cases r; simp
theorem op_eqNil {X : Cx} (hu : X.A.units + 64 < cLine) : OpR X (compareOp .Eq) (rNil X.K false) := by
  intro pins s σ H x y v u Q I rx ry h
  obtain ⟨p, q, xs, rfl, rfl, h1, h2, hq⟩ := h
  cases rx
  cases ry
  obtain ⟨its, r1, t1, _⟩ := I.tuple h1
  obtain ⟨its2, r2, t2, _⟩ := I.tuple h2
  cases r2
  have z := SeqAt.eq_tupleAt (prog := X.prog) (w := X.w) (A := X.A) (E := X.xe) (s := s) (e := fun _ => true) (Q := EP X pins σ Q) (show s.heap.IsTuple p its.toArray from t1) (show s.heap.IsTuple q #[] from t2) (by omega) (fun j _ h => absurd h (by simp))
    ⟨.bl xs.isEmpty, H, I, by rw [← nil_size r1 fun _ => true] <;> rfl, hq⟩
  exact z
theorem op_neNil {X : Cx} (hu : X.A.units + 64 < cLine) : OpR X (compareOp .NotEq) (rNil X.K true) := by
  intro pins s σ H x y v u Q I rx ry h
  obtain ⟨p, q, xs, rfl, rfl, h1, h2, hq⟩ := h
  cases rx
  cases ry
  obtain ⟨its, r1, t1, _⟩ := I.tuple h1
  obtain ⟨its2, r2, t2, _⟩ := I.tuple h2
  cases r2
  exact SeqAt.RcNeAt.tuples (e := fun _ => true) (show s.heap.IsTuple p its.toArray from t1) (show s.heap.IsTuple q #[] from t2) (by omega) (fun j _ h => absurd h (by simp)) X.prog X.w X.xe (EP X pins σ Q)
    ⟨.bl (!xs.isEmpty), H, I, by rw [← nil_size r1 fun _ => true] <;> rfl, hq⟩
theorem op_eqA {X : Cx} (hu : X.A.units + 64 < cLine) : OpR X (compareOp .Eq) (fun x y H Q => (rEq x y H Q ∨ rEqD X.K x y H Q) ∨ rNil X.K false x y H Q) := OpR.or (OpR.or op_eq (op_eqD hu)) (op_eqNil hu)
theorem op_neA {X : Cx} (hu : X.A.units + 64 < cLine) : OpR X (compareOp .NotEq) (fun x y H Q => (rNe x y H Q ∨ rNeD X.K x y H Q) ∨ rNil X.K true x y H Q) := OpR.or (OpR.or op_ne (op_neD hu)) (op_neNil hu)
theorem opd_eq (K : PySem.W.Frag) : OpD K (fun x y H Q => (rEq x y H Q ∨ rEqD K x y H Q) ∨ rNil K false x y H Q) eqF := by
  intro mu G H x y d e z Q s rx ry h q
  unfold eqF at h
  cases r : eqB d e with
  | none => rw [r] at h; cases h
  | some b =>
    rw [r] at h
    cases h
    rcases eqB_of s rx ry r with (⟨h1, h2⟩ | ⟨p, p', h1, h2, h3, h4, h5⟩) | ⟨p, p', xs, h1, h2, h3, h4, h5⟩
    · exact .inl (.inl ⟨h1, by rw [← h2]; exact q _ G H (.refl s) (.bl _)⟩)
    · exact .inl (.inr ⟨p, p', h1, h2, h3, h4, by rw [← h5]; exact q _ G H (.refl s) (.bl _)⟩)
    · exact .inr ⟨p, p', xs, h1, h2, h3, h4, by rw [← h5]; exact q _ G H (.refl s) (.bl _)⟩
theorem opd_ne (K : PySem.W.Frag) : OpD K (fun x y H Q => (rNe x y H Q ∨ rNeD K x y H Q) ∨ rNil K true x y H Q) neF := by
  intro mu G H x y d e z Q s rx ry h q
  unfold neF at h
  cases r : eqB d e with
  | none => rw [r] at h; cases h
  | some b =>
    rw [r] at h
    cases h
    rcases eqB_of s rx ry r with (⟨h1, h2⟩ | ⟨p, p', h1, h2, h3, h4, h5⟩) | ⟨p, p', xs, h1, h2, h3, h4, h5⟩
    · exact .inl (.inl ⟨h1, by rw [← h2]; exact q _ G H (.refl s) (.bl _)⟩)
    · exact .inl (.inr ⟨p, p', h1, h2, h3, h4, by rw [← h5]; exact q _ G H (.refl s) (.bl _)⟩)
    · exact .inr ⟨p, p', xs, h1, h2, h3, h4, by rw [← h5]; exact q _ G H (.refl s) (.bl _)⟩
/-! ### is None -/
def isNonB : Da → Bool
  | .non => true
  | _ => false
def isNF : Da → Da → Option Da
  | d, .non => some (.bl (isNonB d))
  | _, _ => none
def notNF : Da → Da → Option Da
  | d, .non => some (.bl (!isNonB d))
  | _, _ => none
theorem ReO.isNon {K : PySem.W.Frag} {mu : List Addr} {G H : Hp} {v : V} {d : Da} (h : ReO K mu G H v d) : decide (v = .non) = isNonB d := by
  rcases h with h | ⟨ds, p, vs, rfl, rfl, _⟩
  · cases h <;> rfl
  · rfl
theorem opd_isN (K : PySem.W.Frag) : OpD K (fun x y H Q => y = .non ∧ Q (.bl (decide (x = .non))) H) isNF := by
  intro mu G H x y d e z Q s rx ry h q
  unfold isNF at h
  split at h
  · cases h
    refine ⟨ry.non, ?_⟩
    rw [rx.isNon]
    exact q _ G H (.refl s) (.bl _)
  · cases h
theorem opd_notN (K : PySem.W.Frag) : OpD K (fun x y H Q => y = .non ∧ Q (.bl (!decide (x = .non))) H) notNF := by
  intro mu G H x y d e z Q s rx ry h q
  unfold notNF at h
  split at h
  · cases h
    refine ⟨ry.non, ?_⟩
    rw [rx.isNon]
    exact q _ G H (.refl s) (.bl _)
  · cases h
/-! ### a in b: one sign in a text, flat data in a list or tuple -/
def flatD (d : Da) : Option V := scaV d
def flatDs : List Da → Option (List V)
  | [] => some []
  | d :: ds => match scaV d, flatDs ds with
    | some v, some vs => some (v :: vs)
    | _, _ => none
def inB : Da → Da → Option Bool
  | .str c, .str z => (match c.cps.toList with
    | [k] => some (decide (k ∈ z.cps.toList))
    | _ => none)
  | d, .lst ds => (match scaV d, flatDs ds with
    | some x, some xs => some (inV x xs)
    | _, _ => none)
  | d, .tup ds => (match scaV d, flatDs ds with
    | some x, some xs => some (inV x xs)
    | _, _ => none)
  | _, _ => none
def inF (d e : Da) : Option Da := (inB d e).map .bl
def ninF (d e : Da) : Option Da := (inB d e).map fun b => .bl (!b)
theorem flatDs_re {K : PySem.W.Frag} {G : Hp} : ∀ {ds : List Da} {vs xs : List V}, ReL K G vs ds → flatDs ds = some xs → vs = xs ∧ xs.all flatV = true
  | _, _, _, .nil, e => by unfold flatDs at e; cases e; exact ⟨rfl, rfl⟩
  | d :: ds, _, _, .cons r s, e => by
    unfold flatDs at e
    cases h1 : scaV d with
    | none => rw [h1] at e; cases e
    | some x =>
      cases h2 : flatDs ds with
      | none => rw [h1, h2] at e; cases e
      | some ys =>
        rw [h1, h2] at e
        cases e
        obtain ⟨e1, e2⟩ := flatDs_re s h2
        have e3 := scaV_re (mu := []) (H := G) (.inl r) h1
        subst e1 e3
        refine ⟨rfl, ?_⟩
        rw [List.all_cons, e2, Bool.and_true]
        cases r <;> first | rfl | cases h1
theorem scaV_flat {d : Da} {x : V} (h : scaV d = some x) : flatV x = true := by
  cases d <;> cases h <;> rfl
theorem ReO.seq {K : PySem.W.Frag} {mu : List Addr} {G H : Hp} {v : V} {ds : List Da} {xs : List V} {x : V} {neg : Bool} {Q : VK} (s : Same G H) (h : ReO K mu G H v (.lst ds) ∨ ReO K mu G H v (.tup ds)) (e : flatDs ds = some xs) (hx : flatV x = true)
    (q : Q (.bl (if neg then !inV x xs else inV x xs)) H) : rIn K neg x v H Q := by
  rcases h with h | h
  · obtain ⟨p, vs, rfl, h1, r1⟩ := h.lst s
    obtain ⟨rfl, e2⟩ := flatDs_re r1 e
    exact ⟨p, vs, rfl, .inl h1, hx, e2, q⟩
  · obtain ⟨p, vs, rfl, h1, r1⟩ := h.tup s
    obtain ⟨rfl, e2⟩ := flatDs_re r1 e
    exact ⟨p, vs, rfl, .inr h1, hx, e2, q⟩
def rInA (K : PySem.W.Frag) (neg : Bool) : R2 := fun x y H Q => (∃ (c : Nat) (z : Str), x = .str ⟨#[c]⟩ ∧ y = .str z ∧ Q (.bl (if neg then !decide (c ∈ z.cps.toList) else decide (c ∈ z.cps.toList))) H) ∨ rIn K neg x y H Q
theorem op_inA {X : Cx} : OpR X (compareOp .In) (rInA X.K false) := OpR.or op_in_sign op_in_seq
theorem op_ninA {X : Cx} : OpR X (compareOp .NotIn) (rInA X.K true) := OpR.or op_notIn_sign op_notIn_seq
theorem str_one {c : Str} {k : Nat} (h : c.cps.toList = [k]) : c = ⟨#[k]⟩ := by
  obtain ⟨a⟩ := c
  have : a = #[k] := by
    apply Array.ext'
    simpa using h
  rw [this]
theorem opd_inG (K : PySem.W.Frag) (neg : Bool) {F : Da → Da → Option Da} (hF : ∀ d e z, F d e = some z → ∃ b, inB d e = some b ∧ z = .bl (if neg then !b else b)) : OpD K (rInA K neg) F := by
  intro mu G H x y d e z Q s rx ry h q
  obtain ⟨b, hb, hz⟩ := hF d e z h
  subst hz
  clear h
  have h := hb
  clear hb
  have q1 : Q (.bl (if neg then !b else b)) H := q _ G H (.refl s) (.bl _)
  have tup : ∀ ds, (e = .lst ds ∨ e = .tup ds) → (match scaV d, flatDs ds with
      | some x, some xs => some (inV x xs)
      | _, _ => none) = some b → rInA K neg x y H Q := fun ds he h => by
    cases h1 : scaV d with
    | none => rw [h1] at h; cases h
    | some u =>
      cases h2 : flatDs ds with
      | none => rw [h1, h2] at h; cases h
      | some xs =>
        rw [h1, h2] at h
        cases h
        obtain rfl := scaV_re rx h1
        refine .inr (ReO.seq (mu := mu) s ?_ h2 (scaV_flat h1) q1)
        rcases he with rfl | rfl
        · exact .inl ry
        · exact .inr ry
  cases e with
  | str z =>
    cases d with
    | str c =>
      unfold inB at h
      cases h1 : c.cps.toList with
      | nil => simp only [h1] at h; cases h
      | cons k r =>
        cases r with
        | nil =>
          simp only [h1] at h
          cases h
          obtain rfl := str_one h1
          exact .inl ⟨k, z, rx.str, ry.str, q1⟩
        | cons _ _ => simp only [h1] at h; cases h
    | _ => cases h
  | lst ds => exact tup ds (.inl rfl) (by cases d <;> exact h)
  | tup ds => exact tup ds (.inr rfl) (by cases d <;> exact h)
  | non => cases d <;> cases h
  | bl _ => cases d <;> cases h
  | int _ => cases d <;> cases h
  | dic => cases d <;> cases h
  | exc _ => cases d <;> cases h
  | fn _ => cases d <;> cases h
theorem opd_in (K : PySem.W.Frag) : OpD K (rInA K false) inF := opd_inG K false fun d e z h => by
  unfold inF at h
  cases r : inB d e with
  | none => rw [r] at h; cases h
  | some b => rw [r] at h; exact ⟨b, rfl, (Option.some.inj h).symm⟩
theorem opd_nin (K : PySem.W.Frag) : OpD K (rInA K true) ninF := opd_inG K true fun d e z h => by
  unfold ninF at h
  cases r : inB d e with
  | none => rw [r] at h; cases h
  | some b => rw [r] at h; exact ⟨b, rfl, (Option.some.inj h).symm⟩
/-! ### -a -/
def fUn {S : Type} (F : Da → Option Da) (f : Ev → Fx S Da) : Ev → Fx S Da := fun ρ => bnd (f ρ) fun x => lift (F x)
def negF : Da → Option Da
  | .int i => some (.int (-i))
  | _ => none
theorem de_neg {X : Cx} {W : Wd} {E : WX} {a : Expr} {f : Ev → Fx W.S Da} {pos : Pos} (ha : DE X W E a f) : DE X W E (.UnaryOp .USub a pos) (fUn negF f) := by
  obtain ⟨ta, pa, qa⟩ := ha.ex
  refine ⟨_, pe_un un_neg pa, fun G H σ ρ s Q S h => qa G H σ ρ s _ S ?_⟩
  unfold fUn bnd at h
  unfold EPost
  cases r1 : f ρ s with
  | no => rw [r1] at h; exact h.elim
  | er c => rw [r1] at h; exact h
  | ok z =>
    obtain ⟨d, s1⟩ := z
    rw [r1] at h
    intro v G1 H1 x1 w1 y1
    cases y1 with
    | int i => exact ⟨i, rfl, h _ G1 H1 x1 w1 (.int _)⟩
    | _ => exact h.elim
/-! ### a[b] -/
def ixF : Da → Da → Option Da
  | .lst ds, .int i => atI ds i
  | .tup ds, .int i => atI ds i
  | .str z, .int i => if z.length ≤ sizeLine then (atI z.cps.toList i).map fun c => .str ⟨#[c]⟩ else none
  | _, _ => none
theorem atI_re {K : PySem.W.Frag} {G : Hp} {vs : List V} {ds : List Da} {i : Int} {d : Da} (r : ReL K G vs ds) (h : atI ds i = some d) : ∃ v, atI vs i = some v ∧ Re K G v d := by
  unfold atI at h ⊢
  rw [← r.length] at h
  cases q : ixN vs.length i with
  | none => rw [q] at h; cases h
  | some j =>
    rw [q] at h
    obtain ⟨v, h1, h2⟩ := r.get' (show ds[j]? = some d from h)
    exact ⟨v, h1, h2⟩
theorem opd_ix (K : PySem.W.Frag) : OpD K (rIx K) ixF := by
  intro mu G H x y d e z Q s rx ry h q
  unfold ixF at h
  split at h
  · obtain ⟨p, vs, rfl, h1, r1⟩ := rx.lst s
    obtain ⟨v, h2, h3⟩ := atI_re r1 h
    exact .inl ⟨p, vs, _, v, rfl, ry.int, h1, h2, q v G H (.refl s) h3⟩
  · obtain ⟨p, vs, rfl, h1, r1⟩ := rx.tup s
    obtain ⟨v, h2, h3⟩ := atI_re r1 h
    exact .inr (.inl ⟨p, vs, _, v, rfl, ry.int, h1, h2, q v G H (.refl s) h3⟩)
  · split at h
    · rename_i zz i hl
      cases h2 : atI zz.cps.toList i with
      | none => rw [h2] at h; cases h
      | some c =>
        rw [h2] at h
        cases h
        exact .inr (.inr ⟨zz, i, c, rx.str, ry.int, hl, h2, q _ G H (.refl s) (.str _)⟩)
    · cases h
  · cases h
/-! ### a[lo:hi] -/
def cutD {α : Type} (xs : List α) (lo hi : Option Int) : List α := (xs.drop (HT.sIx xs.length 0 lo)).take (HT.sIx xs.length xs.length hi - HT.sIx xs.length 0 lo)
def slF (d : Da) (lo hi : Option Int) : Option Da := match d with
  | .lst ds => some (.lst (cutD ds lo hi))
  | .tup ds => some (.tup (cutD ds lo hi))
  | .str z => if z.length ≤ sizeLine then some (.str (cutS z lo hi)) else none
  | _ => none
def fPart {S : Type} (f : Option (Ev → Fx S Da)) : Ev → Fx S (Option Int) := match f with
  | none => fun _ => Sw.ret none
  | some f => fun ρ => bnd (f ρ) fun d => match d with
    | .int i => Sw.ret (some i)
    | _ => fun _ => .no
def PartPost (K : PySem.W.Frag) (W : Wd) (E : WX) (G H : Hp) (r : Rp (Option Int × W.S)) (Q : Option Int → Hp → Prop) : Prop := match r with
  | .ok (o, s') => ∀ G' H', Xt W.mu G H G' H' → W.rel s' G' H' → Q o H'
  | .er c => ∀ G' H', Xt W.mu G H G' H' → E c H'
  | .no => False
structure DP (X : Cx) (W : Wd) (E : WX) (e : Option Expr) (f : Ev → Fx W.S (Option Int)) : Prop where
  ex : ∃ te, PO X e te ∧ ∀ G H σ ρ s (Q : Option Int → Hp → Prop), Stt X.K W G H σ ρ s → PartPost X.K W E G H (f ρ s) Q → te σ H Q
section
variable {X : Cx} {W : Wd} {E : WX} {e : Expr} {f : Ev → Fx W.S Da}
theorem dp_none : DP X W E none (fPart (S := W.S) none) := ⟨tNoPart, po_none, fun G H σ ρ s Q S h => h G H (.refl S.in_) S.rel⟩
theorem dp_some (h : DE X W E e f) : DP X W E (some e) (fPart (some f)) := by
  obtain ⟨te, p, q⟩ := h.ex
  refine ⟨_, po_some p, fun G H σ ρ s Q S h => q G H σ ρ s _ S ?_⟩
  simp only [fPart, bnd] at h
  unfold EPost
  cases r1 : f ρ s with
  | no => rw [r1] at h; exact h.elim
  | er c => rw [r1] at h; exact h
  | ok z =>
    obtain ⟨d, s1⟩ := z
    rw [r1] at h
    intro v G1 H1 x1 w1 y1
    cases y1 with
    | int i => exact ⟨i, rfl, h G1 H1 x1 w1⟩
    | _ => exact h.elim
def fSl {S : Type} (f : Ev → Fx S Da) (l u : Ev → Fx S (Option Int)) : Ev → Fx S Da := fun ρ => bnd (f ρ) fun d => bnd (l ρ) fun lo => bnd (u ρ) fun hi => lift (slF d lo hi)
theorem ReL.cut {K : PySem.W.Frag} {G : Hp} {vs : List V} {ds : List Da} (r : ReL K G vs ds) (lo hi : Option Int) : ReL K G (cutV vs lo hi) (cutD ds lo hi) := by
  unfold cutV cutD
  rw [r.length]
  exact (r.drop _).take _
theorem de_slice {lo hi : Option Expr} {l u : Ev → Fx W.S (Option Int)} {p2 pos : Pos} (he : DO X W E e f) (hl : DP X W E lo l) (hu : DP X W E hi u) : DE X W E (.Subscript e (.Slice lo hi none p2) pos) (fSl f l u) := by
  obtain ⟨te, pe, qe⟩ := he.ex
  obtain ⟨tl, pl, ql⟩ := hl.ex
  obtain ⟨tu, pu, qu⟩ := hu.ex
  refine ⟨_, pe_slice ((sl_list.or sl_tupA).or sl_str) pe pl pu, fun G H σ ρ s Q S h => qe G H σ ρ s _ S ?_⟩
  simp only [fSl, bnd] at h
  unfold OPost
  cases r1 : f ρ s with
  | no => rw [r1] at h; exact h.elim
  | er c => rw [r1] at h; exact h
  | ok z =>
    obtain ⟨d, s1⟩ := z
    rw [r1] at h
    intro v G1 H1 x1 w1 y1
    have S1 := S.xt x1 w1
    refine ql G1 H1 σ ρ s1 _ S1 ?_
    simp only at h
    unfold PartPost
    cases r2 : l ρ s1 with
    | no => rw [r2] at h; exact h.elim
    | er c => rw [r2] at h; exact fun G' H' x => h G' H' (x1.trans x)
    | ok z =>
      obtain ⟨a, s2⟩ := z
      rw [r2] at h
      intro G2 H2 x2 w2
      have S2 := S1.xt x2 w2
      refine qu G2 H2 σ ρ s2 _ S2 ?_
      simp only at h
      unfold PartPost
      cases r3 : u ρ s2 with
      | no => rw [r3] at h; exact h.elim
      | er c => rw [r3] at h; exact fun G' H' x => h G' H' ((x1.trans x2).trans x)
      | ok z =>
        obtain ⟨b, s3⟩ := z
        rw [r3] at h
        intro G3 H3 x3 w3
        have S3 := S2.xt x3 w3
        have y3 := (y1.xt x2).xt x3
        simp only at h
        cases r4 : slF d a b with
        | none => rw [r4] at h; exact h.elim
        | some w =>
          rw [r4] at h
          have fin : ∀ v G' H', Xp G3 H3 G' H' → Re X.K G' v w → Q v H' := fun v G' H' xp y => h v G' H' (((x1.trans x2).trans x3).trans xp.xt) (S3.keep xp) y
          cases d with
          | lst ds =>
            cases r4
            obtain ⟨p, vs, rfl, h1, rl⟩ := y3.lst S3.in_
            refine .inl (.inl ⟨p, vs, rfl, h1, fun t ht => ?_⟩)
            have xp : Xp G3 H3 _ _ := Xp.new_ (o := .lst (cutV vs a b)) S3.in_ ht
            exact fin _ _ _ xp (.lst (SqX.of upd_same) ((rl.cut a b).mono xp.sub))
          | tup ds =>
            cases r4
            obtain ⟨p, vs, rfl, h1, rl⟩ := y3.tup S3.in_
            refine .inl (.inr ⟨p, vs, rfl, h1, fun e => ?_, fun _ t ht => ?_⟩)
            · have ec : cutD ds a b = ds := by
                unfold cutD
                rw [rl.length] at e
                rw [e.1, e.2]
                simp
              rw [ec] at fin
              exact fin _ _ _ (.refl S3.in_) (y3.re fun _ => by simp)
            · have xp : Xp G3 H3 _ _ := Xp.new_ (o := .tup (cutV vs a b)) S3.in_ ht
              exact fin _ _ _ xp (.tup (SqT.of upd_same) ((rl.cut a b).mono xp.sub))
          | str z =>
            have r5 : (if z.length ≤ sizeLine then some (Da.str (cutS z a b)) else none) = some w := r4
            by_cases hz : z.length ≤ sizeLine
            · rw [if_pos hz] at r5
              cases r5
              exact .inr ⟨z, y3.str, hz, fin _ _ _ (.refl S3.in_) (.str _)⟩
            · rw [if_neg hz] at r5
              cases r5
          | _ => cases r4
end
end Sw

set_option Elab.async false
set_option linter.all false
set_option maxRecDepth 100000
set_option maxHeartbeats 2000000
/-! SwC: calls of built-ins, what is walked. -/
namespace Sw
open PySem PySem.Spec PyProof.Rows L2

section
variable {K : PySem.W.Frag} {mu : List Addr} {G H : Hp}
theorem ReOL.one {vs : List V} {d : Da} (h : ReOL K mu G H vs [d]) : ∃ v, vs = [v] ∧ ReO K mu G H v d := by
  cases h with
  | cons a b => cases b; exact ⟨_, rfl, a⟩
theorem ReOL.two {vs : List V} {d e : Da} (h : ReOL K mu G H vs [d, e]) : ∃ v w, vs = [v, w] ∧ ReO K mu G H v d ∧ ReO K mu G H w e := by
  cases h with
  | cons a b =>
    obtain ⟨w, rfl, c⟩ := b.one
    exact ⟨_, _, rfl, a, c⟩
end
def intsD : List Da → Option (List Int)
  | [] => some []
  | .int i :: ds => (intsD ds).map (i :: ·)
  | _ => none
def boolsD : List Da → Option (List Bool)
  | [] => some []
  | .bl i :: ds => (boolsD ds).map (i :: ·)
  | _ => none
def strsD : List Da → Option (List Str)
  | [] => some []
  | .str i :: ds => (strsD ds).map (i :: ·)
  | _ => none
theorem intsD_eq : ∀ {ds : List Da} {ns : List Int}, intsD ds = some ns → ds = ns.map Da.int
  | [], _, h => by unfold intsD at h; cases h; rfl
  | .int i :: ds, _, h => by
    unfold intsD at h
    cases q : intsD ds with
    | none => rw [q] at h; cases h
    | some ns => rw [q] at h; cases h; rw [intsD_eq q]; rfl
  | .non :: _, _, h => by unfold intsD at h; cases h
  | .bl _ :: _, _, h => by unfold intsD at h; cases h
  | .str _ :: _, _, h => by unfold intsD at h; cases h
  | .lst _ :: _, _, h => by unfold intsD at h; cases h
  | .tup _ :: _, _, h => by unfold intsD at h; cases h
  | .dic :: _, _, h => by unfold intsD at h; cases h
  | .exc _ :: _, _, h => by unfold intsD at h; cases h
  | .fn _ :: _, _, h => by unfold intsD at h; cases h
theorem boolsD_eq : ∀ {ds : List Da} {ns : List Bool}, boolsD ds = some ns → ds = ns.map Da.bl
  | [], _, h => by unfold boolsD at h; cases h; rfl
  | .bl i :: ds, _, h => by
    unfold boolsD at h
    cases q : boolsD ds with
    | none => rw [q] at h; cases h
    | some ns => rw [q] at h; cases h; rw [boolsD_eq q]; rfl
  | .non :: _, _, h => by unfold boolsD at h; cases h
  | .int _ :: _, _, h => by unfold boolsD at h; cases h
  | .str _ :: _, _, h => by unfold boolsD at h; cases h
  | .lst _ :: _, _, h => by unfold boolsD at h; cases h
  | .tup _ :: _, _, h => by unfold boolsD at h; cases h
  | .dic :: _, _, h => by unfold boolsD at h; cases h
  | .exc _ :: _, _, h => by unfold boolsD at h; cases h
  | .fn _ :: _, _, h => by unfold boolsD at h; cases h
theorem strsD_eq : ∀ {ds : List Da} {ns : List Str}, strsD ds = some ns → ds = ns.map Da.str
  | [], _, h => by unfold strsD at h; cases h; rfl
  | .str i :: ds, _, h => by
    unfold strsD at h
    cases q : strsD ds with
    | none => rw [q] at h; cases h
    | some ns => rw [q] at h; cases h; rw [strsD_eq q]; rfl
  | .non :: _, _, h => by unfold strsD at h; cases h
  | .int _ :: _, _, h => by unfold strsD at h; cases h
  | .bl _ :: _, _, h => by unfold strsD at h; cases h
  | .lst _ :: _, _, h => by unfold strsD at h; cases h
  | .tup _ :: _, _, h => by unfold strsD at h; cases h
  | .dic :: _, _, h => by unfold strsD at h; cases h
  | .exc _ :: _, _, h => by unfold strsD at h; cases h
  | .fn _ :: _, _, h => by unfold strsD at h; cases h
theorem intsD_map : ∀ ns : List Int, intsD (ns.map Da.int) = some ns
  | [] => rfl
  | n :: ns => by show (intsD (ns.map Da.int)).map (n :: ·) = _; rw [intsD_map ns]; rfl
theorem boolsD_map : ∀ ns : List Bool, boolsD (ns.map Da.bl) = some ns
  | [] => rfl
  | n :: ns => by show (boolsD (ns.map Da.bl)).map (n :: ·) = _; rw [boolsD_map ns]; rfl
theorem strsD_map : ∀ ns : List Str, strsD (ns.map Da.str) = some ns
  | [] => rfl
  | n :: ns => by show (strsD (ns.map Da.str)).map (n :: ·) = _; rw [strsD_map ns]; rfl

/-! ### len, abs, min, max, int, str, ord -/
def lenF : List Da → Option Da
  | [.str z] => if z.length ≤ sizeLine then some (.int z.length) else none
  | [.lst ds] => some (.int ds.length)
  | [.tup ds] => some (.int ds.length)
  | _ => none
theorem cal_len (K : PySem.W.Frag) : CalD K (fun xs H Q => ∃ x n, xs = [x] ∧ LenV K x H n ∧ Q (.int (n : Nat)) H) lenF := by
  intro mu G H vs ds z Q s r h q
  unfold lenF at h
  split at h
  · split at h
    · rename_i zz hz
      cases h
      obtain ⟨v, rfl, a⟩ := r.one
      obtain rfl := a.str
      exact ⟨_, zz.length, rfl, ⟨hz, rfl⟩, q _ G H (.refl s) (.int _)⟩
    · cases h
  · cases h
    obtain ⟨v, rfl, a⟩ := r.one
    obtain ⟨p, vs, rfl, h1, r1⟩ := a.lst s
    exact ⟨_, vs.length, rfl, .inl ⟨vs, h1, rfl⟩, by rw [r1.length]; exact q _ G H (.refl s) (.int _)⟩
  · cases h
    obtain ⟨v, rfl, a⟩ := r.one
    obtain ⟨p, vs, rfl, h1, r1⟩ := a.tup s
    exact ⟨_, vs.length, rfl, .inr ⟨vs, h1, rfl⟩, by rw [r1.length]; exact q _ G H (.refl s) (.int _)⟩
  · cases h
def absF : List Da → Option Da
  | [.int i] => some (.int (if i < 0 then -i else i))
  | _ => none
theorem cal_abs (K : PySem.W.Frag) : CalD K (fun xs H Q => ∃ i, xs = [.int i] ∧ Q (.int (if i < 0 then -i else i)) H) absF := by
  intro mu G H vs ds z Q s r h q
  unfold absF at h
  split at h
  · cases h
    obtain ⟨v, rfl, a⟩ := r.one
    obtain rfl := a.int
    exact ⟨_, rfl, q _ G H (.refl s) (.int _)⟩
  · cases h
def minF : List Da → Option Da
  | [.int i, .int j] => some (.int (if j < i then j else i))
  | _ => none
theorem cal_min (K : PySem.W.Frag) : CalD K (fun xs H Q => ∃ i j, xs = [.int i, .int j] ∧ Q (.int (if j < i then j else i)) H) minF := by
  intro mu G H vs ds z Q s r h q
  unfold minF at h
  split at h
  · cases h
    obtain ⟨v, w, rfl, a, b⟩ := r.two
    obtain rfl := a.int
    obtain rfl := b.int
    exact ⟨_, _, rfl, q _ G H (.refl s) (.int _)⟩
  · cases h
def maxF : List Da → Option Da
  | [.int i, .int j] => some (.int (if j > i then j else i))
  | _ => none
theorem cal_max (K : PySem.W.Frag) : CalD K (fun xs H Q => ∃ i j, xs = [.int i, .int j] ∧ Q (.int (if j > i then j else i)) H) maxF := by
  intro mu G H vs ds z Q s r h q
  unfold maxF at h
  split at h
  · cases h
    obtain ⟨v, w, rfl, a, b⟩ := r.two
    obtain rfl := a.int
    obtain rfl := b.int
    exact ⟨_, _, rfl, q _ G H (.refl s) (.int _)⟩
  · cases h
def intF : List Da → Option Da
  | [.int i] => some (.int i)
  | [.str a] => if a.length ≤ 640 then (PySem.intText? a).map .int else none
  | _ => none
def rInt : List V → Hp → VK → Prop := fun xs H Q => ((∃ i, xs = [.int i] ∧ Q (.int i) H) ∨ ∃ k, xs = [.bl k] ∧ Q (.int (if k then 1 else 0)) H) ∨ ∃ a n, xs = [.str a] ∧ PySem.intText? a = some n ∧ a.length ≤ 640 ∧ Q (.int n) H
theorem call_intA {X : Cx} : CallR X (.type "int") rInt := CallR.or call_int1 call_int_str
theorem cal_int (K : PySem.W.Frag) : CalD K rInt intF := by
  intro mu G H vs ds z Q s r h q
  unfold intF at h
  split at h
  · cases h
    obtain ⟨v, rfl, a⟩ := r.one
    obtain rfl := a.int
    exact .inl (.inl ⟨_, rfl, q _ G H (.refl s) (.int _)⟩)
  · split at h
    · rename_i a hl
      cases e : PySem.intText? a with
      | none => rw [e] at h; cases h
      | some n =>
        rw [e] at h
        cases h
        obtain ⟨v, rfl, b⟩ := r.one
        obtain rfl := b.str
        exact .inr ⟨a, n, rfl, e, hl, q _ G H (.refl s) (.int _)⟩
    · cases h
  · cases h
def strF : List Da → Option Da
  | [.int i] => if i.natAbs.log2 < 1920 then some (.str (toString i)) else none
  | _ => none
theorem cal_str (K : PySem.W.Frag) : CalD K (fun xs H Q => ∃ i, xs = [.int i] ∧ i.natAbs.log2 < 1920 ∧ Q (.str (toString i)) H) strF := by
  intro mu G H vs ds z Q s r h q
  unfold strF at h
  split at h
  · split at h
    · cases h
      obtain ⟨v, rfl, a⟩ := r.one
      obtain rfl := a.int
      exact ⟨_, rfl, by assumption, q _ G H (.refl s) (.str _)⟩
    · cases h
  · cases h
def ordF : List Da → Option Da
  | [.str x] => if x.length = 1 then some (.int (x.cps.getD 0 0 : Nat)) else none
  | _ => none
theorem cal_ord (K : PySem.W.Frag) : CalD K (fun xs H Q => ∃ x, xs = [.str x] ∧ x.length = 1 ∧ Q (.int (x.cps.getD 0 0 : Nat)) H) ordF := by
  intro mu G H vs ds z Q s r h q
  unfold ordF at h
  split at h
  · split at h
    · cases h
      obtain ⟨v, rfl, a⟩ := r.one
      obtain rfl := a.str
      exact ⟨_, rfl, by assumption, q _ G H (.refl s) (.int _)⟩
    · cases h
  · cases h
/-! ### sum, all, any of a list; tuple(..) -/
def sumF : List Da → Option Da
  | [.lst ds] => (intsD ds).map fun ns => .int ns.sum
  | _ => none
theorem cal_sum (K : PySem.W.Frag) : CalD K (rSum K) sumF := by
  intro mu G H vs ds z Q s r h q
  unfold sumF at h
  split at h
  · rename_i ds
    cases e : intsD ds with
    | none => rw [e] at h; cases h
    | some ns =>
      rw [e] at h
      cases h
      obtain rfl := intsD_eq e
      obtain ⟨v, rfl, a⟩ := r.one
      obtain ⟨p, vs, rfl, h1, r1⟩ := a.lst s
      obtain rfl := r1.ints
      exact ⟨p, ns, rfl, h1, q _ G H (.refl s) (.int _)⟩
  · cases h
def allF : List Da → Option Da
  | [.lst ds] => (boolsD ds).map fun bs => .bl (bs.all id)
  | _ => none
theorem cal_all (K : PySem.W.Frag) : CalD K (rAll K) allF := by
  intro mu G H vs ds z Q s r h q
  unfold allF at h
  split at h
  · rename_i ds
    cases e : boolsD ds with
    | none => rw [e] at h; cases h
    | some ns =>
      rw [e] at h
      cases h
      obtain rfl := boolsD_eq e
      obtain ⟨v, rfl, a⟩ := r.one
      obtain ⟨p, vs, rfl, h1, r1⟩ := a.lst s
      obtain rfl := r1.bools
      exact ⟨p, ns, rfl, h1, q _ G H (.refl s) (.bl _)⟩
  · cases h
def anyF : List Da → Option Da
  | [.lst ds] => (boolsD ds).map fun bs => .bl (bs.any id)
  | _ => none
theorem cal_any (K : PySem.W.Frag) : CalD K (rAny K) anyF := by
  intro mu G H vs ds z Q s r h q
  unfold anyF at h
  split at h
  · rename_i ds
    cases e : boolsD ds with
    | none => rw [e] at h; cases h
    | some ns =>
      rw [e] at h
      cases h
      obtain rfl := boolsD_eq e
      obtain ⟨v, rfl, a⟩ := r.one
      obtain ⟨p, vs, rfl, h1, r1⟩ := a.lst s
      obtain rfl := r1.bools
      exact ⟨p, ns, rfl, h1, q _ G H (.refl s) (.bl _)⟩
  · cases h
def tupF : List Da → Option Da
  | [.lst ds] => some (.tup ds)
  | [.tup ds] => some (.tup ds)
  | _ => none
theorem cal_tup (K : PySem.W.Frag) : CalD K (fun xs H Q => ∃ p ys, xs = [.ref p] ∧ ((SqL K H p ys ∧ ∀ l, H l = none → Q (.ref l) (upd H l (.tup ys))) ∨ (SqT K H p ys ∧ Q (.ref p) H))) tupF := by
  intro mu G H vs ds z Q s r h q
  unfold tupF at h
  split at h
  · cases h
    obtain ⟨v, rfl, a⟩ := r.one
    obtain ⟨p, vs, rfl, h1, r1⟩ := a.lst s
    refine ⟨p, vs, rfl, .inl ⟨h1, fun l hl => ?_⟩⟩
    have xp : Xp G H _ _ := Xp.new_ (o := .tup vs) s hl
    exact q _ _ _ xp (.tup (SqT.of upd_same) (r1.mono xp.sub))
  · cases h
    obtain ⟨v, rfl, a⟩ := r.one
    have rd := a.re (fun ds => by simp)
    obtain ⟨p, vs, rfl, h1, r1⟩ := a.tup s
    exact ⟨p, vs, rfl, .inr ⟨h1, q _ G H (.refl s) rd⟩⟩
  · cases h
/-! ### list(..): a new list -/
section
variable {X : Cx} {W : Wd} {E : WX} {e : Expr} {es : List Expr} {f : Ev → Fx W.S Da} {h : Ev → Fx W.S (List Da)} {pos p : Pos}
/-- a built-in that gives a new list of stable items -/
def ClnD (K : PySem.W.Frag) (r : List V → Hp → VK → Prop) (F : List Da → Option (List Da)) : Prop := ∀ (mu : List Addr) (G H : Hp) (vs : List V) (ds zs : List Da) (Q : VK), Same G H → ReOL K mu G H vs ds → F ds = some zs →
  (∀ l ws, H l = none → ReL K G ws zs → Q (.ref l) (upd H l (.lst ws))) → r vs H Q
def fAppN {S : Type} (F : List Da → Option (List Da)) (h : Ev → Fx S (List Da)) : Ev → Fx S (List Da) := fun ρ => bnd (h ρ) fun x => lift (F x)
theorem appN_post {r : List V → Hp → VK → Prop} {F : List Da → Option (List Da)} {ta : TA} (hr : ClnD X.K r F)
    (qa : ∀ G H σ ρ s (Q : List V → Hp → Prop), Stt X.K W G H σ ρ s → OAPost X.K W E G H (h ρ s) Q → ta σ H Q) {G H : Hp} {σ : L2.St} {ρ : Ev} {s : W.S} {Q : VK} (S : Stt X.K W G H σ ρ s)
    (h0 : NPost X.K W E G H (fAppN F h ρ s) Q) : tCB r ta σ H Q := by
  unfold fAppN bnd at h0
  refine qa G H σ ρ s _ S ?_
  unfold OAPost
  cases r1 : h ρ s with
  | no => rw [r1] at h0; exact h0.elim
  | er c => rw [r1] at h0; exact h0
  | ok z =>
    obtain ⟨ds, s1⟩ := z
    rw [r1] at h0
    intro vs G1 H1 x1 w1 y1
    simp only at h0
    have S1 := S.xt x1 w1
    cases r3 : F ds with
    | none => rw [r3] at h0; exact h0.elim
    | some zs =>
      rw [r3] at h0
      refine hr W.mu G1 H1 vs ds zs Q S1.in_ y1 r3 fun l ws hl rw' => ?_
      have xp : Xp G1 H1 G1 _ := Xp.new0 (o := .lst ws) S1.in_ hl
      refine h0 l ws G1 _ (x1.trans xp.xt) (S1.keep xp) upd_same (S1.in_.free hl) ?_ rw'
      cases q : H l with
      | none => rfl
      | some o => exact absurd hl (x1.dom l (by rw [q]; simp))
theorem dn_callTy {T : String} {x : Str} {r : List V → Hp → VK → Prop} {F : List Da → Option (List Da)} (hc : CallR X (.type T) r) (hr : ClnD X.K r F) (hg : Gl X x) (hm : X.mg x = none) (hv : bootBuiltins x = some (.type T)) (ha : DOA X W E (e :: es) h)
    (hn : x ≠ "__name__" := by decide) (hdb : (x == ("__debug__" : Str)) = false := by decide)
    (he : starEach (e :: es) X.env = (false, eval e X.env) :: starEach es X.env := by rfl) (hpl : (backTo pos (starEach es X.env)).any (·.1) = false := by rfl) : DN X W E (.Call (.Name x p) (e :: es) [] pos) (fAppN F h) := by
  obtain ⟨ta, pa, qa⟩ := ha.ex
  exact ⟨_, pe_callTy hc hg hm hv pa hn hdb he hpl, fun G H σ ρ s Q S h0 => appN_post hr qa S h0⟩
theorem dn_callB {id : String} {x : Str} {r : List V → Hp → VK → Prop} {F : List Da → Option (List Da)} (hc : CallR X (.builtin id) r) (hr : ClnD X.K r F) (hg : Gl X x) (hm : X.mg x = none) (hv : bootBuiltins x = some (.builtin id)) (ha : DOA X W E (e :: es) h)
    (hn : x ≠ "__name__" := by decide) (hdb : (x == ("__debug__" : Str)) = false := by decide)
    (he : starEach (e :: es) X.env = (false, eval e X.env) :: starEach es X.env := by rfl) (hpl : (backTo pos (starEach es X.env)).any (·.1) = false := by rfl) : DN X W E (.Call (.Name x p) (e :: es) [] pos) (fAppN F h) := by
  obtain ⟨ta, pa, qa⟩ := ha.ex
  exact ⟨_, pe_callB hc hg hm hv pa hn hdb he hpl, fun G H σ ρ s Q S h0 => appN_post hr qa S h0⟩
end
def listF : List Da → Option (List Da)
  | [.lst ds] => some ds
  | [.tup ds] => some ds
  | _ => none
theorem cln_list (K : PySem.W.Frag) : ClnD K (fun xs H Q => ∃ p ys, xs = [.ref p] ∧ (SqL K H p ys ∨ SqT K H p ys) ∧ ∀ l, H l = none → Q (.ref l) (upd H l (.lst ys))) listF := by
  intro mu G H vs ds z Q s r h q
  unfold listF at h
  split at h
  · cases h
    obtain ⟨v, rfl, a⟩ := r.one
    obtain ⟨p, vs, rfl, h1, r1⟩ := a.lst s
    exact ⟨p, vs, rfl, .inl h1, fun l hl => q l vs hl r1⟩
  · cases h
    obtain ⟨v, rfl, a⟩ := r.one
    obtain ⟨p, vs, rfl, h1, r1⟩ := a.tup s
    exact ⟨p, vs, rfl, .inr h1, fun l hl => q l vs hl r1⟩
  · cases h
/-- the one sorted list -/
def insI (x : Int) : List Int → List Int
  | [] => [x]
  | y :: ys => if x ≤ y then x :: y :: ys else y :: insI x ys
def srtI : List Int → List Int
  | [] => []
  | x :: xs => insI x (srtI xs)
theorem insI_perm (x : Int) : ∀ ys : List Int, (insI x ys).Perm (x :: ys)
  | [] => .refl _
  | y :: ys => by
    unfold insI
    split
    · exact .refl _
    · exact ((insI_perm x ys).cons y).trans (.swap x y ys)
theorem srtI_perm : ∀ xs : List Int, (srtI xs).Perm xs
  | [] => .refl _
  | x :: xs => (insI_perm x (srtI xs)).trans ((srtI_perm xs).cons x)
theorem insI_srt (x : Int) : ∀ ys : List Int, ys.Pairwise (· ≤ ·) → (insI x ys).Pairwise (· ≤ ·)
  | [], _ => List.pairwise_singleton _ _
  | y :: ys, h => by
    obtain ⟨h1, h2⟩ := List.pairwise_cons.mp h
    unfold insI
    split
    · rename_i hxy
      exact List.pairwise_cons.mpr ⟨fun z hz => by
        rcases List.mem_cons.mp hz with rfl | hz
        · exact hxy
        · exact Int.le_trans hxy (h1 z hz), h⟩
    · rename_i hxy
      refine List.pairwise_cons.mpr ⟨fun z hz => ?_, insI_srt x ys h2⟩
      rcases List.mem_cons.mp ((insI_perm x ys).mem_iff.mp hz) with rfl | hz
      · omega
      · exact h1 z hz
theorem srtI_srt : ∀ xs : List Int, (srtI xs).Pairwise (· ≤ ·)
  | [] => .nil
  | x :: xs => insI_srt x _ (srtI_srt xs)
theorem srt_one : ∀ {xs ys : List Int}, xs.Perm ys → xs.Pairwise (· ≤ ·) → ys.Pairwise (· ≤ ·) → xs = ys
  | [], ys, p, _, _ => by rw [p.symm.eq_nil]
  | x :: xs, [], p, _, _ => absurd p.eq_nil (by simp)
  | x :: xs, y :: ys, p, h1, h2 => by
    obtain ⟨a1, a2⟩ := List.pairwise_cons.mp h1
    obtain ⟨b1, b2⟩ := List.pairwise_cons.mp h2
    have e : x = y := by
      have m1 : x ∈ y :: ys := p.mem_iff.mp List.mem_cons_self
      have m2 : y ∈ x :: xs := p.mem_iff.mpr List.mem_cons_self
      rcases List.mem_cons.mp m1 with q1 | q1
      · exact q1
      · rcases List.mem_cons.mp m2 with q2 | q2
        · exact q2.symm
        · exact Int.le_antisymm (a1 y q2) (b1 x q1)
    subst e
    rw [srt_one (List.Perm.cons_inv p) a2 b2]
def sortF : List Da → Option (List Da)
  | [.lst ds] => (intsD ds).map fun ns => (srtI ns).map .int
  | _ => none
theorem cln_sorted (K : PySem.W.Frag) : ClnD K (rSortedI K) sortF := by
  intro mu G H vs ds z Q s r h q
  unfold sortF at h
  split at h
  · rename_i ds
    cases e : intsD ds with
    | none => rw [e] at h; cases h
    | some ns =>
      rw [e] at h
      cases h
      obtain rfl := intsD_eq e
      obtain ⟨v, rfl, a⟩ := r.one
      obtain ⟨p, vs, rfl, h1, r1⟩ := a.lst s
      obtain rfl := r1.ints
      refine ⟨p, ns, rfl, h1, fun ns' l pm sr hl => ?_⟩
      have e2 : ns' = srtI ns := srt_one (pm.trans (srtI_perm ns).symm) sr (srtI_srt ns)
      rw [e2]
      exact q l _ hl (ReL.of_ints _)
  · cases h

/-! ### what is walked: lists, tuples, texts, ranges -/
section
variable {X : Cx} {W : Wd} {E : WX} {e tg : Expr} {es : List Expr} {f : Ev → Fx W.S Da} {h : Ev → Fx W.S (List Da)} {pos p : Pos}
theorem ito_list {K : PySem.W.Frag} {G : Hp} {a : Addr} {vs : List V} {ds : List Da} (h : SqL K G a vs) (r : ReL K G vs ds) : ItOk K (Itl K a) ds G where
  goes := fun i G2 H2 hi s1 s2 => ⟨vs, vs[i]'(by rw [r.length]; exact hi), s2.seq (s1.seq h), by simp [r.length, hi]⟩
  stops := fun G2 H2 s1 s2 => ⟨vs, s2.seq (s1.seq h), by rw [r.length]; exact Nat.le_refl _⟩
  yields := fun i G2 H2 x H3 hi s1 s2 y => by
    obtain ⟨rfl, y⟩ := y
    obtain ⟨d, h1, h2⟩ := r.get (y vs (s2.seq (s1.seq h)))
    exact ⟨G2, d, .refl s2, h1, h2.mono s1⟩
theorem ito_tup {K : PySem.W.Frag} {G : Hp} {a : Addr} {vs : List V} {ds : List Da} (h : SqT K G a vs) (r : ReL K G vs ds) : ItOk K (Itt K a) ds G where
  goes := fun i G2 H2 hi s1 s2 => ⟨vs, vs[i]'(by rw [r.length]; exact hi), same_t s2 (same_t s1 h), by simp [r.length, hi]⟩
  stops := fun G2 H2 s1 s2 => ⟨vs, same_t s2 (same_t s1 h), by rw [r.length]; exact Nat.le_refl _⟩
  yields := fun i G2 H2 x H3 hi s1 s2 y => by
    obtain ⟨rfl, y⟩ := y
    obtain ⟨d, h1, h2⟩ := r.get (y vs (same_t s2 (same_t s1 h)))
    exact ⟨G2, d, .refl s2, h1, h2.mono s1⟩
def rngD (lo : Int) (n : Nat) : List Da := (List.range n).map fun k => .int (lo + (k : Nat))
theorem rngD_len (lo : Int) (n : Nat) : (rngD lo n).length = n := by simp [rngD]
theorem ito_rng {K : PySem.W.Frag} {G : Hp} (lo : Int) (n : Nat) : ItOk K (Itr lo n) (rngD lo n) G where
  goes := fun i G2 H2 hi s1 s2 => by rw [rngD_len] at hi; exact hi
  stops := fun G2 H2 s1 s2 => by rw [rngD_len]; exact Nat.le_refl _
  yields := fun i G2 H2 x H3 hi s1 s2 y => by
    obtain ⟨rfl, rfl⟩ := y
    rw [rngD_len] at hi
    exact ⟨G2, .int (lo + (i : Nat)), .refl s2, by simp [rngD, hi], .int _⟩
def chrD (z : Str) : List Da := z.cps.toList.map fun c => .str ⟨#[c]⟩
theorem ito_str {K : PySem.W.Frag} {G : Hp} (z : Str) : ItOk K (Its z) (chrD z) G where
  goes := fun i G2 H2 hi s1 s2 => by
    have hi : i < z.cps.size := by simpa [chrD] using hi
    exact hi
  stops := fun G2 H2 s1 s2 => by
    have e : (chrD z).length = z.cps.size := by simp [chrD]
    rw [e]
    exact Nat.le_refl _
  yields := fun i G2 H2 x H3 hi s1 s2 y => by
    obtain ⟨rfl, c, hc, rfl⟩ := y
    refine ⟨G2, .str ⟨#[c]⟩, .refl s2, ?_, .str _⟩
    simp only [chrD, List.getElem?_map, Array.getElem?_toList]
    rw [hc]
    rfl
/-- the items of a list -/
def fItems {S : Type} (f : Ev → Fx S Da) : Ev → Fx S (List Da) := fun ρ => bnd (f ρ) fun d => match d with
  | .lst ds => Sw.ret ds
  | _ => fun _ => .no
def fItemsT {S : Type} (f : Ev → Fx S Da) : Ev → Fx S (List Da) := fun ρ => bnd (f ρ) fun d => match d with
  | .tup ds => Sw.ret ds
  | _ => fun _ => .no
def fItemsS {S : Type} (f : Ev → Fx S Da) : Ev → Fx S (List Da) := fun ρ => bnd (f ρ) fun d => match d with
  | .str z => Sw.ret (chrD z)
  | _ => fun _ => .no
theorem di_list (he : DE X W E e f) : DI X W E tg e (fItems f) := by
  obtain ⟨te, pe, qe⟩ := he.ex
  refine ⟨_, pi_list pe, fun G H σ ρ s R S h0 => qe G H σ ρ s _ S ?_⟩
  simp only [fItems, bnd] at h0
  unfold EPost
  cases r1 : f ρ s with
  | no => rw [r1] at h0; exact h0.elim
  | er c => rw [r1] at h0; exact h0
  | ok z =>
    obtain ⟨d, s1⟩ := z
    rw [r1] at h0
    intro v G1 H1 x1 w1 y1
    cases y1 with
    | lst q r => exact ⟨_, rfl, ⟨_, x1.in_.seq q.sq⟩, h0 _ G1 H1 x1 w1 (ito_list q.sq r)⟩
    | _ => exact h0.elim
theorem di_tup (he : DE X W E e f) : DI X W E tg e (fItemsT f) := by
  obtain ⟨te, pe, qe⟩ := he.ex
  refine ⟨_, pi_tup pe, fun G H σ ρ s R S h0 => qe G H σ ρ s _ S ?_⟩
  simp only [fItemsT, bnd] at h0
  unfold EPost
  cases r1 : f ρ s with
  | no => rw [r1] at h0; exact h0.elim
  | er c => rw [r1] at h0; exact h0
  | ok z =>
    obtain ⟨d, s1⟩ := z
    rw [r1] at h0
    intro v G1 H1 x1 w1 y1
    cases y1 with
    | tup q r => exact ⟨_, rfl, ⟨_, same_t x1.in_ q⟩, h0 _ G1 H1 x1 w1 (ito_tup q r)⟩
    | _ => exact h0.elim
theorem di_str (he : DE X W E e f) : DI X W E tg e (fItemsS f) := by
  obtain ⟨te, pe, qe⟩ := he.ex
  refine ⟨_, pi_str pe, fun G H σ ρ s R S h0 => qe G H σ ρ s _ S ?_⟩
  simp only [fItemsS, bnd] at h0
  unfold EPost
  cases r1 : f ρ s with
  | no => rw [r1] at h0; exact h0.elim
  | er c => rw [r1] at h0; exact h0
  | ok z =>
    obtain ⟨d, s1⟩ := z
    rw [r1] at h0
    intro v G1 H1 x1 w1 y1
    cases y1 with
    | str z => exact ⟨z, rfl, h0 _ G1 H1 x1 w1 (ito_str z)⟩
    | _ => exact h0.elim
def smallR (j : Int) : Bool := decide (-(2 ^ 62) ≤ j) && decide (j < 2 ^ 62)
def fRng1 {S : Type} (f : Ev → Fx S (List Da)) : Ev → Fx S (List Da) := fun ρ => bnd (f ρ) fun ds => match ds with
  | [.int j] => if smallR j = true then Sw.ret (rngD 0 j.toNat) else fun _ => .no
  | _ => fun _ => .no
def fRng2 {S : Type} (f : Ev → Fx S (List Da)) : Ev → Fx S (List Da) := fun ρ => bnd (f ρ) fun ds => match ds with
  | [.int i, .int j] => if smallR i = true ∧ smallR j = true then Sw.ret (rngD i (j - i).toNat) else fun _ => .no
  | _ => fun _ => .no
theorem smallR_ok {j : Int} (h : smallR j = true) : -(2 ^ 62) ≤ j ∧ j < 2 ^ 62 := by
  unfold smallR at h
  simpa using h
theorem di_rng1 {a : Expr} (hg : Gl X "range") (hm : X.mg "range" = none) (ha : DOA X W E [a] h) (hs : starEach [a] X.env = [(false, eval a X.env)] := by rfl) : DI X W E tg (.Call (.Name "range" p) [a] [] pos) (fRng1 h) := by
  obtain ⟨ta, pa, qa⟩ := ha.ex
  refine ⟨_, pi_range1 hg hm pa hs, fun G H σ ρ s R S h0 => qa G H σ ρ s _ S ?_⟩
  simp only [fRng1, bnd] at h0
  unfold OAPost
  cases r1 : h ρ s with
  | no => rw [r1] at h0; exact h0.elim
  | er c => rw [r1] at h0; exact h0
  | ok z =>
    obtain ⟨ds, s1⟩ := z
    rw [r1] at h0
    intro vs G1 H1 x1 w1 y1
    simp only at h0
    split at h0
    · rename_i j
      split at h0
      · rename_i hj
        obtain ⟨v, rfl, a⟩ := y1.one
        obtain rfl := a.int
        obtain ⟨b1, b2⟩ := smallR_ok hj
        exact ⟨j, rfl, b1, b2, h0 _ G1 H1 x1 w1 (ito_rng 0 j.toNat)⟩
      · exact h0.elim
    · exact h0.elim
theorem di_rng2 {a b : Expr} (hg : Gl X "range") (hm : X.mg "range" = none) (ha : DOA X W E [a, b] h) (hs : starEach [a, b] X.env = [(false, eval a X.env), (false, eval b X.env)] := by rfl) (hs2 : starEach [b] X.env = [(false, eval b X.env)] := by rfl) : DI X W E tg (.Call (.Name "range" p) [a, b] [] pos) (fRng2 h) := by
  obtain ⟨ta, pa, qa⟩ := ha.ex
  refine ⟨_, pi_range2 hg hm pa hs hs2, fun G H σ ρ s R S h0 => qa G H σ ρ s _ S ?_⟩
  simp only [fRng2, bnd] at h0
  unfold OAPost
  cases r1 : h ρ s with
  | no => rw [r1] at h0; exact h0.elim
  | er c => rw [r1] at h0; exact h0
  | ok z =>
    obtain ⟨ds, s1⟩ := z
    rw [r1] at h0
    intro vs G1 H1 x1 w1 y1
    simp only at h0
    split at h0
    · rename_i i j
      split at h0
      · rename_i hj
        obtain ⟨v, w, rfl, a, b⟩ := y1.two
        obtain rfl := a.int
        obtain rfl := b.int
        obtain ⟨b1, b2⟩ := smallR_ok hj.1
        obtain ⟨b3, b4⟩ := smallR_ok hj.2
        exact ⟨i, j, rfl, ⟨b1, b2, b3, b4⟩, h0 _ G1 H1 x1 w1 (ito_rng i (j - i).toNat)⟩
      · exact h0.elim
    · exact h0.elim
end
end Sw

set_option Elab.async false
set_option linter.all false
set_option maxRecDepth 100000
set_option maxHeartbeats 2000000
/-! SwX: enumerate and zip over lists, tuples, texts. -/
namespace Sw
open PySem PySem.Spec PyProof.Rows L2

/-! ### what is drawn from: a list, a tuple, a text -/
inductive Sk where
  | lst (a : Addr) (vs : List V) | tup (a : Addr) (vs : List V) | str (x : Str)
def Sk.v : Sk → V
  | .lst a _ => .ref a
  | .tup a _ => .ref a
  | .str x => .str x
def Sk.vs : Sk → List V
  | .lst _ vs => vs
  | .tup _ vs => vs
  | .str x => x.cps.toList.map fun c => .str ⟨#[c]⟩
def Sk.ok (K : PySem.W.Frag) (H : Hp) : Sk → Prop
  | .lst a vs => SqL K H a vs
  | .tup a vs => SqT K H a vs
  | .str _ => True
def Sk.cell (S : Sk) (it : Addr) (i : Nat) (h : Heap) : Prop := match S with
  | .lst a _ => h.IsListIter it a i
  | .tup a _ => h.IsTupleIter it a i
  | .str x => ∃ t, h.IsStrIter it (strIterType x) x t i
/-- the thing lies apart from b -/
def Sk.off (S : Sk) (b : Addr) : Prop := match S with
  | .lst a _ => a ≠ b
  | .tup a _ => a ≠ b
  | .str _ => True
theorem Sk.ok_mono {K : PySem.W.Frag} {H H' : Hp} {S : Sk} (e : Same H H') (h : S.ok K H) : S.ok K H' := by
  cases S with
  | lst a vs => exact e.seq h
  | tup a vs => exact same_t e h
  | str x => trivial
theorem Sk.cell_obj {S : Sk} {it : Addr} {i : Nat} {h : Heap} (st : S.cell it i h) : ∃ o, h.get? it = some o ∧ ∀ v, o.data ≠ .cell v := by
  cases S with
  | lst a vs => obtain ⟨o, e, _, d⟩ := st; exact ⟨o, e, fun v q => by rw [d] at q; cases q⟩
  | tup a vs => obtain ⟨o, e, _, d⟩ := st; exact ⟨o, e, fun v q => by rw [d] at q; cases q⟩
  | str x => obtain ⟨t, o, e, _, d⟩ := st; exact ⟨o, e, fun v q => by rw [d] at q; cases q⟩
theorem Sk.cell_at {S : Sk} {it : Addr} {i : Nat} {h h' : Heap} (st : S.cell it i h) (k : ∀ o, h.get? it = some o → h'.get? it = some o) : S.cell it i h' := by
  cases S with
  | lst a vs => exact Heap.IsListIter.at st k
  | tup a vs => exact Heap.IsTupleIter.at st k
  | str x => obtain ⟨t, o, e, r⟩ := st; exact ⟨t, o, k o e, r⟩
/-- what a cell of the thing draws at the state s -/
theorem Sk.draws {X : Cx} {pins : List (Addr × Obj)} {σ : L2.St} {H : Hp} {s : Shared} {S : Sk} {it : Addr} {i : Nat} (I : Inv X pins σ H s) (hc : X.calm = true) (ok : S.ok X.K H) (off : S.off it) (st : S.cell it i s.heap) :
    ∃ (more : List Addr) (P : Nat → Value → Prop) (St : Nat → Heap → Prop), Draws X.prog X.w X.A.in1 it (it :: more) S.vs.length P St ∧ St i s.heap ∧ (∀ j h, St j h → S.cell it j h) ∧
      (∀ b, S.off b → b ∉ more) ∧ (∀ j u, P j u → ∃ x, S.vs[j]? = some x ∧ RelV x u) := by
  have hh : X.A.in1.handled = none := I.ok.hd hc
  cases S with
  | lst a vs =>
    obtain ⟨its, rv, p, _⟩ := I.list ok
    have hl : vs.length = its.toArray.size := by rw [List.size_toArray]; exact rv.length
    refine ⟨[a], fun i v => its.toArray[i]? = some v, fun i h => h.IsListIter it a i ∧ h.IsList a its.toArray, ?_, ⟨st, p.isList⟩, fun j h q => q.1, fun b ob hb => ob (List.mem_singleton.mp hb).symm, fun j u q => ?_⟩
    · show Draws X.prog X.w X.A.in1 it [it, a] vs.length _ _
      rw [hl]
      exact Draws.list hh it a off its.toArray
    · have q' : its[j]? = some u := by simpa using q
      have hj : j < vs.length := by rw [rv.length]; exact (List.getElem?_eq_some_iff.mp q').1
      obtain ⟨u', e1, r1⟩ := rv.get (List.getElem?_eq_getElem hj)
      rw [e1] at q'
      cases q'
      exact ⟨_, List.getElem?_eq_getElem hj, r1⟩
  | tup a vs =>
    obtain ⟨its, rv, p, _⟩ := I.tuple ok
    have hl : vs.length = its.toArray.size := by rw [List.size_toArray]; exact rv.length
    refine ⟨[a], fun i v => its.toArray[i]? = some v, fun i h => h.IsTupleIter it a i ∧ h.IsTuple a its.toArray, ?_, ⟨st, p⟩, fun j h q => q.1, fun b ob hb => ob (List.mem_singleton.mp hb).symm, fun j u q => ?_⟩
    · show Draws X.prog X.w X.A.in1 it [it, a] vs.length _ _
      rw [hl]
      exact Draws.tuple hh it a off its.toArray
    · have q' : its[j]? = some u := by simpa using q
      have hj : j < vs.length := by rw [rv.length]; exact (List.getElem?_eq_some_iff.mp q').1
      obtain ⟨u', e1, r1⟩ := rv.get (List.getElem?_eq_getElem hj)
      rw [e1] at q'
      cases q'
      exact ⟨_, List.getElem?_eq_getElem hj, r1⟩
  | str x =>
    obtain ⟨t, st⟩ := st
    refine ⟨[], fun i v => ∃ c u, x.cps[i]? = some c ∧ v = .str ⟨#[c]⟩ u, fun i h => h.IsStrIter it (strIterType x) x t i, ?_, st, fun j h q => ⟨t, q⟩, fun b _ hb => absurd hb (by simp), fun j u q => ?_⟩
    · have hl : (Sk.str x).vs.length = x.cps.size := by simp [Sk.vs]
      rw [hl]
      exact Draws.text hh it x t
    · obtain ⟨c, t', e, rfl⟩ := q
      refine ⟨.str ⟨#[c]⟩, ?_, ⟨t', rfl⟩⟩
      show (x.cps.toList.map fun c => V.str ⟨#[c]⟩)[j]? = _
      rw [List.getElem?_map, Array.getElem?_toList, e]
      rfl

/-! ### enumerate -/
def ItE (K : PySem.W.Frag) (S : Sk) : It :=
  ⟨fun i H => i < S.vs.length ∧ S.ok K H, fun i H v H' => ∃ T x, v = .ref T ∧ H T = none ∧ S.vs[i]? = some x ∧ H' = upd H T (.tup [.int (i : Nat), x]), fun i H => S.vs.length ≤ i ∧ S.ok K H⟩
theorem turn_enumS {P : Program} {w : World} {K : PySem.W.Frag} {elts : List Expr} {kk : Nat} {tpos : Pos} (S : Sk) (e it : Addr) (hne : e ≠ it) (o1 : S.off e) (o2 : S.off it) :
    Turn P w K (.Tuple elts kk tpos) (ItE K S) [e, it] e (fun i h => i ≤ S.vs.length ∧ (∃ old, IsEnum h e it ((i : Nat) : Int) old) ∧ S.cell it i h) where
  mem := by simp
  obj := fun i h st b hb => by
    obtain ⟨_, ⟨old, he⟩, hi⟩ := st
    have e' : b = e ∨ b = it := by simpa using hb
    rcases e' with z | z
    · rw [z]; exact ⟨_, he, fun v q => nomatch q⟩
    · rw [z]; exact Sk.cell_obj hi
  keep := fun i h h' st k => let ⟨hl, ⟨old, he⟩, hi⟩ := st; ⟨hl, ⟨old, k e (by simp) _ he⟩, Sk.cell_at hi fun o q => k it (by simp) o q⟩
  item := by
    intro X hP hw hK hc i pins s σ H E I hf st hg
    subst hP hw hK
    obtain ⟨_, ⟨old, he⟩, hit⟩ := st
    obtain ⟨hlt, ok⟩ := hg
    obtain ⟨more, P', St, D, hst, hcell, hmore, hval⟩ := Sk.draws I hc ok o2 hit
    have hel : e < s.heap.objs.size := Heap.lt_size he
    have hil : it < s.heap.objs.size := by obtain ⟨o, q, _⟩ := (Sk.cell_obj hit); exact Heap.lt_size q
    have W := WalksT.enumerateD D e hne (fun q => by
      rcases List.mem_cons.mp q with z | z
      · exact hne z
      · exact hmore e o1 z) (List.mem_cons_self ..)
    refine W.item i s _ _ hlt ⟨⟨old, he⟩, hst⟩ fun T vals h' tk hv hT hIT mid hk => ?_
    refine ⟨_, rfl, W.go elts kk tpos i T _ _ _ mid fun h'' st'' hk2 => ?_⟩
    obtain ⟨t, u, hu, rfl⟩ := hv
    obtain ⟨x, hx, rx⟩ := hval i u hu
    have hTw := W.apart i T h' mid
    have hT2 : IsTup h'' T #[.int i t, u] := Heap.IsTuple.at hIT fun o q => hk2 T o hTw q
    have hn : H T = none := I.hok.fresh hT
    have new : ObjOk X.prog X.w (upd H T (.tup [.int (i : Nat), x])) h'' T (.tup [.int (i : Nat), x]) :=
      ⟨by show 2 ≤ sizeLine; decide, [.int i t, u], .cons ⟨_, rfl⟩ (.cons rx .nil), hT2⟩
    have I1 : Inv X pins σ (upd H T (.tup [.int (i : Nat), x])) { s with heap := h'', toks := tk } :=
      I.turnedNew (ch := [e, it]) (fun b ob hb q => hk2 b ob hb (hk b ob hb q)) hf hT new
    refine ⟨.ref T, _, I1, rfl, ⟨T, x, rfl, hn, hx, rfl⟩, ⟨hlt, st''.1, hcell _ _ st''.2⟩, fun b hb => ?_⟩
    have hb' : b < s.heap.objs.size := by
      have e' : b = e ∨ b = it := by simpa using hb
      rcases e' with z | z
      · rw [z]; exact hel
      · rw [z]; exact hil
    rw [upd_ne (Nat.ne_of_lt (Nat.lt_of_lt_of_le hb' hT))]
    exact (hf b hb).1
  done := by
    intro X hP hw hK hc i pins s σ H E I hf st hg
    subst hP hw hK
    obtain ⟨hl, ⟨old, he⟩, hit⟩ := st
    obtain ⟨hle, ok⟩ := hg
    have hi : i = S.vs.length := Nat.le_antisymm hl hle
    subst hi
    obtain ⟨more, P', St, D, hst, hcell, hmore, hval⟩ := Sk.draws I hc ok o2 hit
    have W := WalksT.enumerateD D e hne (fun q => by
      rcases List.mem_cons.mp q with z | z
      · exact hne z
      · exact hmore e o1 z) (List.mem_cons_self ..)
    refine W.done s _ _ ⟨⟨old, he⟩, hst⟩ fun h' tk hk => ⟨rfl, I.turnedL (t' := tk) (ch := [e, it]) hk hf⟩
  self := fun A i s Q E st h => let ⟨_, ⟨_, he⟩, _⟩ := st; wpAny_pyIter_enum he h

theorem meets_enumerate_new1 {v : Value} {o : Obj} {H : Heap → Prop} (B : Begins v o H) :
    Meets (Builtin.«enumerate.__new__» ⟨[.type "enumerate", v], []⟩) (fun _ R s => H s.heap ∧
      R (.ok (.ret (.ref (s.heap.push o).objs.size))) { s with heap := (s.heap.push o).push { cls := .type "enumerate", data := .fields #[.none, .bool false, .ref s.heap.objs.size, rawInt 0, .none, .none] } }) :=
  .of_wp fun prog w A R s h => by
    obtain ⟨hp, g, d, tk, os⟩ := s
    obtain ⟨h1, h⟩ := h
    have hsub := sub_enumerate
    have q1 : ∀ {A' : Around} {E : Value → Shared → Prop} {Q : Value → Shared → Prop}, Q (.ref hp.objs.size) ⟨hp.push o, g, d, tk, os⟩ → wpAny (model prog w) A' (pyIter v) Q E ⟨hp, g, d, tk, os⟩ :=
      fun q => B.iter prog w _ _ ⟨hp, g, d, tk, os⟩ _ h1 q
    wp_walk using q1
    refine wpAny_stack_any fun st => wpAny_pure ?_
    split
    · rename_i c _ _ _ _ _
      cases (c == Value.type "enumerate")
      · wp_walk using q1
        exact ⟨_, rfl, h⟩
      · wp_walk using q1
        exact ⟨_, rfl, h⟩
    · wp_walk using q1
      exact ⟨_, rfl, h⟩
theorem enum_begins1 {prog : Program} {w : World} {A : Around} {E : Value → Shared → Prop} {s : Shared} {v : Value} {o : Obj} {H : Heap → Prop} {Q : Value → Shared → Prop} (B : Begins v o H) (h1 : H s.heap)
    (h : ∀ h', IsEnum h' (s.heap.objs.size + 1) s.heap.objs.size 0 .none → h'.get? s.heap.objs.size = some o → h'.objs.size = s.heap.objs.size + 2 →
      (∀ b o, s.heap.get? b = some o → h'.get? b = some o) → Q (.ref (s.heap.objs.size + 1)) { s with heap := h' }) :
    wpAny (model prog w) A (call (.type "enumerate") [v]) Q E s := by
  refine callType_new F.called_enumerate (by decide) (F.typeCall_enumerate_1 _) (F.newCall_enumerate_1 _) (fun obj => F.args_object_init_2 obj _) F.entry_enumerate_new
    (meets_enumerate_new1 B) ⟨h1, ?_⟩
  have hz : (s.heap.push o).objs.size = s.heap.objs.size + 1 := Heap.size_push ..
  show _ ∧ _
  rw [hz]
  have he : IsEnum ((s.heap.push o).push { cls := .type "enumerate", data := .fields #[.none, .bool false, .ref s.heap.objs.size, rawInt 0, .none, .none] }) (s.heap.objs.size + 1) s.heap.objs.size 0 .none := by
    have := Heap.get?_push_size (s.heap.push o) (o := { cls := .type "enumerate", data := .fields #[.none, .bool false, .ref s.heap.objs.size, rawInt 0, .none, .none] }) rfl
    rw [hz] at this
    exact this
  exact ⟨⟨_, he, rfl⟩, h _ he (Heap.get?_push_of_some _ (Heap.get?_push_size _ B.free)) (by rw [Heap.size_push, hz]) fun b o x => Heap.get?_push_of_some _ (Heap.get?_push_of_some _ x)⟩
/-- how the thing's cell begins -/
theorem Sk.begins {X : Cx} {pins : List (Addr × Obj)} {σ : L2.St} {H : Hp} {s : Shared} {S : Sk} {u : Value} (I : Inv X pins σ H s) (ok : S.ok X.K H) (r : RelV S.v u) :
    ∃ (o : Obj) (Hh : Heap → Prop), Begins u o Hh ∧ Hh s.heap ∧ (∀ it h', h'.get? it = some o → S.cell it 0 h') ∧ ∀ b, s.heap.objs.size ≤ b → S.off b := by
  cases S with
  | lst a vs =>
    obtain ⟨its, rv, p, _⟩ := I.list ok
    cases r
    exact ⟨_, _, begins_list a its.toArray, p.isList, fun it h' e => ⟨_, e, rfl, rfl⟩, fun b hb => Nat.ne_of_lt (Nat.lt_of_lt_of_le p.lt hb)⟩
  | tup a vs =>
    obtain ⟨its, rv, p, _⟩ := I.tuple ok
    cases r
    obtain ⟨o, ho, _⟩ := id p
    exact ⟨_, _, begins_tuple a its.toArray, p, fun it h' e => ⟨_, e, rfl, rfl⟩, fun b hb => Nat.ne_of_lt (Nat.lt_of_lt_of_le (Heap.lt_size ho) hb)⟩
  | str x =>
    obtain ⟨t, rfl⟩ := r
    exact ⟨_, _, begins_text x t, trivial, fun it h' e => ⟨t, _, e, rfl, rfl⟩, fun _ _ => trivial⟩
def iEnumS (K : PySem.W.Frag) (ta : TA) : TI := fun σ H R => ta σ H fun vs H1 => ∃ S : Sk, vs = [S.v] ∧ S.ok K H1 ∧ R (ItE K S) H1
theorem pi_enumS {X : Cx} {e : Expr} {ta : TA} {p pos tpos : Pos} {elts : List Expr} {kk : Nat} (hg : Gl X "enumerate") (hm : X.mg "enumerate" = none) (ha : PA X [e] ta) (hs : starEach [e] X.env = [(false, eval e X.env)] := by rfl) :
    PI X (.Tuple elts kk tpos) (.Call (.Name "enumerate" p) [e] [] pos) (iEnumS X.K ta) := by
  refine ⟨fun pins s σ H R I h => ?_⟩
  refine Call_ (ld_blt I hg hm boot_enumerate (PyProof.Rows.callWith_type1 (thn (ha.run pos pins s σ H _ I h) fun us s1 ⟨vs, H1, I1, r1, q1⟩ => ?_) hs rfl))
  obtain ⟨S, ex, ok, q⟩ := q1
  subst ex
  cases r1 with
  | cons r rr =>
    cases rr
    obtain ⟨o, Hh, B, h0, hcell, hoff⟩ := Sk.begins I1 ok r
    refine enum_begins1 B h0 fun h' he hit hsz hk => wpAny_pyIter_enum he ?_
    have I2 : Inv X pins σ H1 { s1 with heap := h' } := I1.kept (t' := s1.toks) hk
    refine ⟨s1.heap.objs.size + 1, [s1.heap.objs.size + 1, s1.heap.objs.size], _, _, H1, rfl, I2, turn_enumS S (s1.heap.objs.size + 1) s1.heap.objs.size (Nat.succ_ne_self _) (hoff _ (Nat.le_add_right _ _)) (hoff _ (Nat.le_refl _)), ⟨Nat.zero_le _, ⟨.none, he⟩, hcell _ _ hit⟩, fun b hb => ?_, q⟩
    have e' : b = s1.heap.objs.size + 1 ∨ b = s1.heap.objs.size := by simpa using hb
    have hle : s1.heap.objs.size ≤ b := by
      rcases e' with z | z
      · rw [z]; exact Nat.le_add_right _ _
      · rw [z]; exact Nat.le_refl _
    exact I1.fpOk hle (I1.hok.fresh hle)

/-! ### zip of two -/
def ItZ (K : PySem.W.Frag) (S1 S2 : Sk) : It :=
  ⟨fun i H => i < S1.vs.length ∧ i < S2.vs.length ∧ S1.ok K H ∧ S2.ok K H, fun i H v H' => ∃ T x y, v = .ref T ∧ H T = none ∧ S1.vs[i]? = some x ∧ S2.vs[i]? = some y ∧ H' = upd H T (.tup [x, y]), fun i H => (S1.vs.length ≤ i ∨ S2.vs.length ≤ i) ∧ S1.ok K H ∧ S2.ok K H⟩
structure ZipOff (S1 S2 : Sk) (z TI TO i1 i2 : Addr) : Prop where
  TIz : TI ≠ z
  TOz : TO ≠ z
  TITO : TI ≠ TO
  TIi1 : TI ≠ i1
  TIi2 : TI ≠ i2
  zi1 : z ≠ i1
  zi2 : z ≠ i2
  Ti1 : TO ≠ i1
  Ti2 : TO ≠ i2
  i12 : i1 ≠ i2
  a1 : ∀ b ∈ [z, TI, TO, i1, i2], S1.off b
  a2 : ∀ b ∈ [z, TI, TO, i1, i2], S2.off b
theorem ZipOff.sep {S1 S2 : Sk} {z TI TO i1 i2 : Addr} (D : ZipOff S1 S2 z TI TO i1 i2) {m1 m2 : List Addr} (h1 : ∀ b, S1.off b → b ∉ m1) (h2 : ∀ b, S2.off b → b ∉ m2) : ZipSep2 z TI TO i1 i2 (i1 :: m1) (i2 :: m2) where
  TIz := D.TIz
  TOz := D.TOz
  TITO := D.TITO
  TIi1 := D.TIi1
  mem1 := List.mem_cons_self ..
  zf1 := fun q => (List.mem_cons.mp q).elim D.zi1 (h1 z (D.a1 z (by simp)))
  Tf1 := fun q => (List.mem_cons.mp q).elim D.Ti1 (h1 TO (D.a1 TO (by simp)))
  TIi2 := D.TIi2
  mem2 := List.mem_cons_self ..
  zf2 := fun q => (List.mem_cons.mp q).elim D.zi2 (h2 z (D.a2 z (by simp)))
  Tf2 := fun q => (List.mem_cons.mp q).elim D.Ti2 (h2 TO (D.a2 TO (by simp)))
  sep1_2 := fun q => (List.mem_cons.mp q).elim D.i12 (h2 i1 (D.a2 i1 (by simp)))
  sep2_1 := fun q => (List.mem_cons.mp q).elim (fun z => D.i12 z.symm) (h1 i2 (D.a1 i2 (by simp)))
theorem turn_zipS {P : Program} {w : World} {K : PySem.W.Frag} {elts : List Expr} {kk : Nat} {tpos : Pos} {S1 S2 : Sk} {z TI TO i1 i2 : Addr} (D : ZipOff S1 S2 z TI TO i1 i2) :
    Turn P w K (.Tuple elts kk tpos) (ItZ K S1 S2) [z, TI, TO, i1, i2] z (fun i h => (i ≤ S1.vs.length ∧ i ≤ S2.vs.length) ∧ IsZip h z TI TO .none ∧ IsTupOf2 h TI (.ref i1) (.ref i2) ∧ (∃ x y, IsTupOf2 h TO x y) ∧ S1.cell i1 i h ∧ S2.cell i2 i h) where
  mem := by simp
  obj := fun i h st c hc => by
    obtain ⟨_, hz, hTI, ⟨x, y, hTO⟩, h1, h2⟩ := st
    have e' : c = z ∨ c = TI ∨ c = TO ∨ c = i1 ∨ c = i2 := by simpa using hc
    rcases e' with q | q | q | q | q
    · rw [q]; exact ⟨_, hz, fun v q => nomatch q⟩
    · rw [q]; exact ⟨_, hTI, fun v q => nomatch q⟩
    · rw [q]; exact ⟨_, hTO, fun v q => nomatch q⟩
    · rw [q]; exact (Sk.cell_obj h1)
    · rw [q]; exact (Sk.cell_obj h2)
  keep := fun i h h' st k => by
    obtain ⟨hl, hz, hTI, ⟨x, y, hTO⟩, h1, h2⟩ := st
    exact ⟨hl, k z (by simp) _ hz, k TI (by simp) _ hTI, ⟨x, y, k TO (by simp) _ hTO⟩, Sk.cell_at h1 fun o q => k i1 (by simp) o q, Sk.cell_at h2 fun o q => k i2 (by simp) o q⟩
  item := by
    intro X hP hw hK hc i pins s σ H E I hf st hg
    subst hP hw hK
    obtain ⟨_, hz, hTI, hTO, h1, h2⟩ := st
    obtain ⟨l1, l2, ok1, ok2⟩ := hg
    obtain ⟨m1, P1, St1, D1, hst1, hcell1, hmore1, hval1⟩ := Sk.draws I hc ok1 (D.a1 i1 (by simp)) h1
    obtain ⟨m2, P2, St2, D2, hst2, hcell2, hmore2, hval2⟩ := Sk.draws I hc ok2 (D.a2 i2 (by simp)) h2
    have W := WalksT.zipD2 (D.sep hmore1 hmore2) D1 D2
    have hlow : ∀ c ∈ [z, TI, TO, i1, i2], c < s.heap.objs.size := fun c hcm => by
      have e' : c = z ∨ c = TI ∨ c = TO ∨ c = i1 ∨ c = i2 := by simpa using hcm
      rcases e' with q | q | q | q | q
      · rw [q]; exact Heap.lt_size hz
      · rw [q]; exact Heap.lt_size hTI
      · rw [q]; obtain ⟨_, _, e⟩ := hTO; exact Heap.lt_size e
      · rw [q]; obtain ⟨_, e, _⟩ := (Sk.cell_obj h1); exact Heap.lt_size e
      · rw [q]; obtain ⟨_, e, _⟩ := (Sk.cell_obj h2); exact Heap.lt_size e
    refine W.item i s _ _ (Nat.lt_min.mpr ⟨l1, l2⟩) ⟨hz, hTI, hTO, hst1, hst2⟩ fun T vals h' tk hv hT hIT mid hk => ?_
    refine ⟨_, rfl, W.go elts kk tpos i T _ _ _ mid fun h'' st'' hk2 => ?_⟩
    obtain ⟨u1, u2, hu1, hu2, rfl⟩ := hv
    obtain ⟨x, hx, rx⟩ := hval1 i u1 hu1
    obtain ⟨y, hy, ry⟩ := hval2 i u2 hu2
    have hTw := W.apart i T h' mid
    have hT2 : IsTup h'' T #[u1, u2] := Heap.IsTuple.at hIT fun o q => hk2 T o hTw q
    have hn : H T = none := I.hok.fresh hT
    have new : ObjOk X.prog X.w (upd H T (.tup [x, y])) h'' T (.tup [x, y]) := ⟨by show 2 ≤ sizeLine; decide, [u1, u2], .cons rx (.cons ry .nil), hT2⟩
    have sub : ∀ b, b ∉ [z, TI, TO, i1, i2] → b ∉ [z, TO, i1, i2] := fun b hb q => hb (by
      have e' : b = z ∨ b = TO ∨ b = i1 ∨ b = i2 := by simpa using q
      rcases e' with q | q | q | q <;> simp [q])
    have I1 : Inv X pins σ (upd H T (.tup [x, y])) { s with heap := h'', toks := tk } :=
      I.turnedNew (ch := [z, TI, TO, i1, i2]) (fun b ob hb q => hk2 b ob (sub b hb) (hk b ob (sub b hb) q)) hf hT new
    obtain ⟨z1, z2, z3, z4, z5⟩ := st''
    refine ⟨.ref T, _, I1, rfl, ⟨T, x, y, rfl, hn, hx, hy, rfl⟩, ⟨⟨l1, l2⟩, z1, z2, z3, hcell1 _ _ z4, hcell2 _ _ z5⟩, fun b hb => ?_⟩
    rw [upd_ne (Nat.ne_of_lt (Nat.lt_of_lt_of_le (hlow b hb) hT))]
    exact (hf b hb).1
  done := by
    intro X hP hw hK hc i pins s σ H E I hf st hg
    subst hP hw hK
    obtain ⟨⟨l1, l2⟩, hz, hTI, hTO, h1, h2⟩ := st
    obtain ⟨hle, ok1, ok2⟩ := hg
    obtain ⟨m1, P1, St1, D1, hst1, hcell1, hmore1, hval1⟩ := Sk.draws I hc ok1 (D.a1 i1 (by simp)) h1
    obtain ⟨m2, P2, St2, D2, hst2, hcell2, hmore2, hval2⟩ := Sk.draws I hc ok2 (D.a2 i2 (by simp)) h2
    have W := WalksT.zipD2 (D.sep hmore1 hmore2) D1 D2
    have sub : ∀ b, b ∉ [z, TI, TO, i1, i2] → b ∉ [z, TO, i1, i2] := fun b hb q => hb (by
      have e' : b = z ∨ b = TO ∨ b = i1 ∨ b = i2 := by simpa using q
      rcases e' with q | q | q | q <;> simp [q])
    have hi : i = min S1.vs.length S2.vs.length := by omega
    subst hi
    refine W.done s _ _ ⟨hz, hTI, hTO, hst1, hst2⟩ fun h' tk hk => ⟨rfl, I.turnedL (t' := tk) (ch := [z, TI, TO, i1, i2]) (fun b o hb q => hk b o (sub b hb) q) hf⟩
  self := fun A i s Q E st h => wpAny_pyIter_zip st.2.1 h
def iZipS (K : PySem.W.Frag) (ta : TA) : TI := fun σ H R => ta σ H fun vs H1 => ∃ S1 S2 : Sk, vs = [S1.v, S2.v] ∧ S1.ok K H1 ∧ S2.ok K H1 ∧ R (ItZ K S1 S2) H1
theorem pi_zipS {X : Cx} {e e2 : Expr} {ta : TA} {p pos tpos : Pos} {elts : List Expr} {kk : Nat} (hg : Gl X "zip") (hm : X.mg "zip" = none) (ha : PA X [e, e2] ta)
    (hs : starEach [e, e2] X.env = (false, eval e X.env) :: starEach [e2] X.env := by rfl) (hpl : (backTo pos (starEach [e2] X.env)).any (·.1) = false := by rfl) :
    PI X (.Tuple elts kk tpos) (.Call (.Name "zip" p) [e, e2] [] pos) (iZipS X.K ta) := by
  refine ⟨fun pins s σ H R I h => ?_⟩
  refine Call_ (ld_blt I hg hm PyProof.Rows.boot_zip (PyProof.Rows.callWith_type1 (thn (ha.run pos pins s σ H _ I h) fun us s1 ⟨vs, H1, I1, r1, q1⟩ => ?_) hs hpl))
  obtain ⟨S1, S2, ex, ok1, ok2, q⟩ := q1
  subst ex
  cases r1 with
  | cons r rr =>
    cases rr with
    | cons r' rr =>
      cases rr
      obtain ⟨oa, Ha, B1, h01, hc1, of1⟩ := Sk.begins I1 ok1 r
      obtain ⟨ob, Hb, B2, h02, hc2, of2⟩ := Sk.begins I1 ok2 r'
      have hle : ∀ c, c ∈ [s1.heap.objs.size + 4, s1.heap.objs.size + 2, s1.heap.objs.size + 3, s1.heap.objs.size, s1.heap.objs.size + 1] → s1.heap.objs.size ≤ c := fun c hcm => by
        have e' : c = s1.heap.objs.size + 4 ∨ c = s1.heap.objs.size + 2 ∨ c = s1.heap.objs.size + 3 ∨ c = s1.heap.objs.size ∨ c = s1.heap.objs.size + 1 := by simpa using hcm
        rcases e' with z | z | z | z | z
        · rw [z]; exact Nat.le_add_right _ _
        · rw [z]; exact Nat.le_add_right _ _
        · rw [z]; exact Nat.le_add_right _ _
        · rw [z]; exact Nat.le_refl _
        · rw [z]; exact Nat.le_add_right _ _
      refine zip_begins2 B1 B2 h01 h02 fun h' hz hTI hTO g1 g2 hsz hk => wpAny_pyIter_zip hz ?_
      have I2 : Inv X pins σ H1 { s1 with heap := h' } := I1.kept (t' := s1.toks) hk
      refine ⟨s1.heap.objs.size + 4, [s1.heap.objs.size + 4, s1.heap.objs.size + 2, s1.heap.objs.size + 3, s1.heap.objs.size, s1.heap.objs.size + 1], _, _, H1, rfl, I2, turn_zipS (S1 := S1) (S2 := S2) ⟨?_, ?_, ?_, ?_, ?_, ?_, ?_, ?_, ?_, ?_, fun b hb => of1 b (hle b hb), fun b hb => of2 b (hle b hb)⟩, ⟨⟨Nat.zero_le _, Nat.zero_le _⟩, hz, hTI, ⟨_, _, hTO⟩, hc1 _ _ g1, hc2 _ _ g2⟩, fun c hcm => I1.fpOk (hle c hcm) (I1.hok.fresh (hle c hcm)), q⟩
      all_goals
        simp only [Addr] at *
        show (_ : Nat) ≠ _
        omega

/-! ### over data -/
def enumD (n : Nat) : List Da → List Da
  | [] => []
  | d :: ds => .tup [.int (n : Nat), d] :: enumD (n + 1) ds
theorem enumD_len : ∀ (n : Nat) (ds : List Da), (enumD n ds).length = ds.length
  | _, [] => rfl
  | n, d :: ds => congrArg (· + 1) (enumD_len (n + 1) ds)
theorem enumD_get : ∀ (n : Nat) (ds : List Da) (i : Nat) (d : Da), ds[i]? = some d → (enumD n ds)[i]? = some (.tup [.int ((n + i : Nat) : Int), d])
  | n, [], i, d, e => by simp at e
  | n, x :: ds, 0, d, e => by simp at e; subst e; rfl
  | n, x :: ds, i + 1, d, e => by
    have q := enumD_get (n + 1) ds i d (by simpa using e)
    have h : n + 1 + i = n + (i + 1) := by omega
    rw [h] at q
    simpa [enumD] using q
/-- the items of a list, a tuple, a text -/
def itemsD : Da → Option (List Da)
  | .lst ds => some ds
  | .tup ds => some ds
  | .str z => some (chrD z)
  | _ => none
theorem Re.sk {K : PySem.W.Frag} {G : Hp} {v : V} {d : Da} {ds : List Da} (r : Re K G v d) (h : itemsD d = some ds) : ∃ S : Sk, v = S.v ∧ S.ok K G ∧ ReL K G S.vs ds := by
  cases r with
  | @lst a vs _ q r => cases h; exact ⟨.lst a vs, rfl, q.sq, r⟩
  | @tup a vs _ q r => cases h; exact ⟨.tup a vs, rfl, q, r⟩
  | str z =>
    cases h
    refine ⟨.str z, rfl, trivial, ?_⟩
    show ReL K G (z.cps.toList.map fun c => V.str ⟨#[c]⟩) (z.cps.toList.map fun c => .str ⟨#[c]⟩)
    generalize z.cps.toList = l
    induction l with
    | nil => exact .nil
    | cons c l ih => exact .cons (.str _) ih
  | non => cases h
  | bl _ => cases h
  | int _ => cases h
  | dic _ => cases h
  | exc _ => cases h
  | fn _ => cases h
theorem ito_enum {K : PySem.W.Frag} {G : Hp} {S : Sk} {ds : List Da} (ok : S.ok K G) (r : ReL K G S.vs ds) : ItOk K (ItE K S) (enumD 0 ds) G where
  goes := fun i G2 H2 hi e1 e2 => ⟨by rw [enumD_len] at hi; rw [r.length]; exact hi, Sk.ok_mono (e1.trans e2) ok⟩
  stops := fun G2 H2 e1 e2 => ⟨by rw [enumD_len, r.length]; exact Nat.le_refl _, Sk.ok_mono (e1.trans e2) ok⟩
  yields := fun i G2 H2 x H3 hi e1 e2 y => by
    obtain ⟨T, v, rfl, hT, hv, rfl⟩ := y
    obtain ⟨d, hd, rd⟩ := r.get hv
    have nx := Xp.new_ (o := .tup [.int (i : Nat), v]) e2 hT
    refine ⟨_, .tup [.int (i : Nat), d], nx, by simpa using enumD_get 0 ds i d hd, .tup (.inl (.inl upd_same)) (.cons (.int _) (.cons (rd.mono (e1.trans nx.sub)) .nil))⟩
def zipD (ds es : List Da) : List Da := List.zipWith (fun d e => .tup [d, e]) ds es
theorem ito_zip {K : PySem.W.Frag} {G : Hp} {S1 S2 : Sk} {ds es : List Da} (ok1 : S1.ok K G) (ok2 : S2.ok K G) (r1 : ReL K G S1.vs ds) (r2 : ReL K G S2.vs es) : ItOk K (ItZ K S1 S2) (zipD ds es) G where
  goes := fun i G2 H2 hi e1 e2 => by
    have hi' : i < min ds.length es.length := by simpa [zipD] using hi
    exact ⟨by rw [r1.length]; omega, by rw [r2.length]; omega, Sk.ok_mono (e1.trans e2) ok1, Sk.ok_mono (e1.trans e2) ok2⟩
  stops := fun G2 H2 e1 e2 => ⟨by
    have hz : (zipD ds es).length = min ds.length es.length := by simp [zipD]
    rw [hz, r1.length, r2.length]
    omega, Sk.ok_mono (e1.trans e2) ok1, Sk.ok_mono (e1.trans e2) ok2⟩
  yields := fun i G2 H2 x H3 hi e1 e2 y => by
    obtain ⟨T, v, u, rfl, hT, hv, hu, rfl⟩ := y
    obtain ⟨d, hd, rd⟩ := r1.get hv
    obtain ⟨e, he, re⟩ := r2.get hu
    have nx := Xp.new_ (o := .tup [v, u]) e2 hT
    refine ⟨_, .tup [d, e], nx, ?_, .tup (.inl (.inl upd_same)) (.cons (rd.mono (e1.trans nx.sub)) (.cons (re.mono (e1.trans nx.sub)) .nil))⟩
    show (List.zipWith (fun d e => Da.tup [d, e]) ds es)[i]? = _
    rw [List.getElem?_zipWith, hd, he]
section
variable {X : Cx} {W : Wd} {E : WX} {e e2 : Expr} {f g : Ev → Fx W.S Da} {h : Ev → Fx W.S (List Da)} {pos p tpos : Pos} {elts : List Expr} {kk : Nat}
def fEnum {S : Type} (h : Ev → Fx S (List Da)) : Ev → Fx S (List Da) := fun ρ => bnd (h ρ) fun ds => match ds with
  | [d] => (match itemsD d with
    | some xs => Sw.ret (enumD 0 xs)
    | none => fun _ => .no)
  | _ => fun _ => .no
def fZip {S : Type} (h : Ev → Fx S (List Da)) : Ev → Fx S (List Da) := fun ρ => bnd (h ρ) fun ds => match ds with
  | [d, e] => (match itemsD d, itemsD e with
    | some xs, some ys => Sw.ret (zipD xs ys)
    | _, _ => fun _ => .no)
  | _ => fun _ => .no
theorem di_enum (hg : Gl X "enumerate") (hm : X.mg "enumerate" = none) (ha : DA X W E [e] h) (hs : starEach [e] X.env = [(false, eval e X.env)] := by rfl) : DI X W E (.Tuple elts kk tpos) (.Call (.Name "enumerate" p) [e] [] pos) (fEnum h) := by
  obtain ⟨te, pa, qa⟩ := ha.ex
  refine ⟨_, pi_enumS hg hm pa hs, fun G H σ ρ s R S h0 => ?_⟩
  refine qa G H σ ρ s _ S ?_
  unfold fEnum bnd at h0
  unfold APost
  cases r : h ρ s with
  | no => rw [r] at h0; exact h0.elim
  | er c => rw [r] at h0; exact h0
  | ok z =>
    obtain ⟨ds, s'⟩ := z
    rw [r] at h0
    intro vs G' H' x w y
    cases y with
    | nil => exact h0.elim
    | cons r1 r2 =>
      cases r2 with
      | cons _ _ => exact h0.elim
      | nil =>
        rename_i v d
        simp only at h0
        cases hd : itemsD d with
        | none => rw [hd] at h0; exact h0.elim
        | some xs =>
          rw [hd] at h0
          obtain ⟨S', rfl, ok, rl⟩ := r1.sk hd
          exact ⟨S', rfl, Sk.ok_mono x.in_ ok, h0 _ G' H' x w (ito_enum ok rl)⟩
theorem di_zip (hg : Gl X "zip") (hm : X.mg "zip" = none) (ha : DA X W E [e, e2] h) (hs : starEach [e, e2] X.env = (false, eval e X.env) :: starEach [e2] X.env := by rfl) (hpl : (backTo pos (starEach [e2] X.env)).any (·.1) = false := by rfl) :
    DI X W E (.Tuple elts kk tpos) (.Call (.Name "zip" p) [e, e2] [] pos) (fZip h) := by
  obtain ⟨te, pa, qa⟩ := ha.ex
  refine ⟨_, pi_zipS hg hm pa hs hpl, fun G H σ ρ s R S h0 => ?_⟩
  refine qa G H σ ρ s _ S ?_
  unfold fZip bnd at h0
  unfold APost
  cases r : h ρ s with
  | no => rw [r] at h0; exact h0.elim
  | er c => rw [r] at h0; exact h0
  | ok z =>
    obtain ⟨ds, s'⟩ := z
    rw [r] at h0
    intro vs G' H' x w y
    cases y with
    | nil => exact h0.elim
    | cons r1 r2 =>
      cases r2 with
      | nil => exact h0.elim
      | cons r2 r3 =>
        cases r3 with
        | cons _ _ => exact h0.elim
        | nil =>
          rename_i v d v2 d2
          simp only at h0
          cases hd : itemsD d with
          | none => rw [hd] at h0; exact h0.elim
          | some xs =>
            cases hd2 : itemsD d2 with
            | none => rw [hd, hd2] at h0; exact h0.elim
            | some ys =>
              rw [hd, hd2] at h0
              obtain ⟨S1, rfl, ok1, rl1⟩ := r1.sk hd
              obtain ⟨S2, rfl, ok2, rl2⟩ := r2.sk hd2
              exact ⟨S1, S2, rfl, Sk.ok_mono x.in_ ok1, Sk.ok_mono x.in_ ok2, h0 _ G' H' x w (ito_zip ok1 ok2 rl1 rl2)⟩
end
end Sw

set_option Elab.async false
set_option linter.all false
set_option maxRecDepth 100000
set_option maxHeartbeats 2000000
/-! SwM: methods of texts, isinstance, raise C(), calls by keyword, chains of comparisons, comprehensions as lists. -/
namespace Sw
open PySem PySem.Spec PyProof.Rows L2

/-! ### one step of what is reckoned -/
section
variable {X : Cx} {W : Wd} {E : WX} {f : Ev → Fx W.S Da} {h : Ev → Fx W.S (List Da)} {ta : TE} {tl : TA} {G H : Hp} {σ : L2.St} {ρ : Ev} {s : W.S}
/-- what is wished behind a value, for any kind of outcome -/
structure Kd (X : Cx) (W : Wd) (E : WX) (α P : Type) where
  post : Hp → Hp → Rp (α × W.S) → P → Prop
  later : ∀ {G H G1 H1 : Hp} {r : Rp (α × W.S)} {Q : P}, post G H r Q → Xt W.mu G H G1 H1 → post G1 H1 r Q
  er : ∀ {G H : Hp} {c : Str} {Q : P}, post G H (.er c) Q → ∀ G' H', Xt W.mu G H G' H' → E c H'
  no : ∀ {G H : Hp} {Q : P}, post G H .no Q → False
def kE (X : Cx) (W : Wd) (E : WX) : Kd X W E Da VK := ⟨fun G H r Q => EPost X.K W E G H r Q, fun h x => h.later x, fun h => h, fun h => h⟩
def kA (X : Cx) (W : Wd) (E : WX) : Kd X W E (List Da) (List V → Hp → Prop) := ⟨fun G H r Q => APost X.K W E G H r Q, fun h x => h.later x, fun h => h, fun h => h⟩
theorem NPost.later {G1 H1 : Hp} {r : Rp (List Da × W.S)} {Q : VK} (h : NPost X.K W E G H r Q) (x1 : Xt W.mu G H G1 H1) : NPost X.K W E G1 H1 r Q := by
  unfold NPost at h ⊢
  split
  · intro p vs G' H' x w e g n y
    refine h p vs G' H' (x1.trans x) w e g ?_ y
    cases q : H p with
    | none => rfl
    | some o => exact absurd n (x1.dom p (by rw [q]; simp))
  · exact fun G' H' x => h G' H' (x1.trans x)
  · exact h
def kN (X : Cx) (W : Wd) (E : WX) : Kd X W E (List Da) VK := ⟨fun G H r Q => NPost X.K W E G H r Q, fun h x => NPost.later h x, fun h => h, fun h => h⟩
theorem e_bind {α P : Type} (kd : Kd X W E α P) {k : Da → Fx W.S α} {Q : P} {R : VK} (qa : ∀ G H σ ρ s (Q : VK), Stt X.K W G H σ ρ s → EPost X.K W E G H (f ρ s) Q → ta σ H Q) (S : Stt X.K W G H σ ρ s) (h0 : kd.post G H (bnd (f ρ) k s) Q)
    (hk : ∀ d s' v G1 H1, Xt W.mu G H G1 H1 → Re X.K G1 v d → Stt X.K W G1 H1 σ ρ s' → kd.post G1 H1 (k d s') Q → R v H1) : ta σ H R := by
  refine qa G H σ ρ s R S ?_
  unfold bnd at h0
  unfold EPost
  cases r : f ρ s with
  | no => rw [r] at h0; exact kd.no h0
  | er c => rw [r] at h0; exact kd.er h0
  | ok z =>
    obtain ⟨d, s'⟩ := z
    rw [r] at h0
    exact fun v G1 H1 x w y => hk d s' v G1 H1 x y (S.xt x w) (kd.later h0 x)
theorem o_bind {α P : Type} (kd : Kd X W E α P) {k : Da → Fx W.S α} {Q : P} {R : VK} (qa : ∀ G H σ ρ s (Q : VK), Stt X.K W G H σ ρ s → OPost X.K W E G H (f ρ s) Q → ta σ H Q) (S : Stt X.K W G H σ ρ s) (h0 : kd.post G H (bnd (f ρ) k s) Q)
    (hk : ∀ d s' v G1 H1, Xt W.mu G H G1 H1 → ReO X.K W.mu G1 H1 v d → Stt X.K W G1 H1 σ ρ s' → kd.post G1 H1 (k d s') Q → R v H1) : ta σ H R := by
  refine qa G H σ ρ s R S ?_
  unfold bnd at h0
  unfold OPost
  cases r : f ρ s with
  | no => rw [r] at h0; exact kd.no h0
  | er c => rw [r] at h0; exact kd.er h0
  | ok z =>
    obtain ⟨d, s'⟩ := z
    rw [r] at h0
    exact fun v G1 H1 x w y => hk d s' v G1 H1 x y (S.xt x w) (kd.later h0 x)
theorem a_bind {α P : Type} (kd : Kd X W E α P) {k : List Da → Fx W.S α} {Q : P} {R : List V → Hp → Prop} (qa : ∀ G H σ ρ s (Q : List V → Hp → Prop), Stt X.K W G H σ ρ s → APost X.K W E G H (h ρ s) Q → tl σ H Q) (S : Stt X.K W G H σ ρ s) (h0 : kd.post G H (bnd (h ρ) k s) Q)
    (hk : ∀ d s' v G1 H1, Xt W.mu G H G1 H1 → ReL X.K G1 v d → Stt X.K W G1 H1 σ ρ s' → kd.post G1 H1 (k d s') Q → R v H1) : tl σ H R := by
  refine qa G H σ ρ s R S ?_
  unfold bnd at h0
  unfold APost
  cases r : h ρ s with
  | no => rw [r] at h0; exact kd.no h0
  | er c => rw [r] at h0; exact kd.er h0
  | ok z =>
    obtain ⟨d, s'⟩ := z
    rw [r] at h0
    exact fun v G1 H1 x w y => hk d s' v G1 H1 x y (S.xt x w) (kd.later h0 x)
/-- the end: a value that is told -/
theorem lift_post {o : Option Da} {Q : VK} (h0 : EPost X.K W E G H (lift o s) Q) : ∃ z, o = some z ∧ ∀ v G' H', Xt W.mu G H G' H' → W.rel s G' H' → Re X.K G' v z → Q v H' := by
  cases o with
  | none => exact (show False from h0).elim
  | some z => exact ⟨z, rfl, h0⟩
theorem liftN_post {o : Option (List Da)} {Q : VK} (h0 : NPost X.K W E G H (lift o s) Q) : ∃ z, o = some z ∧ ∀ p vs G' H', Xt W.mu G H G' H' → W.rel s G' H' → H' p = some (.lst vs) → G' p = none → H p = none → ReL X.K G' vs z → Q (.ref p) H' := by
  cases o with
  | none => exact (show False from h0).elim
  | some z => exact ⟨z, rfl, h0⟩
end
section
variable {X : Cx} {W : Wd} {E : WX} {e o : Expr} {f g : Ev → Fx W.S Da} {h : Ev → Fx W.S (List Da)} {pos p : Pos}

/-! ### text * int -/
def mulSF : Da → Da → Option Da
  | .int i, .int j => if CMulW i j then some (.int (i * j)) else none
  | .str x, .int n => if 2 ≤ n ∧ 1 ≤ x.length ∧ (x.length : Int) * n ≤ 16000000 then some (.str ⟨(List.replicate n.toNat x.cps).foldl (· ++ ·) #[]⟩) else none
  | _, _ => none
def rMulS : R2 := fun x y H Q => rI CMulW (fun i j => .int (i * j)) x y H Q ∨ ∃ (z : Str) (n : Int), x = .str z ∧ y = .int n ∧ 2 ≤ n ∧ 1 ≤ z.length ∧ (z.length : Int) * n ≤ 16000000 ∧ Q (.str ⟨(List.replicate n.toNat z.cps).foldl (· ++ ·) #[]⟩) H
theorem flatlen (x : Array Nat) : ∀ (n : Nat) (a : Array Nat), ((List.replicate n x).foldl (· ++ ·) a).size = a.size + n * x.size
  | 0, a => by simp
  | n + 1, a => by
    rw [List.replicate_succ, List.foldl_cons, flatlen x n, Array.size_append, Nat.succ_mul]
    omega
theorem op_strRep {X : Cx} : OpR X (binaryOp .Mult) (fun x y H Q => ∃ (z : Str) (n : Int), x = .str z ∧ y = .int n ∧ 2 ≤ n ∧ 1 ≤ z.length ∧ (z.length : Int) * n ≤ 16000000 ∧ Q (.str ⟨(List.replicate n.toNat z.cps).foldl (· ++ ·) #[]⟩) H) := by
  intro pins s σ H x y v u Q I rx ry h
  obtain ⟨z, n, rfl, rfl, h2, h1, hl, q⟩ := h
  obtain ⟨t, rfl⟩ := rx
  obtain ⟨t', rfl⟩ := ry
  have hz : (1 : Int) ≤ z.length := by exact_mod_cast h1
  have hn : n ≤ 16000000 := by
    have : 1 * n ≤ (z.length : Int) * n := Int.mul_le_mul_of_nonneg_right hz (by omega)
    omega
  have hzl : (z.length : Int) ≤ 16000000 := by
    have : (z.length : Int) * 1 ≤ (z.length : Int) * n := Int.mul_le_mul_of_nonneg_left (by omega) (by omega)
    omega
  have hsz : z.length * n.toNat ≤ 16000000 := by
    have e : ((z.length * n.toNat : Nat) : Int) = (z.length : Int) * n := by
      rw [Int.natCast_mul, Int.toNat_of_nonneg (by omega)]
    omega
  have hline : (16000000 : Nat) ≤ sizeLine := by decide
  refine P.mul_str ?_ (fun _ _ => ?_) (fun _ _ => ?_) ?_
  · have a : ¬ n < -(2 ^ 63 : Int) := by omega
    have b : ¬ n ≥ 2 ^ 63 := by omega
    rw [decide_eq_false a, decide_eq_false b] <;> rfl
  · have q1 : (z.length : Int) ≤ (2 ^ 63 - 1) / n := by
      rw [Int.le_ediv_iff_mul_le (by omega)]
      omega
    omega
  · unfold Builtin.Str.tooLong
    simp only [decide_eq_false_iff_not]
    omega
  · have a : ¬ n < 1 := by omega
    have b : (n == 1 || z.length == 0) = false := by
      have b1 : (n == 1) = false := by simpa using (by omega : ¬ n = 1)
      have b2 : (z.length == 0) = false := by simpa using (by omega : ¬ z.length = 0)
      rw [b1, b2] <;> rfl
    rw [if_neg a, b, if_neg Bool.false_ne_true]
    refine ⟨?_, ?_⟩
    · show ((List.replicate n.toNat z.cps).foldl (· ++ ·) #[]).size ≤ sizeLine
      have fl := flatlen z.cps n.toNat #[]
      rw [fl]
      have e : z.cps.size = z.length := rfl
      rw [e, Nat.mul_comm]
      simp
      omega
    · exact ⟨.str _, H, I.tok _, ⟨_, rfl⟩, q⟩
theorem op_mulS : OpR X (binaryOp .Mult) rMulS := OpR.or op_mulW op_strRep
theorem opd_mulS (K : PySem.W.Frag) : OpD K rMulS mulSF := by
  intro mu G H x y d e z Q s rx ry h q
  unfold mulSF at h
  split at h
  · split at h
    · cases h; exact .inl ⟨_, _, rx.int, ry.int, by assumption, q _ G H (.refl s) (.int _)⟩
    · cases h
  · split at h
    · rename_i hc
      cases h
      exact .inr ⟨_, _, rx.str, ry.int, hc.1, hc.2.1, hc.2.2, q _ G H (.refl s) (.str _)⟩
    · cases h
  · cases h

/-! ### x[::-1] of a text -/
def revS (z : Str) : Str := ⟨z.cps.toList.reverse.toArray⟩
def tRevS (te : TE) : TE := fun σ H Q => te σ H fun x H1 => ∃ z : Str, x = .str z ∧ z.length ≤ sizeLine ∧ Q (.str (revS z)) H1
theorem rev_picked (z : Str) (k : Tok) : (Builtin.Str.strSliceIndices none none (-1) z.length).filterMap (z.cps[·]?) = z.cps.toList.reverse := by
  have e : Builtin.Str.strSliceIndices none none (-1) z.length = sliceRange ((z.length : Int) - 1) (-1) (-1) := by
    unfold Builtin.Str.strSliceIndices
    simp
  rw [e, PySem.W.krv_sliceRange, PySem.W.krv_range, List.filterMap_reverse]
  have q := PySem.W.krv_all z.cps
  have e2 : z.length = z.cps.size := rfl
  rw [e2, q]
theorem pe_revS {te : TE} {k : Nat} {p1 p2 p3 : Pos} (he : PE X e te) : PE X (.Subscript e (.Slice none none (some (.UnaryOp .USub (.Constant (.int 1) k p1) p2)) p3) pos) (tRevS te) := by
  refine ⟨fun pins s σ H Q I h => ?_⟩
  refine Subscript_ (thn (he.run pins s σ H _ I h) fun v s1 ⟨x, H1, I1, r1, q1⟩ => ?_)
  obtain ⟨z, ex, hz, q⟩ := q1
  subst ex
  obtain ⟨t, rfl⟩ := r1
  have hst : PE X (.UnaryOp .USub (.Constant (.int 1) k p1) p2) (tUn (rU fun i => .int (-i)) (tC (.int 1))) := pe_un un_neg pe_int
  refine wpAny_Slice (thn (po_none.run pins s1 σ H1 (fun o H2 => o = none ∧ H2 = H1) I1 ⟨rfl, rfl⟩) fun vl s2 ⟨l, H2, I2, pl, el, e2⟩ => ?_)
  subst el e2
  refine thn (po_none.run pins s2 σ H2 (fun o H3 => o = none ∧ H3 = H2) I2 ⟨rfl, rfl⟩) fun vu s3 ⟨u, H3, I3, pu, eu, e3⟩ => ?_
  subst eu e3
  show wpAny _ _ (eval (.UnaryOp .USub (.Constant (.int 1) k p1) p2) X.env) _ _ _
  refine thn (hst.run pins s3 σ H3 (fun o H4 => o = .int (-1) ∧ H4 = H3) I3 ⟨1, rfl, rfl, rfl⟩) fun vs s4 ⟨o, H4, I4, ps, eo, e4⟩ => ?_
  subst eo e4
  obtain ⟨t2, rfl⟩ := ps
  cases pl
  cases pu
  have I5 : Inv X pins σ H4 { s4 with heap := s4.heap.push { cls := .type "slice", data := .fields #[.none, .none, .int (-1) t2] } } := I4.kept (t' := s4.toks) fun b ob q => Heap.get?_push_of_some _ q
  refine tail_any (ops := [.ref s4.heap.objs.size, .str z t]) (typeIs_str _ z t) PySem.F.slot_str_getitem.lookup ?_ (by with_unfolding_all rfl)
  refine wpAny_getItem_str_slice (l := none) (u := none) (st := some (-1, t2)) ⟨_, Heap.get?_push_size _ rfl, rfl, rfl⟩ rfl ?_
  have e : sliceMade z t none none (some (-1, t2)) = Made.str (revS z) := by
    unfold sliceMade
    rw [if_neg (by simp)]
    show Made.str ⟨((Builtin.Str.strSliceIndices none none (-1) z.length).filterMap (z.cps[·]?)).toArray⟩ = _
    rw [rev_picked z t]
    rfl
  rw [e]
  refine ⟨?_, ⟨.str _, H4, I5.tok _, ⟨_, rfl⟩, q⟩⟩
  show (z.cps.toList.reverse.toArray).size ≤ sizeLine
  rw [List.size_toArray, List.length_reverse]
  exact hz
def revF : Da → Option Da
  | .str z => if z.length ≤ sizeLine then some (.str (revS z)) else none
  | _ => none
theorem de_revS {k : Nat} {p1 p2 p3 : Pos} (ha : DE X W E e f) : DE X W E (.Subscript e (.Slice none none (some (.UnaryOp .USub (.Constant (.int 1) k p1) p2)) p3) pos) (fUn revF f) := by
  obtain ⟨te, pa, qa⟩ := ha.ex
  refine ⟨_, pe_revS pa, fun G H σ ρ s Q S h0 => ?_⟩
  refine e_bind (ta := te) (kE X W E) qa S h0 fun d s' v G1 H1 x r S1 h1 => ?_
  obtain ⟨z, hz, hq⟩ := lift_post h1
  unfold revF at hz
  split at hz
  · split at hz
    · rename_i hl
      cases hz
      cases r
      exact ⟨_, rfl, hl, hq _ G1 H1 (.refl S1.in_) S1.rel (.str _)⟩
    · cases hz
  · cases hz

/-! ### methods of a text -/
def itemsT : Da → Option (List Da)
  | .lst ds => some ds
  | .tup ds => some ds
  | _ => none
def MetD (K : PySem.W.Frag) (r : V → List V → Hp → VK → Prop) (F : Str → Da → Option Da) : Prop := ∀ (mu : List Addr) (G H : Hp) (a : Str) (y : V) (e z : Da) (Q : VK), Same G H → ReO K mu G H y e → F a e = some z →
  (∀ v G' H', Xp G H G' H' → Re K G' v z → Q v H') → r (.str a) [y] H Q
def MetN (K : PySem.W.Frag) (r : V → List V → Hp → VK → Prop) (F : Str → Da → Option (List Da)) : Prop := ∀ (mu : List Addr) (G H : Hp) (a : Str) (y : V) (e : Da) (z : List Da) (Q : VK), Same G H → ReO K mu G H y e → F a e = some z →
  (∀ p vs H', Xp G H G H' → H' p = some (.lst vs) → H p = none → ReL K G vs z → Q (.ref p) H') → r (.str a) [y] H Q
def fMeth {S : Type} (F : Str → Da → Option Da) (f g : Ev → Fx S Da) : Ev → Fx S Da := fun ρ => bnd (f ρ) fun x => match x with
  | .str a => bnd (g ρ) fun y => lift (F a y)
  | _ => fun _ => .no
def fMethN {S : Type} (F : Str → Da → Option (List Da)) (f g : Ev → Fx S Da) : Ev → Fx S (List Da) := fun ρ => bnd (f ρ) fun x => match x with
  | .str a => bnd (g ρ) fun y => lift (F a y)
  | _ => fun _ => .no
theorem de_meth1 {id : String} {name : Str} {apos : Pos} {r : V → List V → Hp → VK → Prop} {F : Str → Da → Option Da} (slot : Slot "str" name id) (ty : typeOf (.builtin id) = pure (.type "method_descriptor")) (rule : MtR X id r) (hr : MetD X.K r F) (ho : DE X W E o f) (he : DO X W E e g)
    (hs : starEach [e] X.env = [(false, eval e X.env)] := by rfl) (hbase : attributeBase o name X.env (eval o X.env) = eval o X.env := by rfl) (hline : (apos.endLine == pos.line) = true := by rfl) :
    DE X W E (.Call (.Attribute o name apos) [e] [] pos) (fMeth F f g) := by
  obtain ⟨ta, pa, qa⟩ := ho.ex
  obtain ⟨tb, pb, qb⟩ := he.ex
  refine ⟨_, pe_m1 slot ty rule pa pb hs hbase hline, fun G H σ ρ s Q S h0 => ?_⟩
  refine e_bind (ta := ta) (kE X W E) qa S h0 fun d s1 v G1 H1 x1 r1 S1 h1 => ?_
  cases d with
  | str a =>
    cases r1
    refine ⟨⟨a, rfl⟩, o_bind (ta := tb) (kE X W E) qb S1 h1 fun d2 s2 v2 G2 H2 x2 r2 S2 h2 => ?_⟩
    obtain ⟨z, hz, hq⟩ := lift_post h2
    exact hr W.mu G2 H2 a v2 d2 z Q S2.in_ r2 hz fun v' G' H' x y => hq v' G' H' x.xt (S2.keep x) y
  | _ => exact False.elim h1
theorem dn_meth1 {id : String} {name : Str} {apos : Pos} {r : V → List V → Hp → VK → Prop} {F : Str → Da → Option (List Da)} (slot : Slot "str" name id) (ty : typeOf (.builtin id) = pure (.type "method_descriptor")) (rule : MtR X id r) (hr : MetN X.K r F) (ho : DE X W E o f) (he : DO X W E e g)
    (hs : starEach [e] X.env = [(false, eval e X.env)] := by rfl) (hbase : attributeBase o name X.env (eval o X.env) = eval o X.env := by rfl) (hline : (apos.endLine == pos.line) = true := by rfl) :
    DN X W E (.Call (.Attribute o name apos) [e] [] pos) (fMethN F f g) := by
  obtain ⟨ta, pa, qa⟩ := ho.ex
  obtain ⟨tb, pb, qb⟩ := he.ex
  refine ⟨_, pe_m1 slot ty rule pa pb hs hbase hline, fun G H σ ρ s Q S h0 => ?_⟩
  refine e_bind (ta := ta) (kN X W E) qa S h0 fun d s1 v G1 H1 x1 r1 S1 h1 => ?_
  cases d with
  | str a =>
    cases r1
    refine ⟨⟨a, rfl⟩, o_bind (ta := tb) (kN X W E) qb S1 h1 fun d2 s2 v2 G2 H2 x2 r2 S2 h2 => ?_⟩
    obtain ⟨z, hz, hq⟩ := liftN_post h2
    refine hr W.mu G2 H2 a v2 d2 z Q S2.in_ r2 hz fun p vs H' x hp hn y => hq p vs G2 H' x.xt (S2.keep x) hp (S2.in_.free hn) hn y
  | _ => exact False.elim h1
/-- sep.join(texts) -/
def joinF (a : Str) (e : Da) : Option Da := match itemsT e with
  | some ds => (match strsD ds with
    | some ys => if (ys.map (·.length)).sum + ys.length * a.length ≤ 16777216 then some (.str (Txt.join a ys)) else none
    | none => none)
  | none => none
theorem met_join (K : PySem.W.Frag) : MetD K (fun x xs H Q => ∃ a p, ∃ ys : List Str, x = .str a ∧ xs = [.ref p] ∧ (SqL K H p (ys.map V.str) ∨ SqT K H p (ys.map V.str)) ∧
    (ys.map (·.length)).sum + ys.length * a.length ≤ 16777216 ∧ Q (.str (Txt.join a ys)) H) joinF := by
  intro mu G H a y e z Q s r h q
  unfold joinF at h
  cases h1 : itemsT e with
  | none => rw [h1] at h; cases h
  | some ds =>
    rw [h1] at h
    simp only at h
    cases h2 : strsD ds with
    | none => rw [h2] at h; cases h
    | some ys =>
      rw [h2] at h
      simp only at h
      split at h
      · rename_i hl
        cases h
        have e1 := strsD_eq h2
        have fin := q (.str (Txt.join a ys)) G H (.refl s) (.str _)
        cases e with
        | lst ds' =>
          cases h1
          obtain ⟨p, vs, rfl, hq, rl⟩ := r.lst s
          subst e1
          exact ⟨a, p, ys, rfl, rfl, .inl (by rw [← rl.strs]; exact hq), hl, fin⟩
        | tup ds' =>
          cases h1
          obtain ⟨p, vs, rfl, hq, rl⟩ := r.tup s
          subst e1
          exact ⟨a, p, ys, rfl, rfl, .inr (by rw [← rl.strs]; exact hq), hl, fin⟩
        | _ => cases h1
      · cases h
theorem de_join {apos : Pos} (ho : DE X W E o f) (he : DO X W E e g) (hs : starEach [e] X.env = [(false, eval e X.env)] := by rfl) (hbase : attributeBase o "join" X.env (eval o X.env) = eval o X.env := by rfl) (hline : (apos.endLine == pos.line) = true := by rfl) :
    DE X W E (.Call (.Attribute o "join" apos) [e] [] pos) (fMeth joinF f g) := de_meth1 F.slot_str_join F.type_str_join mt_join (met_join X.K) ho he hs hbase hline
/-- x.split(sep) -/
def splitF (a : Str) (e : Da) : Option (List Da) := match e with
  | .str b => if (b.length == 0) = false ∧ a.length + 2 ≤ sizeLine then some ((Txt.split a b).map Da.str) else none
  | _ => none
theorem ReL.of_strs {K : PySem.W.Frag} {G : Hp} : ∀ ys : List Str, ReL K G (ys.map V.str) (ys.map Da.str)
  | [] => .nil
  | y :: ys => .cons (.str y) (ReL.of_strs ys)
theorem met_split (K : PySem.W.Frag) : MetN K (fun x xs H Q => ∃ a b, x = .str a ∧ xs = [.str b] ∧ (b.length == 0) = false ∧ a.length + 2 ≤ sizeLine ∧ rNewStrs (Txt.split a b) H Q) splitF := by
  intro mu G H a y e z Q s r h q
  unfold splitF at h
  split at h
  · split at h
    · rename_i b hc
      cases h
      exact ⟨a, b, rfl, by rw [r.str], hc.1, hc.2, fun p hp => q p _ _ (Xp.new0 s hp) upd_same hp (ReL.of_strs _)⟩
    · cases h
  · cases h
theorem dn_split {apos : Pos} (ho : DE X W E o f) (he : DO X W E e g) (hs : starEach [e] X.env = [(false, eval e X.env)] := by rfl) (hbase : attributeBase o "split" X.env (eval o X.env) = eval o X.env := by rfl) (hline : (apos.endLine == pos.line) = true := by rfl) :
    DN X W E (.Call (.Attribute o "split" apos) [e] [] pos) (fMethN splitF f g) := dn_meth1 F.slot_str_split F.type_str_split mt_split (met_split X.K) ho he hs hbase hline
/-- x.index(y), y found -/
def indexF (a : Str) (e : Da) : Option Da := match e with
  | .str b => (Txt.index0 a b).map fun k => .int (k : Nat)
  | _ => none
theorem de_index {apos : Pos} (hc : X.calm = true) (ho : DE X W E o f) (he : DE X W E e g)
    (hbase : attributeBase o "index" X.env (eval o X.env) = eval o X.env := by rfl)
    (hfew : ((backTo pos (starEach [e] X.env)).all (fun x => !x.1) && (backToKw pos (keywordEach [] X.env)).all (fun x => x.1.isSome)
      && decide ([e].length + ([] : List Keyword).length + (if ([] : List Keyword).isEmpty then 0 else 1) < 30)) = true := by rfl)
    (hline : (apos.endLine == pos.line) = true := by rfl) (hs : starEach [e] X.env = (false, eval e X.env) :: starEach [] X.env := by rfl) (hplain : (backTo pos (starEach [] X.env)).any (·.1) = false := by rfl) :
    DE X W E (.Call (.Attribute o "index" apos) [e] [] pos) (fMeth indexF f g) := by
  obtain ⟨ta, pa, qa⟩ := ho.ex
  obtain ⟨tb, pb, qb⟩ := he.ex
  refine ⟨_, pe_bmS F.plainAttrs_str F.slot_str_index F.type_str_index (mt_indexX hc takes_none5) pa (pa_cons pb pa_nil hs) hbase hfew hline hs hplain, fun G H σ ρ s Q S h0 => ?_⟩
  refine e_bind (ta := ta) (kE X W E) qa S h0 fun d s1 v G1 H1 x1 r1 S1 h1 => ?_
  cases d with
  | str a =>
    cases r1
    refine ⟨rfl, e_bind (ta := tb) (kE X W E) qb S1 h1 fun d2 s2 v2 G2 H2 x2 r2 S2 h2 => ?_⟩
    obtain ⟨z, hz, hq⟩ := lift_post h2
    cases d2 with
    | str b =>
      cases r2
      unfold indexF at hz
      simp only at hz
      refine ⟨a, b, rfl, rfl, fun k hk => ?_, fun hk => ?_⟩
      · rw [hk] at hz; cases hz; exact hq _ G2 H2 (.refl S2.in_) S2.rel (.int _)
      · rw [hk] at hz; cases hz
    | _ => cases hz
  | _ => exact False.elim h1
end
end Sw

set_option Elab.async false
set_option linter.all false
set_option maxRecDepth 100000
set_option maxHeartbeats 2000000
/-! SwN: isinstance, raise C(), calls by keyword, chains, comprehensions as lists. -/
namespace Sw
open PySem PySem.Spec PyProof.Rows L2
section
variable {X : Cx} {W : Wd} {E : WX} {e o a b c : Expr} {f g m : Ev → Fx W.S Da} {h : Ev → Fx W.S (List Da)} {pos p : Pos}

/-! ### isinstance -/
def tyD (K : PySem.W.Frag) (L : List Str) : Da → Option Value
  | .non => some (.type "NoneType")
  | .bl _ => some (.type "bool")
  | .int _ => some (.type "int")
  | .str _ => some (.type "str")
  | .lst _ => some (.type "list")
  | .tup _ => some (.type "tuple")
  | .dic => some (.type "dict")
  | .exc c => if c ∈ L then some (.ref (He.ga K c)) else none
  | .fn _ => none
def isiF (K : PySem.W.Frag) (L : List Str) (u : Value) (d : Da) : Option Da := (tyD K L d).bind fun t => (PySem.W.kitOne K t u).map .bl
def rIsX (K : PySem.W.Frag) : List V → Hp → VK → Prop := fun xs H Q => ∃ (x : Addr) (D : Addr) (cl : V) (u : Value) (b : Bool), xs = [.ref x, cl] ∧ ClsV cl u ∧ H x = some (ExH (.ref D) x) ∧ ExcC K D ∧ PySem.W.kitOne K (.ref D) u = some b ∧ Q (.bl b) H
theorem call_isX : CallR X (.builtin "isinstance") (rIsX X.K) := by
  intro pins s σ H xs us Q I r h
  obtain ⟨x, D, cl, u, b, rfl, k, hx, C, e, q⟩ := h
  obtain ⟨u1, u2, rfl, r1, r2⟩ := vals2 r
  have e2 := k.eq r2
  subst e2
  cases (show u1 = Value.ref x from r1)
  obtain ⟨⟨oe, vs, hget, hz, hv⟩, _, _⟩ := (show ObjOk X.prog X.w H s.heap x (ExH (.ref D) x) from I.hok x _ hx)
  have J : PySem.W.InstAt s.heap x oe D none := by
    obtain ⟨oc, od, oda, osl⟩ := oe
    obtain ⟨h1, h2⟩ := hz
    dsimp only at h1 h2 hv
    subst h1 h2 hv
    exact ⟨hget, rfl, rfl, trivial⟩
  exact PySem.W.kia_one (PySem.W.handS_kitx_exc C.hg C.hk C.hs C.hd C.ha C.hn C.ht C.hm) I.kIn J e (fun z => nomatch z) fun tk => ⟨.bl b, H, I.kept (t' := tk) fun _ _ z => z, rfl, q⟩
theorem ReO.tyx {K : PySem.W.Frag} {mu : List Addr} {G H : Hp} {v : V} {d : Da} {t : Value} {L : List Str} (s : Same G H) (r : ReO K mu G H v d) (h : tyD K L d = some t) (hL : ∀ c ∈ L, ExcC K (He.ga K c)) :
    TyX K H v t ∨ ∃ (x D : Addr), v = .ref x ∧ t = .ref D ∧ H x = some (ExH (.ref D) x) ∧ ExcC K D := by
  cases d with
  | non => cases h; cases r.non; exact .inl (.base .non)
  | bl b => cases h; cases r.bl; exact .inl (.base (.bl b))
  | int i => cases h; cases r.int; exact .inl (.base (.int i))
  | str z => cases h; cases r.str; exact .inl (.base (.str z))
  | lst ds =>
    cases h
    obtain ⟨p, vs, rfl, hq, _⟩ := r.lst s
    rcases hq with (hq | ⟨ob, hq⟩) | ⟨ob, its, n, hq, hc, _⟩
    · exact .inl (.base (.lst hq))
    · exact .inl (.base (.frz hq))
    · exact .inl (.kList hq hc)
  | tup ds =>
    cases h
    obtain ⟨p, vs, rfl, hq, _⟩ := r.tup s
    rcases hq with (hq | ⟨ob, hq⟩) | ⟨ob, its, n, hq, hc, _⟩
    · exact .inl (.base (.tup hq))
    · exact .inl (.fTuple hq)
    · exact .inl (.kTuple hq hc)
  | dic =>
    cases h
    have r' := r.re fun ds z => nomatch z
    cases r' with
    | dic e => exact .inl (.base (.dK (s _ _ e)))
  | exc c =>
    have r' := r.re fun ds z => nomatch z
    unfold tyD at h
    simp only at h
    split at h
    · rename_i hc
      cases h
      cases r' with
      | exc e => exact .inr ⟨_, _, rfl, rfl, s _ _ e, hL c hc⟩
    · cases h
  | fn _ => cases h
theorem de_isi {L : List Str} {v : V} {u : Value} {cn : Str} {pc : Pos} (hg : Gl X "isinstance") (hm : X.mg "isinstance" = none) (hL : ∀ c ∈ L, ExcC X.K (He.ga X.K c)) (he : DO X W E e f) (hc : PE X (.Name cn pc) (tC v)) (k : ClsV v u)
    (hs : starEach [e, .Name cn pc] X.env = (false, eval e X.env) :: starEach [.Name cn pc] X.env := by rfl) (hs2 : starEach [.Name cn pc] X.env = (false, eval (.Name cn pc) X.env) :: starEach [] X.env := by rfl) (hpl : (backTo pos (starEach [.Name cn pc] X.env)).any (·.1) = false := by rfl) :
    DE X W E (.Call (.Name "isinstance" p) [e, .Name cn pc] [] pos) (fUn (isiF X.K L u) f) := by
  obtain ⟨ta, pa, qa⟩ := he.ex
  refine ⟨_, pe_callB (CallR.or call_isi call_isX) hg hm boot_isinstance (pa_cons pa (pa_cons hc pa_nil hs2) hs) (by decide) (by decide) hs hpl, fun G H σ ρ s Q S h0 => ?_⟩
  refine o_bind (ta := ta) (kE X W E) qa S h0 fun d s1 x G1 H1 x1 r1 S1 h1 => ?_
  obtain ⟨z, hz, hq⟩ := lift_post h1
  unfold isiF at hz
  cases ht : tyD X.K L d with
  | none => rw [ht] at hz; cases hz
  | some t =>
    rw [ht] at hz
    simp only [Option.bind_some] at hz
    cases hk : PySem.W.kitOne X.K t u with
    | none => rw [hk] at hz; cases hz
    | some b =>
      rw [hk] at hz
      cases hz
      have fin := hq (.bl b) G1 H1 (.refl S1.in_) S1.rel (.bl b)
      show _ ∨ _
      rcases r1.tyx S1.in_ ht hL with ty | ⟨y, D, rfl, rfl, hy, C⟩
      · exact .inl ⟨x, v, t, u, b, rfl, k, ty, hk, fin⟩
      · exact .inr ⟨y, D, v, u, b, rfl, k, hy, C, hk, fin⟩

/-! ### raise C() -/
theorem pmk_own0 {C : Addr} {bmB : List Value} {B newId initId : String} {x : Str} (F : ExcBaseFacts B newId initId bmB) (q : PySem.W.excIn X.K C bmB newId = true) (gC : X.mg x = some (.ref C)) (kC : PySem.W.keepIn X.K (.ref C) = true) (r : Raises X (.ref C)) (hg : Gl X x)
    (hdb : (x == ("__debug__" : Str)) = false := by decide) : PMk X (.Call (.Name x p) [] [] pos) (fun _ H Q => Q (.ref C) none H) := by
  intro pins s σ H Q I h
  refine wpAny_Call_Name_kw (ld_glob I hg gC ?_ hdb)
  refine PySem.W.callWith_K0 I.kIn kC ?_
  show wpAny _ _ (call (.ref C) []) _ _ _
  obtain ⟨bm, N, nm, qn, bs, hdct, sn, sub, ab, col, dd, k0, k1, k2, k3, k5, mN, hC, hN, hni, T⟩ := exc_obj I.kIn q
  refine wpAny_call_exc_subT F T hC hN hni (fun h' e hm => ?_) (by show 0 ≤ sizeLine; exact Nat.zero_le _)
  exact mk_of I hm r h (I.hok.gone hm.new)
/-- the facts of an own exception class -/
structure ExF (K : PySem.W.Frag) (mg : Str → Option Value) (c : Str) : Prop where
  g : mg c = some (.ref (He.ga K c))
  q : PySem.W.excIn K (He.ga K c) He.veBase "ValueError.__new__" = true
  k : PySem.W.keepIn K (.ref (He.ga K c)) = true
  sb : PySem.W.subIn K (.ref (He.ga K c)) (.type "BaseException") = some true
  ty : PySem.W.typeIn K (.ref (He.ga K c)) = some (.type "type")
theorem ds_raise0 {c : Str} {Ek : XK} {pos2 : Pos} (hc : X.calm = true) (tk : Takes X (fun cls d _ H => Ek cls d H)) (F : ExF X.K X.mg c) (hg : Gl X c) (hdb : (c == ("__debug__" : Str)) = false := by decide) :
    PS X (.Raise (some (.Call (.Name c p) [] [] pos)) none pos2) (tS X.K W (wk X.K Ek) (gRaise c)) :=
  ds_raise (ps_imp (ps_raise (W := fun cls d _ H => Ek cls d H) hc tk (pmk_own0 PySem.F.excBase_ValueError F.q F.g F.k (raises_own F.sb F.ty) hg hdb)) fun D σ H hw => hw)

/-! ### a op b op c -/
def fChain {S : Type} (F1 F2 : Da → Da → Option Da) (f g m : Ev → Fx S Da) : Ev → Fx S Da := fun ρ => bnd (f ρ) fun x => bnd (g ρ) fun y => bnd (lift (F1 x y)) fun z => match z with
  | .bl true => bnd (m ρ) fun w => lift (F2 y w)
  | .bl false => ret (.bl false)
  | _ => fun _ => .no
theorem chain_post {r1 r2 : R2} {F1 F2 : Da → Da → Option Da} {ta tb tc : TE} (hr1 : OpD X.K r1 F1) (hr2 : OpD X.K r2 F2) (qa : ∀ G H σ ρ s (Q : VK), Stt X.K W G H σ ρ s → OPost X.K W E G H (f ρ s) Q → ta σ H Q)
    (qb : ∀ G H σ ρ s (Q : VK), Stt X.K W G H σ ρ s → OPost X.K W E G H (g ρ s) Q → tb σ H Q) (qc : ∀ G H σ ρ s (Q : VK), Stt X.K W G H σ ρ s → OPost X.K W E G H (m ρ s) Q → tc σ H Q)
    {G H : Hp} {σ : L2.St} {ρ : Ev} {s : W.S} {Q : VK} (S : Stt X.K W G H σ ρ s) (h0 : EPost X.K W E G H (fChain F1 F2 f g m ρ s) Q) : tChain r1 r2 ta tb tc σ H Q := by
  refine o_bind (ta := ta) (kE X W E) qa S h0 fun d1 s1 x G1 H1 x1 y1 S1 h1 => ?_
  refine o_bind (ta := tb) (kE X W E) qb S1 h1 fun d2 s2 y G2 H2 x2 y2 S2 h2 => ?_
  cases hz : F1 d1 d2 with
  | none => rw [hz] at h2; exact (show False from h2).elim
  | some z =>
    rw [hz] at h2
    refine hr1 W.mu G2 H2 x y d1 d2 z _ S2.in_ (y1.xt x2) y2 hz fun v3 G3 H3 x3 y3 => ?_
    have S3 := S2.xp x3
    have h3 := (kE X W E).later h2 x3.xt
    cases z with
    | bl k =>
      cases y3
      refine ⟨k, rfl, ?_⟩
      cases k with
      | true =>
        refine ite_tt ?_
        refine o_bind (ta := tc) (kE X W E) qc S3 h3 fun d4 s4 w4 G4 H4 x4 y4 S4 h4 => ?_
        obtain ⟨z, hz, hq⟩ := lift_post h4
        exact hr2 W.mu G4 H4 y w4 d2 d4 z Q S4.in_ ((y2.xt x3.xt).xt x4) y4 hz fun v' G' H' x y => hq v' G' H' x.xt (S4.keep x) y
      | false => exact ite_ff (h3 _ G3 H3 (.refl S3.in_) S3.rel (.bl false))
    | _ => exact (show False from h3).elim
theorem de_chain {op op' : CmpOp} {r1 r2 : R2} {F1 F2 : Da → Da → Option Da} (o1 : OpR X (compareOp op) r1) (o2 : OpR X (compareOp op') r2) (hr1 : OpD X.K r1 F1) (hr2 : OpD X.K r2 F2) (ha : DO X W E a f) (hb : DO X W E b g) (hc : DO X W E c m)
    (hm : lastMarks [op, op'] [b, c] = false := by with_unfolding_all rfl) : DE X W E (.Compare a [op, op'] [b, c] pos) (fChain F1 F2 f g m) := by
  obtain ⟨ta, pa, qa⟩ := ha.ex
  obtain ⟨tb, pb, qb⟩ := hb.ex
  obtain ⟨tc, pc, qc⟩ := hc.ex
  exact ⟨_, pe_chain o1 o2 pa pb pc hm, fun G H σ ρ s Q S h0 => chain_post hr1 hr2 qa qb qc S h0⟩
theorem dt_chain {op op' : CmpOp} {r1 r2 : R2} {F1 F2 : Da → Da → Option Da} (o1 : OpR X (compareOp op) r1) (o2 : OpR X (compareOp op') r2) (hr1 : OpD X.K r1 F1) (hr2 : OpD X.K r2 F2) (ha : DO X W E a f) (hb : DO X W E b g) (hc : DO X W E c m)
    (hm : lastMarks [op, op'] [b, c] = false := by with_unfolding_all rfl) : DT X W E (.Compare a [op, op'] [b, c] pos) (fTest (fChain F1 F2 f g m)) := by
  obtain ⟨ta, pa, qa⟩ := ha.ex
  obtain ⟨tb, pb, qb⟩ := hb.ex
  obtain ⟨tc, pc, qc⟩ := hc.ex
  exact ⟨_, pt_chain o1 o2 pa pb pc hm, fun G H σ ρ s Q S h0 => test_post (fun G H σ ρ s Q S h => chain_post hr1 hr2 qa qb qc S h) S h0⟩

/-! ### comprehensions -/
theorem dn_comp {elt tg iter : Expr} {ifs : List Expr} {scope : Scope} {own : List (Str × Nat)} {it : Ev → Fx W.S (List Da)} {hh : Ev → Da → Option Ev} {t : Ev → Fx W.S Bool} {js : List Nat} (hc : X.calm = true) (hN : X.N.Nodup) (hi : DI X W E tg iter it) (ok : BlkOk X.N X.env.scope scope own) (hj : ∀ j ∈ js, j ∈ own.map (·.2))
    (hg : ∀ (s : Shared) (H : Hp) (C : Addr) (cl : List (Str × Addr)) (fp : List Addr), PG (X.blk s H scope (compEnvC scope cl C X.env) fp) tg (tG X.K W js hh)) (ht : ∀ (s : Shared) (H : Hp) (C : Addr) (cl : List (Str × Addr)) (fp : List Addr), PTs (X.blk s H scope (compEnvC scope cl C X.env) fp) ifs (tT X.K W noX t))
    (he : ∀ (s : Shared) (H : Hp) (C : Addr) (cl : List (Str × Addr)) (fp : List Addr), DE (X.blk s H scope (compEnvC scope cl C X.env) fp) W noX elt f) (hs : ∀ x, foldedSetIterable iter X.env x = pure x := by intro _; rfl) :
    DN X W E (.ListComp elt [⟨tg, iter, ifs, 0⟩] scope pos) (fComp it hh t f (own.map (·.2))) := by
  obtain ⟨ti, pi, qi⟩ := hi.ex
  exact ⟨_, pe_lc hc hN pi ok hg ht (fun s H C cl fp => (he s H C cl fp).pe) hs, fun G H σ ρ s Q S h0 => comp_post hj qi S h0⟩
def fTrue {S : Type} : Ev → Fx S Bool := fun _ => ret true
theorem pts_nilD : PTs X [] (tT X.K W noX (fTrue (S := W.S))) := by
  have q := pts_nil (X := X)
  exact ⟨fun pins s σ H Q I hw => q.run pins s σ H Q I (by
    obtain ⟨G, ρ, s', S, z⟩ := hw
    exact z G H (.refl S.in_) S.rel)⟩
theorem pts_oneD {t : Ev → Fx W.S Bool} (hb : DT X W noX e t) : PTs X [e] (tT X.K W noX t) := pts_one hb.pt
theorem ds_setLc {elt tg iter : Expr} {ifs : List Expr} {scope : Scope} {own : List (Str × Nat)} {i : Nat} {y : Str} {py spos : Pos} {it : Ev → Fx W.S (List Da)} {hh : Ev → Da → Option Ev} {t : Ev → Fx W.S Bool} {js : List Nat} (hc : X.calm = true) (hN : X.N.Nodup) (hy : X.N[i]? = some y) (hyl : X.env.scope.names.lookup y = some .local)
    (hsw : swapsWith (.ListComp elt [⟨tg, iter, ifs, 0⟩] scope pos) (some (.Name y py)) spos.line X.env = pure true) (hi : DI X W E tg iter it) (ok : BlkOk X.N X.env.scope scope own) (hj : ∀ j ∈ js, j ∈ own.map (·.2))
    (hg : ∀ (s : Shared) (H : Hp) (C : Addr) (cl : List (Str × Addr)) (fp : List Addr), PG (X.blk s H scope (compEnvC scope cl C X.env) fp) tg (tG X.K W js hh)) (ht : ∀ (s : Shared) (H : Hp) (C : Addr) (cl : List (Str × Addr)) (fp : List Addr), PTs (X.blk s H scope (compEnvC scope cl C X.env) fp) ifs (tT X.K W noX t))
    (he : ∀ (s : Shared) (H : Hp) (C : Addr) (cl : List (Str × Addr)) (fp : List Addr), DE (X.blk s H scope (compEnvC scope cl C X.env) fp) W noX elt f) (hs : ∀ x, foldedSetIterable iter X.env x = pure x := by intro _; rfl) :
    PS X (.Assign [.Name y py] (.ListComp elt [⟨tg, iter, ifs, 0⟩] scope pos) spos) (tS X.K W E (gSetO i (fComp it hh t f (own.map (·.2))))) := by
  obtain ⟨ti, pi, qi⟩ := hi.ex
  exact ds_setO (ps_imp (ps_setLc hc hN hy hyl hsw pi ok hg ht (fun s H C cl fp => (he s H C cl fp).pe) hs) fun D σ H ⟨G, ρ, s, S, z⟩ => comp_post hj qi S z)

/-! ### f(k = e) -/
/-- a def with one parameter, called by its name -/
structure FnPK (P : Program) (w : World) (K : PySem.W.Frag) (mg : Str → Option Value) (base : Heap) (k : Nat) (x q : Str) (F : List Da → Rp Da) : Prop where
  ex : ∃ f fd, FnOk P w K mg base (L2.CX P w) k f fd [q] (spP K F) ∧ mg x = some (.ref f) ∧ PySem.W.keepIn K (.ref f) = true ∧ KBn K fd [q] 0 [q] (fun _ ws => ws) (fun _ zs => zs)
theorem de_callKw {k j : Nat} {x q : Str} {F : List Da → Rp Da} {Ek : XK} {kpos : Pos} (Fn : FnPK X.prog X.w X.K X.mg X.base k x q F) (hr : Room j X.A) (hk : k ≤ j) (hx : Passes (L2.CX X.prog X.w) X Ek) (hg : Gl X x) (ha : DE X W (wk X.K Ek) e f)
    (hall : (backToKw pos (keywordEach [⟨some q, e, kpos⟩] X.env)).all (·.1.isSome) = true := by rfl) (hks : (backToKw pos (keywordEach [⟨some q, e, kpos⟩] X.env)).filterMap (·.1) = [q] := by rfl)
    (hdb : (x == ("__debug__" : Str)) = false := by decide) (hpl : ((backTo pos (starEach [] X.env)).any (·.1) || (backToKw pos (keywordEach [⟨some q, e, kpos⟩] X.env)).any (·.1.isNone)) = false := by rfl) :
    DE X W (wk X.K Ek) (.Call (.Name x p) [] [⟨some q, e, kpos⟩] pos) (fCall F (fCons f (fNil (S := W.S)))) := by
  obtain ⟨fa, fd, G0, hm, kp, kb⟩ := Fn.ex
  obtain ⟨ta, pa, qa⟩ := ha.ex
  have hkw : PK X [⟨some q, e, kpos⟩] (tCons ta tNil) := pk_cons pa pk_nil
  refine ⟨fun σ H Q => tCons ta tNil σ H fun vs H1 => vs.length = 1 ∧ spP X.K F vs H1 Q Ek, ⟨fun pins s σ H Q I h => ?_⟩, fun G H σ ρ s Q S h0 => ?_⟩
  · refine wpAny_Call_Name_kw (ld_glob I hg hm ?_ hdb)
    refine PySem.W.callWith_KW0 (h₀ := X.base) I.ok.mod.kin kp hall (thn (hkw.run pos pins s σ H _ I h) fun ws s2 ⟨zs, H2, I2, rz, l2, q2⟩ => ⟨I2.kIn, ?_⟩) hpl
    rw [hks]
    exact run_fnN G0 (hr.mono hk) kb hx I2 .nil rz rfl l2 q2
  · refine e_bind (ta := ta) (Q := Q) (kE X W (wk X.K Ek)) (k := fun x => bnd (bnd (fun s => Rp.ok (([] : List Da), s)) fun y => ret (x :: y)) fun ds => liftR (F ds)) qa S ?_ fun d s1 v G1 H1 x1 y1 S1 h1 => ?_
    · have e1 : fCall F (fCons f (fNil (S := W.S))) ρ s = bnd (f ρ) (fun x => bnd (bnd (fun s => Rp.ok (([] : List Da), s)) fun y => ret (x :: y)) fun ds => liftR (F ds)) s := by
        unfold fCall fCons fNil bnd
        cases f ρ s with
        | ok z => rfl
        | er c => rfl
        | no => rfl
      rw [e1] at h0
      exact h0
    · have h2 : EPost X.K W (wk X.K Ek) G1 H1 (liftR (F [d]) s1) Q := h1
      refine ⟨rfl, G1, [d], S1.in_, .cons y1 .nil, ?_⟩
      cases hF : F [d] with
      | ok z => rw [hF] at h2; exact fun v' G' H' x' y' => h2 v' G' H' x'.xt (S1.keep x') y'
      | er cc => rw [hF] at h2; exact fun G' H' x' => h2 G' H' x'.xt
      | no => rw [hF] at h2; exact h2
end
/-- .. by the def's own body -/
theorem fnPK_of {P : Program} {w : World} {K : PySem.W.Frag} {mg : Str → Option Value} {base : Heap} {x q : Str} {st : Stmt} {f : Addr} {fd : FuncData} {k : Nat} {F : List Da → Rp Da} (Fd : FunD K x x (defArgs st) (defBody st) (defScope st) [] [] f fd) (hm : mg x = some (.ref f)) (Fn : FnOk P w K mg base (L2.CX P w) k f fd [q] (spP K F))
    (h : ∀ (kV doc pm : Value) (an : Option Addr) (cdv ct u : Value), bindArgs (PySem.W.fnOf x x (defArgs st) (defBody st) (defScope st) .none kV doc pm an cdv ct) ⟨[], [(q, u)]⟩ = pure [(q, u)]) : FnPK P w K mg base k x q F := by
  refine ⟨f, fd, Fn, hm, Fd.kp, ⟨fun s us ws X l1 l2 => ?_, fun _ r => r⟩⟩
  obtain ⟨oc, od, dV, kV, doc, pm, an, cdv, ct, osl, rfl, lk, hcd, hD, hK⟩ := Fd.ex
  obtain rfl : us = [] := List.length_eq_zero_iff.mp l1
  obtain ⟨u, rfl⟩ : ∃ u, ws = [u] := List.length_eq_one_iff.mp l2
  rcases hD with ⟨_, rfl⟩ | ⟨e, _⟩
  · exact .of_eq (h kV doc pm an cdv ct u)
  · exact absurd rfl e
end Sw

set_option Elab.async false
set_option linter.all false
set_option maxRecDepth 100000
set_option maxHeartbeats 2000000
/-! SwG: what the printed derivations lean on. -/
namespace Sw
open PySem PySem.Spec PyProof.Rows L2
section
variable {P : Program} {w : World} {K : PySem.W.Frag} {mg : Str → Option Value} {base : Heap} {N : List Str} {q : Str} {sc : Scope} {f : Addr} {cdv : Value} {A : Around} {outer : List Env} {s : Shared} {H : Hp} {E : XK}
theorem takesC : Takes (cxOf (L2.CX P w) P w K mg base N q sc f cdv A outer s H E) (fun cls d _ H => E cls d H) := takes_of rfl rfl rfl rfl
theorem passC : Passes (L2.CX P w) (cxOf (L2.CX P w) P w K mg base N q sc f cdv A outer s H E) E := passes_call takesC fun _ _ _ _ h => h
theorem ownC : PassesOwn (model P w) (cxOf (L2.CX P w) P w K mg base N q sc f cdv A outer s H E).A (cxOf (L2.CX P w) P w K mg base N q sc f cdv A outer s H E).env (cxOf (L2.CX P w) P w K mg base N q sc f cdv A outer s H E).xe := passes_of rfl
end
abbrev LenOk {S : Type} (h : Ev → Fx S (List Da)) (n : Nat) : Prop := ∀ ρ s ds s', h ρ s = .ok (ds, s') → ds.length = n
theorem lenNil {S : Type} : LenOk (fNil (S := S)) 0 := fun ρ s ds s' e => by
  injection e with e
  injection e with e1 e2
  rw [← e1]
  rfl
theorem lenCons {S : Type} {f : Ev → Fx S Da} {h : Ev → Fx S (List Da)} {n : Nat} (hh : LenOk h n) : LenOk (fCons f h) (n + 1) := fun ρ s ds s' e => by
  unfold fCons bnd at e
  cases r1 : f ρ s with
  | no => rw [r1] at e; cases e
  | er c => rw [r1] at e; cases e
  | ok z =>
    obtain ⟨d, s1⟩ := z
    rw [r1] at e
    simp only at e
    cases r2 : h ρ s1 with
    | no => rw [r2] at e; cases e
    | er c => rw [r2] at e; cases e
    | ok z =>
      obtain ⟨es, s2⟩ := z
      rw [r2] at e
      injection e with e
      injection e with e1 e2
      rw [← e1, List.length_cons, hh ρ s1 es s2 r2]
theorem passB {X : Cx} {P : Program} {w : World} : Passes (L2.CX P w) X (fun _ _ _ => False) := fun _ _ _ _ _ _ _ h => by
  obtain ⟨_, _, _, _, _, _, _, _, _, _, _, _, h⟩ := h
  exact h.elim
section
variable {X : Cx} {W : Wd} {E : WX} {e : Expr} {f g : Ev → Fx W.S Da} {h : Ev → Fx W.S (List Da)} {pos p : Pos} {st : Stmt}
theorem de_gint {x : Str} {i : Int} (h : ∃ t, X.mg x = some (.int i t)) (hg : Gl X x) (hd : (x == ("__debug__" : Str)) = false := by decide) : DE X W E (.Name x pos) (fC (.int i)) := by
  obtain ⟨t, h⟩ := h
  exact de_c (v := .int i) (pe_glob hg h ⟨t, rfl⟩ hd) fun _ => .int i
theorem de_gstr {x z : Str} (h : ∃ t, X.mg x = some (.str z t)) (hg : Gl X x) (hd : (x == ("__debug__" : Str)) = false := by decide) : DE X W E (.Name x pos) (fC (.str z)) := by
  obtain ⟨t, h⟩ := h
  exact de_c (v := .str z) (pe_glob hg h ⟨t, rfl⟩ hd) fun _ => .str z
/-! ### a, b = x, y -/
def gPar {S : Type} (i j : Nat) (h : Ev → Fx S (List Da)) : Sx S := fun ρ s => match h ρ s with
  | .ok ([d, e], s') => .nx ((ρ.set i (.dat d)).set j (.dat e)) s'
  | .ok _ => .no
  | .er c => .er c
  | .no => .no
def gPar3 {S : Type} (i j k : Nat) (h : Ev → Fx S (List Da)) : Sx S := fun ρ s => match h ρ s with
  | .ok ([d, e, u], s') => .nx (((ρ.set i (.dat d)).set j (.dat e)).set k (.dat u)) s'
  | .ok _ => .no
  | .er c => .er c
  | .no => .no
theorem ds_par {i j : Nat} {x y : Str} {a b : Expr} {px py pt : Pos} {kt k2 : Nat} {pt2 : Pos} (hc : X.calm = true) (hN : X.N.Nodup) (hi : X.N[i]? = some x) (hj : X.N[j]? = some y) (hij : i ≠ j)
    (hx : X.env.scope.names.lookup x = some .local) (hy : X.env.scope.names.lookup y = some .local) (ha : DA X W E [a, b] h)
    (hw : swappedStores [.Tuple [.Name x px, .Name y py] kt pt] (.Tuple [a, b] k2 pt2) X.env = pure (some [x, y]))
    (hs : swapsWithSole [.Tuple [.Name x px, .Name y py] kt pt] (.Tuple [a, b] k2 pt2) pos.line X.env = pure false := by rfl) :
    PS X (.Assign [.Tuple [.Name x px, .Name y py] kt pt] (.Tuple [a, b] k2 pt2) pos) (tS X.K W E (gPar i j h)) := by
  obtain ⟨ta, pa, qa⟩ := ha.ex
  refine ps_imp (ps_par hc hN hi hj hij hx hy pa hw hs) fun D σ H ⟨B, G0, G, ρ, s, S, q⟩ => ?_
  refine qa G H σ ρ s _ S.st ?_
  unfold gPar at q
  unfold APost
  cases r : h ρ s with
  | no => rw [r] at q; exact q.elim
  | er c => rw [r] at q; exact fun G' H' x => q G' H' (S.xt.trans x)
  | ok z =>
    obtain ⟨ds, s'⟩ := z
    rw [r] at q
    intro vs G' H' x w y
    cases y with
    | nil => exact q.elim
    | cons r1 r2 =>
      cases r2 with
      | nil => exact q.elim
      | cons r2 r3 =>
        cases r3 with
        | cons _ _ => exact q.elim
        | nil => exact ⟨_, _, rfl, q _ G' H' (((S.go x w).setD i r1).setD j r2)⟩
theorem ds_par3 {i j l : Nat} {x y z : Str} {a b c : Expr} {px py pz pt : Pos} {kt k2 : Nat} {pt2 : Pos} (hc : X.calm = true) (hN : X.N.Nodup) (hi : X.N[i]? = some x) (hj : X.N[j]? = some y) (hl : X.N[l]? = some z) (hij : i ≠ j) (hil : i ≠ l) (hjl : j ≠ l)
    (hx : X.env.scope.names.lookup x = some .local) (hy : X.env.scope.names.lookup y = some .local) (hz : X.env.scope.names.lookup z = some .local) (ha : DA X W E [a, b, c] h)
    (hw : swappedStores [.Tuple [.Name x px, .Name y py, .Name z pz] kt pt] (.Tuple [a, b, c] k2 pt2) X.env = pure (some [x, y, z]))
    (hs : swapsWithSole [.Tuple [.Name x px, .Name y py, .Name z pz] kt pt] (.Tuple [a, b, c] k2 pt2) pos.line X.env = pure false := by rfl) :
    PS X (.Assign [.Tuple [.Name x px, .Name y py, .Name z pz] kt pt] (.Tuple [a, b, c] k2 pt2) pos) (tS X.K W E (gPar3 i j l h)) := by
  obtain ⟨ta, pa, qa⟩ := ha.ex
  refine ps_imp (ps_par3 hc hN hi hj hl hij hil hjl hx hy hz pa hw hs) fun D σ H ⟨B, G0, G, ρ, s, S, q⟩ => ?_
  refine qa G H σ ρ s _ S.st ?_
  unfold gPar3 at q
  unfold APost
  cases r : h ρ s with
  | no => rw [r] at q; exact q.elim
  | er c => rw [r] at q; exact fun G' H' x => q G' H' (S.xt.trans x)
  | ok z =>
    obtain ⟨ds, s'⟩ := z
    rw [r] at q
    intro vs G' H' x w y
    cases y with
    | nil => exact q.elim
    | cons r1 r2 =>
      cases r2 with
      | nil => exact q.elim
      | cons r2 r3 =>
        cases r3 with
        | nil => exact q.elim
        | cons r3 r4 =>
          cases r4 with
          | cons _ _ => exact q.elim
          | nil => exact ⟨_, _, _, rfl, q _ G' H' ((((S.go x w).setD i r1).setD j r2).setD l r3)⟩
theorem ds_forI {tg iter : Expr} {body : List Stmt} {it : Ev → Fx W.S (List Da)} {hh : Ev → Da → Option Ev} {js : List Nat} {g : Sx W.S} (hp : PassesOwn (model X.prog X.w) X.A X.env X.xe) (hc : X.calm = true) (hi : DI X W E tg iter it) (hg : PG X tg (tG X.K W js hh)) (hb : PSs X body (tS X.K W E g))
    (hs : ∀ x, foldedSetIterable iter X.env x = pure x := by intro _; rfl) : PS X (.For tg iter body [] pos) (tS X.K W E (gFor it hh g)) := by
  obtain ⟨ti, pi, qi⟩ := hi.ex
  exact ds_for qi (ps_for hp hc pi hg hb hs)
end
end Sw

set_option Elab.async false
set_option linter.all false
set_option maxRecDepth 100000
set_option maxHeartbeats 2000000
/-! SwL: a lambda handed to a def that keeps what it raises; the exception is kept as data. -/
namespace Sw
open PySem PySem.Spec PyProof.Rows L2 LamX

/-! ### an object that stands, untracked, is tracked -/
theorem Inv.track {X : Cx} {pins : List (Addr × Obj)} {σ : L2.St} {H : Hp} {s : Shared} {a : Addr} {o : HO} (I : Inv X pins σ H s) (hn : H a = none) (h0 : X.s_0.heap.get? a = none) (hL : a ≠ X.env.locals) (hc : ∀ x c, X.env.cells.lookup x = some c → c ≠ a)
    (hp : ∀ p ∈ X.pn ++ pins, p.1 ≠ a) (new : ObjOk X.prog X.w (upd H a o) s.heap a o) : Inv X pins σ (upd H a o) s := by
  have neS : ∀ b u, X.s_0.heap.get? b = some u → b ≠ a := fun b u e q => by rw [q, h0] at e; cases e
  have ne : ∀ b u, H b = some u → b ≠ a := fun b u e q => by rw [q, hn] at e; cases e
  refine ⟨I.ok, I.os, I.bare, ⟨I.base.keep, I.base.slot, fun b u e n hx => by rw [upd_ne (neS b u e)]; exact I.base.free b u e n hx, I.base.there, fun b xs e => ?_, fun b u xs e => ?_, fun b ps e => ?_⟩, I.loc, I.cell, ?_, fun x c e => ?_, fun p hpm => ?_, fun b u e => ?_, I.len⟩
  · have q := I.base.tups b xs e
    rw [upd_ne (ne b _ q)]; exact q
  · have q := I.base.frzs b u xs e
    rw [upd_ne (ne b _ q)]; exact q
  · obtain ⟨m, q⟩ := I.base.tbls b ps e
    exact ⟨m, by rw [upd_ne (ne b _ q)]; exact q⟩
  · rw [upd_ne hL.symm]; exact I.free
  · rw [upd_ne (hc x c e)]; exact I.freeC x c e
  · obtain ⟨e, n, r⟩ := I.pin p hpm
    exact ⟨e, by rw [upd_ne (hp p hpm)]; exact n, r⟩
  · by_cases hb : b = a
    · subst hb
      rw [upd_same] at e
      cases e
      exact new
    · rw [upd_ne hb] at e
      exact (I.hok b u e).stay (fun c v _ q => q) (fun c q => by rw [upd_ne (ne c _ q)]; exact q) fun c xs q => by rw [upd_ne (ne c _ q)]; exact q

/-! ### try: body / except x as n: suite; what it caught is kept -/
def wKp (K : PySem.W.Frag) (c : Value) (i : Nat) (ts : Addr → TS) (D : Ends) : L2.WX := fun cls d σ H =>
  PySem.W.exmOne K cls c = some true ∧ d = none ∧ ∀ a, H a = none → ts a { nx := fun σ' H' => D.nx (σ'.set i none) (upd H' a (ExH cls a)), rt := fun _ _ => False, bk := fun _ _ => False, ct := fun _ _ => False } (σ.set i (some (.ref a))) H
section
variable {X : Cx} {x n : Str} {c : Value} {i : Nat} {body suite : List Stmt} {b₀ : Stmt} {np pos pos' : Pos} {tb : L2.WX → TS} {ts : Addr → TS}
theorem ps_try_keep (hs : X.stack = X.env :: X.outer) (hf : X.env.frame = some X.env.locals) (hex : X.ex = []) (hN : X.N.Nodup) (hi : X.N[i]? = some n) (hln : X.env.kindOf n = some .local) (hc : Names X x c)
    (hb : ∀ (W : L2.WX) (pn : List (Addr × Obj)) (xe : Value → Shared → Prop), Takes (X.tr pn xe) W → PassesOwn (model X.prog X.w) X.A X.env xe → PSs (X.tr pn xe) body (tb W))
    (hsu : ∀ (a : Addr) (oe : Obj) (pn : List (Addr × Obj)), PSs (X.suite a ((a, oe) :: pn)) (b₀ :: suite) (ts a)) :
    PS X (.Try body [.ExceptHandler (some (.Name x np)) (some n) (b₀ :: suite) pos'] [] [] pos) (fun D σ H => tb (wKp X.K c i ts D) D σ H) := by
  refine ⟨fun pins s σ H D I wish => ?_⟩
  have okX := I.ok
  have frames : X.A.frames = some (X.env :: X.outer) := by rw [okX.frames, hs]
  refine wpAny_Try_except (wpAny_mono ((hb (wKp X.K c i ts D) (X.pn ++ pins) (fun e s₁ => wpAny (model X.prog X.w) X.A (noteFrame e X.env) (fun _ s₂ => wpAny (model X.prog X.w) X.A (setFlight e none) (fun _ s₃ =>
    wpAny (model X.prog X.w) X.A (handleBy e X.env [.ExceptHandler (some (.Name x np)) (some n) (b₀ :: suite) pos']) (SP X pins D) X.xe s₃) X.xe s₂) X.xe s₁) (fun u s' air => ?_) PassesOwn.looking).run [] s σ H D (I.toTry _) wish) (fun f s1 out => ?_) (fun e s1 he => he))
  · obtain ⟨a, B, sI, pins', σ', H', cls, d, rfl, JT, nb, up, sky, na, hos, bare, hyes, hd0, hgo⟩ := air
    subst hd0
    have J : Inv X pins σ' H' sI := JT.ofTry okX
    have sky' : Sky B (X.env :: X.outer) a (Zc cls none) X.env.locals s'.heap := by rw [← hs]; exact sky
    show wpAny (model X.prog X.w) X.A (noteFrame (.ref a) X.env) _ _ _
    refine Sky.land Zc.steady frames hf sky' fun h3 fl3 up3 => ?_
    have J3 : Inv X pins σ' H' { s' with heap := h3 } := J.landed nb fl3.1 (up.trans up3) hos bare
    obtain ⟨o3, v3, get3, z3, d3⟩ := fl3.there
    have nfr : a ∉ frs (X.env :: X.outer) := fun hm => by
      obtain ⟨_, o', e', hnf⟩ := fl3.2.2.1.mem hm
      rw [get3] at e'
      cases e'
      exact hnf _ d3
    have nL : a ≠ X.env.locals := fun z => nfr (List.mem_filterMap.mpr ⟨X.env, List.mem_cons_self, by rw [hf, z]⟩)
    have nF : a ∉ X.fs := fun hm => by
      obtain ⟨e, he, q⟩ := List.mem_filterMap.mp hm
      exact nfr (List.mem_filterMap.mpr ⟨e, List.mem_cons_of_mem _ he, q⟩)
    have gone : sI.heap.get? a = none := by
      cases q : sI.heap.get? a with
      | none => rfl
      | some o =>
        have z := nb a o q (by rw [hs]; exact nfr)
        rw [fl3.2.1] at z
        cases z
    have gone0 : X.s_0.heap.get? a = none := by
      cases q : X.s_0.heap.get? a with
      | none => rfl
      | some o =>
        obtain ⟨o', z⟩ := J.base.there a o q (by rw [hex]; simp)
        rw [gone] at z
        cases z
    have S3 := J3.suite get3 d3 na nL nF
    refine wpAny_handleBy_cons (codeAny_handlers_test ?_) (by intro q; cases q)
    have LT : PySem.W.Looks (model X.prog X.w) h3 (typeOf (.ref a)) cls := fun A Q E s k q => wpAny_typeOf_ref (k _ _ get3) (by rw [z3.1]; exact q)
    have LM := PySem.W.exm_one (M := model X.prog X.w) (J3.kIn) LT hyes
    have test : ∀ {Q : Value → Shared → Prop} {E : Value → Shared → Prop}, Q c { s' with heap := h3 } → wpAny (model X.prog X.w) (X.A.mark (some (.ref a))) (eval (.Name x np) X.env) Q E { s' with heap := h3 } := fun {Q E} q => by
      obtain ⟨hg, hdbg, hm | ⟨hm, hv, hnn⟩⟩ := hc
      · exact ld_glob (X := X.suite a ((a, o3) :: (X.pn ++ pins))) S3 hg hm q hdbg
      · exact ld_blt (X := X.suite a ((a, o3) :: (X.pn ++ pins))) S3 hg hm hv q hnn hdbg
    refine test (LM.here (codeAny_handlers_suite_as (HandSPX.lands_againZ fl3 fun h4 fl4 up4 => ?_)))
    have J4 : Inv X pins σ' H' { s' with heap := h4 } := J.landed nb fl4.1 ((up.trans up3).trans up4) hos bare
    obtain ⟨o4, v4, get4, z4, d4⟩ := fl4.there
    have S4 := J4.suite get4 d4 na nL nF
    refine store_ok (X := X.suite a ((a, o4) :: (X.pn ++ pins))) (v := .ref a) S4 hN hi (.inl hln) rfl (fun s5 S5 => ?_) (.inr hln)
    refine wpAny_mono ((hsu a o4 (X.pn ++ pins)).run [] s5 _ H' _ S5 (hgo a na)) (fun f s6 out6 => ?_) (fun _ _ z => False.elim z)
    cases f with
    | next =>
      obtain ⟨σ6, H6, S6, q6⟩ := out6
      refine gone_ok (X := X.suite a ((a, o4) :: (X.pn ++ pins))) S6 hN hi hln fun s7 S7 => ?_
      obtain ⟨get7, n7, _⟩ := S7.pin (a, o4) (List.mem_append_left _ List.mem_cons_self)
      have J7 : Inv X pins (σ6.set i none) H6 s7 := S7.unsuite okX
      refine ⟨_, _, Inv.track J7 n7 gone0 nL (fun y cy e z => ?_) (fun p hpm z => ?_) ?_, q6⟩
      · obtain ⟨vv, oc, hoc, hdc⟩ := J4.cell y cy e
        rw [z, get4] at hoc
        cases hoc
        rw [d4] at hdc
        cases hdc
      · have q := (J.pin p hpm).1
        rw [z, gone] at q
        cases q
      · exact ⟨⟨o4, v4, get7, z4, d4⟩, ⟨o4, get7⟩, fun h1 h2 ⟨oe, vs, e1, e2, e3⟩ st => ⟨oe, vs, st _ e1, e2, e3⟩⟩
    | brk => obtain ⟨_, _, _, q6⟩ := out6; exact q6.elim
    | cont => obtain ⟨_, _, _, q6⟩ := out6; exact q6.elim
    | ret u => obtain ⟨_, _, _, _, _, q6⟩ := out6; exact q6.elim
  · cases f with
    | next =>
      obtain ⟨σ', H', J', q⟩ := out
      exact wpAny_execs_nil ⟨σ', H', J'.ofTry okX, q⟩
    | brk =>
      obtain ⟨σ', H', J', q⟩ := out
      exact ⟨σ', H', J'.ofTry okX, q⟩
    | cont =>
      obtain ⟨σ', H', J', q⟩ := out
      exact ⟨σ', H', J'.ofTry okX, q⟩
    | ret u =>
      obtain ⟨v, σ', H', J', r, q⟩ := out
      exact ⟨v, σ', H', J'.ofTry okX, r, q⟩
end
/-- a(), what it raises kept: None, or the exception -/
def TKept (K : PySem.W.Frag) (CS : Addr) : (XK → Hp → VK → Prop) → Hp → VK → Prop := fun tl H Q =>
  tl (fun cls d H' => PySem.W.exmOne K cls (.ref CS) = some true ∧ d = none ∧ ∀ a, H' a = none → Q (.ref a) (upd H' a (ExH cls a))) H fun _ H' => Q .non H'
section
variable {X : Cx}
theorem takes_len {W : L2.WX} (tk : Takes X W) : Takes X (fun cls d σ H => σ.length = X.N.length → W cls d σ H) := fun u s' ⟨a, B, sI, pins, σ, H, cls, d, e, I, nb, up, sky, na, os, ag, w⟩ =>
  tk u s' ⟨a, B, sI, pins, σ, H, cls, d, e, I, nb, up, sky, na, os, ag, w I.len⟩
theorem kept_gives {x e q : Str} {sg : Scope} {g CS : Addr} {cdg : Value} {j : Nat} {p1 p2 p3 p4 p5 p6 p7 p8 p9 p10 p11 p12 p13 p14 : Pos}
    (hge : sg.names.lookup e = some .globalImplicit) (hme : X.mg e = some (.ref CS)) (hde : (e == ("__debug__" : Str)) = false) (hk : sg.names.lookup ("error" : Str) = some .local) (hk2 : sg.names.lookup ("caught" : Str) = some .local) :
    GivesTo X ["work", "caught", "error"] x sg g cdg [.Assign [.Name "caught" p1] (.Constant .none j p2) p3, .Try [.Expr (.Call (.Name "work" p4) [] [] p5) p6] [.ExceptHandler (some (.Name e p7)) (some "error") [.Assign [.Name "caught" p8] (.Name "error" p9) p10] p11] [] [] p12,
      .Return (some (.Name "caught" p13)) p14] "work" q (TKept X.K CS) := by
  intro f c' s H Q tl act hco h
  have hgl : Gl (cxOf C8.CX0 X.prog X.w X.K X.mg X.base ["work", "caught", "error"] x sg g cdg X.A X.stack s H C8.E0).nox e := hge
  have hN : (["work", "caught", "error"] : List Str).Nodup := by decide +kernel
  have t1 := ps_set (X := (cxOf C8.CX0 X.prog X.w X.K X.mg X.base ["work", "caught", "error"] x sg g cdg X.A X.stack s H C8.E0).nox) (i := 1) (pos := p3) (pos' := p1) hN rfl (.inl hk2) (pe_non (j := j) (pos := p2)) (hf := .inr hk2)
  have t3 := ps_ret (X := (cxOf C8.CX0 X.prog X.w X.K X.mg X.base ["work", "caught", "error"] x sg g cdg X.A X.stack s H C8.E0).nox) (pos := p14) (pe_var (i := 1) (x := "caught") (pos := p13) rfl (.inl hk2))
  have t2 := ps_try_keep (X := (cxOf C8.CX0 X.prog X.w X.K X.mg X.base ["work", "caught", "error"] x sg g cdg X.A X.stack s H C8.E0).nox) (x := e) (c := .ref CS) (i := 2) (n := "error") (np := p7) (pos := p12) (pos' := p11) (b₀ := .Assign [.Name "caught" p8] (.Name "error" p9) p10) (suite := [])
      (body := [.Expr (.Call (.Name "work" p4) [] [] p5) p6])
      (tb := fun W D σ H => ∃ Ech : XK, (∀ cls d σ' H', σ'.length = 3 → Ech cls d H' → W cls d σ' H') ∧ σ[0]? = some (some (.ref f)) ∧ H c' = some (CodeO c' q) ∧ tl Ech H fun _ H' => D.nx σ H') (ts := fun a => fun D σ H => D.nx (σ.set 1 (some (.ref a))) H ∧ σ[2]? = some (some (.ref a)))
      rfl rfl rfl hN rfl hk ⟨hgl, hde, .inl hme⟩ ?_ ?_
  · refine ⟨_, pss_cons t1 (pss_cons t2 (pss_one t3)), ?_⟩
    show ∃ Ech : XK, _
    refine ⟨fun cls d H' => PySem.W.exmOne X.K cls (.ref CS) = some true ∧ d = none ∧ ∀ a, H' a = none → Q (.ref a) (upd H' a (ExH cls a)), fun cls d σ' H' hl ⟨k1, k2, k3⟩ => ⟨k1, k2, fun a ha => ⟨⟨.ref a, ?_, k3 a ha⟩, ?_⟩⟩, rfl, hco, ?_⟩
    · show (((σ'.set 2 (some (.ref a))).set 1 (some (.ref a))).set 2 none)[1]? = _
      rw [List.getElem?_set_ne (by decide), List.getElem?_set_self (by rw [List.length_set]; omega)]
    · rw [List.getElem?_set_self (by omega)]
    have e1 : (fun (_ : V) (H' : Hp) => Q .non H') = fun (_ : V) (H' : Hp) => (tRet (tVar 1)) { nx := fun _ H' => Q .non H', rt := Q } ([some (V.ref f), some V.non, none] : L2.St) H' := by
      funext v H'
      refine propext ⟨fun q => ⟨.non, rfl, q⟩, fun ⟨y, e, q⟩ => ?_⟩
      cases e
      exact q
    have h2 : tl (fun cls d H' => PySem.W.exmOne X.K cls (.ref CS) = some true ∧ d = none ∧ ∀ a, H' a = none → Q (.ref a) (upd H' a (ExH cls a))) H (fun _ H' => Q .non H') := h
    rw [e1] at h2
    exact h2
  · intro W pn xe tk _
    refine ⟨fun pins s' σ H' D I h' => ?_⟩
    obtain ⟨Ech, hW, h1, h2, h3⟩ := h'
    have hp := act _ pn xe Ech p4 p5 (takes_len tk) fun cls d σ' H' he hl => hW cls d σ' H' hl he
    exact (pss_one (ps_expr (pos := p6) hp)).run pins s' σ H' D I ⟨h1, h2, h3⟩
  · intro a oe pn
    have q1 := ps_set (X := (cxOf C8.CX0 X.prog X.w X.K X.mg X.base ["work", "caught", "error"] x sg g cdg X.A X.stack s H C8.E0).nox.suite a ((a, oe) :: pn)) (i := 1) (x := "caught") (pos := p10) (pos' := p8) hN rfl (.inl hk2)
      (pe_var (X := (cxOf C8.CX0 X.prog X.w X.K X.mg X.base ["work", "caught", "error"] x sg g cdg X.A X.stack s H C8.E0).nox.suite a ((a, oe) :: pn)) (i := 2) (x := "error") (pos := p9) rfl (.inl hk)) (hf := .inr hk2)
    refine ⟨fun pins s' σ H' D I ⟨h1, h2⟩ => (pss_one q1).run pins s' σ H' D I ⟨.ref a, h2, h1⟩⟩
end
end Sw

set_option Elab.async false
set_option linter.all false
set_option maxRecDepth 100000
set_option maxHeartbeats 2000000
/-! SwL2: _law_caught(lambda: e) over data. -/
namespace Sw
open PySem PySem.Spec PyProof.Rows L2 LamX

/-- what the making of a lambda of the table at P does to the heap -/
def MadeL (P : Addr) (q : Str) (H H1 : Hp) : Prop := H1 = H ∨ ∃ (c' : Addr) (ps ps' : Array Value), H P = some (.tbl ps) ∧ H c' = none ∧ H1 = upd (upd H P (.tbl ps')) c' (CodeO c' q)
theorem lam_mk {X : Cx} {pins : List (Addr × Obj)} {σ : L2.St} {H : Hp} {s : Shared} {T : List (Addr × Str)} {c P : Addr} {params : Arguments} {body : Expr} {scope : Scope} {pos : Pos} {E : Value → Shared → Prop} {Q : Value → Shared → Prop} (I : Inv X pins σ H s) (TB : TabB X.base X.mg c P)
    (hcode : X.env.code = .ref c) (hm : (P, X.env.qual ++ "<lambda>") ∈ T) (hu : ∀ p ∈ T, p.1 = P → p.2 = X.env.qual ++ "<lambda>") (hT : Tabs T H) (hdef : defaultsOf params X.env = ([], [])) (hfree : ∀ y ∈ scope.names, y.2 = .free → ∃ c, X.env.cells.lookup y.1 = some c)
    (go : ∀ (f c' : Addr) (pm ctv : Value) (H1 : Hp) (s' : Shared), Inv X pins σ H1 s' → MadeL P (X.env.qual ++ "<lambda>") H H1 → Tabs T H1 →
      s'.heap.get? f = some (PySem.W.kla_obj "<lambda>" (X.env.qual ++ "<lambda>") params body scope (cloFrom X.env.cells scope.names []) pm c' ctv) → H1 f = none → f ∉ frs X.stack → H1 c' = some (CodeO c' (X.env.qual ++ "<lambda>")) → Q (.ref f) s') :
    wpAny (model X.prog X.w) X.A (eval (.Lambda params body scope pos) X.env) Q E s := by
  obtain ⟨ps, tabP, trip, told⟩ := hT _ hm
  refine PySem.W.kla_eval hdef ?_
  have blt : s.heap.BuiltinsAt X.mg P := TB.bm.keeps I.bk
  have getP : s.heap.get? P = some { cls := .none, data := .fields ps } := I.hok P _ tabP
  have offStack : ∀ b, s.heap.objs.size ≤ b → b ∉ frs X.stack := fun b hb mem => by
    rcases List.mem_cons.mp (I.stkSub _ mem) with z | z
    · have lt := I.lt
      rw [← z] at lt
      exact absurd (Nat.lt_of_lt_of_le lt hb) (Nat.lt_irrefl _)
    · exact I.nofs hb z
  cases found : codeAmong pos ps.toList with
  | some cv =>
    obtain ⟨c', rfl, cobj⟩ := told pos cv found
    refine PySem.W.kla_makeFunctionHit (mg := X.mg) (c := c) (P := P) (ps := ps) (closure_ok hfree) I.ok.glob (I.mod.glob.keeps I.bk) hcode (TB.code.keeps I.bk) getP trip found blt fun ctv h' tk keepAll big => ?_
    refine go h'.objs.size c' ((X.mg "__name__").getD .none) ctv H _ (I.kept (t' := tk) fun b o e => Heap.get?_push_of_some _ (keepAll b o e)) (.inl rfl) hT (Heap.get?_push_size _ rfl) (I.hok.fresh big) (offStack _ big) cobj
  | none =>
    refine PySem.W.kla_makeFunction (mg := X.mg) (c := c) (P := P) (ps := ps) (closure_ok hfree) I.ok.glob (I.mod.glob.keeps I.bk) hcode (TB.code.keeps I.bk) getP trip found TB.gP blt fun c' ctv h' tk others ge lt rec_ tab' => ?_
    obtain ⟨c2, oc, vs, t, e2, hoc, hd, hv⟩ := rec_
    cases e2
    have big : s.heap.objs.size ≤ h'.objs.size := Nat.le_trans ge (Nat.le_of_lt lt)
    have newC : H c' = none := I.hok.fresh ge
    have I1 := inv_table (t' := tk) (more := #[rawInt pos.line, rawInt pos.col, .ref c']) (h' := h'.push (PySem.W.kla_obj "<lambda>" (X.env.qual ++ "<lambda>") params body scope (cloFrom X.env.cells scope.names []) ((X.mg "__name__").getD .none) c' ctv)) I tabP
      (fun b o hb e => Heap.get?_push_of_some _ (others b o hb e)) (Heap.get?_push_of_some _ tab') ge ⟨oc, vs, t, Heap.get?_push_of_some _ hoc, hd, hv⟩
    have ext : ExtN H (upd (upd H P (.tbl (ps ++ #[rawInt pos.line, rawInt pos.col, .ref c']))) c' (CodeO c' (X.env.qual ++ "<lambda>"))) := fun b o e n => by
      rw [upd_ne (ne_of_none e newC), upd_ne (fun z => n ps (Option.some.inj (e.symm.trans (by rw [z]; exact tabP))))]
      exact e
    have list : (ps ++ #[rawInt pos.line, rawInt pos.col, .ref c']).toList = ps.toList ++ [rawInt pos.line, rawInt pos.col, .ref c'] := by simp
    refine go h'.objs.size c' ((X.mg "__name__").getD .none) ctv _ _ I1 (.inr ⟨c', ps, _, tabP, newC, rfl⟩) (fun p hp => ?_) (Heap.get?_push_size _ rfl) ?_ (offStack _ big) upd_same
    · by_cases same : p.1 = P
      · rw [hu p hp same, same]
        refine ⟨_, by rw [upd_ne (ne_of_none tabP newC), upd_same], by rw [list]; exact PySem.TriplesOk_snoc _ _ _ _ trip, fun p' cv hcv => ?_⟩
        rw [list] at hcv
        rcases among_app _ trip hcv with z | z
        · obtain ⟨c0, q1, q2⟩ := told p' cv z
          exact ⟨c0, q1, ext _ _ q2 codeO_ne⟩
        · exact ⟨c', z, upd_same⟩
      · obtain ⟨ps', a1, a2, a3⟩ := hT p hp
        refine ⟨ps', by rw [upd_ne (ne_of_none a1 newC), upd_ne same]; exact a1, a2, fun p' cv hcv => ?_⟩
        obtain ⟨c0, q1, q2⟩ := a3 p' cv hcv
        exact ⟨c0, q1, ext _ _ q2 codeO_ne⟩
    · have n1 : h'.objs.size ≠ c' := Nat.ne_of_gt lt
      have n2 : h'.objs.size ≠ P := Nat.ne_of_gt (Nat.lt_of_lt_of_le (Heap.lt_size getP) big)
      rw [upd_ne n1, upd_ne n2]
      exact I.hok.fresh big
def tLamP (P : Addr) (q : Str) (T : List (Addr × Str)) (TT : (XK → Hp → VK → Prop) → Hp → VK → Prop) (t : XK → TE) : TE := fun σ H Q => Tabs T H ∧ ∀ H1, MadeL P q H H1 → Tabs T H1 → TT (fun E H' Q' => t E σ H' Q') H1 Q
/-- what is asked of the making def that hands the lambda on, and of the def that gets it -/
structure LamD (X : Cx) (T : List (Addr × Str)) (x : Str) (P : Addr) (CS : Addr) : Prop where
  ex : ∃ (g c : Addr) (pg : Arguments) (bg : List Stmt) (sg : Scope) (dV kV doc pm cdv ct oc : Value) (an od : Option Addr) (osl : Array (Option Value)),
    X.mg x = some (.ref g) ∧ PySem.W.keepIn X.K (.ref g) = true ∧ X.K.lookup g = some ⟨oc, od, .func (PySem.W.fnOf x x pg bg sg dV kV doc pm an cdv ct), osl⟩ ∧ PySem.W.codeIn X.K cdv x = true ∧
    L2.Binds X.K (PySem.W.fnOf x x pg bg sg dV kV doc pm an cdv ct) ["work"] [] ∧ FnScope ["work", "caught", "error"] ["work"] sg ∧ Vis sg "work" ∧
    (∀ q, GivesTo X ["work", "caught", "error"] x sg g cdv bg "work" q (TKept X.K CS)) ∧ TabB X.base X.mg c P ∧ X.env.code = .ref c
  mem : (P, X.env.qual ++ "<lambda>") ∈ T
  uni : ∀ p ∈ T, p.1 = P → p.2 = X.env.qual ++ "<lambda>"
section
variable {X : Cx}
theorem pe_lamP {T : List (Addr × Str)} {x : Str} {P CS : Addr} {k : Nat} {params : Arguments} {body : Expr} {scope : Scope} {t : XK → TE} {p lpos pos : Pos} (D : LamD X T x P CS) (hg : Gl X x) (hr : Room (k + 2) X.A) (L : LamS X.env.scope scope) (hdef : defaultsOf params X.env = ([], []))
    (hbind : ∀ (q : Str) (cl : List (Str × Addr)) (pm cv ctv : Value), bindArgs (PySem.W.kla_fn "<lambda>" q params body scope cl pm cv ctv) ⟨[], []⟩ = pure [])
    (hbody : ∀ (A : Around) (outer : List Env) (s : Shared) (H : Hp) (E : XK) (f c' : Addr), Room k (A.deeper (lamEnv X scope s.heap.objs.size f c')) → PE (lamCx X A outer s H E scope f c') body (t E))
    (hdb : (x == ("__debug__" : Str)) = false := by decide) :
    PE X (.Call (.Name x p) [.Lambda params body scope lpos] [] pos) (tLamP P (X.env.qual ++ "<lambda>") T (TKept X.K CS) t) := by
  obtain ⟨g, c, pg, bg, sg, dV, kV, doc, pm, cdv, ct, oc, an, od, osl, hm, kp, lk, hcg, hb, Sg, hva, hG, TB, hcode⟩ := D.ex
  refine ⟨fun pins s σ H Q I ⟨hT, wish⟩ => ?_⟩
  refine wpAny_Call_Name_kw (ld_glob I hg hm ?_ hdb)
  refine PySem.W.callWith_K (h₀ := X.base) I.ok.mod.kin kp ?_ (by rfl) (by rfl)
  show wpAny _ _ (spliced ((false, eval (.Lambda params body scope lpos) X.env) :: backTo pos (starEach [] X.env))) _ _ s
  refine Calls.spliced_cons (lam_mk I TB hcode D.mem D.uni hT hdef (L.has I.ok) fun f c' pm' ctv H1 s' I1 made T1 hf hfn hfr hco => Calls.spliced_nil ⟨I1.kIn, ?_⟩)
  have run : codeAny (model X.prog X.w) X.A (.call (.ref g) ⟨[.ref f], []⟩) (CR C8.CX0 X.stack X.prog X.w H1 s' Q C8.E0) s' := by
    refine run_ofS (N := ["work", "caught", "error"]) (ps := ["work"]) (us := [.ref f]) (vs := [.ref f]) lk hcg Sg hr I1.env0 (hb s' [.ref f] I1.kIn rfl) (.cons rfl .nil) rfl fun hr' => ?_
    obtain ⟨t', ht', hq'⟩ := hG _ f c' s' H1 Q (fun E H' Q' => t E σ H' Q') (fun W pn xe E p1 p2 tk hW => pe_act (i := 0) I1 L hf hfn hfr (hbind _ _ _ _ _) tk hW hr' (fun A outer s H hr2 => hbody A outer s H E f c' hr2) rfl hva) hco (wish H1 made T1)
    exact ⟨t', ht'.nox, hq'⟩
  refine wpAny_call (codeAny_mono run fun r s2 hq => ?_)
  cases r with
  | error e => exact (show False from hq).elim
  | ok fl =>
    cases fl with
    | ret u => exact I1.after hq
    | next => exact False.elim hq
    | brk => exact False.elim hq
    | cont => exact False.elim hq
end

/-! ### worlds with tables -/
structure HasT (W : Wd) (T : List (Addr × Str)) : Prop where
  tabs : ∀ {s : W.S} {G H : Hp}, W.rel s G H → Tabs T H
  keep : ∀ {s : W.S} {G H G' H' : Hp}, W.rel s G H → Same G G' → (∀ a ∈ W.mu, (∀ ps, H a ≠ some (.tbl ps)) → H' a = H a) → (∀ a o, H a = some o → (∀ xs, o ≠ .lst xs) → (∀ ps, o ≠ .tbl ps) → H' a = some o) → Tabs T H' → W.rel s G' H'
  sub : ∀ p ∈ T, p.1 ∈ W.mu
/-- what is kept: None, or the exception (its class among L) -/
def fKept {S : Type} (L : List Str) (f : Ev → Fx pureW.S Da) : Ev → Fx S Da := fun ρ s => match f ρ () with
  | .ok _ => .ok (.non, s)
  | .er c => if c ∈ L then .ok (.exc c, s) else .no
  | .no => .no
theorem Stt.pure {K : PySem.W.Frag} {W : Wd} {G H : Hp} {σ : L2.St} {ρ : Ev} {s : W.S} (S : Stt K W G H σ ρ s) : Stt K pureW G H σ ρ () :=
  ⟨S.in_, fun a ha => absurd ha (by show a ∉ ([] : List Addr); simp), S.len, fun i sl e => by
    obtain ⟨v, e1, e2⟩ := S.sl i sl e
    refine ⟨v, e1, ?_⟩
    cases sl with
    | no => trivial
    | dat d => exact e2
    | own ds => obtain ⟨p, vs, z1, z2, z3, _, z5⟩ := e2; exact ⟨p, vs, z1, z2, z3, by show p ∉ ([] : List Addr); simp, z5⟩
    | raw x => exact e2, S.apart, trivial⟩
theorem Xt.lam {W : Wd} {P : Addr} {q : Str} {G H H1 : Hp} (in_ : Same G H) (gP : G P = none) (hP : P ∈ W.mu) (m : MadeL P q H H1) : Xt W.mu G H G H1 ∧ (∀ a, (∀ ps, H a ≠ some (.tbl ps)) → H a ≠ none → H1 a = H a) := by
  rcases m with rfl | ⟨c', ps, ps', e1, e2, rfl⟩
  · exact ⟨.refl in_, fun _ _ _ => rfl⟩
  · have ne : ∀ a, H a ≠ none → a ≠ c' := fun a n z => n (by rw [z]; exact e2)
    refine ⟨⟨fun a o hm e => ?_, fun a n => ?_, .refl G, fun a o e => ?_, fun _ e _ => e⟩, fun a nt n => ?_⟩
    · rw [upd_ne (ne a (by rw [e]; simp)), upd_ne (fun z => hm (by rw [z]; exact hP))]; exact e
    · by_cases h : a = P
      · rw [h, upd_ne (ne P (by rw [e1]; simp)), upd_same]; simp
      · rw [upd_ne (ne a n), upd_ne h]; exact n
    · have hh := in_ a o e
      rw [upd_ne (ne a (by rw [hh]; simp)), upd_ne (fun z => by rw [z, gP] at e; cases e)]; exact hh
    · rw [upd_ne (ne a n), upd_ne (fun z => nt ps (by rw [z]; exact e1))]
theorem kept_post {X : Cx} {W : Wd} {E : WX} {T : List (Addr × Str)} {P CS : Addr} {q : Str} {L : List Str} {f : Ev → Fx pureW.S Da} {t : XK → TE} (hW : HasT W T) (hm : (P, q) ∈ T) (hL : ∀ c ∈ L, PySem.W.exmOne X.K (.ref (He.ga X.K c)) (.ref CS) = some true)
    (qt : ∀ (Ek : XK) G H σ ρ (Q : VK), Stt X.K pureW G H σ ρ () → EPost X.K pureW (wk X.K Ek) G H (f ρ ()) Q → t Ek σ H Q) {G H : Hp} {σ : L2.St} {ρ : Ev} {s : W.S} {Q : VK} (S : Stt X.K W G H σ ρ s) (h0 : EPost X.K W E G H (fKept L f ρ s) Q) :
    tLamP P q T (TKept X.K CS) t σ H Q := by
  refine ⟨hW.tabs S.rel, fun H1 made T1 => ?_⟩
  have hPm : P ∈ W.mu := hW.sub _ hm
  obtain ⟨x1, keep1⟩ := Xt.lam (W := W) S.in_ (S.mu P hPm).1 hPm made
  have w1 : W.rel s G H1 := hW.keep S.rel (.refl G) (fun a ha nt => keep1 a nt (S.mu a ha).2) (fun a o e nl nt => by rw [keep1 a (fun ps z => nt ps (Option.some.inj (e.symm.trans z))) (by rw [e]; simp)]; exact e) T1
  have S1 := S.xt x1 w1
  refine qt _ G H1 σ ρ _ S1.pure ?_
  unfold fKept at h0
  cases r : f ρ () with
  | no => rw [r] at h0; exact h0.elim
  | ok z =>
    obtain ⟨d, u⟩ := z
    rw [r] at h0
    intro v G' H' x _ _
    have x' : Xp G H1 G' H' := x
    exact h0 .non G' H' (x1.trans x'.xt) (S1.keep x') .non
  | er c =>
    rw [r] at h0
    simp only at h0
    split at h0
    · rename_i hc
      intro G' H' x
      refine ⟨hL c hc, rfl, fun a ha => ?_⟩
      have nx := Xp.new_ (o := ExH (.ref (He.ga X.K c)) a) x.in_ ha
      have x2 := (show Xp G H1 G' H' from x).trans nx
      exact h0 (.ref a) _ _ (x1.trans (Xp.xt x2)) (S1.keep x2) (.exc upd_same)
    · exact h0.elim
theorem de_kept {X : Cx} {W : Wd} {E : WX} {T : List (Addr × Str)} {P CS : Addr} {L : List Str} {x : Str} {k : Nat} {params : Arguments} {body : Expr} {scope : Scope} {p lpos pos : Pos} {f : Ev → Fx pureW.S Da} (hW : HasT W T) (D : LamD X T x P CS) (hL : ∀ c ∈ L, PySem.W.exmOne X.K (.ref (He.ga X.K c)) (.ref CS) = some true)
    (hg : Gl X x) (hr : Room (k + 2) X.A) (Ls : LamS X.env.scope scope) (hdef : defaultsOf params X.env = ([], []))
    (hbind : ∀ (q : Str) (cl : List (Str × Addr)) (pm cv ctv : Value), bindArgs (PySem.W.kla_fn "<lambda>" q params body scope cl pm cv ctv) ⟨[], []⟩ = pure [])
    (hbody : ∀ (A : Around) (outer : List Env) (s : Shared) (H : Hp) (E : XK) (fa c' : Addr), Room k (A.deeper (lamEnv X scope s.heap.objs.size fa c')) → DE (lamCx X A outer s H E scope fa c') pureW (wk X.K E) body f)
    (hdb : (x == ("__debug__" : Str)) = false := by decide) :
    DE X W E (.Call (.Name x p) [.Lambda params body scope lpos] [] pos) (fKept L f) := by
  have pe := pe_lamP (t := fun E => tE X.K pureW (wk X.K E) f) (p := p) (lpos := lpos) (pos := pos) D hg hr Ls hdef hbind (fun A outer s H E fa c' hr2 => (hbody A outer s H E fa c' hr2).pe) hdb
  exact ⟨_, pe, fun G H σ ρ s Q S h0 => kept_post hW D.mem hL (fun Ek G H σ ρ Q S h => ⟨G, ρ, (), S, h⟩) S h0⟩
end Sw

set_option Elab.async false
set_option linter.all false
set_option maxRecDepth 100000
set_option maxHeartbeats 2000000
/-! SwQ: reckoning with what the defs come to. -/
namespace Sw
open PySem PySem.Spec PyProof.Rows L2
theorem compF_map {S : Type} {h : Ev → Da → Option Ev} {t : Ev → Fx S Bool} {f : Ev → Fx S Da} {ρ : Ev} {s : S} (b : Da → Bool) (g : Da → Da) : ∀ {ds : List Da}, (∀ d ∈ ds, ∃ ρ1, h ρ d = some ρ1 ∧ t ρ1 s = .ok (b d, s) ∧ (b d = true → f ρ1 s = .ok (g d, s))) →
    compF h t f ρ ds s = .ok ((ds.filter b).map g, s)
  | [], _ => rfl
  | d :: ds, H => by
    obtain ⟨ρ1, e1, e2, e3⟩ := H d (List.mem_cons_self ..)
    have ih := compF_map (S := S) (h := h) (t := t) (f := f) (ρ := ρ) (s := s) b g fun x hx => H x (List.mem_cons_of_mem _ hx)
    unfold compF
    rw [e1]
    simp only [bnd, e2]
    cases hb : b d with
    | true => simp only [if_true, bnd, e3 hb, ih, ret, List.filter_cons, hb, List.map_cons]
    | false => simp [ih, List.filter_cons, hb]
theorem comp_map {S : Type} {it : Ev → Fx S (List Da)} {h : Ev → Da → Option Ev} {t : Ev → Fx S Bool} {f : Ev → Fx S Da} {vs : List Nat} {ρ : Ev} {s s' : S} {ds : List Da} (b : Da → Bool) (g : Da → Da) (hit : it ρ s = .ok (ds, s')) (hl : ds.length < sizeLine)
    (H : ∀ d ∈ ds, ∃ ρ1, h (wipeE ρ vs) d = some ρ1 ∧ t ρ1 s' = .ok (b d, s') ∧ (b d = true → f ρ1 s' = .ok (g d, s'))) : fComp it h t f vs ρ s = .ok ((ds.filter b).map g, s') := by
  unfold fComp
  simp only [bnd, hit, if_pos hl, noEr, compF_map b g H]
theorem comp_all {S : Type} {it : Ev → Fx S (List Da)} {h : Ev → Da → Option Ev} {f : Ev → Fx S Da} {vs : List Nat} {ρ : Ev} {s s' : S} {ds : List Da} (g : Da → Da) (hit : it ρ s = .ok (ds, s')) (hl : ds.length < sizeLine)
    (H : ∀ d ∈ ds, ∃ ρ1, h (wipeE ρ vs) d = some ρ1 ∧ f ρ1 s' = .ok (g d, s')) : fComp it h fTrue f vs ρ s = .ok (ds.map g, s') := by
  rw [comp_map (fun _ => true) g hit hl fun d hd => ?_]
  · rw [List.filter_eq_self.mpr fun _ _ => rfl]
  · obtain ⟨ρ1, e1, e2⟩ := H d hd
    exact ⟨ρ1, e1, rfl, fun _ => e2⟩
theorem line_big (n : Nat) (h : n ≤ 16000000) : n < sizeLine := by
  have : (16000000 : Nat) < sizeLine := by decide
  omega
end Sw

set_option Elab.async false
set_option linter.all false
set_option maxRecDepth 100000
set_option maxHeartbeats 2000000
/-! SwI: the law's state (a dict that draws change) as a world; calls of the defs that draw. -/
namespace Sw
open PySem PySem.Spec PyProof.Rows L2 LamX

structure Dr where
  cells : List Int
  great : List Int
  left : Int
  turn : Int
def drK (ga ca : Addr) (s : Dr) : List (Key × V) := [(.inr "great", .ref ga), (.inr "cells", .ref ca), (.inr "left", .int s.left), (.inr "turn", .int s.turn)]
def drRel (K : PySem.W.Frag) (T : List (Addr × Str)) (sa ga ca : Addr) (s : Dr) (G H : Hp) : Prop :=
  H sa = some (.dK (drK ga ca s)) ∧ H ga = some (.lst (s.great.map V.int)) ∧ SqX K G ca (s.cells.map V.int) ∧ Tabs T H ∧ s.great.length < sizeLine
theorem tabs_stay {T : List (Addr × Str)} {H H' : Hp} (t : Tabs T H) (h1 : ∀ p ∈ T, H' p.1 = H p.1) (h2 : ∀ a o, H a = some o → (∀ xs, o ≠ .lst xs) → (∀ kvs, o ≠ .dK kvs) → (∀ ps, o ≠ .tbl ps) → H' a = some o) : Tabs T H' := fun p hp => by
  obtain ⟨ps, e1, e2, e3⟩ := t p hp
  refine ⟨ps, by rw [h1 p hp]; exact e1, e2, fun pos cv hc => ?_⟩
  obtain ⟨c, q1, q2⟩ := e3 pos cv hc
  exact ⟨c, q1, h2 c _ q2 (fun _ z => by unfold CodeO at z; cases z) (fun _ z => by unfold CodeO at z; cases z) fun _ z => by unfold CodeO at z; cases z⟩
/-- the world of a law: its state at sa, the great numbers at ga, the cells at ca, the tables of code -/
def WD (K : PySem.W.Frag) (T : List (Addr × Str)) (sa ga ca : Addr) : Wd where
  S := Dr
  mu := sa :: ga :: T.map (·.1)
  rel := fun s G H => drRel K T sa ga ca s G H
  mono := fun {s G H G' H'} r e1 e2 e3 => ⟨by rw [e2 sa (by simp)]; exact r.1, by rw [e2 ga (by simp)]; exact r.2.1, r.2.2.1.mono e1, tabs_stay r.2.2.2.1 (fun p hp => e2 p.1 (by simp; exact .inr (.inr ⟨p.2, hp⟩))) fun a o e nl _ _ => e3 a o e nl, r.2.2.2.2⟩
theorem hasWD {K : PySem.W.Frag} {T : List (Addr × Str)} {sa ga ca : Addr} : HasT (WD K T sa ga ca) T where
  tabs := fun {s G H} r => (show drRel K T sa ga ca s G H from r).2.2.2.1
  keep := fun {s G H G' H'} r e1 e2 e3 t => by
    have r' : drRel K T sa ga ca s G H := r
    exact ⟨e3 _ _ r'.1 (fun _ z => nomatch z) (fun _ z => nomatch z), by rw [e2 ga (by show ga ∈ sa :: ga :: T.map (·.1); simp) (fun ps z => by rw [r'.2.1] at z; cases z)]; exact r'.2.1, r'.2.2.1.mono e1, t, r'.2.2.2.2⟩
  sub := fun p hp => by
    show p.1 ∈ sa :: ga :: T.map (·.1)
    simp
    exact .inr (.inr ⟨p.2, hp⟩)
/-- the tables alone -/
def WT (T : List (Addr × Str)) : Wd where
  S := Unit
  mu := T.map (·.1)
  rel := fun _ G H => Tabs T H
  mono := fun {s G H G' H'} r e1 e2 e3 => tabs_stay r (fun p hp => e2 p.1 (List.mem_map.mpr ⟨p, hp, rfl⟩)) fun a o e nl _ _ => e3 a o e nl
theorem hasWT {T : List (Addr × Str)} : HasT (WT T) T where
  tabs := fun r => r
  keep := fun r _ _ _ t => t
  sub := fun p hp => List.mem_map.mpr ⟨p, hp, rfl⟩

section
variable {X : Cx} {T : List (Addr × Str)} {sa ga ca : Addr} {E : WX} {e : Expr} {pos pos2 p2 p3 : Pos} {i k : Nat}
def fSt (sa : Addr) (i : Nat) (F : Dr → Rp (Da × Dr)) : Ev → Fx Dr Da := fun ρ s => match ρ[i]? with
  | some (.raw v) => if v = .ref sa then F s else .no
  | _ => .no
theorem raw_at {K : PySem.W.Frag} {W : Wd} {G H : Hp} {σ : L2.St} {ρ : Ev} {s : W.S} (S : Stt K W G H σ ρ s) {v : V} (h : ρ[i]? = some (.raw v)) : σ[i]? = some (some v) := by
  obtain ⟨y, e1, e2⟩ := S.sl i _ h
  rw [e1, show y = some v from e2]
theorem fSt_ok {F : Dr → Rp (Da × Dr)} {ρ : Ev} {s : Dr} {α : Prop} (h : match fSt sa i F ρ s with
    | .no => α
    | _ => True) : True := trivial
/-- state['..'] -/
theorem de_stI (key : Str) (F : Dr → Int) (hk : ∀ s, valV (drK ga ca s) (.inr key) = some (.int (F s))) (hu : X.A.units + 1 < cLine) (hp : PE X e (tVar i)) (hs : NoSl (.Constant (.str key) k p2) := by intro _ _; rfl) :
    DE X (WD X.K T sa ga ca) E (.Subscript e (.Constant (.str key) k p2) pos) (fSt sa i fun s => .ok (.int (F s), s)) := by
  refine ⟨_, pe_dget hu hp pe_str hs, fun G H σ ρ s Q S h0 => ?_⟩
  have r : drRel X.K T sa ga ca s G H := S.rel
  unfold fSt at h0
  split at h0
  · rename_i v hv
    split at h0
    · rename_i hvs
      subst hvs
      refine ⟨_, raw_at S hv, sa, _, rfl, ?_, h0 _ G H (.refl S.in_) S.rel (.int _)⟩
      have q := DGet.k (k := .inr key) r.1
      have hk' : valV (drK ga ca s) (.inr key) = some (.int (F s)) := hk s
      rw [hk'] at q
      exact q
    · exact h0.elim
  · exact h0.elim
theorem de_stLeft (hu : X.A.units + 1 < cLine) (hp : PE X e (tVar i)) : DE X (WD X.K T sa ga ca) E (.Subscript e (.Constant (.str "left") k p2) pos) (fSt sa i fun s => .ok (.int s.left, s)) := de_stI "left" (·.left) (fun _ => rfl) hu hp
theorem de_stTurn (hu : X.A.units + 1 < cLine) (hp : PE X e (tVar i)) : DE X (WD X.K T sa ga ca) E (.Subscript e (.Constant (.str "turn") k p2) pos) (fSt sa i fun s => .ok (.int s.turn, s)) := de_stI "turn" (·.turn) (fun _ => rfl) hu hp
theorem de_stCells (hu : X.A.units + 1 < cLine) (hp : PE X e (tVar i)) : DE X (WD X.K T sa ga ca) E (.Subscript e (.Constant (.str "cells") k p2) pos) (fSt sa i fun s => .ok (.lst (s.cells.map Da.int), s)) := by
  refine ⟨_, pe_dget hu hp pe_str (by intro _ _; rfl), fun G H σ ρ s Q S h0 => ?_⟩
  have r : drRel X.K T sa ga ca s G H := S.rel
  unfold fSt at h0
  split at h0
  · rename_i v hv
    split at h0
    · rename_i hvs
      subst hvs
      exact ⟨_, raw_at S hv, sa, _, rfl, DGet.k (k := .inr "cells") r.1, h0 _ G H (.refl S.in_) S.rel (.lst r.2.2.1 (ReL.of_ints _))⟩
    · exact h0.elim
  · exact h0.elim
def fStT (sa : Addr) (i : Nat) (F : Dr → Bool) : Ev → Fx Dr Bool := fun ρ s => match ρ[i]? with
  | some (.raw v) => if v = .ref sa then .ok (F s, s) else .no
  | _ => .no
theorem pyL_ints : ∀ ns : List Int, pyL (ns.map Da.int) = some (ns.map PyData.int)
  | [] => rfl
  | n :: ns => by
    show pyL (.int n :: ns.map Da.int) = _
    unfold pyL
    rw [pyL_ints ns]
    rfl
/-- state['great'] != [] -/
theorem dt_stGreat (hu : X.A.units + 64 < cLine) (hp : PE X e (tVar i)) (hm : behindInMarks .NotEq (.List [] p3) = false := by rfl) :
    DT X (WD X.K T sa ga ca) E (.Compare (.Subscript e (.Constant (.str "great") k p2) pos) [.NotEq] [.List [] p3] pos2) (fStT sa i fun s => !s.great.isEmpty) := by
  refine ⟨_, pt_cmpR (op_neA hu) (pe_dget (by omega) hp pe_str (by intro _ _; rfl)) (pe_lst pa_nil) hm, fun G H σ ρ s Q S h0 => ?_⟩
  have r : drRel X.K T sa ga ca s G H := S.rel
  unfold fStT at h0
  split at h0
  · rename_i v hv
    split at h0
    · rename_i hvs
      subst hvs
      refine ⟨_, raw_at S hv, sa, _, rfl, DGet.k (k := .inr "great") r.1, by decide, fun p hp0 => ?_⟩
      have nga : ga ≠ p := fun z => by rw [← z, r.2.1] at hp0; cases hp0
      have x1 := Xp.new0 (o := .lst []) S.in_ hp0
      have ra : Dp X.K (upd H p (.lst [])) (.ref ga) (.list (s.great.map PyData.int)) := .lst (SqL.of (by rw [upd_ne nga]; exact r.2.1)) (ReL.dp (G := upd H p (.lst [])) (ReL.of_ints _) (pyL_ints _))
      have rb : Dp X.K (upd H p (.lst [])) (.ref p) (.list []) := .lst (SqL.of upd_same) .nil
      have hne : (!PyData.eqv (.list (s.great.map PyData.int)) (.list [])) = !s.great.isEmpty := by
        cases s.great with
        | nil => rfl
        | cons a b => rfl
      refine .inl (.inr ⟨_, _, ra, rb, PySem.W.ke_shaped_ints _, by decide, ⟨_, rfl, ?_⟩⟩)
      rw [hne]
      exact h0 G _ x1.xt (S.keep x1)
    · exact h0.elim
  · exact h0.elim
/-- state['great'].pop(0) -/
def popF : Dr → Rp (Da × Dr) := fun s => match s.great with
  | [] => .no
  | g :: r => .ok (.int g, { s with great := r })
/-- the state is written at sa -/
theorem st_write {K : PySem.W.Frag} {σ : L2.St} {ρ : Ev} {s s' : Dr} {G H : Hp} (S : Stt K (WD K T sa ga ca) G H σ ρ s) (hc : s'.cells = s.cells) (hg : s'.great = s.great) :
    Xt (WD K T sa ga ca).mu G H G (upd H sa (.dK (drK ga ca s'))) ∧ (WD K T sa ga ca).rel s' G (upd H sa (.dK (drK ga ca s'))) := by
  have r : drRel K T sa ga ca s G H := S.rel
  have hsa := S.mu sa (by show sa ∈ sa :: ga :: T.map (·.1); simp)
  have nga : ga ≠ sa := fun z => by
    have r1 := r.1
    rw [← z, r.2.1] at r1
    cases r1
  refine ⟨⟨fun a o hm e => ?_, fun a n => ?_, .refl G, fun a o e => ?_, fun _ e _ => e⟩, ?_⟩
  · rw [upd_ne (fun z => hm (by rw [z]; show sa ∈ sa :: ga :: T.map (·.1); simp))]; exact e
  · by_cases h : a = sa
    · rw [h, upd_same]; simp
    · rw [upd_ne h]; exact n
  · rw [upd_ne (fun z => by rw [z, hsa.1] at e; cases e)]; exact S.in_ a o e
  · refine ⟨upd_same, ?_, by rw [hc]; exact r.2.2.1, tabs_stay r.2.2.2.1 (fun p hp => ?_) (fun a o e nl nd nt => ?_), by rw [hg]; exact r.2.2.2.2⟩
    · rw [upd_ne nga, hg]; exact r.2.1
    · obtain ⟨ps, e1, _⟩ := r.2.2.2.1 p hp
      rw [upd_ne (fun z => by rw [z, r.1] at e1; cases e1)]
    · rw [upd_ne (fun z => by rw [z, r.1] at e; exact nd _ (Option.some.inj e).symm)]; exact e
theorem st_writeG {K : PySem.W.Frag} {σ : L2.St} {ρ : Ev} {s : Dr} {G H : Hp} {gs : List Int} (S : Stt K (WD K T sa ga ca) G H σ ρ s) (hl : gs.length < sizeLine) :
    Xt (WD K T sa ga ca).mu G H G (upd H ga (.lst (gs.map V.int))) ∧ (WD K T sa ga ca).rel { s with great := gs } G (upd H ga (.lst (gs.map V.int))) := by
  have r : drRel K T sa ga ca s G H := S.rel
  have hga := S.mu ga (by show ga ∈ sa :: ga :: T.map (·.1); simp)
  have nga : sa ≠ ga := fun z => by
    have r1 := r.1
    rw [z, r.2.1] at r1
    cases r1
  refine ⟨⟨fun a o hm e => ?_, fun a n => ?_, .refl G, fun a o e => ?_, fun _ e _ => e⟩, ?_⟩
  · rw [upd_ne (fun z => hm (by rw [z]; show ga ∈ sa :: ga :: T.map (·.1); simp))]; exact e
  · by_cases h : a = ga
    · rw [h, upd_same]; simp
    · rw [upd_ne h]; exact n
  · rw [upd_ne (fun z => by rw [z, hga.1] at e; cases e)]; exact S.in_ a o e
  · refine ⟨by rw [upd_ne nga]; exact r.1, upd_same, r.2.2.1, tabs_stay r.2.2.2.1 (fun p hp => ?_) (fun a o e nl nd nt => ?_), hl⟩
    · obtain ⟨ps, e1, _⟩ := r.2.2.2.1 p hp
      rw [upd_ne (fun z => by rw [z, r.2.1] at e1; cases e1)]
    · rw [upd_ne (fun z => by rw [z, r.2.1] at e; exact nl _ (Option.some.inj e).symm)]; exact e
theorem de_stPop {apos : Pos} (hu : X.A.units + 1 < cLine) (hp : PE X e (tVar i))
    (hbase : attributeBase (.Subscript e (.Constant (.str "great") k p2) pos) "pop" X.env (eval (.Subscript e (.Constant (.str "great") k p2) pos) X.env) = eval (.Subscript e (.Constant (.str "great") k p2) pos) X.env := by rfl)
    (hline : (apos.endLine == pos2.line) = true := by rfl) :
    DE X (WD X.K T sa ga ca) E (.Call (.Attribute (.Subscript e (.Constant (.str "great") k p2) pos) "pop" apos) [.Constant (.int 0) k p3] [] pos2) (fSt sa i popF) := by
  refine ⟨_, pe_bm F.plainAttrs_list F.slot_list_pop F.type_list_pop mt_popAt (pe_dget hu hp pe_str (by intro _ _; rfl)) (pa_cons pe_int pa_nil) hbase rfl hline rfl rfl, fun G H σ ρ s Q S h0 => ?_⟩
  have r : drRel X.K T sa ga ca s G H := S.rel
  unfold fSt popF at h0
  split at h0
  · rename_i v hv
    split at h0
    · rename_i hvs
      subst hvs
      cases hg : s.great with
      | nil => rw [hg] at h0; exact h0.elim
      | cons g gs =>
        rw [hg] at h0
        have hl : gs.length < sizeLine := by
          have := r.2.2.2.2
          rw [hg, List.length_cons] at this
          omega
        obtain ⟨x1, w1⟩ := st_writeG (gs := gs) S hl
        have e1 : H ga = some (.lst (V.int g :: gs.map V.int)) := by rw [r.2.1, hg] <;> rfl
        refine ⟨_, raw_at S hv, sa, _, rfl, DGet.k (k := .inr "great") r.1, .inl ⟨rfl, _, SqL.of e1⟩, ga, _, 0, 0, .int g, rfl, rfl, e1, by decide, by decide, ?_, rfl, ?_⟩
        · unfold seqIndex?
          simp
        · exact h0 (.int g) G _ x1 w1 (.int g)
    · exact h0.elim
  · exact h0.elim
/-- state['left'] = e, state['turn'] = e -/
def gStSet (sa : Addr) (i : Nat) (F : Dr → Int → Dr) (f : Ev → Fx Dr Da) : Sx Dr := fun ρ s => match ρ[i]? with
  | some (.raw v) => if v = .ref sa then (match f ρ s with
    | .ok (.int n, s') => .nx ρ (F s' n)
    | .ok _ => .no
    | .er c => .er c
    | .no => .no) else .no
  | _ => .no
theorem ds_stSet {v : Expr} {pos4 : Pos} (key : Str) (F : Dr → Int → Dr) (hF : ∀ s n, putK (drK ga ca s) (.inr key) (.int n) = drK ga ca (F s n)) (hFc : ∀ s n, (F s n).cells = s.cells) (hFg : ∀ s n, (F s n).great = s.great) {f : Ev → Fx Dr Da} (hu : X.A.units + 1 < cLine)
    (hp : PE X e (tVar i)) (hf : DE X (WD X.K T sa ga ca) E v f) (hs : swapsWithSole [.Subscript e (.Constant (.str key) k p2) pos] v pos4.line X.env = pure false := by rfl) (hw : swappedStores [.Subscript e (.Constant (.str key) k p2) pos] v X.env = pure none := by rfl)
    (h1 : (assignEach [.Subscript e (.Constant (.str key) k p2) pos] X.env).map (·.2) = [assign (.Subscript e (.Constant (.str key) k p2) pos) X.env] := by rfl) :
    PS X (.Assign [.Subscript e (.Constant (.str key) k p2) pos] v pos4) (tS X.K (WD X.K T sa ga ca) E (gStSet sa i F f)) := by
  have pg := pg_sub (pos := pos) hp (pe_str (X := X) (x := key) (j := k) (pos := p2)) (set_dict hu)
  refine ps_imp (ps_asg (pos := pos4) hf.pe pg hs hw h1) fun D σ H ⟨B, G0, G, ρ, s, S, q⟩ => ?_
  refine ⟨G, ρ, s, S.st, ?_⟩
  unfold gStSet at q
  split at q
  · rename_i y hy
    split at q
    · rename_i hys
      subst hys
      unfold EPost
      cases r : f ρ s with
      | no => rw [r] at q; exact q.elim
      | er c => rw [r] at q; exact fun G' H' x => q G' H' (S.xt.trans x)
      | ok z =>
        obtain ⟨d, s'⟩ := z
        rw [r] at q
        cases d with
        | int n =>
          intro x G' H' x1 w1 y1
          cases y1
          have S1 := S.go x1 w1
          have rr : drRel X.K T sa ga ca s' G' H' := S1.st.rel
          obtain ⟨x2, w2⟩ := st_write (s' := F s' n) S1.st (hFc _ _) (hFg _ _)
          have e1 := raw_at S1.st hy
          refine ⟨_, e1, sa, upd H' sa (.dK (drK ga ca (F s' n))), rfl, ?_, q σ _ _ (S1.go x2 w2)⟩
          have put := DPut.k (k := .inr key) (v := .int n) rr.1 (by show 4 < sizeLine; decide)
          rw [hF] at put
          exact put
        | _ => exact q.elim
    · exact q.elim
  · exact q.elim
theorem putK_left (s : Dr) (n : Int) : putK (drK ga ca s) (.inr "left") (.int n) = drK ga ca { s with left := n } := rfl
theorem putK_turn (s : Dr) (n : Int) : putK (drK ga ca s) (.inr "turn") (.int n) = drK ga ca { s with turn := n } := rfl
end

/-! ### defs that draw -/
/-- the promise: the state's dict first, then data -/
def spI (K : PySem.W.Frag) (T : List (Addr × Str)) (F : Addr → List Da → Fx Dr Da) : Sp := fun vs H Q E => ∃ (sa ga ca : Addr) (G : Hp) (rest : List V) (ds : List Da) (s : Dr),
  vs = .ref sa :: rest ∧ Same G H ∧ (∀ a ∈ (WD K T sa ga ca).mu, G a = none ∧ H a ≠ none) ∧ drRel K T sa ga ca s G H ∧ ReL K G rest ds ∧ match F sa ds s with
  | .ok (d, s') => ∀ v G' H', Xt (WD K T sa ga ca).mu G H G' H' → drRel K T sa ga ca s' G' H' → Re K G' v d → Q v H'
  | .er c => ∀ G' H', Xt (WD K T sa ga ca).mu G H G' H' → E (.ref (He.ga K c)) none H'
  | .no => False
structure FnI (P : Program) (w : World) (K : PySem.W.Frag) (mg : Str → Option Value) (base : Heap) (T : List (Addr × Str)) (k : Nat) (x : Str) (ps : List Str) (F : Addr → List Da → Fx Dr Da) : Prop where
  ex : ∃ f fd, FnOk P w K mg base (L2.CX P w) k f fd ps (spI K T F) ∧ mg x = some (.ref f) ∧ PySem.W.keepIn K (.ref f) = true ∧ Binds K fd ps []
section
variable {X : Cx} {T : List (Addr × Str)} {sa ga ca : Addr} {E : WX} {e : Expr} {es : List Expr} {pos p : Pos} {i k j : Nat} {h : Ev → Fx Dr (List Da)}
def fCallI (sa : Addr) (i : Nat) (F : List Da → Fx Dr Da) (h : Ev → Fx Dr (List Da)) : Ev → Fx Dr Da := fun ρ s => match ρ[i]? with
  | some (.raw v) => if v = .ref sa then bnd (h ρ) F s else .no
  | _ => .no
theorem de_callI {x : Str} {ps : List Str} {F : Addr → List Da → Fx Dr Da} {Ek : XK} (Fn : FnI X.prog X.w X.K X.mg X.base T k x ps F) (hr : Room j X.A) (hk : k ≤ j) (hx : Passes (L2.CX X.prog X.w) X Ek) (hg : Gl X x) (hp : PE X e (tVar i)) (ha : DA X (WD X.K T sa ga ca) (wk X.K Ek) es h)
    (hdb : (x == ("__debug__" : Str)) = false := by decide) (he : starEach (e :: es) X.env = (false, eval e X.env) :: starEach es X.env := by rfl) (hpl : (backTo pos (starEach es X.env)).any (·.1) = false := by rfl) :
    DE X (WD X.K T sa ga ca) (wk X.K Ek) (.Call (.Name x p) (e :: es) [] pos) (fCallI sa i (F sa) h) := by
  obtain ⟨fa, fd, G0, hm, kp, b⟩ := Fn.ex
  obtain ⟨ta, pa, qa⟩ := ha.ex
  refine ⟨_, pe_call G0 (hr.mono hk) hg hm kp b .nil hx (pa_cons hp pa he) hdb he hpl, fun G H σ ρ s Q S h0 => ?_⟩
  unfold fCallI at h0
  split at h0
  · rename_i y hy
    split at h0
    · rename_i hys
      subst hys
      refine ⟨_, raw_at S hy, a_bind (tl := ta) (kE X (WD X.K T sa ga ca) (wk X.K Ek)) qa S h0 fun ds s1 vs G1 H1 x1 y1 S1 h1 => ?_⟩
      refine ⟨sa, ga, ca, G1, vs, ds, s1, by simp, S1.in_, S1.mu, S1.rel, y1, ?_⟩
      cases r : F sa ds s1 with
      | ok z =>
        obtain ⟨d, s2⟩ := z
        rw [show (kE X (WD X.K T sa ga ca) (wk X.K Ek)).post G1 H1 (F sa ds s1) Q = EPost X.K (WD X.K T sa ga ca) (wk X.K Ek) G1 H1 (F sa ds s1) Q from rfl, r] at h1
        exact fun v G' H' x w y => h1 v G' H' x w y
      | er c =>
        rw [show (kE X (WD X.K T sa ga ca) (wk X.K Ek)).post G1 H1 (F sa ds s1) Q = EPost X.K (WD X.K T sa ga ca) (wk X.K Ek) G1 H1 (F sa ds s1) Q from rfl, r] at h1
        exact fun G' H' x => h1 G' H' x
      | no =>
        rw [show (kE X (WD X.K T sa ga ca) (wk X.K Ek)).post G1 H1 (F sa ds s1) Q = EPost X.K (WD X.K T sa ga ca) (wk X.K Ek) G1 H1 (F sa ds s1) Q from rfl, r] at h1
        exact h1
    · exact h0.elim
  · exact h0.elim
end
def runI (g : Sx Dr) (sa : Addr) (n : Nat) (ds : List Da) : Fx Dr Da := fun s => match g (.raw (.ref sa) :: (ds.map .dat ++ List.replicate (n - ds.length) .no)) s with
  | .rt d s' => .ok (d, s')
  | .nx _ s' => .ok (.non, s')
  | .er c => .er c
  | _ => .no
theorem no_own {ds : List Da} {n i : Nat} {es : List Da} (e : (ds.map Sl.dat ++ List.replicate n Sl.no)[i]? = some (.own es)) : False := by
  by_cases h : i < ds.length
  · rw [List.getElem?_append_left (by simpa using h), List.getElem?_map] at e
    cases q : ds[i]? with
    | none => rw [q] at e; cases e
    | some d => rw [q] at e; cases e
  · rw [List.getElem?_append_right (by simpa using h), List.getElem?_replicate] at e
    split at e <;> cases e
section
variable {P : Program} {w : World} {K : PySem.W.Frag} {mg : Str → Option Value} {base : Heap} {T : List (Addr × Str)}
theorem startI_own {sa : Addr} {ds : List Da} {n i : Nat} {es : List Da} (e : (Sl.raw (.ref sa) :: (ds.map Sl.dat ++ List.replicate n Sl.no))[i]? = some (.own es)) : False := by
  cases i with
  | zero => simp at e
  | succ i => exact no_own (by simpa using e)
/-- the state's name, data, nothing yet -/
theorem startI_stt {sa ga ca : Addr} {G H : Hp} {vs : List V} {ds : List Da} {s : Dr} {N : List Str} {n : Nat} (hN : N.length = n + 1) (hs : Same G H) (mu : ∀ a ∈ (WD K T sa ga ca).mu, G a = none ∧ H a ≠ none) (rel : drRel K T sa ga ca s G H) (r : ReL K G vs ds) :
    Stt K (WD K T sa ga ca) G H (L2.start N (.ref sa :: vs)) (.raw (.ref sa) :: (ds.map Sl.dat ++ List.replicate (n - ds.length) .no)) s := by
  have S0 := start_stt (K := K) hs r (List.replicate n ("" : Str))
  have e : L2.start N (.ref sa :: vs) = some (.ref sa) :: L2.start (List.replicate n ("" : Str)) vs := by
    unfold L2.start
    simp [hN]
  rw [e]
  have hrep : (List.replicate n ("" : Str)).length = n := List.length_replicate
  rw [hrep] at S0
  refine ⟨hs, mu, by rw [List.length_cons, List.length_cons]; exact congrArg (· + 1) S0.len, fun i sl e => ?_, fun a b p ds' es e1 e2 e3 e4 => (startI_own e1).elim, rel⟩
  cases i with
  | zero =>
    simp at e
    subst e
    exact ⟨_, rfl, rfl⟩
  | succ i =>
    obtain ⟨v, q1, q2⟩ := S0.sl i sl (by simpa using e)
    refine ⟨v, by simpa using q1, ?_⟩
    cases sl with
    | no => trivial
    | dat d => exact q2
    | own ds => exact (no_own (by simpa using e)).elim
    | raw x => exact q2
/-- a def that draws: its body reckons g -/
theorem fnOkI_of {x : Str} {st : Stmt} {f : Addr} {fd : FuncData} {N ps : List Str} {k n : Nat} {g : Addr → Sx Dr} {F : Addr → List Da → Fx Dr Da} (Fd : FunD K x x (defArgs st) (defBody st) (defScope st) [] [] f fd) (S : FnScope N ps (defScope st)) (hN : N.length = n + 1)
    (hbody : ∀ (sa ga ca : Addr) (cdv : Value) (A : Around) (outer : List Env) (s : Shared) (H : Hp) (E : XK), Room k (A.deeper (envOfC x (defScope st) s.heap.objs.size f cdv)) →
      PSs (cxOf (L2.CX P w) P w K mg base N x (defScope st) f cdv A outer s H E) (defBody st) (tS K (WD K T sa ga ca) (wk K E) (g sa)))
    (hF : ∀ sa ds s, F sa ds s ≠ .no → ds.length + 1 = ps.length ∧ runI (g sa) sa n ds s = F sa ds s) : FnOk P w K mg base (L2.CX P w) (k + 1) f fd ps (spI K T F) := by
  refine Fd.ok S (fun vs H Q E h => ?_) fun cdv A outer s H vs Q E hr h => ?_
  · obtain ⟨sa, ga, ca, G, rest, ds, s, rfl, hs, mu, rel, r, q⟩ := h
    rw [List.length_cons, r.length]
    refine (hF sa ds s fun z => ?_).1
    rw [z] at q
    exact q
  · obtain ⟨sa, ga, ca, G, rest, ds, s0, rfl, hs, mu, rel, r, q⟩ := h
    have ne : F sa ds s0 ≠ .no := fun z => by rw [z] at q; exact q
    obtain ⟨h1, h2⟩ := hF sa ds s0 ne
    refine ⟨_, hbody sa ga ca cdv A outer s H E hr, H, G, G, _, s0, ⟨startI_stt hN hs mu rel r, .refl hs, fun i ds' p e => (startI_own e).elim⟩, ?_⟩
    unfold runI at h2
    cases r2 : g sa (.raw (.ref sa) :: (ds.map Sl.dat ++ List.replicate (n - ds.length) .no)) s0 with
    | nx ρ' s' => rw [r2] at h2; rw [← h2] at q; exact fun σ G' H' S' => q .non G' H' S'.xt S'.st.rel .non
    | rt d s' => rw [r2] at h2; rw [← h2] at q; exact fun v G' H' x w y => q v G' H' x w y
    | er c => rw [r2] at h2; rw [← h2] at q; exact fun G' H' x => q G' H' x
    | bk _ _ => rw [r2] at h2; exact absurd h2.symm ne
    | ct _ _ => rw [r2] at h2; exact absurd h2.symm ne
    | no => rw [r2] at h2; exact absurd h2.symm ne
theorem fnI_of {x : Str} {st : Stmt} {f : Addr} {fd : FuncData} {ps : List Str} {k : Nat} {F : Addr → List Da → Fx Dr Da} (Fd : FunD K x x (defArgs st) (defBody st) (defScope st) [] [] f fd) (hm : mg x = some (.ref f)) (hb : Binds K fd ps []) (h : FnOk P w K mg base (L2.CX P w) k f fd ps (spI K T F)) : FnI P w K mg base T k x ps F :=
  ⟨f, fd, h, hm, Fd.kp, hb⟩
end
end Sw

set_option Elab.async false
set_option linter.all false
set_option maxRecDepth 100000
set_option maxHeartbeats 2000000
/-! SwA: sorted of a tuple, len(set(..)) of ints. -/
namespace Sw
open PySem PySem.Spec PyProof.Rows L2
section
variable {prog : Program} {w : World} {A : Around} {E : Value → Shared → Prop} {s : Shared}
theorem collectT {l : Addr} {vs : List Value} {Q : List Value → Shared → Prop} (ht : s.heap.IsTuple l vs.toArray) (hz : vs.length ≤ sizeLine)
    (fin : Q vs { s with heap := (s.heap.push (seqObj "list" #[] 0)).update s.heap.objs.size (Obj.mapSeq (· ++ vs.toArray)) }) : wpAny (model prog w) A (collect (.ref l)) Q E s := by
  obtain ⟨ob, get, cl, ep, dt⟩ := id ht
  unfold collect
  refine wpAny_bind (wpAny_runValue (codeAny_builtin entry_proto_collect' ?_)); show wpAny _ _ (do again (.builtin "list.__iadd__" ⟨[← newList [], .ref l], []⟩)) _ _ s
  refine wpAny_bind (wpAny_newList (wpAny_pure ⟨Code.quiet_builtin _ (by decide +kernel), codeAny_builtin entry_list_iadd' ?_⟩)); show wpAny _ _ (Builtin.List.listExtendWith (.ref s.heap.objs.size) (.ref l) (.ref s.heap.objs.size)) _ _ { s with heap := s.heap.push (seqObj "list" #[] 0) }
  unfold Builtin.List.listExtendWith
  have get' : (s.heap.push (seqObj "list" #[] 0)).get? l = some ob := Heap.get?_push_of_some _ get
  refine wpAny_bind (wpAny_typeOf (T := "tuple") ⟨ob, get', cl⟩ ?_)
  have tt : (Value.type "tuple" == Value.type "tuple") = true := by rfl
  rw [if_pos (by rw [tt]; simp)]
  refine wpAny_bind (listItems_at get' dt ?_); refine wpAny_bind (listItems_at (xs := #[]) (n := 0) (Heap.get?_push_size _ rfl) rfl ?_)
  rw [if_neg (by simp)]
  refine wpAny_bind (listUpdate_at (xs := #[]) (n := 0) (Heap.get?_push_size _ rfl) rfl ?_ (Nat.zero_le _) (by show (#[] ++ vs.toArray).size ≤ sizeLine + 1; simp only [Array.size_append, List.size_toArray, List.length_nil]; omega)); refine wpAny_pure ?_
  show wpAny (model prog w) A (do let o ← load s.heap.objs.size; match o.data with | .seq xs _ => pure xs.toList | _ => unsupported "internal:collect") Q E { s with heap := (s.heap.push (seqObj "list" #[] 0)).update s.heap.objs.size (Obj.mapSeq (· ++ vs.toArray)) }
  refine wpAny_bind (wpAny_load (get?_update_seq (Heap.get?_push_size _ rfl) _) ?_); show wpAny _ _ (pure ((#[] : Array Value) ++ vs.toArray).toList) Q E _
  rw [show ((#[] : Array Value) ++ vs.toArray).toList = vs by simp]; exact wpAny_pure fin
theorem sortedT {l : Addr} {vs : List Value} {ltv : Value → Value → Bool} {Q : Value → Shared → Prop} (O : SrtO.Swo ltv) (ht : s.heap.IsTuple l vs.toArray) (hz : vs.length ≤ sizeLine)
    (hS : 2 ≤ vs.length → ∀ (h₁ : Heap) (a : Addr), h₁.get? a = some (seqObj "list" vs.toArray 0) → (∀ b o, s.heap.get? b = some o → b ≠ a ∧ h₁.get? b = some o) → SrtO.SortableO prog w A.in1.in1 { s with heap := h₁ } a vs ltv)
    (fin : ∀ out : List Value, SrtO.Srtd ltv out → SrtO.Stb ltv out vs → Q (.ref (s.heap.objs.size + 1)) { s with heap := sortedAll s.heap vs out.toArray }) :
    wpAny (model prog w) A (call (.builtin "sorted") [.ref l]) Q E s := by
  refine Calls.call_function_entry kind_sorted plain_sorted entry_sorted (args_sorted1 _) ?_; unfold Builtin.«sorted»
  refine wpAny_bind (m := checkCount "sorted" 1 1 _) (wpAny_pure ?_); refine wpAny_bind (collectT ht hz ?_)
  refine wpAny_bind (wpAny_newList ?_ hz)
  have sz : ((s.heap.push (seqObj "list" #[] 0)).update s.heap.objs.size (Obj.mapSeq (· ++ vs.toArray))).objs.size = s.heap.objs.size + 1 := by rw [Heap.size_update, size_push']
  have gL : (((s.heap.push (seqObj "list" #[] 0)).update s.heap.objs.size (Obj.mapSeq (· ++ vs.toArray))).push (seqObj "list" vs.toArray 0)).get? (s.heap.objs.size + 1) = some (seqObj "list" vs.toArray 0) := by rw [← sz]; exact Heap.get?_push_size _ rfl
  have kp : ∀ b o, s.heap.get? b = some o → b ≠ s.heap.objs.size + 1 ∧ (((s.heap.push (seqObj "list" #[] 0)).update s.heap.objs.size (Obj.mapSeq (· ++ vs.toArray))).push (seqObj "list" vs.toArray 0)).get? b = some o := fun b o q => by
    have lt : b < s.heap.objs.size := Heap.lt_size q
    refine ⟨Nat.ne_of_lt (Nat.lt_succ_of_lt lt), Heap.get?_push_of_some _ ?_⟩; rw [Heap.get?_update_ne _ _ _ _ (Nat.ne_of_lt lt)]; exact Heap.get?_push_of_some _ q
  show wpAny _ _ _ _ _ { s with heap := ((s.heap.push (seqObj "list" #[] 0)).update s.heap.objs.size (Obj.mapSeq (· ++ vs.toArray))).push (seqObj "list" vs.toArray 0) }; rw [sz]
  refine wpAny_bind (wpAny_holding (wpAny_call_entry slot_list_sort ⟨_, gL, rfl⟩ entry_list_sort (SrtO.list_sort_ord O gL hz (fun h2 => hS h2 _ _ gL kp) fun out hs hb => ⟨_, rfl, ?_⟩) (args_list_sort _)))
  exact wpAny_pure ⟨_, rfl, fin out hs hb⟩
end
/-- sorted(t), t a tuple of ints -/
def rSortedT (K : PySem.W.Frag) : List V → Hp → VK → Prop := fun vs H Q => ∃ (a : Addr) (ns : List Int), vs = [V.ref a] ∧ SqT K H a (ns.map V.int) ∧
  ∀ (ns' : List Int) (p : Addr), ns'.Perm ns → ns'.Pairwise (· ≤ ·) → H p = none → Q (.ref p) (upd H p (.lst (ns'.map V.int)))
theorem cr_sortedT {X : Cx} : CallR X (.builtin "sorted") (rSortedT X.K) := by
  intro pins s σ H vs us Q I r h
  obtain ⟨a, ns, rfl, hs, q⟩ := h
  obtain ⟨its, rv, hl, hz⟩ := I.tuple hs
  rw [Vals.ref1 r]
  have hi := rv.ints
  refine sortedT SrtO.swo_int (show s.heap.IsTuple a its.toArray from hl) (by rw [← rv.length]; exact hz) (fun h2 h₁ a' _ _ => SrtO.ints_sortable hi h2) fun out h1 h2 => ?_
  obtain ⟨k1, k2, k3⟩ := SrtO.ints_out hi h1 h2
  obtain ⟨ep, he'⟩ := PyProof.Rows.sortedAll_at s.heap its out.toArray
  have len : ((out.map SrtO.iv).map V.int).length ≤ sizeLine := by
    rw [List.length_map, k2.length_eq]; rw [List.length_map] at hz; exact hz
  exact ⟨.ref _, upd H (s.heap.objs.size + 1) (.lst ((out.map SrtO.iv).map V.int)), I.laid (t' := s.toks) (fun _ _ => PyProof.Rows.sortedAll_old) (Nat.le_succ _) ⟨len, out, ep, vals_of_ints k1, he'⟩, rfl, q _ _ k2 k3 (I.hok.fresh (Nat.le_succ _))⟩
/-- sorted of a list or tuple of ints -/
def sortA : List Da → Option (List Da)
  | [.lst ds] => (intsD ds).map fun ns => (srtI ns).map .int
  | [.tup ds] => (intsD ds).map fun ns => (srtI ns).map .int
  | _ => none
theorem ReO.tup_ {K : PySem.W.Frag} {mu : List Addr} {G H : Hp} {v : V} {ds : List Da} (s : Same G H) (h : ReO K mu G H v (.tup ds)) : ∃ p vs, v = .ref p ∧ SqT K H p vs ∧ ReL K G vs ds := h.tup s
theorem cln_sortA (K : PySem.W.Frag) : ClnD K (fun vs H Q => rSortedI K vs H Q ∨ rSortedT K vs H Q) sortA := by
  intro mu G H vs ds z Q s r h q
  unfold sortA at h
  split at h
  · rename_i ds
    cases e : intsD ds with
    | none => rw [e] at h; cases h
    | some ns =>
      rw [e] at h
      cases h
      obtain rfl := intsD_eq e
      obtain ⟨v, rfl, a⟩ := r.one
      obtain ⟨p, vs, rfl, h1, r1⟩ := a.lst s
      obtain rfl := r1.ints
      refine .inl ⟨p, ns, rfl, h1, fun ns' l pm sr hl => ?_⟩
      rw [srt_one (pm.trans (srtI_perm ns).symm) sr (srtI_srt ns)]
      exact q l _ hl (ReL.of_ints _)
  · rename_i ds
    cases e : intsD ds with
    | none => rw [e] at h; cases h
    | some ns =>
      rw [e] at h
      cases h
      obtain rfl := intsD_eq e
      obtain ⟨v, rfl, a⟩ := r.one
      obtain ⟨p, vs, rfl, h1, r1⟩ := a.tup s
      obtain rfl := r1.ints
      refine .inr ⟨p, ns, rfl, h1, fun ns' l pm sr hl => ?_⟩
      rw [srt_one (pm.trans (srtI_perm ns).symm) sr (srtI_srt ns)]
      exact q l _ hl (ReL.of_ints _)
  · cases h
theorem cr_sortA {X : Cx} : CallR X (.builtin "sorted") (fun vs H Q => rSortedI X.K vs H Q ∨ rSortedT X.K vs H Q) := CallR.or cr_sortedI cr_sortedT

/-! ### len(set(t)), t a tuple of ints -/
def ddI : List Int → List Int
  | [] => []
  | x :: xs => if x ∈ xs then ddI xs else x :: ddI xs
theorem ddI_mem (k : Int) : ∀ xs : List Int, k ∈ ddI xs ↔ k ∈ xs
  | [] => Iff.rfl
  | x :: xs => by
    unfold ddI
    split
    · rename_i h
      rw [ddI_mem k xs, List.mem_cons]
      exact ⟨.inr, fun z => z.elim (fun e => e ▸ h) id⟩
    · rw [List.mem_cons, List.mem_cons, ddI_mem k xs]
theorem ddI_nd : ∀ xs : List Int, (ddI xs).Nodup
  | [] => .nil
  | x :: xs => by
    unfold ddI
    split
    · exact ddI_nd xs
    · rename_i h
      exact List.nodup_cons.mpr ⟨fun z => h ((ddI_mem x xs).mp z), ddI_nd xs⟩
theorem ddI_le : ∀ xs : List Int, (ddI xs).length ≤ xs.length
  | [] => Nat.le_refl _
  | x :: xs => by
    have := ddI_le xs
    unfold ddI
    split
    · rw [List.length_cons]; omega
    · rw [List.length_cons, List.length_cons]; omega
theorem ddI_eq {xs : List Int} (h : xs.Nodup) : ddI xs = xs := by
  induction xs with
  | nil => rfl
  | cons x xs ih =>
    obtain ⟨a, b⟩ := List.nodup_cons.mp h
    unfold ddI
    rw [if_neg a, ih b]
theorem ddI_lt {xs : List Int} (h : ¬ xs.Nodup) : (ddI xs).length < xs.length := by
  induction xs with
  | nil => exact absurd .nil h
  | cons x xs ih =>
    unfold ddI
    split
    · have := ddI_le xs
      rw [List.length_cons]; omega
    · rename_i hx
      have := ih fun z => h (List.nodup_cons.mpr ⟨hx, z⟩)
      rw [List.length_cons, List.length_cons]; omega
theorem nodup_len {xs ys : List Int} (h1 : xs.Nodup) (h2 : ys.Nodup) (h : ∀ k, k ∈ xs ↔ k ∈ ys) : xs.length = ys.length := ((List.perm_ext_iff_of_nodup h1 h2).mpr h).length_eq
def tLenSet (K : PySem.W.Frag) (ta : TE) : TE := fun σ H Q => ta σ H fun x H1 => ∃ (l : Addr) (ns : List Int), x = .ref l ∧ SqT K H1 l (ns.map V.int) ∧ ns.length ≤ 1000 ∧ Q (.int ((ddI ns).length : Nat)) H1
theorem pe_lenSet {X : Cx} {a : Expr} {ta : TE} {p p2 q pos : Pos} (hg : Gl X "len") (hm : X.mg "len" = none) (hg2 : Gl X "set") (hm2 : X.mg "set" = none) (ha : PE X a ta) (hc : X.calm = true := by rfl)
    (na : starEach [a] X.env = (false, eval a X.env) :: starEach [] X.env := by rfl) : PE X (.Call (.Name "len" p) [.Call (.Name "set" p2) [a] [] q] [] pos) (tLenSet X.K ta) := by
  refine ⟨fun pins s σ H Q I h => ?_⟩
  refine Call_ (ld_blt I hg hm boot_len (PyProof.Rows.callWith_builtin1 (PyProof.Rows.args_cons ?_ rfl) rfl rfl))
  refine Call_ (ld_blt I hg2 hm2 boot_set (PyProof.Rows.callWith_type1 (PyProof.Rows.args_cons (thn (ha.run pins s σ H _ I h) fun v s1 ⟨x, H1, I1, r1, q1⟩ => PyProof.Rows.args_nil ?_) na) na rfl))
  obtain ⟨l, ns, rfl, hq, hl, q1⟩ := q1
  cases r1
  obtain ⟨its, r, pt, hz⟩ := I1.tuple hq
  refine call_set_tupI ns (I1.ok.hd hc) (show s1.heap.IsTuple l its.toArray from pt) (by simpa using RZ.intsAre_vals r) (by unfold scanBound; omega) fun h' tk c hS hcn hk => ?_
  refine PyProof.Rows.args_nil ?_
  obtain ⟨o, es, ep, t, ho, hex, hd, g, nd, hm2, hb, hf, hn, _⟩ := hS
  have I2 : Inv X pins σ H1 { s1 with heap := h', toks := tk } := I1.kept fun b o e => hk b o e
  have e1 : es.size = (ddI ns).length := by
    have z := nodup_len nd (ddI_nd ns) fun k => by rw [← hm2 k, decide_eq_true_eq, ddI_mem]
    rw [List.length_map, Array.length_toList] at z
    exact z
  exact call_len_set ho hex hd hf (by have := ddI_le ns; rw [e1]; omega) ⟨.int (ddI ns).length, H1, I2.tok _, ⟨_, by rw [e1]⟩, q1⟩
def lenSetF : Da → Option Da
  | .tup ds => (intsD ds).bind fun ns => if ns.length ≤ 1000 then some (.int ((ddI ns).length : Nat)) else none
  | _ => none
theorem de_lenSet {X : Cx} {W : Wd} {E : WX} {a : Expr} {f : Ev → Fx W.S Da} {p p2 q pos : Pos} (hg : Gl X "len") (hm : X.mg "len" = none) (hg2 : Gl X "set") (hm2 : X.mg "set" = none) (ha : DE X W E a f) (hc : X.calm = true := by rfl)
    (na : starEach [a] X.env = (false, eval a X.env) :: starEach [] X.env := by rfl) : DE X W E (.Call (.Name "len" p) [.Call (.Name "set" p2) [a] [] q] [] pos) (fUn lenSetF f) := by
  obtain ⟨ta, pa, qa⟩ := ha.ex
  refine ⟨_, pe_lenSet hg hm hg2 hm2 pa hc na, fun G H σ ρ s Q S h0 => ?_⟩
  refine e_bind (ta := ta) (kE X W E) qa S h0 fun d s1 x G1 H1 x1 r1 S1 h1 => ?_
  obtain ⟨z, hz, hq⟩ := lift_post h1
  unfold lenSetF at hz
  split at hz
  · rename_i ds
    cases e : intsD ds with
    | none => rw [e] at hz; cases hz
    | some ns =>
      rw [e] at hz
      simp only [Option.bind_some] at hz
      split at hz
      · cases hz
        obtain rfl := intsD_eq e
        obtain ⟨l, vs, rfl, h1, r2⟩ := (Re.o (mu := []) (H := H1) r1).tup S1.in_
        obtain rfl := r2.ints
        exact ⟨l, ns, rfl, h1, by assumption, hq _ G1 H1 (.refl S1.in_) S1.rel (.int _)⟩
      · cases hz
  · cases hz
end Sw

set_option Elab.async false
set_option linter.all false
set_option maxRecDepth 100000
set_option maxHeartbeats 2000000
/-! SwA2: what is walked of any kind; constants of the top; several names at once, own lists among them; calls by several keywords; x.append(y.pop(e)). -/
namespace Sw
open PySem PySem.Spec PyProof.Rows L2
section
variable {X : Cx} {W : Wd} {E : WX} {e tg : Expr} {f g : Ev → Fx W.S Da} {pos p : Pos}
/-! ### items of a list, a tuple, a text -/
theorem pi_or {t1 t2 : TI} (h1 : PI X tg e t1) (h2 : PI X tg e t2) : PI X tg e (fun σ H R => t1 σ H R ∨ t2 σ H R) := ⟨fun pins s σ H R I h => h.elim (h1.run pins s σ H R I) (h2.run pins s σ H R I)⟩
def fIt {S : Type} (f : Ev → Fx S Da) : Ev → Fx S (List Da) := fun ρ => bnd (f ρ) fun d => lift (itemsD d)
theorem di_any (he : DE X W E e f) : DI X W E tg e (fIt f) := by
  obtain ⟨t1, p1, q1⟩ := (di_list (tg := tg) he).ex
  obtain ⟨t2, p2, q2⟩ := (di_tup (tg := tg) he).ex
  obtain ⟨t3, p3, q3⟩ := (di_str (tg := tg) he).ex
  refine ⟨_, pi_or p1 (pi_or p2 p3), fun G H σ ρ s R S h => ?_⟩
  unfold fIt bnd at h
  cases r : f ρ s with
  | no => rw [r] at h; exact h.elim
  | er c =>
    rw [r] at h
    refine .inl (q1 G H σ ρ s R S ?_)
    unfold fItems bnd
    rw [r]; exact h
  | ok z =>
    obtain ⟨d, s1⟩ := z
    rw [r] at h
    cases d with
    | lst ds =>
      refine .inl (q1 G H σ ρ s R S ?_)
      unfold fItems bnd
      rw [r]; exact h
    | tup ds =>
      refine .inr (.inl (q2 G H σ ρ s R S ?_))
      unfold fItemsT bnd
      rw [r]; exact h
    | str x =>
      refine .inr (.inr (q3 G H σ ρ s R S ?_))
      unfold fItemsS bnd
      rw [r]; exact h
    | _ => exact h.elim
/-! ### data of the top -/
mutual
def isK (K : PySem.W.Frag) : Da → Value → Bool
  | .non, .none => true
  | .bl b, .bool c => decide (b = c)
  | .int i, .int j _ => decide (i = j)
  | .str x, .str y _ => decide (x = y)
  | .tup ds, .ref a => (match K.lookup a with
    | some o => decide (o.cls = .type "tuple") && (match o.data with
      | .seq its _ => decide (its.size ≤ 1000) && isKL K ds its.toList
      | _ => false)
    | none => false)
  | _, _ => false
def isKL (K : PySem.W.Frag) : List Da → List Value → Bool
  | [], [] => true
  | d :: ds, v :: vs => isK K d v && isKL K ds vs
  | _, _ => false
end
mutual
theorem isK_ok {K : PySem.W.Frag} : ∀ {d : Da} {v : Value}, isK K d v = true → ∃ y, RelV y v ∧ ∀ G, Re K G y d
  | .non, .none, _ => ⟨.non, rfl, fun _ => .non⟩
  | .bl b, .bool c, h => by
    unfold isK at h
    cases of_decide_eq_true h
    exact ⟨.bl b, rfl, fun _ => .bl b⟩
  | .int i, .int j t, h => by
    unfold isK at h
    cases of_decide_eq_true h
    exact ⟨.int i, ⟨t, rfl⟩, fun _ => .int i⟩
  | .str x, .str y t, h => by
    unfold isK at h
    cases of_decide_eq_true h
    exact ⟨.str x, ⟨t, rfl⟩, fun _ => .str x⟩
  | .tup ds, .ref a, h => by
    unfold isK at h
    cases lk : K.lookup a with
    | none => rw [lk] at h; cases h
    | some o =>
      rw [lk] at h
      simp only [Bool.and_eq_true, decide_eq_true_eq] at h
      obtain ⟨h1, h2⟩ := h
      cases hd : o.data with
      | seq its n =>
        rw [hd] at h2
        simp only [Bool.and_eq_true, decide_eq_true_eq] at h2
        obtain ⟨vs, r1, r2⟩ := isKL_ok h2.2
        exact ⟨.ref a, rfl, fun G => .tup (.inr ⟨o, its, n, lk, h1, hd, by have := h2.1; rw [sizeLine_eq]; omega, r1⟩) (r2 G)⟩
      | _ => rw [hd] at h2; cases h2
theorem isKL_ok {K : PySem.W.Frag} : ∀ {ds : List Da} {vs : List Value}, isKL K ds vs = true → ∃ ys, Vals ys vs ∧ ∀ G, ReL K G ys ds
  | [], [], _ => ⟨[], .nil, fun _ => .nil⟩
  | d :: ds, v :: vs, h => by
    unfold isKL at h
    rw [Bool.and_eq_true] at h
    obtain ⟨y, r, q⟩ := isK_ok h.1
    obtain ⟨ys, r2, q2⟩ := isKL_ok h.2
    exact ⟨y :: ys, .cons r r2, fun G => .cons (q G) (q2 G)⟩
  | [], _ :: _, h => by unfold isKL at h; cases h
  | _ :: _, [], h => by unfold isKL at h; cases h
end
/-- the name x of the top means d -/
def GlD (K : PySem.W.Frag) (mg : Str → Option Value) (x : Str) (d : Da) : Prop := ∃ v y, mg x = some v ∧ RelV y v ∧ ∀ G, Re K G y d
def glB (K : PySem.W.Frag) (x : Str) (d : Da) : Bool := match PySem.W.nsIn K mainGlobals x with
  | some (some v) => isK K d v
  | _ => false
theorem glB_ok {K : PySem.W.Frag} {h : Heap} {mg : Str → Option Value} {x : Str} {d : Da} (KX : K.In h) (G : h.Ns mainGlobals mg) (c : glB K x d = true) : GlD K mg x d := by
  unfold glB at c
  split at c
  · rename_i v e
    obtain ⟨y, r, q⟩ := isK_ok c
    exact ⟨v, y, PySem.W.mg_of KX G e, r, q⟩
  · cases c
theorem de_gdat {x : Str} {d : Da} (h : GlD X.K X.mg x d) (hg : Gl X x) (hd : (x == ("__debug__" : Str)) = false := by decide) : DE X W E (.Name x pos) (fC d) := by
  obtain ⟨v, y, h1, h2, h3⟩ := h
  exact de_c (pe_glob hg h1 h2 hd) h3
end
/-! ### values for several names: data, or new lists -/
def SlV (K : PySem.W.Frag) (H0 G H : Hp) (v : V) : Sl → Prop
  | .dat d => Re K G v d
  | .own ds => ∃ p vs, v = .ref p ∧ H p = some (.lst vs) ∧ G p = none ∧ H0 p = none ∧ ReL K G vs ds
  | _ => False
inductive SlVs (K : PySem.W.Frag) (H0 G H : Hp) : List V → List Sl → Prop
  | nil : SlVs K H0 G H [] []
  | cons {v : V} {vs : List V} {sl : Sl} {sls : List Sl} : SlV K H0 G H v sl → SlVs K H0 G H vs sls → (∀ ds, sl = .own ds → ∀ (j : Nat) (es : List Da), sls[j]? = some (.own es) → vs[j]? ≠ some v) → SlVs K H0 G H (v :: vs) (sl :: sls)
theorem SlVs.get {K : PySem.W.Frag} {H0 G H : Hp} : ∀ {vs : List V} {sls : List Sl} {j : Nat} {sl : Sl}, SlVs K H0 G H vs sls → sls[j]? = some sl → ∃ v, vs[j]? = some v ∧ SlV K H0 G H v sl
  | _, _, _, _, .nil, e => by simp at e
  | _, _, 0, _, .cons r _ _, e => by simp at e; subst e; exact ⟨_, rfl, r⟩
  | _, _, j + 1, _, .cons _ s _, e => SlVs.get (j := j) s (by simpa using e)
def MPost (K : PySem.W.Frag) (W : Wd) (E : WX) (G H : Hp) (r : Rp (List Sl × W.S)) (Q : List V → Hp → Prop) : Prop := match r with
  | .ok (sls, s') => ∀ vs G' H', Xt W.mu G H G' H' → W.rel s' G' H' → SlVs K H G' H' vs sls → Q vs H'
  | .er c => ∀ G' H', Xt W.mu G H G' H' → E c H'
  | .no => False
structure DM (X : Cx) (W : Wd) (E : WX) (es : List Expr) (f : Ev → Fx W.S (List Sl)) : Prop where
  ex : ∃ te, PA X es te ∧ ∀ G H σ ρ s (Q : List V → Hp → Prop), Stt X.K W G H σ ρ s → MPost X.K W E G H (f ρ s) Q → te σ H Q
def mNil {S : Type} : Ev → Fx S (List Sl) := fun _ => ret []
def mDat {S : Type} (f : Ev → Fx S Da) (h : Ev → Fx S (List Sl)) : Ev → Fx S (List Sl) := fun ρ => bnd (f ρ) fun d => bnd (h ρ) fun r => ret (.dat d :: r)
def mOwn {S : Type} (f : Ev → Fx S (List Da)) (h : Ev → Fx S (List Sl)) : Ev → Fx S (List Sl) := fun ρ => bnd (f ρ) fun d => bnd (h ρ) fun r => ret (.own d :: r)
section
variable {X : Cx} {W : Wd} {E : WX} {e : Expr} {es : List Expr} {f : Ev → Fx W.S Da} {n : Ev → Fx W.S (List Da)} {h : Ev → Fx W.S (List Sl)} {pos : Pos}
theorem dm_nil : DM X W E [] (mNil (S := W.S)) := by
  refine ⟨tNil, pa_nil, fun G H σ ρ s Q S h => ?_⟩
  exact h [] G H (.refl S.in_) S.rel .nil
theorem SlVs.back {K : PySem.W.Frag} {mu : List Addr} {G0 H0 G1 H1 G H : Hp} (x : Xt mu G0 H0 G1 H1) : ∀ {vs : List V} {sls : List Sl}, SlVs K H1 G H vs sls → SlVs K H0 G H vs sls
  | _, _, .nil => .nil
  | _, _, .cons (sl := sl) r s a => .cons (by
      cases sl with
      | dat d => exact r
      | own ds =>
        obtain ⟨p, vs, e1, e2, e3, e4, e5⟩ := r
        refine ⟨p, vs, e1, e2, e3, ?_, e5⟩
        cases q : H0 p with
        | none => rfl
        | some o => exact absurd e4 (x.dom p (by rw [q]; simp))
      | no => exact r
      | raw y => exact r) (SlVs.back x s) a
theorem dm_dat (ha : DE X W E e f) (hb : DM X W E es h) (hs : starEach (e :: es) X.env = (false, eval e X.env) :: starEach es X.env := by rfl) : DM X W E (e :: es) (mDat f h) := by
  obtain ⟨ta, pa, qa⟩ := ha.ex
  obtain ⟨tb, pb, qb⟩ := hb.ex
  refine ⟨tCons ta tb, pa_cons pa pb hs, fun G H σ ρ s Q S h0 => qa G H σ ρ s _ S ?_⟩
  unfold mDat bnd at h0
  cases r1 : f ρ s with
  | no => rw [r1] at h0; exact h0.elim
  | er c => rw [r1] at h0; exact h0
  | ok z =>
    obtain ⟨d, s1⟩ := z
    rw [r1] at h0
    intro v G1 H1 x1 w1 y1
    refine qb G1 H1 σ ρ s1 _ (S.xt x1 w1) ?_
    simp only at h0
    cases r2 : h ρ s1 with
    | no => rw [r2] at h0; exact h0.elim
    | er c => rw [r2] at h0; exact fun G' H' x' => h0 G' H' (x1.trans x')
    | ok z =>
      obtain ⟨sls, s2⟩ := z
      rw [r2] at h0
      exact fun vs G' H' x' w' y' => h0 (v :: vs) G' H' (x1.trans x') w' (.cons (y1.mono x'.sub) (y'.back x1) fun ds e => nomatch e)
theorem dm_own (ha : DN X W E e n) (hb : DM X W E es h) (hs : starEach (e :: es) X.env = (false, eval e X.env) :: starEach es X.env := by rfl) : DM X W E (e :: es) (mOwn n h) := by
  obtain ⟨ta, pa, qa⟩ := ha.ex
  obtain ⟨tb, pb, qb⟩ := hb.ex
  refine ⟨tCons ta tb, pa_cons pa pb hs, fun G H σ ρ s Q S h0 => qa G H σ ρ s _ S ?_⟩
  unfold mOwn bnd at h0
  cases r1 : n ρ s with
  | no => rw [r1] at h0; exact h0.elim
  | er c => rw [r1] at h0; exact h0
  | ok z =>
    obtain ⟨d, s1⟩ := z
    rw [r1] at h0
    intro p vs G1 H1 x1 w1 hp1 gp1 np y1
    have pm : p ∉ W.mu := fun z => (S.mu p z).2 np
    refine qb G1 H1 σ ρ s1 _ (S.xt x1 w1) ?_
    simp only at h0
    cases r2 : h ρ s1 with
    | no => rw [r2] at h0; exact h0.elim
    | er c => rw [r2] at h0; exact fun G' H' x' => h0 G' H' (x1.trans x')
    | ok z =>
      obtain ⟨sls, s2⟩ := z
      rw [r2] at h0
      intro ws G' H' x' w' y'
      refine h0 (.ref p :: ws) G' H' (x1.trans x') w' (.cons ⟨p, vs, rfl, x'.ext p _ pm hp1, x'.new p gp1 (by rw [hp1]; simp), np, y1.mono x'.sub⟩ (y'.back x1) fun ds e j es ej z => ?_)
      obtain ⟨v, e1, q, us, e2, _, _, e5, _⟩ := y'.get ej
      rw [z] at e1
      cases e1
      cases e2
      rw [hp1] at e5
      cases e5
theorem Sb.setS {K : PySem.W.Frag} {B G0 G H H0 : Hp} {σ : L2.St} {ρ : Ev} {s : W.S} (S : Sb K W B G0 G H σ ρ s) (i : Nat) {v : V} {sl : Sl} (r : SlV K H0 G H v sl) (hB : ∀ p, H0 p = none → B p = none) (hM : ∀ p, H0 p = none → p ∉ W.mu)
    (hn : ∀ p ds, sl = .own ds → v = .ref p → ∀ (j : Nat) (es : List Da), ρ[j]? = some (.own es) → σ[j]? = some (some (.ref p)) → j = i) : Sb K W B G0 G H (σ.set i (some v)) (ρ.set i sl) s := by
  cases sl with
  | dat d => exact S.setD i r
  | own ds =>
    obtain ⟨p, vs, rfl, e2, e3, e4, e5⟩ := r
    exact S.setO i e2 e3 (hB p e4) (hM p e4) e5 (hn p ds rfl rfl)
  | no => exact r.elim
  | raw y => exact r.elim
def gParM {S : Type} (i j : Nat) (h : Ev → Fx S (List Sl)) : Sx S := fun ρ s => match h ρ s with
  | .ok ([d, e], s') => .nx ((ρ.set i d).set j e) s'
  | .ok _ => .no
  | .er c => .er c
  | .no => .no
def gParM3 {S : Type} (i j k : Nat) (h : Ev → Fx S (List Sl)) : Sx S := fun ρ s => match h ρ s with
  | .ok ([d, e, u], s') => .nx (((ρ.set i d).set j e).set k u) s'
  | .ok _ => .no
  | .er c => .er c
  | .no => .no
theorem set_own {ρ : Ev} {i j : Nat} {sl : Sl} {es : List Da} (e : (ρ.set i sl)[j]? = some (.own es)) : (i = j ∧ sl = .own es) ∨ (i ≠ j ∧ ρ[j]? = some (.own es)) := by
  by_cases h : i = j
  · subst h
    by_cases hl : i < ρ.length
    · rw [List.getElem?_set_self hl] at e; cases e; exact .inl ⟨rfl, rfl⟩
    · rw [List.getElem?_eq_none (by simpa using hl)] at e; cases e
  · rw [List.getElem?_set_ne h] at e; exact .inr ⟨h, e⟩
theorem set_val {σ : L2.St} {i j : Nat} {x y : Option V} (e : (σ.set i x)[j]? = some y) : (i = j ∧ x = y) ∨ (i ≠ j ∧ σ[j]? = some y) := by
  by_cases h : i = j
  · subst h
    by_cases hl : i < σ.length
    · rw [List.getElem?_set_self hl] at e; exact .inl ⟨rfl, Option.some.inj e⟩
    · rw [List.getElem?_eq_none (by simpa using hl)] at e; cases e
  · rw [List.getElem?_set_ne h] at e; exact .inr ⟨h, e⟩
/-- an own list of the state stood before -/
theorem Sb.old {K : PySem.W.Frag} {B G0 G H : Hp} {σ : L2.St} {ρ : Ev} {s : W.S} (S : Sb K W B G0 G H σ ρ s) {j : Nat} {es : List Da} {p : Addr} (e1 : ρ[j]? = some (.own es)) (e2 : σ[j]? = some (some (.ref p))) : H p ≠ none := by
  obtain ⟨v, z1, p', vs', z2, z3, _⟩ := S.st.sl j _ e1
  rw [e2] at z1
  cases (Option.some.inj z1).trans z2
  rw [z3]; simp
section
variable {i j l : Nat} {x y z : Str} {a b c : Expr} {px py pz pt pt2 : Pos} {kt k2 : Nat}
theorem ds_parM (hc : X.calm = true) (hN : X.N.Nodup) (hi : X.N[i]? = some x) (hj : X.N[j]? = some y) (hij : i ≠ j) (hx : X.env.scope.names.lookup x = some .local) (hy : X.env.scope.names.lookup y = some .local) (ha : DM X W E [a, b] h)
    (hw : swappedStores [.Tuple [.Name x px, .Name y py] kt pt] (.Tuple [a, b] k2 pt2) X.env = pure (some [x, y])) (hs : swapsWithSole [.Tuple [.Name x px, .Name y py] kt pt] (.Tuple [a, b] k2 pt2) pos.line X.env = pure false := by rfl) :
    PS X (.Assign [.Tuple [.Name x px, .Name y py] kt pt] (.Tuple [a, b] k2 pt2) pos) (tS X.K W E (gParM i j h)) := by
  obtain ⟨ta, pa, qa⟩ := ha.ex
  refine ps_imp (ps_par hc hN hi hj hij hx hy pa hw hs) fun D σ H ⟨B, G0, G, ρ, s, S, q⟩ => ?_
  refine qa G H σ ρ s _ S.st ?_
  unfold gParM at q
  unfold MPost
  cases r : h ρ s with
  | no => rw [r] at q; exact q.elim
  | er c => rw [r] at q; exact fun G' H' x => q G' H' (S.xt.trans x)
  | ok z =>
    obtain ⟨ds, s'⟩ := z
    rw [r] at q
    intro vs G' H' x w y
    have hB : ∀ p, H p = none → B p = none := fun p e => by
      cases q : B p with
      | none => rfl
      | some o => exact absurd e (S.xt.dom p (by rw [q]; simp))
    have hM : ∀ p, H p = none → p ∉ W.mu := fun p e m => (S.st.mu p m).2 e
    have S1 := S.go x w
    cases y with
    | nil => exact q.elim
    | cons r1 t1 a1 =>
      cases t1 with
      | nil => exact q.elim
      | cons r2 t2 a2 =>
        cases t2 with
        | cons _ _ _ => exact q.elim
        | nil =>
          refine ⟨_, _, rfl, q _ G' H' ((S1.setS i r1 hB hM fun p ds e1 e2 m es m1 m2 => ?_).setS j r2 hB hM fun p ds e1 e2 m es m1 m2 => ?_)⟩
          · subst e1 e2
            obtain ⟨p', vs', z1, _, _, z4, _⟩ := r1
            cases z1
            exact absurd z4 (S.old m1 m2)
          · subst e1 e2
            obtain ⟨p', vs', z1, _, _, z4, _⟩ := r2
            cases z1
            rcases set_own m1 with ⟨rfl, q1⟩ | ⟨n1, q1⟩
            · rcases set_val m2 with ⟨_, q2⟩ | ⟨n2, _⟩
              · exact absurd (by rw [Option.some.inj q2] <;> rfl) (a1 _ q1 0 ds rfl)
              · exact absurd rfl n2
            · rcases set_val m2 with ⟨n2, _⟩ | ⟨_, q2⟩
              · exact absurd n2 n1
              · exact absurd z4 (S.old q1 q2)
theorem ds_parM3 (hc : X.calm = true) (hN : X.N.Nodup) (hi : X.N[i]? = some x) (hj : X.N[j]? = some y) (hl : X.N[l]? = some z) (hij : i ≠ j) (hil : i ≠ l) (hjl : j ≠ l) (hx : X.env.scope.names.lookup x = some .local) (hy : X.env.scope.names.lookup y = some .local) (hz : X.env.scope.names.lookup z = some .local) (ha : DM X W E [a, b, c] h)
    (hw : swappedStores [.Tuple [.Name x px, .Name y py, .Name z pz] kt pt] (.Tuple [a, b, c] k2 pt2) X.env = pure (some [x, y, z])) (hs : swapsWithSole [.Tuple [.Name x px, .Name y py, .Name z pz] kt pt] (.Tuple [a, b, c] k2 pt2) pos.line X.env = pure false := by rfl) :
    PS X (.Assign [.Tuple [.Name x px, .Name y py, .Name z pz] kt pt] (.Tuple [a, b, c] k2 pt2) pos) (tS X.K W E (gParM3 i j l h)) := by
  obtain ⟨ta, pa, qa⟩ := ha.ex
  refine ps_imp (ps_par3 hc hN hi hj hl hij hil hjl hx hy hz pa hw hs) fun D σ H ⟨B, G0, G, ρ, s, S, q⟩ => ?_
  refine qa G H σ ρ s _ S.st ?_
  unfold gParM3 at q
  unfold MPost
  cases r : h ρ s with
  | no => rw [r] at q; exact q.elim
  | er c => rw [r] at q; exact fun G' H' x => q G' H' (S.xt.trans x)
  | ok z =>
    obtain ⟨ds, s'⟩ := z
    rw [r] at q
    intro vs G' H' x w y
    have hB : ∀ p, H p = none → B p = none := fun p e => by
      cases q : B p with
      | none => rfl
      | some o => exact absurd e (S.xt.dom p (by rw [q]; simp))
    have hM : ∀ p, H p = none → p ∉ W.mu := fun p e m => (S.st.mu p m).2 e
    have S1 := S.go x w
    cases y with
    | nil => exact q.elim
    | cons r1 t1 a1 =>
      cases t1 with
      | nil => exact q.elim
      | cons r2 t2 a2 =>
        cases t2 with
        | nil => exact q.elim
        | cons r3 t3 a3 =>
          cases t3 with
          | cons _ _ _ => exact q.elim
          | nil =>
            refine ⟨_, _, _, rfl, q _ G' H' (((S1.setS i r1 hB hM fun p ds e1 e2 m es m1 m2 => ?_).setS j r2 hB hM fun p ds e1 e2 m es m1 m2 => ?_).setS l r3 hB hM fun p ds e1 e2 m es m1 m2 => ?_)⟩
            · subst e1 e2
              obtain ⟨p', vs', z1, _, _, z4, _⟩ := r1
              cases z1
              exact absurd z4 (S.old m1 m2)
            · subst e1 e2
              obtain ⟨p', vs', z1, _, _, z4, _⟩ := r2
              cases z1
              rcases set_own m1 with ⟨rfl, q1⟩ | ⟨n1, q1⟩
              · rcases set_val m2 with ⟨_, q2⟩ | ⟨n2, _⟩
                · exact absurd (by rw [Option.some.inj q2] <;> rfl) (a1 _ q1 0 ds rfl)
                · exact absurd rfl n2
              · rcases set_val m2 with ⟨n2, _⟩ | ⟨_, q2⟩
                · exact absurd n2 n1
                · exact absurd z4 (S.old q1 q2)
            · subst e1 e2
              obtain ⟨p', vs', z1, _, _, z4, _⟩ := r3
              cases z1
              rcases set_own m1 with ⟨rfl, q1⟩ | ⟨n1, q1⟩
              · rcases set_val m2 with ⟨_, q2⟩ | ⟨n2, _⟩
                · exact absurd (by rw [Option.some.inj q2] <;> rfl) (a2 _ q1 0 ds rfl)
                · exact absurd rfl n2
              · rcases set_val m2 with ⟨n2, _⟩ | ⟨_, q2⟩
                · exact absurd n2 n1
                · rcases set_own q1 with ⟨rfl, q3⟩ | ⟨n3, q3⟩
                  · rcases set_val q2 with ⟨_, q4⟩ | ⟨n4, _⟩
                    · exact absurd (by rw [Option.some.inj q4] <;> rfl) (a1 _ q3 1 ds rfl)
                    · exact absurd rfl n4
                  · rcases set_val q2 with ⟨n4, _⟩ | ⟨_, q4⟩
                    · exact absurd n4 n3
                    · exact absurd z4 (S.old q3 q4)
end
end
end Sw

set_option Elab.async false
set_option linter.all false
set_option maxRecDepth 100000
set_option maxHeartbeats 2000000
/-! SwA3: calls by several keywords; own lists popped, put into, stored into; repr. -/
namespace Sw
open PySem PySem.Spec PyProof.Rows L2
/-! ### keywords -/
def pick {α : Type} (pm : List Nat) (xs : List α) : List α := pm.filterMap fun i => xs[i]?
theorem vals_get : ∀ {vs : List V} {us : List Value} (i : Nat), Vals vs us → (∃ v u, vs[i]? = some v ∧ us[i]? = some u ∧ RelV v u) ∨ (vs[i]? = none ∧ us[i]? = none)
  | _, _, _, .nil => .inr ⟨by simp, by simp⟩
  | _, _, 0, .cons (a := a) (b := b) r _ => .inl ⟨a, b, by simp, by simp, r⟩
  | _, _, i + 1, .cons _ s => by simpa using vals_get i s
theorem vals_pick {vs : List V} {us : List Value} (r : Vals vs us) : ∀ pm : List Nat, Vals (pick pm vs) (pick pm us)
  | [] => .nil
  | i :: pm => by
    unfold pick
    rcases vals_get i r with ⟨v, u, e1, e2, q⟩ | ⟨e1, e2⟩
    · rw [List.filterMap_cons, List.filterMap_cons, e1, e2]
      exact .cons q (vals_pick r pm)
    · rw [List.filterMap_cons, List.filterMap_cons, e1, e2]
      exact vals_pick r pm
theorem ReL.pick {K : PySem.W.Frag} {G : Hp} {vs : List V} {ds : List Da} (r : ReL K G vs ds) : ∀ pm : List Nat, ReL K G (Sw.pick pm vs) (Sw.pick pm ds)
  | [] => .nil
  | i :: pm => by
    unfold Sw.pick
    rw [List.filterMap_cons, List.filterMap_cons]
    cases e : vs[i]? with
    | none =>
      have e2 : ds[i]? = none := by
        rw [List.getElem?_eq_none_iff] at e ⊢
        rw [← r.length]; exact e
      rw [e2]
      exact ReL.pick r pm
    | some v =>
      obtain ⟨d, e2, q⟩ := r.get e
      rw [e2]
      exact .cons q (ReL.pick r pm)
/-- a def that may be called with n values by place and the rest by the names ks; pm puts them in the parameters' order -/
structure FnK (P : Program) (w : World) (K : PySem.W.Frag) (mg : Str → Option Value) (base : Heap) (k : Nat) (x : Str) (n : Nat) (ks : List Str) (pm : List Nat) (F : List Da → Rp Da) : Prop where
  ex : ∃ f fd ps, FnOk P w K mg base (L2.CX P w) k f fd ps (spP K F) ∧ mg x = some (.ref f) ∧ PySem.W.keepIn K (.ref f) = true ∧ KBn K fd ps n ks (fun us ws => pick pm (us ++ ws)) (fun vs zs => pick pm (vs ++ zs))
theorem fnK_of {P : Program} {w : World} {K : PySem.W.Frag} {mg : Str → Option Value} {base : Heap} {x : Str} {st : Stmt} {f : Addr} {fd : FuncData} {k n : Nat} {ps ks : List Str} {pm : List Nat} {F : List Da → Rp Da} (Fd : FunD K x x (defArgs st) (defBody st) (defScope st) [] [] f fd) (hm : mg x = some (.ref f)) (Fn : FnOk P w K mg base (L2.CX P w) k f fd ps (spP K F))
    (h : ∀ (kV doc pm' : Value) (an : Option Addr) (cdv ct : Value) (us ws : List Value), us.length = n → ws.length = ks.length → bindArgs (PySem.W.fnOf x x (defArgs st) (defBody st) (defScope st) .none kV doc pm' an cdv ct) ⟨us, ks.zip ws⟩ = pure (ps.zip (pick pm (us ++ ws)))) : FnK P w K mg base k x n ks pm F := by
  refine ⟨f, fd, ps, Fn, hm, Fd.kp, ⟨fun s us ws X l1 l2 => ?_, fun r1 r2 => vals_pick (r1.append r2) pm⟩⟩
  obtain ⟨oc, od, dV, kV, doc, pm', an, cdv, ct, osl, rfl, lk, hcd, hD, hK⟩ := Fd.ex
  rcases hD with ⟨_, rfl⟩ | ⟨e, _⟩
  · exact .of_eq (h kV doc pm' an cdv ct us ws l1 l2)
  · exact absurd rfl e
section
variable {X : Cx} {W : Wd} {E : WX} {e : Expr} {es : List Expr} {kws : List Keyword} {f g : Ev → Fx W.S Da} {h h2 : Ev → Fx W.S (List Da)} {pos p : Pos} {st : Stmt}
/-- the keywords' values, from the left -/
structure DK (X : Cx) (W : Wd) (E : WX) (kws : List Keyword) (f : Ev → Fx W.S (List Da)) : Prop where
  ex : ∃ te, PK X kws te ∧ ∀ G H σ ρ s (Q : List V → Hp → Prop), Stt X.K W G H σ ρ s → APost X.K W E G H (f ρ s) Q → te σ H Q
theorem dk_nil : DK X W E [] (fNil (S := W.S)) := by
  refine ⟨tNil, pk_nil, fun G H σ ρ s Q S h => ?_⟩
  exact h [] G H (.refl S.in_) S.rel .nil
theorem dk_cons {nm : Option Str} {kpos : Pos} (ha : DE X W E e f) (hb : DK X W E kws h) : DK X W E (⟨nm, e, kpos⟩ :: kws) (fCons f h) := by
  obtain ⟨ta, pa, qa⟩ := ha.ex
  obtain ⟨tb, pb, qb⟩ := hb.ex
  refine ⟨tCons ta tb, pk_cons pa pb, fun G H σ ρ s Q S h0 => qa G H σ ρ s _ S ?_⟩
  unfold fCons bnd at h0
  cases r1 : f ρ s with
  | no => rw [r1] at h0; exact h0.elim
  | er c => rw [r1] at h0; exact h0
  | ok z =>
    obtain ⟨d, s1⟩ := z
    rw [r1] at h0
    intro v G1 H1 x1 w1 y1
    refine qb G1 H1 σ ρ s1 _ (S.xt x1 w1) ?_
    simp only at h0
    cases r2 : h ρ s1 with
    | no => rw [r2] at h0; exact h0.elim
    | er c => rw [r2] at h0; exact fun G' H' x' => h0 G' H' (x1.trans x')
    | ok z =>
      obtain ⟨ds, s2⟩ := z
      rw [r2] at h0
      exact fun vs G' H' x' w' y' => h0 (v :: vs) G' H' (x1.trans x') w' (.cons (y1.mono x'.sub) y')
def fPick {S : Type} (pm : List Nat) (h h2 : Ev → Fx S (List Da)) : Ev → Fx S (List Da) := fun ρ => bnd (h ρ) fun a => bnd (h2 ρ) fun b => ret (pick pm (a ++ b))
theorem bnd_assoc {S α β γ : Type} (m : Fx S α) (k : α → Fx S β) (l : β → Fx S γ) : bnd (bnd m k) l = bnd m fun a => bnd (k a) l := by
  funext s
  unfold bnd
  cases r : m s with
  | ok z => obtain ⟨a, s1⟩ := z; rfl
  | er c => rfl
  | no => rfl
theorem ret_bnd {S α β : Type} (a : α) (k : α → Fx S β) : bnd (ret a) k = k a := rfl
theorem spP_ends {F : List Da → Rp Da} {Ek : XK} {G1 H1 : Hp} {s1 : W.S} {Q : VK} {vs : List V} {ds : List Da} (in_ : Same G1 H1) (kp : ∀ G' H', Xp G1 H1 G' H' → W.rel s1 G' H') (y : ReL X.K G1 vs ds) (hq : EPost X.K W (wk X.K Ek) G1 H1 (liftR (F ds) s1) Q) : spP X.K F vs H1 Q Ek := by
  refine ⟨G1, ds, in_, y, ?_⟩
  cases hF : F ds with
  | ok z => rw [hF] at hq; exact fun v' G' H' x' y' => hq v' G' H' x'.xt (kp _ _ x') y'
  | er cc => rw [hF] at hq; exact fun G' H' x' => hq G' H' x'.xt
  | no => rw [hF] at hq; exact hq
theorem de_callK0 {k j : Nat} {x : Str} {ks : List Str} {pm : List Nat} {F : List Da → Rp Da} {Ek : XK} (Fn : FnK X.prog X.w X.K X.mg X.base k x 0 ks pm F) (hr : Room j X.A) (hk : k ≤ j) (hx : Passes (L2.CX X.prog X.w) X Ek) (hg : Gl X x) (ha : DK X W (wk X.K Ek) kws h) (hl : LenOk h ks.length)
    (hall : (backToKw pos (keywordEach kws X.env)).all (·.1.isSome) = true := by rfl) (hks : (backToKw pos (keywordEach kws X.env)).filterMap (·.1) = ks := by rfl)
    (hdb : (x == ("__debug__" : Str)) = false := by decide) (hpl : ((backTo pos (starEach [] X.env)).any (·.1) || (backToKw pos (keywordEach kws X.env)).any (·.1.isNone)) = false := by rfl) :
    DE X W (wk X.K Ek) (.Call (.Name x p) [] kws pos) (fCall F (fPick pm (fNil (S := W.S)) h)) := by
  obtain ⟨fa, fd, ps, G0, hm, kp, kb⟩ := Fn.ex
  obtain ⟨ta, pa, qa⟩ := ha.ex
  refine ⟨fun σ H Q => ta σ H fun vs H1 => vs.length = ks.length ∧ spP X.K F (pick pm ([] ++ vs)) H1 Q Ek, ⟨fun pins s σ H Q I hh => ?_⟩, fun G H σ ρ s Q S h0 => ?_⟩
  · refine wpAny_Call_Name_kw (ld_glob I hg hm ?_ hdb)
    refine PySem.W.callWith_KW0 (h₀ := X.base) I.ok.mod.kin kp hall (thn (pa.run pos pins s σ H _ I hh) fun ws s2 ⟨zs, H2, I2, rz, l2, q2⟩ => ⟨I2.kIn, ?_⟩) hpl
    rw [hks]
    exact run_fnN G0 (hr.mono hk) kb hx I2 .nil rz rfl l2 q2
  · refine qa G H σ ρ s _ S ?_
    have e1 : fCall F (fPick pm (fNil (S := W.S)) h) ρ s = bnd (h ρ) (fun ds => liftR (F (pick pm ([] ++ ds)))) s := by
      show bnd (bnd (ret []) fun a => bnd (h ρ) fun b => ret (pick pm (a ++ b))) (fun ds => liftR (F ds)) s = _
      rw [ret_bnd, bnd_assoc]
      rfl
    rw [e1] at h0
    unfold bnd at h0
    cases r : h ρ s with
    | no => rw [r] at h0; exact h0.elim
    | er c => rw [r] at h0; exact h0
    | ok z =>
      obtain ⟨ds, s1⟩ := z
      rw [r] at h0
      intro vs G1 H1 x1 w1 y1
      have S1 := S.xt x1 w1
      refine ⟨by rw [y1.length]; exact hl _ _ _ _ r, ?_⟩
      exact spP_ends (W := W) (s1 := s1) S1.in_ (fun G' H' x => S1.keep x) ((ReL.append .nil y1).pick pm) (EPost.later (X := X) (r := liftR (F (pick pm ([] ++ ds))) s1) h0 x1)
theorem de_callKn {k j n : Nat} {x : Str} {ks : List Str} {pm : List Nat} {F : List Da → Rp Da} {Ek : XK} (Fn : FnK X.prog X.w X.K X.mg X.base k x n ks pm F) (hr : Room j X.A) (hk : k ≤ j) (hx : Passes (L2.CX X.prog X.w) X Ek) (hg : Gl X x) (ha : DA X W (wk X.K Ek) (e :: es) h) (hn : LenOk h n) (hb : DK X W (wk X.K Ek) kws h2) (hl : LenOk h2 ks.length)
    (hall : (backToKw pos (keywordEach kws X.env)).all (·.1.isSome) = true := by rfl) (hks : (backToKw pos (keywordEach kws X.env)).filterMap (·.1) = ks := by rfl)
    (hdb : (x == ("__debug__" : Str)) = false := by decide) (he : starEach (e :: es) X.env = (false, eval e X.env) :: starEach es X.env := by rfl) (hpl : ((backTo pos (starEach (e :: es) X.env)).any (·.1) || (backToKw pos (keywordEach kws X.env)).any (·.1.isNone)) = false := by rfl) :
    DE X W (wk X.K Ek) (.Call (.Name x p) (e :: es) kws pos) (fCall F (fPick pm h h2)) := by
  obtain ⟨fa, fd, ps, G0, hm, kp, kb⟩ := Fn.ex
  obtain ⟨ta, pa, qa⟩ := ha.ex
  obtain ⟨tb, pb, qb⟩ := hb.ex
  refine ⟨fun σ H Q => ta σ H fun vs H1 => tb σ H1 fun zs H2 => vs.length = n ∧ zs.length = ks.length ∧ spP X.K F (pick pm (vs ++ zs)) H2 Q Ek, ⟨fun pins s σ H Q I hh => ?_⟩, fun G H σ ρ s Q S h0 => ?_⟩
  · refine wpAny_Call_Name_kw (ld_glob I hg hm ?_ hdb)
    refine PySem.W.callWith_KW (h₀ := X.base) I.ok.mod.kin kp hall (thn (pa.run pos pins s σ H _ I hh) fun us s1 ⟨vs, H1, I1, r, q⟩ => ?_) hpl he
    refine thn (pb.run pos pins s1 σ H1 _ I1 q) fun ws s2 ⟨zs, H2, I2, rz, l1, l2, q2⟩ => ⟨I2.kIn, ?_⟩
    rw [hks]
    exact run_fnN G0 (hr.mono hk) kb hx I2 r rz l1 l2 q2
  · refine qa G H σ ρ s _ S ?_
    have e1 : fCall F (fPick pm h h2) ρ s = bnd (h ρ) (fun a => bnd (h2 ρ) fun b => liftR (F (pick pm (a ++ b)))) s := by
      show bnd (bnd (h ρ) fun a => bnd (h2 ρ) fun b => ret (pick pm (a ++ b))) (fun ds => liftR (F ds)) s = _
      rw [bnd_assoc]
      congr 1
      funext a
      rw [bnd_assoc]
      rfl
    rw [e1] at h0
    unfold bnd at h0
    cases r : h ρ s with
    | no => rw [r] at h0; exact h0.elim
    | er c => rw [r] at h0; exact h0
    | ok z =>
      obtain ⟨ds, s1⟩ := z
      rw [r] at h0
      intro vs G1 H1 x1 w1 y1
      refine qb G1 H1 σ ρ s1 _ (S.xt x1 w1) ?_
      simp only at h0
      cases r2 : h2 ρ s1 with
      | no => rw [r2] at h0; exact h0.elim
      | er c => rw [r2] at h0; exact fun G' H' x' => h0 G' H' (x1.trans x')
      | ok z =>
        obtain ⟨fs, s2⟩ := z
        rw [r2] at h0
        intro zs G2 H2 x2 w2 y2
        have S2 := (S.xt x1 w1).xt x2 w2
        refine ⟨by rw [y1.length]; exact hn _ _ _ _ r, by rw [y2.length]; exact hl _ _ _ _ r2, ?_⟩
        exact spP_ends (W := W) (s1 := s2) S2.in_ (fun G' H' x => S2.keep x) (((y1.mono x2.sub).append y2).pick pm) (EPost.later (X := X) (r := liftR (F (pick pm (ds ++ fs))) s2) h0 (x1.trans x2))
/-! ### x.append(y.pop(e)) -/
def gAppPop {S : Type} (i j : Nat) (f : Ev → Fx S Da) : Sx S := fun ρ s => match ρ[i]?, ρ[j]? with
  | some (.own as), some (.own bs) => if i = j then .no else (match f ρ s with
    | .ok (.int n, s') => (match seqIndex? n bs.length with
      | some k => (match bs[k]? with
        | some d => if as.length < 1000000 ∧ -(2 ^ 63) ≤ n ∧ n < 2 ^ 63 then .nx ((ρ.set j (.own (bs.eraseIdx k))).set i (.own (as ++ [d]))) s' else .no
        | none => .no)
      | none => .no)
    | .ok _ => .no
    | .er c => .er c
    | .no => .no)
  | _, _ => .no
theorem ds_appPop {i j : Nat} (hp : PS X st (tDrop (tBM X.K "list" rAppend (tVar i) (tCons (tBM X.K "list" rPopAt (tVar j) (tCons (tE X.K W E f) tNil)) tNil)))) : PS X st (tS X.K W E (gAppPop i j f)) := ps_imp hp fun D σ H ⟨B, G0, G, ρ, s, S, q⟩ => by
  unfold gAppPop at q
  split at q
  · rename_i as bs ri rj
    split at q
    · exact q.elim
    · rename_i hij
      obtain ⟨v, e1, p, vs, e2, e3, e4, e5, e6⟩ := S.st.sl i _ ri
      subst e2
      obtain ⟨u, f1, p2, us, f2, f3, f4, f5, f6⟩ := S.st.sl j _ rj
      subst f2
      have npp : p ≠ p2 := fun z => hij (S.st.apart i j p as bs ri rj e1 (by rw [f1, z]))
      refine ⟨_, e1, .inl ⟨rfl, vs, SqL.of e3⟩, ?_⟩
      refine ⟨_, f1, .inl ⟨rfl, us, SqL.of f3⟩, ?_⟩
      refine ⟨G, ρ, s, S.st, ?_⟩
      unfold EPost
      cases r : f ρ s with
      | no => rw [r] at q; exact q.elim
      | er c => rw [r] at q; exact fun G' H' x => q G' H' (S.xt.trans x)
      | ok z =>
        obtain ⟨d, s'⟩ := z
        rw [r] at q
        intro v G' H' x w y
        have S' := S.go x w
        have hp1 := x.ext p _ e5 e3
        have hp2 := x.ext p2 _ f5 f3
        cases d with
        | int n =>
          cases y
          simp only at q
          cases hk : seqIndex? n bs.length with
          | none => rw [hk] at q; exact q.elim
          | some k =>
            rw [hk] at q
            simp only at q
            cases hd : bs[k]? with
            | none => rw [hd] at q; exact q.elim
            | some d =>
              rw [hd] at q
              simp only at q
              split at q
              · rename_i hc
                obtain ⟨y, hy, ry⟩ := (f6.mono x.sub).get' hd
                refine ⟨p2, us, n, k, y, rfl, rfl, hp2, hc.2.1, hc.2.2, by rw [f6.length]; exact hk, hy, ?_⟩
                have S1 := S'.chg rj f1 hp2 (x.new p2 f4 (by rw [f3]; simp)) f5 ((f6.mono x.sub).eraseIdx k)
                have ri' : (ρ.set j (.own (bs.eraseIdx k)))[i]? = some (.own as) := by rw [List.getElem?_set_ne (Ne.symm hij)]; exact ri
                have hp1' : upd H' p2 (.lst (us.eraseIdx k)) p = some (.lst vs) := by rw [upd_ne npp]; exact hp1
                refine ⟨p, vs, y, rfl, rfl, hp1', by have := line_million; have := e6.length; omega, ?_⟩
                exact q _ G' _ (S1.chg ri' e1 hp1' (x.new p e4 (by rw [e3]; simp)) e5 ((e6.mono x.sub).snoc ry))
              · exact q.elim
        | _ => exact q.elim
  · exact q.elim
/-! ### y.pop(e) alone; y.insert(e, v); y[e] = v; y.extend(new) -/
def gPop {S : Type} (j : Nat) (f : Ev → Fx S Da) : Sx S := fun ρ s => match ρ[j]? with
  | some (.own bs) => (match f ρ s with
    | .ok (.int n, s') => (match seqIndex? n bs.length with
      | some k => if k < bs.length ∧ -(2 ^ 63) ≤ n ∧ n < 2 ^ 63 then .nx (ρ.set j (.own (bs.eraseIdx k))) s' else .no
      | none => .no)
    | .ok _ => .no
    | .er c => .er c
    | .no => .no)
  | _ => .no
theorem ds_pop {j : Nat} (hp : PS X st (tDrop (tBM X.K "list" rPopAt (tVar j) (tCons (tE X.K W E f) tNil)))) : PS X st (tS X.K W E (gPop j f)) := ps_imp hp fun D σ H ⟨B, G0, G, ρ, s, S, q⟩ => by
  unfold gPop at q
  split at q
  · rename_i bs rj
    obtain ⟨u, f1, p2, us, f2, f3, f4, f5, f6⟩ := S.st.sl j _ rj
    subst f2
    refine ⟨_, f1, .inl ⟨rfl, us, SqL.of f3⟩, ?_⟩
    refine ⟨G, ρ, s, S.st, ?_⟩
    unfold EPost
    cases r : f ρ s with
    | no => rw [r] at q; exact q.elim
    | er c => rw [r] at q; exact fun G' H' x => q G' H' (S.xt.trans x)
    | ok z =>
      obtain ⟨d, s'⟩ := z
      rw [r] at q
      intro v G' H' x w y
      have S' := S.go x w
      have hp2 := x.ext p2 _ f5 f3
      cases d with
      | int n =>
        cases y
        simp only at q
        cases hk : seqIndex? n bs.length with
        | none => rw [hk] at q; exact q.elim
        | some k =>
          rw [hk] at q
          simp only at q
          split at q
          · rename_i hc
            obtain ⟨y, hy, ry⟩ := (f6.mono x.sub).get' (List.getElem?_eq_getElem hc.1)
            refine ⟨p2, us, n, k, y, rfl, rfl, hp2, hc.2.1, hc.2.2, by rw [f6.length]; exact hk, hy, ?_⟩
            exact q _ G' _ (S'.chg rj f1 hp2 (x.new p2 f4 (by rw [f3]; simp)) f5 ((f6.mono x.sub).eraseIdx k))
          · exact q.elim
      | _ => exact q.elim
  · exact q.elim
def gIns {S : Type} (j : Nat) (f g : Ev → Fx S Da) : Sx S := fun ρ s => match ρ[j]? with
  | some (.own bs) => (match f ρ s with
    | .ok (.int n, s1) => (match g ρ s1 with
      | .ok (d, s2) => if bs.length < 1000000 ∧ 0 ≤ n ∧ n < 2 ^ 63 then .nx (ρ.set j (.own (bs.take n.toNat ++ [d] ++ bs.drop n.toNat))) s2 else .no
      | .er c => .er c
      | .no => .no)
    | .ok _ => .no
    | .er c => .er c
    | .no => .no)
  | _ => .no
def rInsert : V → List V → Hp → VK → Prop := fun x vs H Q => ∃ (l : Addr) (xs : List V) (i : Int) (y : V), x = .ref l ∧ vs = [.int i, y] ∧ H l = some (.lst xs) ∧ xs.length < sizeLine ∧ 0 ≤ i ∧ i < 2 ^ 63 ∧ Q .non (upd H l (.lst (xs.take i.toNat ++ [y] ++ xs.drop i.toNat)))
theorem ds_ins {j : Nat} (hp : PS X st (tDrop (tBM X.K "list" rInsert (tVar j) (tCons (tE X.K W E f) (tCons (tE X.K W E g) tNil))))) : PS X st (tS X.K W E (gIns j f g)) := ps_imp hp fun D σ H ⟨B, G0, G, ρ, s, S, q⟩ => by
  unfold gIns at q
  split at q
  · rename_i bs rj
    obtain ⟨u, f1, p2, us, f2, f3, f4, f5, f6⟩ := S.st.sl j _ rj
    subst f2
    refine ⟨_, f1, .inl ⟨rfl, us, SqL.of f3⟩, ?_⟩
    refine ⟨G, ρ, s, S.st, ?_⟩
    unfold EPost
    cases r : f ρ s with
    | no => rw [r] at q; exact q.elim
    | er c => rw [r] at q; exact fun G' H' x => q G' H' (S.xt.trans x)
    | ok z =>
      obtain ⟨d, s'⟩ := z
      rw [r] at q
      intro v G' H' x w y
      have S' := S.go x w
      cases d with
      | int n =>
        cases y
        simp only at q
        refine ⟨G', ρ, s', S'.st, ?_⟩
        unfold EPost
        cases r2 : g ρ s' with
        | no => rw [r2] at q; exact q.elim
        | er c => rw [r2] at q; exact fun G2 H2 x2 => q G2 H2 (S'.xt.trans x2)
        | ok z =>
          obtain ⟨d, s2⟩ := z
          rw [r2] at q
          intro v2 G2 H2 x2 w2 y2
          have S2 := S'.go x2 w2
          have x3 := x.trans x2
          have hp2 := x3.ext p2 _ f5 f3
          simp only at q
          split at q
          · rename_i hc
            refine ⟨p2, us, n, v2, rfl, rfl, hp2, by have := line_million; have := f6.length; omega, hc.2.1, hc.2.2, ?_⟩
            have m6 := f6.mono x3.sub
            exact q _ G2 _ (S2.chg rj f1 hp2 (x3.new p2 f4 (by rw [f3]; simp)) f5 (((m6.take _).append (.cons y2 .nil)).append (m6.drop _)))
          · exact q.elim
      | _ => exact q.elim
  · exact q.elim
def gSto {S : Type} (j : Nat) (f g : Ev → Fx S Da) : Sx S := fun ρ s => match ρ[j]? with
  | some (.own bs) => (match g ρ s with
    | .ok (d, s1) => (match f ρ s1 with
      | .ok (.int n, s2) => (match ixN bs.length n with
        | some k => .nx (ρ.set j (.own (bs.set k d))) s2
        | none => .no)
      | .ok _ => .no
      | .er c => .er c
      | .no => .no)
    | .er c => .er c
    | .no => .no)
  | _ => .no
theorem ds_sto {j : Nat} (hp : PS X st (tAsg (tE X.K W E g) (gSub (tVar j) (tE X.K W E f) rSetL))) : PS X st (tS X.K W E (gSto j f g)) := ps_imp hp fun D σ H ⟨B, G0, G, ρ, s, S, q⟩ => by
  unfold gSto at q
  split at q
  · rename_i bs rj
    obtain ⟨u, f1, p2, us, f2, f3, f4, f5, f6⟩ := S.st.sl j _ rj
    subst f2
    refine ⟨G, ρ, s, S.st, ?_⟩
    unfold EPost
    cases r : g ρ s with
    | no => rw [r] at q; exact q.elim
    | er c => rw [r] at q; exact fun G' H' x => q G' H' (S.xt.trans x)
    | ok z =>
      obtain ⟨d, s'⟩ := z
      rw [r] at q
      intro v G' H' x w y
      have S' := S.go x w
      simp only at q
      refine ⟨_, f1, G', ρ, s', S'.st, ?_⟩
      unfold EPost
      cases r2 : f ρ s' with
      | no => rw [r2] at q; exact q.elim
      | er c => rw [r2] at q; exact fun G2 H2 x2 => q G2 H2 (S'.xt.trans x2)
      | ok z =>
        obtain ⟨d2, s2⟩ := z
        rw [r2] at q
        intro v2 G2 H2 x2 w2 y2
        have S2 := S'.go x2 w2
        have x3 := x.trans x2
        have hp2 := x3.ext p2 _ f5 f3
        cases d2 with
        | int n =>
          cases y2
          simp only at q
          cases hk : ixN bs.length n with
          | none => rw [hk] at q; exact q.elim
          | some k =>
            rw [hk] at q
            refine ⟨p2, us, n, k, rfl, rfl, hp2, by rw [f6.length]; exact hk, ?_⟩
            exact q _ G2 _ (S2.chg rj f1 hp2 (x3.new p2 f4 (by rw [f3]; simp)) f5 (ReL.set (y.mono x2.sub) k (f6.mono x3.sub)))
        | _ => exact q.elim
  · exact q.elim
def gExt {S : Type} (j : Nat) (n : Ev → Fx S (List Da)) : Sx S := fun ρ s => match ρ[j]? with
  | some (.own bs) => (match n ρ s with
    | .ok (ds, s1) => if bs.length < 1000000 ∧ ds.length < 1000000 then .nx (ρ.set j (.own (bs ++ ds))) s1 else .no
    | .er c => .er c
    | .no => .no)
  | _ => .no
theorem line_two : (2000000 : Nat) < sizeLine := by decide
theorem ds_ext {j : Nat} (hp : PS X st (tDrop (tBM X.K "list" rExtend (tVar j) (tCons (tN X.K W E h) tNil)))) : PS X st (tS X.K W E (gExt j h)) := ps_imp hp fun D σ H ⟨B, G0, G, ρ, s, S, q⟩ => by
  unfold gExt at q
  split at q
  · rename_i bs rj
    obtain ⟨u, f1, p2, us, f2, f3, f4, f5, f6⟩ := S.st.sl j _ rj
    subst f2
    refine ⟨_, f1, .inl ⟨rfl, us, SqL.of f3⟩, ?_⟩
    refine ⟨G, ρ, s, S.st, ?_⟩
    unfold NPost
    cases r : h ρ s with
    | no => rw [r] at q; exact q.elim
    | er c => rw [r] at q; exact fun G' H' x => q G' H' (S.xt.trans x)
    | ok z =>
      obtain ⟨ds, s'⟩ := z
      rw [r] at q
      intro b zs G' H' x w hb gb nb y
      have S' := S.go x w
      have hp2 := x.ext p2 _ f5 f3
      simp only at q
      split at q
      · rename_i hc
        refine ⟨p2, b, us, zs, rfl, rfl, hp2, hb, by have := line_two; have := f6.length; have := y.length; omega, ?_⟩
        exact q _ G' _ (S'.chg rj f1 hp2 (x.new p2 f4 (by rw [f3]; simp)) f5 ((f6.mono x.sub).append y))
      · exact q.elim
  · exact q.elim
/-! ### repr -/
def rRepr (K : PySem.W.Frag) : List V → Hp → VK → Prop := fun xs H Q => ∃ (p : Addr) (d : PyData), xs = [.ref p] ∧ Dp K H (.ref p) d ∧ d.showable = true ∧ d.hasDict = false ∧ d.depth ≤ 60 ∧ d.shown.length ≤ sizeLine ∧ Q (.str d.shown) H
theorem call_repr {X : Cx} (hg : X.A.guards = some []) (hu : X.A.units + 64 < cLine) : CallR X (.builtin "repr") (rRepr X.K) := by
  intro pins s σ H xs us Q I r h
  obtain ⟨p, d, rfl, hd, h1, h2, h3, h4, q⟩ := h
  rw [Vals.ref1 r]
  obtain ⟨as, rd⟩ := Dp.reads I d (.ref p) (.ref p) hd rfl
  exact repr_of_reads' rd h1 (fun z => by rw [h2] at z; cases z) hg (by omega) (fun b o e => e) (fun h' u tk hk => ⟨.str _, H, I.kept (t' := tk) fun b o e => hk b o e, ⟨_, rfl⟩, q⟩) h4
def reprOk (p : PyData) : Bool := p.showable && (!p.hasDict && (decide (p.depth ≤ 60) && decide (p.shown.length ≤ 16000000)))
def reprF : List Da → Option Da
  | [.tup ds] => (pyL ds).bind fun ps => if reprOk (.tuple ps) = true then some (.str (PyData.tuple ps).shown) else none
  | [.lst ds] => (pyL ds).bind fun ps => if reprOk (.list ps) = true then some (.str (PyData.list ps).shown) else none
  | _ => none
theorem reprOk_of {p : PyData} (h : reprOk p = true) : p.showable = true ∧ p.hasDict = false ∧ p.depth ≤ 60 ∧ p.shown.length ≤ sizeLine := by
  unfold reprOk at h
  simp only [Bool.and_eq_true, Bool.not_eq_true', decide_eq_true_eq] at h
  exact ⟨h.1, h.2.1, h.2.2.1, Nat.le_of_lt (line_big _ h.2.2.2)⟩
theorem cal_repr (K : PySem.W.Frag) : CalD K (rRepr K) reprF := by
  intro mu G H vs ds z Q s r h q
  unfold reprF at h
  split at h
  · rename_i ds
    cases e : pyL ds with
    | none => rw [e] at h; cases h
    | some ps =>
      rw [e] at h
      simp only [Option.bind_some] at h
      split at h
      · rename_i hc
        cases h
        obtain ⟨v, rfl, a⟩ := r.one
        obtain ⟨p, vs, rfl, h1, r1⟩ := a.tup s
        have hd : (Da.tup ds).py = some (.tuple ps) := by unfold Da.py; rw [e]; rfl
        have a2 := a.dp s hd
        obtain ⟨c1, c2, c3, c4⟩ := reprOk_of hc
        exact ⟨p, _, rfl, a2, c1, c2, c3, c4, q _ G H (.refl s) (.str _)⟩
      · cases h
  · rename_i ds
    cases e : pyL ds with
    | none => rw [e] at h; cases h
    | some ps =>
      rw [e] at h
      simp only [Option.bind_some] at h
      split at h
      · rename_i hc
        cases h
        obtain ⟨v, rfl, a⟩ := r.one
        obtain ⟨p, vs, rfl, h1, r1⟩ := a.lst s
        have hd : (Da.lst ds).py = some (.list ps) := by unfold Da.py; rw [e]; rfl
        have a2 := a.dp s hd
        obtain ⟨c1, c2, c3, c4⟩ := reprOk_of hc
        exact ⟨p, _, rfl, a2, c1, c2, c3, c4, q _ G H (.refl s) (.str _)⟩
      · cases h
  · cases h
end
end Sw

set_option Elab.async false
set_option linter.all false
set_option maxRecDepth 100000
set_option maxHeartbeats 2000000
/-! SwA4: a law called where nothing is being shown (for repr). -/
namespace Sw
open PySem PySem.Spec PyProof.Rows L2 LamX
/-- a def called within A -/
def RunAt (P : Program) (w : World) (K : PySem.W.Frag) (mg : Str → Option Value) (base : Heap) (CX : CXT) (A : Around) (f : Addr) (fd : FuncData) (ps : List Str) (sp : Sp) : Prop :=
  ∀ (outer : List Env) (s : Shared) (H : Hp) (args : Args) (us : List Value) (vs : List V) (Q : VK) (E : XK), Env0 P w K mg base A outer s H → BindsTo s fd args (ps.zip us) → Vals vs us → sp vs H Q E → codeAny (model P w) A (.call (.ref f) args) (CR CX outer P w H s Q E) s
/-- what stands of the script, the tables -/
def heapL (K : PySem.W.Frag) (T : List Addr) (a : Addr) (o : Obj) (xs : List V) : Hp := fun b => if b = a then (match K.lookup a with
  | some _ => none
  | none => some (.frz o (.lst xs))) else if b ∈ T then some (.tbl #[]) else none
section
variable {P : Program} {w : World} {K : PySem.W.Frag} {mg mb : Str → Option Value} {CX : CXT} {fa a : Addr} {cs : List (Addr × Addr)} {fd : FuncData} {x : Str} {sp : Sp} {s₁ : Shared} {vs : List Value} {ns : List Int}
theorem law_runs (KX : K.In s₁.heap) (hns : s₁.heap.Ns mainGlobals mg) (hb : s₁.heap.Ns builtinsNs mb) (hbb : ∀ x : Str, x ≠ "__name__" → mb x = bootBuiltins x) (hlim : s₁.heap.NoLimit) (hg : s₁.gens = #[])
    (hT : ∀ p ∈ cs, s₁.heap.get? p.2 = some { cls := .none, data := .fields #[] }) (nT : ∀ p ∈ cs, K.lookup p.2 = none) (C : ∀ p ∈ cs, PySem.W.CodeHd s₁.heap p.1 p.2)
    (hbm : ∃ (bm : Addr) (ob : Obj), mg "__builtins__" = some (.ref bm) ∧ bm ≠ builtinsNs ∧ s₁.heap.get? bm = some ob ∧ ob.cls = .type "module" ∧ ob.dict = some builtinsNs ∧ ob.data = .plain)
    (ha : s₁.heap.get? a = some { cls := .type "list", data := .seq vs.toArray }) (hi : IntsAre vs ns) (hl : ns.length ≤ sizeLine)
    (F : ∀ base : Heap, K.In base → base.Ns mainGlobals mg → (∀ p ∈ cs, TabB base mg p.1 p.2) → RunAt P w K mg base CX callerA fa fd [x] sp) (hbind : ∀ (s : Shared) (u : Value), BindsTo s fd ⟨[u], []⟩ [(x, u)])
    (hsp : ∀ H : Hp, (∀ p ∈ cs, H p.2 = some (.tbl #[])) → SqX K H a (ns.map V.int) → sp [.ref a] H (fun v _ => v = .bl true) fun _ _ _ => False) (hCX : ∀ H e s', CX [] H s₁ (fun _ _ _ => False) e s' → False) :
    codeAny (model P w) callerA (.call (.ref fa) ⟨[.ref a], []⟩) (fun r s' => r = .ok (.ret (.bool true)) ∧ OldK s₁.heap s'.heap ∧ s'.os = s₁.os ∧ AllBare s'.gens) s₁ := by
  have rv := vals_ints hi
  have vz : vs.toArray.size ≤ sizeLine := by rw [List.size_toArray, hi.length]; exact hl
  let T := cs.map (·.2)
  have tab : ∀ b ∈ T, s₁.heap.get? b = some { cls := .none, data := .fields #[] } := fun b hb => by
    obtain ⟨p, hp, rfl⟩ := List.mem_map.mp hb
    exact hT p hp
  have mem : ∀ p ∈ cs, p.2 ∈ T := fun p hp => List.mem_map.mpr ⟨p, hp, rfl⟩
  have off : a ∉ T := fun z => by have q := tab a z; rw [ha] at q; cases q
  have ne : ∀ b ∈ T, b ≠ a := fun b hb z => off (z ▸ hb)
  let H : Hp := heapL K T a { cls := .type "list", data := .seq vs.toArray } (ns.map V.int)
  have HT : ∀ b ∈ T, H b = some (.tbl #[]) := fun b hb => by
    show (if b = a then _ else if b ∈ T then _ else _) = _
    rw [if_neg (ne b hb), if_pos hb]
  have HA : H a = match K.lookup a with
    | some _ => none
    | none => some (.frz { cls := .type "list", data := .seq vs.toArray } (.lst (ns.map V.int))) := if_pos rfl
  have HO : ∀ b, b ≠ a → b ∉ T → H b = none := fun b h1 h2 => by
    show (if b = a then _ else if b ∈ T then _ else _) = _
    rw [if_neg h1, if_neg h2]
  -- an object that is neither the script nor a table is not tracked
  have free : ∀ {b : Addr} {o : Obj}, s₁.heap.get? b = some o → (∀ us n, o.data ≠ .seq us n) → o.data ≠ .fields #[] → H b = none := fun {b o} e h1 h2 => by
    refine HO b (fun z => ?_) fun z => ?_
    · rw [z, ha] at e; cases e; exact h1 _ _ rfl
    · rw [tab b z] at e; cases e; exact h2 rfl
  have low : ∀ {b : Addr} {o : Obj}, s₁.heap.get? b = some o → H b = none → (hidT s₁.heap H).get? b = some o := fun e n => hidT_get e n
  have dic : ∀ {b : Addr} {o : Obj} {es : Array DictEntry} {ep : Nat}, s₁.heap.get? b = some o → o.data = .dict es ep → H b = none := fun {b o es ep} e d => free e (fun us n z => by rw [d] at z; cases z) fun z => by rw [d] at z; cases z
  have names : ∀ {b : Addr} {m : Str → Option Value}, s₁.heap.Ns b m → (hidT s₁.heap H).Ns b m := fun {b m} ⟨o, es, ep, e, d, r⟩ => ⟨o, es, ep, low e (dic e d), d, r⟩
  have kin : K.In (hidT s₁.heap H) := fun b o e => low (KX b o e) (by
    by_cases h1 : b = a
    · rw [h1] at e ⊢
      rw [HA, e]
    · refine HO b h1 fun z => ?_
      obtain ⟨p, hp, rfl⟩ := List.mem_map.mp z
      rw [nT p hp] at e; cases e)
  have md : L2.Mod K mg (hidT s₁.heap H) := ⟨kin, names hns, ⟨mb, names hb, hbb⟩, let ⟨mc, h1, h2⟩ := hlim; ⟨mc, names h1, h2⟩⟩
  obtain ⟨gO, gE, gP, gG, gD, _⟩ := id hns
  have TB : ∀ p ∈ cs, TabB (hidT s₁.heap H) mg p.1 p.2 := fun p hp => by
    have tp := hT p hp
    obtain ⟨o, us, file, tf, flags, tg, inF, text, tt, e1, r1, r2, r3, r⟩ := C p hp
    obtain ⟨bm, ob, b1, b2, b3, b4, b5, b6⟩ := hbm
    refine ⟨⟨o, us, file, tf, flags, tg, inF, text, tt, low e1 (free e1 (fun _ n z => by rw [r2] at z; cases z) fun z => by rw [r2] at z; cases z; simp at r3), r1, r2, r3, r⟩, ⟨bm, ob, b1, b2, fun q => ?_, fun q => ?_, low b3 (free b3 (fun _ n z => by rw [b6] at z; cases z) fun z => by rw [b6] at z; cases z), b4, b5, b6⟩, fun z => ?_⟩
    · rw [q, gG] at b3; cases b3; rw [gD] at b6; cases b6
    · rw [q, tp] at b3; cases b3; cases b6
    · rw [z, tp] at gG; cases gG; cases gD
  have okH : HOk P w H s₁.heap := fun b u z => by
    by_cases h1 : b = a
    · subst h1
      rw [HA] at z
      cases lk : K.lookup b with
      | some o => rw [lk] at z; cases z
      | none =>
        rw [lk] at z
        cases z
        exact ⟨ha, by rw [List.length_map]; exact hl, vs, _, rv, ha⟩
    · by_cases h2 : b ∈ T
      · rw [HT b h2] at z; cases z; exact tab b h2
      · rw [HO b h1 h2] at z; cases z
  have script : SqX K H a (ns.map V.int) := by
    cases lk : K.lookup a with
    | none => exact .inl (.inr ⟨{ cls := .type "list", data := .seq vs.toArray }, by rw [HA, lk]⟩)
    | some o =>
      have e := KX a o lk
      rw [ha] at e
      cases e
      exact .inr ⟨vs.toArray, _, lk, vz, by simpa using rv⟩
  have e0 : Env0 P w K mg (hidT s₁.heap H) callerA [] s₁ H := ⟨rfl, md, fun b o e => of_hidT e, Nat.le_of_eq (hidT_size _ _), trivial, fun b hb => absurd (show b ∈ ([] : List Addr) from hb) (by simp), okH, .of_eq hg⟩
  refine codeAny_mono (F _ kin (names hns) TB [] s₁ H ⟨[.ref a], []⟩ [.ref a] [.ref a] _ _ e0 (hbind s₁ (.ref a)) (.cons rfl .nil) (hsp H (fun p hp => HT p.2 (mem p hp)) script)) fun r s' h => ?_
  cases r with
  | error e => exact (hCX H e s' h).elim
  | ok fl =>
    cases fl with
    | next => exact False.elim h
    | brk => exact False.elim h
    | cont => exact False.elim h
    | ret u =>
      obtain ⟨v, H', os, bare, un, ok', r', q⟩ := h
      obtain rfl : v = .bl true := q
      obtain rfl : u = Value.bool true := r'
      have stay : ∀ b o, b ∉ T → s₁.heap.get? b = some o → s'.heap.get? b = some o := fun b o nb e => by
        cases q : H b with
        | none => exact un.keep b o e q (fun z => absurd (show b ∈ ([] : List Addr) from z) (by simp)) (by simp)
        | some u =>
          by_cases h1 : b = a
          · subst h1
            rw [HA] at q
            cases lk : K.lookup b with
            | some o => rw [lk] at q; cases q
            | none =>
              rw [lk] at q
              have z2 := un.frzs b _ _ (show H b = some (.frz { cls := .type "list", data := .seq vs.toArray } (.lst (ns.map V.int))) by rw [HA, lk])
              obtain ⟨e2, _⟩ := ok' b _ z2
              rw [ha] at e; cases e
              exact e2
          · rw [HO b h1 nb] at q; cases q
      have grown : ∀ b ∈ T, ∃ more : Array Value, s'.heap.get? b = some { cls := .none, data := .fields more } := fun b hb => by
        obtain ⟨more, z⟩ := un.tbls b #[] (HT b hb)
        exact ⟨_, ok' b _ z⟩
      refine ⟨rfl, ⟨fun b o e => ?_, fun b o e => ?_⟩, os, bare⟩
      · by_cases hb : b ∈ T
        · obtain ⟨p, hp, rfl⟩ := List.mem_map.mp hb
          obtain ⟨more, hm⟩ := grown p.2 hb
          rw [hT p hp] at e
          cases e
          exact .inr (.inl ⟨((C p hp).tab (hT p hp)).isCodeTable, rfl, #[], more, rfl, by rw [Array.empty_append]; exact hm⟩)
        · exact .inl (stay b o hb e)
      · by_cases hb : b ∈ T
        · obtain ⟨more, hm⟩ := grown b hb
          exact ⟨_, hm⟩
        · exact ⟨o, stay b o hb e⟩
end
/-- what is known of the law's promise at the head's heap -/
def LawG (l : PySem.W.OpenLaw) (w : World) (K : PySem.W.Frag) (CX : CXT) (n : Nat) (x : Str) (mg : Str → Option Value) (fa : Addr) (h : Heap) : Prop :=
  ∃ (fd : FuncData) (cs : List (Addr × Addr)) (sp : Sp), (∀ p ∈ cs, h.get? p.2 = some { cls := .none, data := .fields #[] }) ∧ (∀ p ∈ cs, K.lookup p.2 = none) ∧ (∀ p ∈ cs, PySem.W.CodeHd h p.1 p.2) ∧ (∀ (s : Shared) (u : Value), BindsTo s fd ⟨[u], []⟩ [(x, u)]) ∧
    (∀ (H : Hp) (a : Addr) (ns : List Int), ns.length ≤ n → (∀ z ∈ ns, Builtin.Int.intBits z ≤ 1048576) → (∀ p ∈ cs, H p.2 = some (.tbl #[])) → SqX K H a (ns.map V.int) → sp [.ref a] H (fun v _ => v = .bl true) fun _ _ _ => False) ∧
    ∀ base : Heap, K.In base → base.Ns mainGlobals mg → (∀ p ∈ cs, TabB base mg p.1 p.2) → RunAt l.prog w K mg base CX callerA fa fd [x] sp
theorem walkG {l : PySem.W.OpenLaw} {n : Nat} {q : Program} {loose : List Str} {XP : (Str → Option Value) → Heap → Prop} {YP : World → Heap → Prop} {d : DefRec} {CX : World → CXT} {x : Str} (hn : l.most = some n) (hn2 : n ≤ sizeLine) (hdf : d.params.defaults = [])
    (F : ∀ (w : World) (mg : Str → Option Value) (fa : Addr) (h : Heap), YP w h → h.Ns mainGlobals mg → mg d.name = some (.ref fa) → ∃ K : PySem.W.Frag, K.In h ∧ LawG l w K (CX w) n x mg fa h) (hCX : ∀ (w : World) (H : Hp) (s : Shared) (e : Value) (s' : Shared), CX w [] H s (fun _ _ _ => False) e s' → False) :
    PySem.W.WalkO q loose XP YP l.row.toRowW d [] (fun f vs => PySem.call f vs) := by
  refine Att.attach_callB hn hdf fun w s₀ s₁ mg mb fa o pm cd doc a vs ns G Y ho hd hcd hmg hobj hints hlen hbits hg => ?_
  obtain ⟨K, KX, fd, cs, sp, hT, nT, C, hb, hsp, hF⟩ := F w mg fa _ Y G.T.g hmg
  exact law_runs KX G.T.g G.T.b G.T.builtins G.T.nolimit hg hT nT C G.T.bmain hobj hints (Nat.le_trans hlen hn2) hF hb (fun H hH hS => hsp H a ns hlen hbits hH hS) fun H e s' => hCX w H s₁ e s'
end Sw

set_option Elab.async false
set_option linter.all false
set_option maxRecDepth 100000
set_option maxHeartbeats 2000000
/-! SwA5: list + list, list(range(n)). -/
namespace Sw
open PySem PySem.Spec PyProof.Rows L2
section
variable {X : Cx}
theorem Inv.listX {pins : List (Addr × Obj)} {σ : L2.St} {H : Hp} {s : Shared} {a : Addr} {xs : List V} (I : Inv X pins σ H s) (h : SqX X.K H a xs) : ∃ (its : List Value) (n : Nat), Vals xs its ∧ s.heap.get? a = some { cls := .type "list", data := .seq its.toArray n } ∧ xs.length ≤ sizeLine := by
  rcases h with h | ⟨its, n, hk, hz, r⟩
  · obtain ⟨z, its, n, r, e⟩ := h.ok I.hok
    exact ⟨its, n, r, e, z⟩
  · refine ⟨its.toList, n, r, by simpa using I.kIn a _ hk, ?_⟩
    rw [r.length, Array.length_toList]; exact hz
def rCatX (K : PySem.W.Frag) : R2 := fun x y H Q => ∃ l b xs zs, x = .ref l ∧ y = .ref b ∧ SqX K H l xs ∧ SqX K H b zs ∧ xs.length + zs.length ≤ 1000000 ∧ ∀ p, H p = none → Q (.ref p) (upd H p (.lst (xs ++ zs)))
theorem op_catX : OpR X (binaryOp .Add) (rCatX X.K) := by
  intro pins s σ H x y v u Q I rx ry h
  obtain ⟨l, b, xs, zs, rfl, rfl, hH, hB, hz, q⟩ := h
  cases rx
  cases ry
  obtain ⟨its, n, r, e, z⟩ := Inv.listX I hH
  obtain ⟨its2, n2, r2, e2, z2⟩ := Inv.listX I hB
  have hl := r.length
  have hl2 := r2.length
  have big := line_million
  refine PySem.P.add_list e e2 ?_ (by rw [List.size_toArray, List.size_toArray]; omega)
  have ea : its.toArray ++ its2.toArray = (its ++ its2).toArray := by simp
  rw [ea]
  exact ⟨.ref _, _, I.lnew (t' := s.toks) (r.append r2) (by rw [List.length_append]; omega), rfl, q _ I.fresh⟩
end
section
variable {X : Cx} {W : Wd} {E : WX} {a b e : Expr} {f g : Ev → Fx W.S Da} {pos p p2 : Pos}
def catL : Da → Da → Option (List Da)
  | .lst a, .lst b => if a.length + b.length ≤ 1000000 then some (a ++ b) else none
  | _, _ => none
def fCat {S : Type} (f g : Ev → Fx S Da) : Ev → Fx S (List Da) := fun ρ => bnd (f ρ) fun x => bnd (g ρ) fun y => lift (catL x y)
/-- a new list at a free place -/
theorem new_list {G H : Hp} {σ : L2.St} {ρ : Ev} {s : W.S} {Q : VK} {zs : List Da} {us : List V} (S : Stt X.K W G H σ ρ s) (hq : ∀ p vs G' H', Xt W.mu G H G' H' → W.rel s G' H' → H' p = some (.lst vs) → G' p = none → H p = none → ReL X.K G' vs zs → Q (.ref p) H') (r : ReL X.K G us zs) (q : Addr) (hp : H q = none) : Q (.ref q) (upd H q (.lst us)) := by
  have xp := Xp.new0 (o := .lst us) S.in_ hp
  exact hq q us G _ xp.xt (S.keep xp) upd_same (S.in_.free hp) hp r
theorem dn_cat (ha : DO X W E a f) (hb : DO X W E b g) : DN X W E (.BinOp a .Add b pos) (fCat f g) := by
  obtain ⟨ta, pa, qa⟩ := ha.ex
  obtain ⟨tb, pb, qb⟩ := hb.ex
  refine ⟨_, pe_op op_catX pa pb, fun G H σ ρ s Q S h0 => ?_⟩
  refine o_bind (ta := ta) (kN X W E) qa S h0 fun d s1 x G1 H1 x1 r1 S1 h1 => ?_
  refine o_bind (ta := tb) (kN X W E) qb S1 h1 fun d2 s2 y G2 H2 x2 r2 S2 h2 => ?_
  obtain ⟨zs, hz, hq⟩ := liftN_post h2
  unfold catL at hz
  split at hz
  · split at hz
    · rename_i hl
      cases hz
      obtain ⟨l, xs, rfl, h1, rx⟩ := (r1.xt x2).lstx S2.in_
      obtain ⟨b, ys, rfl, h2, ry⟩ := r2.lstx S2.in_
      refine ⟨l, b, xs, ys, rfl, rfl, h1, h2, by rw [rx.length, ry.length]; exact hl, fun p hp => new_list S2 hq (rx.append ry) p hp⟩
    · cases hz
  · cases hz
/-- list(range(a)) -/
def rngL : Da → Option (List Da)
  | .int n => if 0 ≤ n ∧ n ≤ 1000000 then some (rngD 0 n.toNat) else none
  | _ => none
def fUnN {S : Type} (F : Da → Option (List Da)) (f : Ev → Fx S Da) : Ev → Fx S (List Da) := fun ρ => bnd (f ρ) fun x => lift (F x)
theorem rgV_re {K : PySem.W.Frag} {G : Hp} (n : Nat) : ReL K G (rgV 0 (n : Nat)) (rngD 0 n) := by
  unfold rgV rngD
  have e : (((n : Nat) : Int) - 0).toNat = n := by omega
  rw [e]
  generalize List.range n = l
  induction l with
  | nil => exact .nil
  | cons k l ih => exact .cons (.int _) ih
theorem dn_listRng (hc : X.calm = true) (hg : Gl X "list") (hm : X.mg "list" = none) (hg2 : Gl X "range") (hm2 : X.mg "range" = none) (ha : DE X W E a f) (na : starEach [a] X.env = (false, eval a X.env) :: starEach [] X.env := by rfl)
    (nb : starEach [.Call (.Name "range" p2) [a] [] p] X.env = (false, eval (.Call (.Name "range" p2) [a] [] p) X.env) :: starEach [] X.env := by rfl) {p3 pos2 : Pos} : DN X W E (.Call (.Name "list" p3) [.Call (.Name "range" p2) [a] [] p] [] pos2) (fUnN rngL f) := by
  obtain ⟨ta, pa, qa⟩ := ha.ex
  refine ⟨_, pe_listRg hc hg hm (prg_1 hg2 hm2 pa na) nb, fun G H σ ρ s Q S h0 => ?_⟩
  refine e_bind (ta := ta) (kN X W E) qa S h0 fun d s1 x G1 H1 x1 r1 S1 h1 => ?_
  obtain ⟨zs, hz, hq⟩ := liftN_post h1
  unfold rngL at hz
  split at hz
  · rename_i n
    split at hz
    · rename_i hn
      cases hz
      cases r1
      refine ⟨n, rfl, RgOk.of_le (by omega) (by omega) (by omega) hn.1, fun q hq0 => new_list S1 hq ?_ q hq0⟩
      have e : n = ((n.toNat : Nat) : Int) := by omega
      have z := rgV_re (K := X.K) (G := G1) n.toNat
      rw [← e] at z
      exact z
    · cases hz
  · cases hz
end
section
variable {X : Cx} {W : Wd} {E : WX} {st : Stmt} {h : Ev → Fx W.S (List Da)} {pos : Pos}
/-- x = [..], never changed -/
def gSetD {S : Type} (i : Nat) (h : Ev → Fx S (List Da)) : Sx S := fun ρ s => match h ρ s with
  | .ok (ds, s') => .nx (ρ.set i (.dat (.lst ds))) s'
  | .er c => .er c
  | .no => .no
theorem ds_setD {i : Nat} (hp : PS X st (tS X.K W E (gSetO i h))) : PS X st (tS X.K W E (gSetD i h)) := ps_imp hp fun D σ H ⟨B, G0, G, ρ, s, S, q⟩ => by
  refine ⟨B, G0, G, ρ, s, S, ?_⟩
  unfold gSetD at q
  unfold gSetO
  cases r : h ρ s with
  | no => rw [r] at q; exact q.elim
  | er c => rw [r] at q; exact q
  | ok z =>
    obtain ⟨ds, s'⟩ := z
    rw [r] at q
    intro σ' G' H' S'
    by_cases hi : i < ρ.length
    · obtain ⟨G2, S2, _⟩ := S'.frz (i := i) (ds := ds) (List.getElem?_set_self hi)
      rw [List.set_set] at S2
      exact q σ' G2 H' S2
    · have e : ∀ x, ρ.set i x = ρ := fun x => List.set_eq_of_length_le (by omega)
      have q' : ∀ σ G H, Sb X.K W B G0 G H σ (ρ.set i (.dat (.lst ds))) s' → D.nx σ H := q
      rw [e] at S' q'
      exact q' σ' G' H' S'
theorem ds_whileI {c : Expr} {body : List Stmt} {t : Ev → Fx W.S Bool} {g : Sx W.S} (hp : PassesOwn (model X.prog X.w) X.A X.env X.xe) (hc : DT X W E c t) (hb : PSs X body (tS X.K W E g)) : PS X (.While c body [] pos) (tS X.K W E (gWhile (fun _ => 1000000) t g)) := ds_while _ (ps_while hp hc.pt hb)
end
theorem Room_u1 {k : Nat} {A : Around} (r : Room k A) : A.units + 1 < cLine := by
  have := r.units
  omega
/-- no class of exceptions is asked for -/
theorem noExc {K : PySem.W.Frag} : ∀ c ∈ ([] : List Str), ExcC K (He.ga K c) := fun _ h => absurd h (by simp)
/-- what a def comes to, by its body -/
theorem runP_ok {g : Sx Unit} {n m : Nat} : ∀ ds, (if ds.length = m then runD g n ds else .no) ≠ .no → ds.length = m ∧ runD g n ds = (if ds.length = m then runD g n ds else .no) := fun ds h => by
  by_cases e : ds.length = m
  · rw [if_pos e]; exact ⟨e, rfl⟩
  · rw [if_neg e] at h; exact absurd rfl h
theorem runF_ok {g : Addr → Sx Dr} {n m : Nat} : ∀ (sa : Addr) (ds : List Da) (s : Dr), (if ds.length = m then runI (g sa) sa n ds s else .no) ≠ .no → ds.length + 1 = m + 1 ∧ runI (g sa) sa n ds s = if ds.length = m then runI (g sa) sa n ds s else .no := by
  intro sa ds s h
  by_cases c : ds.length = m
  · rw [if_pos c] at h ⊢
    exact ⟨by omega, rfl⟩
  · rw [if_neg c] at h
    exact absurd rfl h
end Sw

set_option Elab.async false
set_option linter.all false
set_option maxRecDepth 100000
set_option maxHeartbeats 4000000
/-! SwA6: defs that hold lambdas; the beginning of the state; tuples, unpacking. -/
namespace Sw
open PySem PySem.Spec PyProof.Rows L2 LamX
/-- a displayed tuple -/
def fTup {S : Type} (h : Ev → Fx S (List Da)) : Ev → Fx S Da := fun ρ => bnd (h ρ) fun ds => ret (.tup ds)
/-- a, b = e -/
def gUnp {S : Type} (f : Ev → Fx S Da) (h : Ev → Da → Option Ev) : Sx S := fun ρ s => match f ρ s with
  | .ok (d, s') => (match h ρ d with
    | some ρ' => .nx ρ' s'
    | none => .no)
  | .er c => .er c
  | .no => .no
theorem ds_unp {X : Cx} {W : Wd} {E : WX} {st : Stmt} {f : Ev → Fx W.S Da} {h : Ev → Da → Option Ev} {js : List Nat} (hp : PS X st (tAsg (tE X.K W E f) (tG X.K W js h))) : PS X st (tS X.K W E (gUnp f h)) := ps_imp hp fun D σ H ⟨B, G0, G, ρ, s, S, q⟩ => by
  refine ⟨G, ρ, s, S.st, ?_⟩
  unfold gUnp at q
  unfold EPost
  cases r : f ρ s with
  | no => rw [r] at q; exact q.elim
  | er c => rw [r] at q; exact fun G' H' x => q G' H' (S.xt.trans x)
  | ok z =>
    obtain ⟨d, s'⟩ := z
    rw [r] at q
    intro v G' H' x w y
    have S' := S.go x w
    simp only at q
    cases e : h ρ d with
    | none => rw [e] at q; exact q.elim
    | some ρ' =>
      rw [e] at q
      exact ⟨G', ρ, s', d, ρ', S'.st, y, e, fun σ' T a => q σ' G' H' (S'.tgt T a)⟩
theorem ds_unpI {X : Cx} {W : Wd} {E : WX} {tg e : Expr} {pos : Pos} {f : Ev → Fx W.S Da} {h : Ev → Da → Option Ev} {js : List Nat} (he : DE X W E e f) (hg : PG X tg (tG X.K W js h)) (hs : swapsWithSole [tg] e pos.line X.env = pure false := by rfl) (hw : swappedStores [tg] e X.env = pure none := by rfl)
    (h1 : (assignEach [tg] X.env).map (·.2) = [assign tg X.env] := by rfl) : PS X (.Assign [tg] e pos) (tS X.K W E (gUnp f h)) := ds_unp (ps_asg he.pe hg hs hw h1)
theorem ds_stoI {X : Cx} {W : Wd} {E : WX} {o i e : Expr} {pos p2 : Pos} {j : Nat} {f g : Ev → Fx W.S Da} (hi : DE X W E i f) (he : DE X W E e g) (ho : PE X o (tVar j))
    (ha : ∀ v, assign (.Subscript o i p2) X.env v = (do
      let ov ← holding [v] (eval o X.env)
      let iv ← holding [v, ov] (eval i X.env)
      standAt p2
      holding [v, ov, iv] (setItem ov iv v)
      release [v, ov, iv] []) := by intro _; rfl)
    (hs : swapsWithSole [.Subscript o i p2] e pos.line X.env = pure false := by rfl) (hw : swappedStores [.Subscript o i p2] e X.env = pure none := by rfl) (h1 : (assignEach [.Subscript o i p2] X.env).map (·.2) = [assign (.Subscript o i p2) X.env] := by rfl) :
    PS X (.Assign [.Subscript o i p2] e pos) (tS X.K W E (gSto j f g)) := ds_sto (ps_asg he.pe (pg_sub ho hi.pe set_list ha) hs hw h1)
theorem takesL {X : Cx} {A : Around} {outer : List Env} {s : Shared} {H : Hp} {E : XK} {scope : Scope} {f c' : Addr} : Takes (lamCx X A outer s H E scope f c') (fun cls d _ H => E cls d H) := takes_of rfl rfl rfl rfl
theorem passL {P : Program} {w : World} {X : Cx} {A : Around} {outer : List Env} {s : Shared} {H : Hp} {E : XK} {scope : Scope} {f c' : Addr} (h1 : X.prog = P) (h2 : X.w = w) : Passes (L2.CX P w) (lamCx X A outer s H E scope f c') E := by
  subst h1 h2
  exact passes_call takesL fun _ _ _ _ h => h
theorem pss_ex {X : Cx} {ι : Type} {ss : List Stmt} {t : ι → TS} (h : ∀ i, PSs X ss (t i)) : PSs X ss (fun D σ H => ∃ i, t i D σ H) := ⟨fun pins s σ H D I ⟨i, hw⟩ => (h i).run pins s σ H D I hw⟩
def unT : Option HO → Option HO
  | some (.tbl _) => none
  | o => o
theorem unT_some {x : Option HO} {o : HO} (h : unT x = some o) : x = some o := by
  cases x with
  | none => cases h
  | some u => cases u <;> first | exact h | cases h
/-- a def without lambdas or with, called within a known A -/
theorem FunD.runC {P : Program} {w : World} {K : PySem.W.Frag} {mg : Str → Option Value} {base : Heap} {x : Str} {st : Stmt} {fd : FuncData} {CX : CXT} {N ps : List Str} {k : Nat} {sp : Sp} {A : Around} (F : FunD K x x (defArgs st) (defBody st) (defScope st) [] [] (He.fAd K (x, none)) fd) (S : FnScope N ps (defScope st)) (len : ∀ vs H Q E, sp vs H Q E → vs.length = ps.length) (hr : Room (k + 1) A)
    (hbody : ∀ (outer : List Env) (s : Shared) (H : Hp) (vs : List V) (Q : VK) (E : XK), Room k (A.deeper (envOfC x (defScope st) s.heap.objs.size (He.fAd K (x, none)) (.ref (He.cT K (x, none)).1))) → sp vs H Q E →
      ∃ t, PSs (cxOf CX P w K mg base N x (defScope st) (He.fAd K (x, none)) (.ref (He.cT K (x, none)).1) A outer s H E) (defBody st) t ∧ t { nx := fun _ H' => Q .non H', rt := Q } (L2.start N vs) H) : RunAt P w K mg base CX A (He.fAd K (x, none)) fd ps sp := by
  obtain ⟨oc, od, dV, kV, doc, pm, an, cdv, ct, osl, rfl, lk, hcd, _, _⟩ := F.ex
  obtain ⟨c, rfl⟩ := He.codeIn_ref hcd
  have e : (He.cT K (x, none)).1 = c := He.codeOf_eq lk rfl
  intro outer s H args us vs Q E e0 hb r hsp
  refine run_ofS (N := N) (ps := ps) lk hcd S hr e0 hb r (len _ _ _ _ hsp) fun hr' => ?_
  have h := hbody outer s H vs Q E
  rw [e] at h
  exact h hr' hsp
/-- the rule for a def whose code object is asked for -/
theorem FunD.okC {P : Program} {w : World} {K : PySem.W.Frag} {mg : Str → Option Value} {base : Heap} {x : Str} {st : Stmt} {fd : FuncData} {CX : CXT} {N ps : List Str} {k : Nat} {sp : Sp} (F : FunD K x x (defArgs st) (defBody st) (defScope st) [] [] (He.fAd K (x, none)) fd) (S : FnScope N ps (defScope st)) (len : ∀ vs H Q E, sp vs H Q E → vs.length = ps.length)
    (hbody : ∀ (A : Around) (outer : List Env) (s : Shared) (H : Hp) (vs : List V) (Q : VK) (E : XK), Room k (A.deeper (envOfC x (defScope st) s.heap.objs.size (He.fAd K (x, none)) (.ref (He.cT K (x, none)).1))) → sp vs H Q E →
      ∃ t, PSs (cxOf CX P w K mg base N x (defScope st) (He.fAd K (x, none)) (.ref (He.cT K (x, none)).1) A outer s H E) (defBody st) t ∧ t { nx := fun _ H' => Q .non H', rt := Q } (L2.start N vs) H) : FnOk P w K mg base CX (k + 1) (He.fAd K (x, none)) fd ps sp := by
  obtain ⟨oc, od, dV, kV, doc, pm, an, cdv, ct, osl, rfl, lk, hcd, _, _⟩ := F.ex
  obtain ⟨c, rfl⟩ := He.codeIn_ref hcd
  have e : (He.cT K (x, none)).1 = c := He.codeOf_eq lk rfl
  refine fn_of lk hcd S len fun A outer s H vs Q E hr hsp => ?_
  have h := hbody A outer s H vs Q E
  rw [e] at h
  exact h hr hsp

/-! ### the def that keeps what is raised -/
theorem lamD_of {X : Cx} {T : List (Addr × Str)} {x : Str} {P CS : Addr} {st : Stmt} {g c : Addr} {fd : FuncData} (Fd : FunD X.K x x (defArgs st) (defBody st) (defScope st) [] [] g fd) (hm : X.mg x = some (.ref g)) (Sg : FnScope ["work", "caught", "error"] ["work"] (defScope st)) (hva : Vis (defScope st) "work")
    (hb : ∀ (kV doc pm : Value) (an : Option Addr) (cdv ct : Value) (us : List Value), us.length = 1 → bindArgs (PySem.W.fnOf x x (defArgs st) (defBody st) (defScope st) .none kV doc pm an cdv ct) ⟨us, []⟩ = pure ((["work"] : List Str).zip us))
    (hG : ∀ (q : Str) (cdv : Value), GivesTo X ["work", "caught", "error"] x (defScope st) g cdv (defBody st) "work" q (TKept X.K CS)) (TB : TabB X.base X.mg c P) (hcode : X.env.code = .ref c) (mem : (P, X.env.qual ++ "<lambda>") ∈ T) (uni : ∀ p ∈ T, p.1 = P → p.2 = X.env.qual ++ "<lambda>") : LamD X T x P CS := by
  refine ⟨?_, mem, uni⟩
  have kp := Fd.kp
  have bn := Fd.bindsN (ps := ["work"]) hb
  obtain ⟨oc, od, dV, kV, doc, pm, an, cdv, ct, osl, rfl, lk, hcd, _, _⟩ := Fd.ex
  exact ⟨g, c, _, _, _, dV, kV, doc, pm, cdv, ct, oc, an, od, osl, hm, kp, lk, hcd, bn, Sg, hva, fun q => hG q cdv, TB, hcode⟩

/-! ### a def without parameters that writes tables alone -/
def spL (K : PySem.W.Frag) (T : List (Addr × Str)) (F : Rp Da) : Sp := fun vs H Q E => ∃ G : Hp, vs = [] ∧ Same G H ∧ (∀ p ∈ T, G p.1 = none ∧ H p.1 ≠ none) ∧ Tabs T H ∧ match F with
  | .ok d => ∀ v G' H', Xt (T.map (·.1)) G H G' H' → Tabs T H' → Re K G' v d → Q v H'
  | .er c => ∀ G' H', Xt (T.map (·.1)) G H G' H' → E (.ref (He.ga K c)) none H'
  | .no => False
structure FnL (P : Program) (w : World) (K : PySem.W.Frag) (mg : Str → Option Value) (base : Heap) (T : List (Addr × Str)) (k : Nat) (x : Str) (F : Rp Da) : Prop where
  ex : ∃ f fd, FnOk P w K mg base (L2.CX P w) k f fd [] (spL K T F) ∧ mg x = some (.ref f) ∧ PySem.W.keepIn K (.ref f) = true ∧ Binds K fd [] []
/-- the tables change, all else stays: a world's relation stays -/
theorem HasT.after {W : Wd} {T : List (Addr × Str)} (hW : HasT W T) {s : W.S} {G H G' H' : Hp} (r : W.rel s G H) (mu : ∀ a ∈ W.mu, H a ≠ none) (x : Xt (T.map (·.1)) G H G' H') (t : Tabs T H') : Xt W.mu G H G' H' ∧ W.rel s G' H' := by
  have tb : ∀ a ∈ T.map (·.1), ∃ ps, H a = some (.tbl ps) := fun a ha => by
    obtain ⟨p, hp, rfl⟩ := List.mem_map.mp ha
    obtain ⟨ps, e, _⟩ := hW.tabs r p hp
    exact ⟨ps, e⟩
  have sub : ∀ a, a ∈ T.map (·.1) → a ∈ W.mu := fun a ha => by
    obtain ⟨p, hp, rfl⟩ := List.mem_map.mp ha
    exact hW.sub p hp
  refine ⟨⟨fun a o hm e => x.ext a o (fun z => hm (sub a z)) e, x.dom, x.sub, x.in_, x.new⟩, hW.keep r x.sub (fun a ha nt => ?_) (fun a o e nl nt => ?_) t⟩
  · cases q : H a with
    | none => exact absurd q (mu a ha)
    | some o =>
      exact x.ext a o (fun z => by
        obtain ⟨ps, e⟩ := tb a z
        exact nt ps e) q
  · exact x.ext a o (fun z => by
      obtain ⟨ps, e'⟩ := tb a z
      rw [e] at e'
      exact nt ps (Option.some.inj e')) e
section
variable {X : Cx} {W : Wd} {T : List (Addr × Str)} {pos p : Pos}
def fCallL {S : Type} (F : Rp Da) : Ev → Fx S Da := fun _ => liftR F
theorem de_callL {k j : Nat} {x : Str} {F : Rp Da} {Ek : XK} (hW : HasT W T) (Fn : FnL X.prog X.w X.K X.mg X.base T k x F) (hr : Room j X.A) (hk : k ≤ j) (hx : Passes (L2.CX X.prog X.w) X Ek) (hg : Gl X x)
    (hdb : (x == ("__debug__" : Str)) = false := by decide) : DE X W (wk X.K Ek) (.Call (.Name x p) [] [] pos) (fCallL F) := by
  obtain ⟨fa, fd, G0, hm, kp, b⟩ := Fn.ex
  refine ⟨_, pe_call0 G0 (hr.mono hk) hg hm kp b .nil hx hdb, fun G H σ ρ s Q S h0 => ?_⟩
  show spL X.K T F _ _ _ _
  refine ⟨G, rfl, S.in_, fun p hp => S.mu _ (hW.sub p hp), hW.tabs S.rel, ?_⟩
  unfold fCallL liftR at h0
  cases F with
  | ok d =>
    intro v G' H' x t y
    obtain ⟨x2, w2⟩ := hW.after S.rel (fun a ha => (S.mu a ha).2) x t
    exact h0 v G' H' x2 w2 y
  | er c =>
    intro G' H' x
    refine h0 G' H' ⟨fun a o hm e => x.ext a o (fun z => hm ?_) e, x.dom, x.sub, x.in_, x.new⟩
    obtain ⟨p, hp, rfl⟩ := List.mem_map.mp z
    exact hW.sub p hp
  | no => exact h0
end
def runL (g : Sx Unit) (n : Nat) : Rp Da := match g (List.replicate n .no) () with
  | .rt d _ => .ok d
  | .nx _ _ => .ok .non
  | .er c => .er c
  | _ => .no
theorem fnOkL_of {P : Program} {w : World} {K : PySem.W.Frag} {mg : Str → Option Value} {base : Heap} {T : List (Addr × Str)} {x : Str} {st : Stmt} {fd : FuncData} {N : List Str} {k : Nat} {g : Sx Unit} {F : Rp Da} (Fd : FunD K x x (defArgs st) (defBody st) (defScope st) [] [] (He.fAd K (x, none)) fd) (S : FnScope N [] (defScope st))
    (hbody : ∀ (A : Around) (outer : List Env) (s : Shared) (H : Hp) (E : XK), Room k (A.deeper (envOfC x (defScope st) s.heap.objs.size (He.fAd K (x, none)) (.ref (He.cT K (x, none)).1))) →
      PSs (cxOf (L2.CX P w) P w K mg base N x (defScope st) (He.fAd K (x, none)) (.ref (He.cT K (x, none)).1) A outer s H E) (defBody st) (tS K (WT T) (wk K E) g))
    (hF : F ≠ .no → runL g N.length = F) : FnOk P w K mg base (L2.CX P w) (k + 1) (He.fAd K (x, none)) fd [] (spL K T F) := by
  refine FunD.okC Fd S (fun vs H Q E h => ?_) fun A outer s H vs Q E hr h => ?_
  · obtain ⟨G, rfl, _⟩ := h
    rfl
  · obtain ⟨G, rfl, hs, mu, tabs, q⟩ := h
    have ne : F ≠ .no := fun z => by rw [z] at q; exact q
    have h2 := hF ne
    have S0 := start_stt (K := K) hs (ReL.nil (K := K) (G := G)) N
    have e0 : ([] : List Da).map Sl.dat ++ List.replicate (N.length - ([] : List Da).length) Sl.no = List.replicate N.length .no := by simp
    rw [e0] at S0
    have noOwn : ∀ (i : Nat) (ds : List Da), (List.replicate N.length Sl.no)[i]? ≠ some (.own ds) := fun i ds e => by
      rw [List.getElem?_replicate] at e
      split at e <;> cases e
    refine ⟨_, hbody A outer s H E hr, H, G, G, _, (), ⟨⟨hs, fun a ha => ?_, S0.len, fun i sl e => ?_, fun i j p ds es e => absurd e (noOwn i ds), tabs⟩, .refl hs, fun i ds' p e => absurd e (noOwn i ds')⟩, ?_⟩
    · obtain ⟨p, hp, rfl⟩ := List.mem_map.mp ha
      exact mu p hp
    · obtain ⟨v, q1, q2⟩ := S0.sl i sl e
      refine ⟨v, q1, ?_⟩
      cases sl with
      | no => trivial
      | dat d => exact q2
      | own ds => exact absurd e (noOwn i ds)
      | raw x => exact q2
    unfold runL at h2
    cases r2 : g (List.replicate N.length .no) () with
    | nx ρ' s' => rw [r2] at h2; rw [← h2] at q; exact fun σ G' H' S' => q .non G' H' S'.xt S'.st.rel .non
    | rt d s' => rw [r2] at h2; rw [← h2] at q; exact fun v G' H' x w y => q v G' H' x w y
    | er c => rw [r2] at h2; rw [← h2] at q; exact fun G' H' x => q G' H' x
    | bk _ _ => rw [r2] at h2; exact absurd h2.symm ne
    | ct _ _ => rw [r2] at h2; exact absurd h2.symm ne
    | no => rw [r2] at h2; exact absurd h2.symm ne
def absI (i : Int) : Int := if i < 0 then -i else i
def greatOf (ns : List Int) : List Int := (ns.filter fun i => decide (1000000000000000000 ≤ absI i)).map fun i => absI i - 1000000000000000000
def begun (ns : List Int) : Dr := ⟨ns.map absI, greatOf ns, 0, 0⟩
def spB (K : PySem.W.Frag) : Sp := fun vs H Q E => ∃ (G : Hp) (v : V) (ns : List Int), vs = [v] ∧ Same G H ∧ Re K G v (.lst (ns.map Da.int)) ∧ ns.length ≤ 1000 ∧
  ∀ (sa ga ca : Addr) (G' H' : Hp), Xp G H G' H' → H sa = none → H ga = none → G' sa = none → G' ga = none → H' sa = some (.dK (drK ga ca (begun ns))) → H' ga = some (.lst ((begun ns).great.map V.int)) → SqX K G' ca ((begun ns).cells.map V.int) → Q (.ref sa) H'
def f_b1 : Ev → Fx Unit (List Da) := fComp (fItems (fName 0)) (hName 2) (fTest (fBin geF (fApp absF (fCons (fName 2) (fNil))) (fBin powF (fC (.int 10)) (fC (.int 18))))) (fBin subF (fApp absF (fCons (fName 2) (fNil))) (fBin powF (fC (.int 10)) (fC (.int 18)))) [2]
def f_b2 : Ev → Fx Unit (List Da) := fComp (fItems (fName 0)) (hName 2) (fTrue) (fApp absF (fCons (fName 2) (fNil))) [2]
theorem b1_ok (ns : List Int) (h : ns.length ≤ 1000) : f_b1 [.dat (.lst (ns.map Da.int)), .no, .no] () = .ok ((greatOf ns).map Da.int, ()) := by
  unfold f_b1
  rw [comp_map (ds := ns.map Da.int) (s' := ()) (fun d => match d with
    | .int i => decide (1000000000000000000 ≤ absI i)
    | _ => false) (fun d => match d with
    | .int i => .int (absI i - 1000000000000000000)
    | _ => .non) rfl (line_big _ (by simp; omega)) fun d hd => ?_]
  · congr 2
    unfold greatOf
    rw [List.filter_map, List.map_map, List.map_map]
    rfl
  · obtain ⟨i, _, rfl⟩ := List.mem_map.mp hd
    refine ⟨_, rfl, ?_, fun _ => ?_⟩
    · have hp : CPow 10 18 := by decide
      simp [fTest, fBin, fApp, fCons, fNil, fName, fC, bnd, ret, lift, wipeE, geF, absF, powF, hp, absI]
      first
        | rfl
        | congr
    · have hp : CPow 10 18 := by decide
      simp [fTest, fBin, fApp, fCons, fNil, fName, fC, bnd, ret, lift, wipeE, subF, absF, powF, hp, absI]
theorem b2_ok (ns : List Int) (gs : List Int) (h : ns.length ≤ 1000) : f_b2 [.dat (.lst (ns.map Da.int)), .own (gs.map Da.int), .no] () = .ok ((ns.map absI).map Da.int, ()) := by
  unfold f_b2
  rw [comp_all (ds := ns.map Da.int) (s' := ()) (fun d => match d with
    | .int i => .int (absI i)
    | _ => .non) rfl (line_big _ (by simp; omega)) fun d hd => ?_]
  · rw [List.map_map, List.map_map]
    rfl
  · obtain ⟨i, _, rfl⟩ := List.mem_map.mp hd
    refine ⟨_, rfl, ?_⟩
    simp [fApp, fCons, fNil, fName, fC, bnd, ret, lift, wipeE, absF, absI]
theorem ReL.ofI {K : PySem.W.Frag} {G : Hp} {ns : List Int} {vs : List V} (h : ReL K G vs (ns.map Da.int)) : vs = ns.map V.int := h.ints
/-- what a body's end tells -/
def finD : Out Unit → Rp Da
  | .rt d _ => .ok d
  | .nx _ _ => .ok .non
  | .er c => .er c
  | _ => .no
def finI : Out Dr → Rp (Da × Dr)
  | .rt d s' => .ok (d, s')
  | .nx _ s' => .ok (.non, s')
  | .er c => .er c
  | _ => .no
theorem runD_eq (g : Sx Unit) (n : Nat) (ds : List Da) : runD g n ds = finD (g (ds.map .dat ++ List.replicate (n - ds.length) .no) ()) := by
  unfold runD finD
  generalize g (ds.map .dat ++ List.replicate (n - ds.length) .no) () = o
  cases o <;> rfl
theorem runI_eq (g : Sx Dr) (sa : Addr) (n : Nat) (ds : List Da) (s : Dr) : runI g sa n ds s = finI (g (.raw (.ref sa) :: (ds.map .dat ++ List.replicate (n - ds.length) .no)) s) := by
  unfold runI finI
  generalize g (.raw (.ref sa) :: (ds.map .dat ++ List.replicate (n - ds.length) .no)) s = o
  cases o <;> rfl
end Sw

set_option Elab.async false
set_option linter.all false
set_option maxRecDepth 100000
set_option maxHeartbeats 4000000
/-! SwDef: what the bodies of the defs of k82 reckon; printed. -/
namespace Sw
open PySem PySem.Spec PyProof.Rows L2 LamX

/-- the exception classes -/
def exL : List Str := ["BadClaim", "BadEdit", "BadFraction", "BadNet", "BadNets", "BadPlace", "TooGreat", "Uneditable"]
def g_is_whole (K : PySem.W.Frag) : Sx Unit := gRet (fAndV (fUn (isiF K [] (.type "int")) (fName 0)) (fNotV (fUn (isiF K [] (.type "bool")) (fName 0))))
def F_is_whole (K : PySem.W.Frag) (ds : List Da) : Rp Da := if ds.length = 1 then runD (g_is_whole K) 1 ds else .no
theorem E_is_whole (K : PySem.W.Frag) (d0 : Da) : F_is_whole K [d0] = finD (g_is_whole K [.dat d0] ()) := (if_pos rfl).trans (runD_eq _ _ _)
def g_is_number (K : PySem.W.Frag) : Sx Unit := gRet (fAndV (fCall (F_is_whole K) (fCons (fName 0) (fNil))) (fChain leF leF (fName 1) (fName 0) (fName 2)))
def F_is_number (K : PySem.W.Frag) (ds : List Da) : Rp Da := if ds.length = 3 then runD (g_is_number K) 3 ds else .no
theorem E_is_number (K : PySem.W.Frag) (d0 d1 d2 : Da) : F_is_number K [d0, d1, d2] = finD (g_is_number K [.dat d0, .dat d1, .dat d2] ()) := (if_pos rfl).trans (runD_eq _ _ _)
def g_is_tuple_of (K : PySem.W.Frag) : Sx Unit := gRet (fAndV (fUn (isiF K [] (.type "tuple")) (fName 0)) (fBin eqF (fApp lenF (fCons (fName 0) (fNil))) (fName 1)))
def F_is_tuple_of (K : PySem.W.Frag) (ds : List Da) : Rp Da := if ds.length = 2 then runD (g_is_tuple_of K) 2 ds else .no
theorem E_is_tuple_of (K : PySem.W.Frag) (d0 d1 : Da) : F_is_tuple_of K [d0, d1] = finD (g_is_tuple_of K [.dat d0, .dat d1] ()) := (if_pos rfl).trans (runD_eq _ _ _)
def g_is_headed (K : PySem.W.Frag) : Sx Unit := gRet (fAndV (fUn (isiF K [] (.type "tuple")) (fName 0)) (fAndV (fBin neF (fName 0) (fTup (fNil))) (fUn (isiF K [] (.type "str")) (fBin ixF (fName 0) (fC (.int 0))))))
def F_is_headed (K : PySem.W.Frag) (ds : List Da) : Rp Da := if ds.length = 1 then runD (g_is_headed K) 1 ds else .no
theorem E_is_headed (K : PySem.W.Frag) (d0 : Da) : F_is_headed K [d0] = finD (g_is_headed K [.dat d0] ()) := (if_pos rfl).trans (runD_eq _ _ _)
def g_are_unlike (K : PySem.W.Frag) : Sx Unit := gRet (fBin eqF (fUn lenSetF (fName 0)) (fApp lenF (fCons (fName 0) (fNil))))
def F_are_unlike (K : PySem.W.Frag) (ds : List Da) : Rp Da := if ds.length = 1 then runD (g_are_unlike K) 1 ds else .no
theorem E_are_unlike (K : PySem.W.Frag) (d0 : Da) : F_are_unlike K [d0] = finD (g_are_unlike K [.dat d0] ()) := (if_pos rfl).trans (runD_eq _ _ _)
def g_common_divisor (K : PySem.W.Frag) : Sx Unit := gSeq (gPar 0 1 (fCons (fApp absF (fCons (fName 0) (fNil))) (fCons (fApp absF (fCons (fName 1) (fNil))) (fNil)))) (gSeq (gWhile (fun _ => 1000000) (fTest (fBin neF (fName 1) (fC (.int 0)))) (gPar 0 1 (fCons (fName 1) (fCons (fBin modF (fName 0) (fName 1)) (fNil))))) (gRet (fName 0)))
def F_common_divisor (K : PySem.W.Frag) (ds : List Da) : Rp Da := if ds.length = 2 then runD (g_common_divisor K) 2 ds else .no
theorem E_common_divisor (K : PySem.W.Frag) (d0 d1 : Da) : F_common_divisor K [d0, d1] = finD (g_common_divisor K [.dat d0, .dat d1] ()) := (if_pos rfl).trans (runD_eq _ _ _)
def g_reduced (K : PySem.W.Frag) : Sx Unit := gSeq (gIf (fTest (fBin ltF (fName 1) (fC (.int 0)))) (gPar 0 1 (fCons (fUn negF (fName 0)) (fCons (fUn negF (fName 1)) (fNil)))) (gNx)) (gSeq (gSet 2 (fCall (F_common_divisor K) (fCons (fName 0) (fCons (fName 1) (fNil))))) (gRet (fTup (fCons (fBin divF (fName 0) (fName 2)) (fCons (fBin divF (fName 1) (fName 2)) (fNil))))))
def F_reduced (K : PySem.W.Frag) (ds : List Da) : Rp Da := if ds.length = 2 then runD (g_reduced K) 3 ds else .no
theorem E_reduced (K : PySem.W.Frag) (d0 d1 : Da) : F_reduced K [d0, d1] = finD (g_reduced K [.dat d0, .dat d1, .no] ()) := (if_pos rfl).trans (runD_eq _ _ _)
def g_is_fraction (K : PySem.W.Frag) : Sx Unit := gSeq (gIf (fOr (fNot (fTest (fCall (F_is_tuple_of K) (fCons (fName 0) (fCons (fC (.int 2)) (fNil)))))) (fOr (fNot (fTest (fCall (F_is_whole K) (fCons (fBin ixF (fName 0) (fC (.int 0))) (fNil))))) (fOr (fNot (fTest (fCall (F_is_whole K) (fCons (fBin ixF (fName 0) (fC (.int 1))) (fNil))))) (fTest (fBin ltF (fBin ixF (fName 0) (fC (.int 1))) (fC (.int 1))))))) (gRet (fC (.bl false))) (gNx)) (gRet (fBin eqF (fCall (F_common_divisor K) (fCons (fBin ixF (fName 0) (fC (.int 0))) (fCons (fBin ixF (fName 0) (fC (.int 1))) (fNil)))) (fC (.int 1))))
def F_is_fraction (K : PySem.W.Frag) (ds : List Da) : Rp Da := if ds.length = 1 then runD (g_is_fraction K) 1 ds else .no
theorem E_is_fraction (K : PySem.W.Frag) (d0 : Da) : F_is_fraction K [d0] = finD (g_is_fraction K [.dat d0] ()) := (if_pos rfl).trans (runD_eq _ _ _)
def g_is_given (K : PySem.W.Frag) : Sx Unit := gRet (fAndV (fCall (F_is_fraction K) (fCons (fName 0) (fNil))) (fAndV (fBin leF (fApp absF (fCons (fBin ixF (fName 0) (fC (.int 0))) (fNil))) (fC (.int 999999999))) (fBin leF (fBin ixF (fName 0) (fC (.int 1))) (fC (.int 999999999)))))
def F_is_given (K : PySem.W.Frag) (ds : List Da) : Rp Da := if ds.length = 1 then runD (g_is_given K) 1 ds else .no
theorem E_is_given (K : PySem.W.Frag) (d0 : Da) : F_is_given K [d0] = finD (g_is_given K [.dat d0] ()) := (if_pos rfl).trans (runD_eq _ _ _)
def g_is_weight (K : PySem.W.Frag) : Sx Unit := gRet (fAndV (fCall (F_is_fraction K) (fCons (fName 0) (fNil))) (fAndV (fBin leF (fApp absF (fCons (fBin ixF (fName 0) (fC (.int 0))) (fNil))) (fC (.int 999999999999999999999999999999999999999999999999999999999999))) (fBin leF (fBin ixF (fName 0) (fC (.int 1))) (fC (.int 999999999999999999999999999999999999999999999999999999999999)))))
def F_is_weight (K : PySem.W.Frag) (ds : List Da) : Rp Da := if ds.length = 1 then runD (g_is_weight K) 1 ds else .no
theorem E_is_weight (K : PySem.W.Frag) (d0 : Da) : F_is_weight K [d0] = finD (g_is_weight K [.dat d0] ()) := (if_pos rfl).trans (runD_eq _ _ _)
def g_plus (K : PySem.W.Frag) : Sx Unit := gSeq (gIf (fTest (fBin eqF (fBin ixF (fName 0) (fC (.int 1))) (fBin ixF (fName 1) (fC (.int 1))))) (gRet (fCall (F_reduced K) (fCons (fBin addF0 (fBin ixF (fName 0) (fC (.int 0))) (fBin ixF (fName 1) (fC (.int 0)))) (fCons (fBin ixF (fName 0) (fC (.int 1))) (fNil))))) (gNx)) (gRet (fCall (F_reduced K) (fCons (fBin addF0 (fBin mulSF (fBin ixF (fName 0) (fC (.int 0))) (fBin ixF (fName 1) (fC (.int 1)))) (fBin mulSF (fBin ixF (fName 1) (fC (.int 0))) (fBin ixF (fName 0) (fC (.int 1))))) (fCons (fBin mulSF (fBin ixF (fName 0) (fC (.int 1))) (fBin ixF (fName 1) (fC (.int 1)))) (fNil)))))
def F_plus (K : PySem.W.Frag) (ds : List Da) : Rp Da := if ds.length = 2 then runD (g_plus K) 2 ds else .no
theorem E_plus (K : PySem.W.Frag) (d0 d1 : Da) : F_plus K [d0, d1] = finD (g_plus K [.dat d0, .dat d1] ()) := (if_pos rfl).trans (runD_eq _ _ _)
def g_by (K : PySem.W.Frag) : Sx Unit := gRet (fCall (F_reduced K) (fCons (fBin mulSF (fBin ixF (fName 0) (fC (.int 0))) (fBin ixF (fName 1) (fC (.int 0)))) (fCons (fBin mulSF (fBin ixF (fName 0) (fC (.int 1))) (fBin ixF (fName 1) (fC (.int 1)))) (fNil))))
def F_by (K : PySem.W.Frag) (ds : List Da) : Rp Da := if ds.length = 2 then runD (g_by K) 2 ds else .no
theorem E_by (K : PySem.W.Frag) (d0 d1 : Da) : F_by K [d0, d1] = finD (g_by K [.dat d0, .dat d1] ()) := (if_pos rfl).trans (runD_eq _ _ _)
def g_sum_of (K : PySem.W.Frag) : Sx Unit := gSeq (gSet 3 (fName 2)) (gSeq (gFor (fZip (fCons (fName 0) (fCons (fName 1) (fNil)))) (hTup (hCons (hName 4) (hCons (hName 5) (hNil)))) (gIf (fAnd (fTest (fBin neF (fBin ixF (fName 4) (fC (.int 0))) (fC (.int 0)))) (fTest (fBin neF (fBin ixF (fName 5) (fC (.int 0))) (fC (.int 0))))) (gSet 3 (fCall (F_plus K) (fCons (fName 3) (fCons (fCall (F_by K) (fCons (fName 4) (fCons (fName 5) (fNil)))) (fNil))))) (gNx))) (gRet (fName 3)))
def F_sum_of (K : PySem.W.Frag) (ds : List Da) : Rp Da := if ds.length = 3 then runD (g_sum_of K) 6 ds else .no
theorem E_sum_of (K : PySem.W.Frag) (d0 d1 d2 : Da) : F_sum_of K [d0, d1, d2] = finD (g_sum_of K [.dat d0, .dat d1, .dat d2, .no, .no, .no] ()) := (if_pos rfl).trans (runD_eq _ _ _)
def g_are_given (K : PySem.W.Frag) : Sx Unit := gRet (fAndV (fCall (F_is_tuple_of K) (fCons (fName 0) (fCons (fName 1) (fNil)))) (fApp allF (fCons (fLst (fComp (fIt (fName 0)) (hName 2) (fTrue) (fCall (F_is_given K) (fCons (fName 2) (fNil))) [2])) (fNil))))
def F_are_given (K : PySem.W.Frag) (ds : List Da) : Rp Da := if ds.length = 2 then runD (g_are_given K) 3 ds else .no
theorem E_are_given (K : PySem.W.Frag) (d0 d1 : Da) : F_are_given K [d0, d1] = finD (g_are_given K [.dat d0, .dat d1, .no] ()) := (if_pos rfl).trans (runD_eq _ _ _)
def g_is_places (K : PySem.W.Frag) : Sx Unit := gSeq (gIf (fOr (fNot (fTest (fUn (isiF K [] (.type "tuple")) (fName 0)))) (fNot (fTest (fApp allF (fCons (fLst (fComp (fIt (fName 0)) (hName 2) (fTrue) (fCall (F_is_number K) (fCons (fName 2) (fCons (fC (.int 0)) (fCons (fBin subF (fName 1) (fC (.int 1))) (fNil))))) [2])) (fNil)))))) (gRet (fC (.bl false))) (gNx)) (gRet (fCall (F_are_unlike K) (fCons (fName 0) (fNil))))
def F_is_places (K : PySem.W.Frag) (ds : List Da) : Rp Da := if ds.length = 2 then runD (g_is_places K) 3 ds else .no
theorem E_is_places (K : PySem.W.Frag) (d0 d1 : Da) : F_is_places K [d0, d1] = finD (g_is_places K [.dat d0, .dat d1, .no] ()) := (if_pos rfl).trans (runD_eq _ _ _)
def g_is_row (K : PySem.W.Frag) : Sx Unit := gSeq (gIf (fOr (fNot (fTest (fCall (F_is_tuple_of K) (fCons (fName 0) (fCons (fC (.int 2)) (fNil)))))) (fNot (fTest (fCall (F_is_tuple_of K) (fCons (fBin ixF (fName 0) (fC (.int 0))) (fCons (fName 1) (fNil))))))) (gRet (fC (.bl false))) (gNx)) (gRet (fAndV (fCall (F_is_weight K) (fCons (fBin ixF (fName 0) (fC (.int 1))) (fNil))) (fApp allF (fCons (fLst (fComp (fIt (fBin ixF (fName 0) (fC (.int 0)))) (hName 2) (fTrue) (fCall (F_is_weight K) (fCons (fName 2) (fNil))) [2])) (fNil)))))
def F_is_row (K : PySem.W.Frag) (ds : List Da) : Rp Da := if ds.length = 2 then runD (g_is_row K) 3 ds else .no
theorem E_is_row (K : PySem.W.Frag) (d0 d1 : Da) : F_is_row K [d0, d1] = finD (g_is_row K [.dat d0, .dat d1, .no] ()) := (if_pos rfl).trans (runD_eq _ _ _)
def g_is_layer (K : PySem.W.Frag) : Sx Unit := gSeq (gIf (fOr (fNot (fTest (fCall (F_is_headed K) (fCons (fName 0) (fNil))))) (fOr (fTest (fBin neF (fApp lenF (fCons (fName 0) (fNil))) (fC (.int 2)))) (fNot (fTest (fUn (isiF K [] (.type "tuple")) (fBin ixF (fName 0) (fC (.int 1)))))))) (gRet (fC (.bl false))) (gNx)) (gSeq (gIf (fTest (fBin eqF (fBin ixF (fName 0) (fC (.int 0))) (fC (.str "rest")))) (gRet (fAndV (fCall (F_is_places K) (fCons (fBin ixF (fName 0) (fC (.int 1))) (fCons (fName 1) (fNil)))) (fBin eqF (fLst (fAppN listF (fCons (fBin ixF (fName 0) (fC (.int 1))) (fNil)))) (fLst (fAppN sortA (fCons (fBin ixF (fName 0) (fC (.int 1))) (fNil))))))) (gNx)) (gSeq (gIf (fNot (fTest (fChain leF leF (fC (.int 1)) (fApp lenF (fCons (fBin ixF (fName 0) (fC (.int 1))) (fNil))) (fC (.int 6))))) (gRet (fC (.bl false))) (gNx)) (gSeq (gIf (fTest (fBin eqF (fBin ixF (fName 0) (fC (.int 0))) (fC (.str "mix")))) (gRet (fApp allF (fCons (fLst (fComp (fIt (fBin ixF (fName 0) (fC (.int 1)))) (hName 2) (fTrue) (fCall (F_is_row K) (fCons (fName 2) (fCons (fName 1) (fNil)))) [2])) (fNil)))) (gNx)) (gRet (fAndV (fBin eqF (fBin ixF (fName 0) (fC (.int 0))) (fC (.str "pool"))) (fApp allF (fCons (fLst (fComp (fIt (fBin ixF (fName 0) (fC (.int 1)))) (hName 3) (fTrue) (fAndV (fCall (F_is_places K) (fCons (fName 3) (fCons (fName 1) (fNil)))) (fBin neF (fName 3) (fTup (fNil)))) [3])) (fNil))))))))
def F_is_layer (K : PySem.W.Frag) (ds : List Da) : Rp Da := if ds.length = 2 then runD (g_is_layer K) 4 ds else .no
theorem E_is_layer (K : PySem.W.Frag) (d0 d1 : Da) : F_is_layer K [d0, d1] = finD (g_is_layer K [.dat d0, .dat d1, .no, .no] ()) := (if_pos rfl).trans (runD_eq _ _ _)
def g_told_by (K : PySem.W.Frag) : Sx Unit := gRet (fIf (fTest (fBin eqF (fBin ixF (fName 0) (fC (.int 0))) (fC (.str "rest")))) (fName 1) (fApp lenF (fCons (fBin ixF (fName 0) (fC (.int 1))) (fNil))))
def F_told_by (K : PySem.W.Frag) (ds : List Da) : Rp Da := if ds.length = 2 then runD (g_told_by K) 2 ds else .no
theorem E_told_by (K : PySem.W.Frag) (d0 d1 : Da) : F_told_by K [d0, d1] = finD (g_told_by K [.dat d0, .dat d1] ()) := (if_pos rfl).trans (runD_eq _ _ _)
def g_bends_in (K : PySem.W.Frag) : Sx Unit := gSeq (gIf (fTest (fBin eqF (fBin ixF (fName 0) (fC (.int 0))) (fC (.str "rest")))) (gRet (fApp lenF (fCons (fBin ixF (fName 0) (fC (.int 1))) (fNil)))) (gNx)) (gRet (fIf (fTest (fBin eqF (fBin ixF (fName 0) (fC (.int 0))) (fC (.str "pool")))) (fApp sumF (fCons (fLst (fComp (fIt (fBin ixF (fName 0) (fC (.int 1)))) (hName 1) (fTrue) (fBin subF (fApp lenF (fCons (fName 1) (fNil))) (fC (.int 1))) [1])) (fNil))) (fC (.int 0))))
def F_bends_in (K : PySem.W.Frag) (ds : List Da) : Rp Da := if ds.length = 1 then runD (g_bends_in K) 2 ds else .no
theorem E_bends_in (K : PySem.W.Frag) (d0 : Da) : F_bends_in K [d0] = finD (g_bends_in K [.dat d0, .no] ()) := (if_pos rfl).trans (runD_eq _ _ _)
def g_is_net (K : PySem.W.Frag) : Sx Unit := gSeq (gIf (fOr (fNot (fTest (fCall (F_is_tuple_of K) (fCons (fName 0) (fCons (fC (.int 2)) (fNil)))))) (fOr (fNot (fTest (fCall (F_is_number K) (fCons (fBin ixF (fName 0) (fC (.int 0))) (fCons (fC (.int 1)) (fCons (fC (.int 4)) (fNil))))))) (fNot (fTest (fUn (isiF K [] (.type "tuple")) (fBin ixF (fName 0) (fC (.int 1)))))))) (gRet (fC (.bl false))) (gNx)) (gSeq (gIf (fTest (fBin gtF (fApp lenF (fCons (fBin ixF (fName 0) (fC (.int 1))) (fNil))) (fC (.int 8)))) (gRet (fC (.bl false))) (gNx)) (gSeq (gPar 2 3 (fCons (fBin ixF (fName 0) (fC (.int 0))) (fCons (fC (.int 0)) (fNil)))) (gSeq (gFor (fIt (fBin ixF (fName 0) (fC (.int 1)))) (hName 1) (gSeq (gIf (fNot (fTest (fCall (F_is_layer K) (fCons (fName 1) (fCons (fName 2) (fNil)))))) (gRet (fC (.bl false))) (gNx)) (gPar 2 3 (fCons (fCall (F_told_by K) (fCons (fName 1) (fCons (fName 2) (fNil)))) (fCons (fBin addF0 (fName 3) (fCall (F_bends_in K) (fCons (fName 1) (fNil)))) (fNil)))))) (gRet (fBin leF (fName 3) (fC (.int 10)))))))
def F_is_net (K : PySem.W.Frag) (ds : List Da) : Rp Da := if ds.length = 1 then runD (g_is_net K) 4 ds else .no
theorem E_is_net (K : PySem.W.Frag) (d0 : Da) : F_is_net K [d0] = finD (g_is_net K [.dat d0, .no, .no, .no] ()) := (if_pos rfl).trans (runD_eq _ _ _)
def g_need_net (K : PySem.W.Frag) : Sx Unit := gIf (fNot (fTest (fCall (F_is_net K) (fCons (fName 0) (fNil))))) (gRaise "BadNet") (gNx)
def F_need_net (K : PySem.W.Frag) (ds : List Da) : Rp Da := if ds.length = 1 then runD (g_need_net K) 1 ds else .no
theorem E_need_net (K : PySem.W.Frag) (d0 : Da) : F_need_net K [d0] = finD (g_need_net K [.dat d0] ()) := (if_pos rfl).trans (runD_eq _ _ _)
def g_widths_in (K : PySem.W.Frag) : Sx Unit := gSeq (gSetO 1 (fCons (fBin ixF (fName 0) (fC (.int 0))) (fNil))) (gSeq (gFor (fIt (fBin ixF (fName 0) (fC (.int 1)))) (hName 2) (gApp 1 (fCall (F_told_by K) (fCons (fName 2) (fCons (fBin ixF (fNameO 1) (fUn negF (fC (.int 1)))) (fNil)))))) (gRetO 1))
def F_widths_in (K : PySem.W.Frag) (ds : List Da) : Rp Da := if ds.length = 1 then runD (g_widths_in K) 3 ds else .no
theorem E_widths_in (K : PySem.W.Frag) (d0 : Da) : F_widths_in K [d0] = finD (g_widths_in K [.dat d0, .no, .no] ()) := (if_pos rfl).trans (runD_eq _ _ _)
def g_widths_of (K : PySem.W.Frag) : Sx Unit := gSeq (gDrop (fCall (F_need_net K) (fCons (fName 0) (fNil)))) (gRet (fApp tupF (fCons (fCall (F_widths_in K) (fCons (fName 0) (fNil))) (fNil))))
def F_widths_of (K : PySem.W.Frag) (ds : List Da) : Rp Da := if ds.length = 1 then runD (g_widths_of K) 1 ds else .no
theorem E_widths_of (K : PySem.W.Frag) (d0 : Da) : F_widths_of K [d0] = finD (g_widths_of K [.dat d0] ()) := (if_pos rfl).trans (runD_eq _ _ _)
def g_outputs_of (K : PySem.W.Frag) : Sx Unit := gSeq (gDrop (fCall (F_need_net K) (fCons (fName 0) (fNil)))) (gRet (fBin ixF (fCall (F_widths_in K) (fCons (fName 0) (fNil))) (fUn negF (fC (.int 1)))))
def F_outputs_of (K : PySem.W.Frag) (ds : List Da) : Rp Da := if ds.length = 1 then runD (g_outputs_of K) 1 ds else .no
theorem E_outputs_of (K : PySem.W.Frag) (d0 : Da) : F_outputs_of K [d0] = finD (g_outputs_of K [.dat d0] ()) := (if_pos rfl).trans (runD_eq _ _ _)
def g_is_claim (K : PySem.W.Frag) : Sx Unit := gSeq (gIf (fOr (fNot (fTest (fCall (F_is_tuple_of K) (fCons (fName 0) (fCons (fC (.int 3)) (fNil)))))) (fOr (fNot (fTest (fCall (F_are_given K) (fCons (fBin ixF (fName 0) (fC (.int 0))) (fCons (fName 1) (fNil)))))) (fNot (fTest (fCall (F_are_given K) (fCons (fBin ixF (fName 0) (fC (.int 1))) (fCons (fName 2) (fNil)))))))) (gRet (fC (.bl false))) (gNx)) (gRet (fCall (F_is_given K) (fCons (fBin ixF (fName 0) (fC (.int 2))) (fNil))))
def F_is_claim (K : PySem.W.Frag) (ds : List Da) : Rp Da := if ds.length = 3 then runD (g_is_claim K) 3 ds else .no
theorem E_is_claim (K : PySem.W.Frag) (d0 d1 d2 : Da) : F_is_claim K [d0, d1, d2] = finD (g_is_claim K [.dat d0, .dat d1, .dat d2] ()) := (if_pos rfl).trans (runD_eq _ _ _)
def g_carried_back (K : PySem.W.Frag) : Sx Unit := gSeq (gDrop (fCall (F_need_net K) (fCons (fName 0) (fNil)))) (gSeq (gIf (fNot (fTest (fCall (F_is_claim K) (fCons (fName 1) (fCons (fBin ixF (fName 0) (fC (.int 0))) (fCons (fCall (F_outputs_of K) (fCons (fName 0) (fNil))) (fNil))))))) (gRaise "BadClaim") (gNx)) (gSeq (gIf (fOr (fTest (fBin eqF (fBin ixF (fName 0) (fC (.int 1))) (fTup (fNil)))) (fTest (fBin neF (fBin ixF (fBin ixF (fBin ixF (fName 0) (fC (.int 1))) (fUn negF (fC (.int 1)))) (fC (.int 0))) (fC (.str "mix"))))) (gRaise "BadNets") (gNx)) (gSeq (gUnp (fTup (fCons (fBin ixF (fBin ixF (fBin ixF (fName 0) (fC (.int 1))) (fUn negF (fC (.int 1)))) (fC (.int 1))) (fCons (fBin ixF (fCall (F_widths_in K) (fCons (fName 0) (fNil))) (fUn negF (fC (.int 2)))) (fNil)))) (hTup (hCons (hName 4) (hCons (hName 5) (hNil))))) (gSeq (gSetD 2 (fComp (fRng1 (fCons (fName 5) (fNil))) (hName 6) (fTrue) (fCall (F_sum_of K) (fCons (fBin ixF (fName 1) (fC (.int 1))) (fCons (fLst (fComp (fIt (fName 4)) (hName 7) (fTrue) (fBin ixF (fBin ixF (fName 7) (fC (.int 0))) (fName 6)) [7])) (fCons (fC (.tup [(.int 0), (.int 1)])) (fNil))))) [6])) (gSeq (gSet 3 (fTup (fCons (fBin ixF (fName 1) (fC (.int 0))) (fCons (fApp tupF (fCons (fName 2) (fNil))) (fCons (fCall (F_sum_of K) (fCons (fBin ixF (fName 1) (fC (.int 1))) (fCons (fLst (fComp (fIt (fName 4)) (hName 7) (fTrue) (fBin ixF (fName 7) (fC (.int 1))) [7])) (fCons (fBin ixF (fName 1) (fC (.int 2))) (fNil))))) (fNil)))))) (gSeq (gIf (fNot (fTest (fCall (F_is_claim K) (fCons (fName 3) (fCons (fBin ixF (fName 0) (fC (.int 0))) (fCons (fName 5) (fNil))))))) (gRaise "TooGreat") (gNx)) (gRet (fName 3))))))))
def F_carried_back (K : PySem.W.Frag) (ds : List Da) : Rp Da := if ds.length = 2 then runD (g_carried_back K) 8 ds else .no
theorem E_carried_back (K : PySem.W.Frag) (d0 d1 : Da) : F_carried_back K [d0, d1] = finD (g_carried_back K [.dat d0, .dat d1, .no, .no, .no, .no, .no, .no] ()) := (if_pos rfl).trans (runD_eq _ _ _)
def g_law_blended (K : PySem.W.Frag) (sa : Addr) : Sx Dr := gSeq (gPar 2 3 (fCons (fBin addF0 (fSt sa 0 (fun s => .ok (.int s.turn, s))) (fC (.int 1))) (fCons (fC (.int 0)) (fNil)))) (gSeq (gStSet sa 0 (fun s n => { s with turn := n }) (fName 2)) (gSeq (gFor (fIt (fLst (fCons (fC (.int 2147481487)) (fCons (fC (.int 2147481373)) (fCons (fC (.int 2147481367)) (fNil)))))) (hName 1) (gSeq (gSet 4 (fBin addF0 (fBin mulSF (fC (.int 47911)) (fName 2)) (fBin divF (fName 1) (fC (.int 97))))) (gSeq (gFor (fIt (fSt sa 0 (fun s => .ok (.lst (s.cells.map Da.int), s)))) (hName 5) (gSet 4 (fBin modF (fApp intF (fCons (fBin addF0 (fBin addF0 (fBin mulSF (fName 4) (fC (.int 66047))) (fName 5)) (fName 2)) (fNil))) (fName 1)))) (gSet 3 (fBin addF0 (fBin mulSF (fName 3) (fC (.int 2147483647))) (fBin modF (fApp intF (fCons (fBin powF (fName 4) (fC (.int 5))) (fNil))) (fName 1))))))) (gRet (fName 3))))
def F_law_blended (K : PySem.W.Frag) (sa : Addr) (ds : List Da) : Fx Dr Da := fun s => if ds.length = 0 then runI (g_law_blended K sa) sa 5 ds s else .no
theorem E_law_blended (K : PySem.W.Frag) (sa : Addr) (s : Dr) : F_law_blended K sa [] s = finI (g_law_blended K sa [.raw (.ref sa), .no, .no, .no, .no, .no] s) := (if_pos rfl).trans (runI_eq _ _ _ _ _)
def g_law_draw (K : PySem.W.Frag) (sa : Addr) : Sx Dr := gSeq (gIf (fTest (fBin eqF (fSt sa 0 (fun s => .ok (.int s.left, s))) (fC (.int 0)))) (gStSet sa 0 (fun s n => { s with left := n }) (fIf (fStT sa 0 (fun s => !s.great.isEmpty)) (fSt sa 0 popF) (fCallI sa 0 (F_law_blended K sa) (fNil)))) (gNx)) (gSeq (gSet 2 (fBin modF (fApp intF (fCons (fSt sa 0 (fun s => .ok (.int s.left, s))) (fNil))) (fName 1))) (gSeq (gStSet sa 0 (fun s n => { s with left := n }) (fBin divF (fSt sa 0 (fun s => .ok (.int s.left, s))) (fName 1))) (gRet (fName 2))))
def F_law_draw (K : PySem.W.Frag) (sa : Addr) (ds : List Da) : Fx Dr Da := fun s => if ds.length = 1 then runI (g_law_draw K sa) sa 2 ds s else .no
theorem E_law_draw (K : PySem.W.Frag) (sa : Addr) (d0 : Da) (s : Dr) : F_law_draw K sa [d0] s = finI (g_law_draw K sa [.raw (.ref sa), .dat d0, .no] s) := (if_pos rfl).trans (runI_eq _ _ _ _ _)
def g_law_mixed (K : PySem.W.Frag) (sa : Addr) : Sx Dr := gSeq (gParM 2 3 (mOwn (fAppN listF (fCons (fName 1) (fNil))) (mOwn (fNil) (mNil)))) (gSeq (gWhile (fun _ => 1000000) (fTest (fBin neF (fNameO 2) (fLst (fNil)))) (gAppPop 3 2 (fCallI sa 0 (F_law_draw K sa) (fCons (fApp lenF (fCons (fNameO 2) (fNil))) (fNil))))) (gRetO 3))
def F_law_mixed (K : PySem.W.Frag) (sa : Addr) (ds : List Da) : Fx Dr Da := fun s => if ds.length = 1 then runI (g_law_mixed K sa) sa 3 ds s else .no
theorem E_law_mixed (K : PySem.W.Frag) (sa : Addr) (d0 : Da) (s : Dr) : F_law_mixed K sa [d0] s = finI (g_law_mixed K sa [.raw (.ref sa), .dat d0, .no, .no] s) := (if_pos rfl).trans (runI_eq _ _ _ _ _)
def g_law_v_low (K : PySem.W.Frag) : Sx Unit := gSeq (gPar 4 5 (fCons (fApp absF (fCons (fName 0) (fNil))) (fCons (fApp absF (fCons (fName 1) (fNil))) (fNil)))) (gSeq (gFor (fRng1 (fCons (fC (.int 400)) (fNil))) (hName 2) (gSeq (gIf (fTest (fBin eqF (fName 5) (fC (.int 0)))) (gBk) (gNx)) (gPar 4 5 (fCons (fName 5) (fCons (fBin modF (fName 4) (fName 5)) (fNil)))))) (gSeq (gSet 3 (fIf (fTest (fBin ltF (fName 1) (fC (.int 0)))) (fUn negF (fC (.int 1))) (fC (.int 1)))) (gRet (fTup (fCons (fBin divF (fBin mulSF (fName 3) (fName 0)) (fName 4)) (fCons (fBin divF (fApp absF (fCons (fName 1) (fNil))) (fName 4)) (fNil)))))))
def F_law_v_low (K : PySem.W.Frag) (ds : List Da) : Rp Da := if ds.length = 2 then runD (g_law_v_low K) 6 ds else .no
theorem E_law_v_low (K : PySem.W.Frag) (d0 d1 : Da) : F_law_v_low K [d0, d1] = finD (g_law_v_low K [.dat d0, .dat d1, .no, .no, .no, .no] ()) := (if_pos rfl).trans (runD_eq _ _ _)
def g_law_v_number (K : PySem.W.Frag) (sa : Addr) : Sx Dr := gSeq (gPar 2 3 (fCons (fBin subF (fCallI sa 0 (F_law_draw K sa) (fCons (fBin addF0 (fBin mulSF (fC (.int 2)) (fName 1)) (fC (.int 1))) (fNil))) (fName 1)) (fCons (fBin addF0 (fC (.int 1)) (fCallI sa 0 (F_law_draw K sa) (fCons (fC (.int 3)) (fNil)))) (fNil)))) (gRet (fCall (F_law_v_low K) (fCons (fName 2) (fCons (fName 3) (fNil)))))
def F_law_v_number (K : PySem.W.Frag) (sa : Addr) (ds : List Da) : Fx Dr Da := fun s => if ds.length = 1 then runI (g_law_v_number K sa) sa 3 ds s else .no
theorem E_law_v_number (K : PySem.W.Frag) (sa : Addr) (d0 : Da) (s : Dr) : F_law_v_number K sa [d0] s = finI (g_law_v_number K sa [.raw (.ref sa), .dat d0, .no, .no] s) := (if_pos rfl).trans (runI_eq _ _ _ _ _)
def g_law_v_plus (K : PySem.W.Frag) : Sx Unit := gRet (fCall (F_law_v_low K) (fCons (fBin addF0 (fBin mulSF (fBin ixF (fName 0) (fC (.int 0))) (fBin ixF (fName 1) (fC (.int 1)))) (fBin mulSF (fBin ixF (fName 1) (fC (.int 0))) (fBin ixF (fName 0) (fC (.int 1))))) (fCons (fBin mulSF (fBin ixF (fName 0) (fC (.int 1))) (fBin ixF (fName 1) (fC (.int 1)))) (fNil))))
def F_law_v_plus (K : PySem.W.Frag) (ds : List Da) : Rp Da := if ds.length = 2 then runD (g_law_v_plus K) 2 ds else .no
theorem E_law_v_plus (K : PySem.W.Frag) (d0 d1 : Da) : F_law_v_plus K [d0, d1] = finD (g_law_v_plus K [.dat d0, .dat d1] ()) := (if_pos rfl).trans (runD_eq _ _ _)
def g_law_v_by (K : PySem.W.Frag) : Sx Unit := gRet (fCall (F_law_v_low K) (fCons (fBin mulSF (fBin ixF (fName 0) (fC (.int 0))) (fBin ixF (fName 1) (fC (.int 0)))) (fCons (fBin mulSF (fBin ixF (fName 0) (fC (.int 1))) (fBin ixF (fName 1) (fC (.int 1)))) (fNil))))
def F_law_v_by (K : PySem.W.Frag) (ds : List Da) : Rp Da := if ds.length = 2 then runD (g_law_v_by K) 2 ds else .no
theorem E_law_v_by (K : PySem.W.Frag) (d0 d1 : Da) : F_law_v_by K [d0, d1] = finD (g_law_v_by K [.dat d0, .dat d1] ()) := (if_pos rfl).trans (runD_eq _ _ _)
def g_law_v_above (K : PySem.W.Frag) : Sx Unit := gRet (fBin gtF (fBin mulSF (fBin ixF (fName 0) (fC (.int 0))) (fBin ixF (fName 1) (fC (.int 1)))) (fBin mulSF (fBin ixF (fName 1) (fC (.int 0))) (fBin ixF (fName 0) (fC (.int 1)))))
def F_law_v_above (K : PySem.W.Frag) (ds : List Da) : Rp Da := if ds.length = 2 then runD (g_law_v_above K) 2 ds else .no
theorem E_law_v_above (K : PySem.W.Frag) (d0 d1 : Da) : F_law_v_above K [d0, d1] = finD (g_law_v_above K [.dat d0, .dat d1] ()) := (if_pos rfl).trans (runD_eq _ _ _)
def g_law_v_sum (K : PySem.W.Frag) : Sx Unit := gSeq (gSet 3 (fName 2)) (gSeq (gFor (fZip (fCons (fName 0) (fCons (fName 1) (fNil)))) (hTup (hCons (hName 4) (hCons (hName 5) (hNil)))) (gSet 3 (fCall (F_law_v_plus K) (fCons (fName 3) (fCons (fCall (F_law_v_by K) (fCons (fName 4) (fCons (fName 5) (fNil)))) (fNil)))))) (gRet (fName 3)))
def F_law_v_sum (K : PySem.W.Frag) (ds : List Da) : Rp Da := if ds.length = 3 then runD (g_law_v_sum K) 6 ds else .no
theorem E_law_v_sum (K : PySem.W.Frag) (d0 d1 d2 : Da) : F_law_v_sum K [d0, d1, d2] = finD (g_law_v_sum K [.dat d0, .dat d1, .dat d2, .no, .no, .no] ()) := (if_pos rfl).trans (runD_eq _ _ _)
def g_law_v_layer (K : PySem.W.Frag) : Sx Unit := gSeq (gIf (fTest (fBin eqF (fBin ixF (fName 0) (fC (.int 0))) (fC (.str "mix")))) (gRet (fApp tupF (fCons (fLst (fComp (fIt (fBin ixF (fName 0) (fC (.int 1)))) (hTup (hCons (hName 6) (hCons (hName 7) (hNil)))) (fTrue) (fCall (F_law_v_sum K) (fCons (fName 6) (fCons (fName 1) (fCons (fName 7) (fNil))))) [6, 7])) (fNil)))) (gNx)) (gSeq (gIf (fTest (fBin eqF (fBin ixF (fName 0) (fC (.int 0))) (fC (.str "rest")))) (gRet (fApp tupF (fCons (fLst (fComp (fEnum (fCons (fName 1) (fNil))) (hTup (hCons (hName 8) (hCons (hName 9) (hNil)))) (fTrue) (fIf (fAnd (fTest (fBin inF (fName 8) (fBin ixF (fName 0) (fC (.int 1))))) (fTest (fBin ltF (fBin ixF (fName 9) (fC (.int 0))) (fC (.int 0))))) (fTup (fCons (fC (.int 0)) (fCons (fC (.int 1)) (fNil)))) (fName 9)) [8, 9])) (fNil)))) (gNx)) (gSeq (gSetO 2 (fNil)) (gSeq (gFor (fIt (fBin ixF (fName 0) (fC (.int 1)))) (hName 3) (gSeq (gSet 4 (fBin ixF (fName 1) (fBin ixF (fName 3) (fC (.int 0))))) (gSeq (gFor (fIt (fSl (fName 3) (fPart (some (fC (.int 1)))) (fPart none))) (hName 5) (gSet 4 (fIf (fTest (fCall (F_law_v_above K) (fCons (fBin ixF (fName 1) (fName 5)) (fCons (fName 4) (fNil))))) (fBin ixF (fName 1) (fName 5)) (fName 4)))) (gApp 2 (fName 4))))) (gRet (fApp tupF (fCons (fNameO 2) (fNil)))))))
def F_law_v_layer (K : PySem.W.Frag) (ds : List Da) : Rp Da := if ds.length = 2 then runD (g_law_v_layer K) 10 ds else .no
theorem E_law_v_layer (K : PySem.W.Frag) (d0 d1 : Da) : F_law_v_layer K [d0, d1] = finD (g_law_v_layer K [.dat d0, .dat d1, .no, .no, .no, .no, .no, .no, .no, .no] ()) := (if_pos rfl).trans (runD_eq _ _ _)
def g_law_v_told (K : PySem.W.Frag) : Sx Unit := gSeq (gFor (fIt (fBin ixF (fName 0) (fC (.int 1)))) (hName 2) (gSet 1 (fCall (F_law_v_layer K) (fCons (fName 2) (fCons (fName 1) (fNil)))))) (gRet (fName 1))
def F_law_v_told (K : PySem.W.Frag) (ds : List Da) : Rp Da := if ds.length = 2 then runD (g_law_v_told K) 3 ds else .no
theorem E_law_v_told (K : PySem.W.Frag) (d0 d1 : Da) : F_law_v_told K [d0, d1] = finD (g_law_v_told K [.dat d0, .dat d1, .no] ()) := (if_pos rfl).trans (runD_eq _ _ _)
def g_law_v_row (K : PySem.W.Frag) (sa : Addr) : Sx Dr := gRet (fTup (fCons (fApp tupF (fCons (fLst (fComp (fRng1 (fCons (fName 1) (fNil))) (hName 2) (fTrue) (fCallI sa 0 (F_law_v_number K sa) (fCons (fC (.int 3)) (fNil))) [2])) (fNil))) (fCons (fCallI sa 0 (F_law_v_number K sa) (fCons (fC (.int 3)) (fNil))) (fNil))))
def F_law_v_row (K : PySem.W.Frag) (sa : Addr) (ds : List Da) : Fx Dr Da := fun s => if ds.length = 1 then runI (g_law_v_row K sa) sa 2 ds s else .no
theorem E_law_v_row (K : PySem.W.Frag) (sa : Addr) (d0 : Da) (s : Dr) : F_law_v_row K sa [d0] s = finI (g_law_v_row K sa [.raw (.ref sa), .dat d0, .no] s) := (if_pos rfl).trans (runI_eq _ _ _ _ _)
def g_law_v_some (K : PySem.W.Frag) (sa : Addr) : Sx Dr := gRet (fApp tupF (fCons (fSl (fCallI sa 0 (F_law_mixed K sa) (fCons (fLst (fUnN rngL (fName 1))) (fNil))) (fPart none) (fPart (some (fBin addF0 (fC (.int 1)) (fCallI sa 0 (F_law_draw K sa) (fCons (fName 1) (fNil))))))) (fNil)))
def F_law_v_some (K : PySem.W.Frag) (sa : Addr) (ds : List Da) : Fx Dr Da := fun s => if ds.length = 1 then runI (g_law_v_some K sa) sa 1 ds s else .no
theorem E_law_v_some (K : PySem.W.Frag) (sa : Addr) (d0 : Da) (s : Dr) : F_law_v_some K sa [d0] s = finI (g_law_v_some K sa [.raw (.ref sa), .dat d0] s) := (if_pos rfl).trans (runI_eq _ _ _ _ _)
def g_law_v_layer_for (K : PySem.W.Frag) (sa : Addr) : Sx Dr := gSeq (gSet 3 (fCallI sa 0 (F_law_draw K sa) (fCons (fC (.int 5)) (fNil)))) (gSeq (gIf (fAnd (fTest (fBin eqF (fName 3) (fC (.int 0)))) (fTest (fBin gtF (fName 2) (fC (.int 0))))) (gRet (fTup (fCons (fC (.str "rest")) (fCons (fApp tupF (fCons (fLst (fAppN sortA (fCons (fCallI sa 0 (F_law_v_some K sa) (fCons (fApp minF (fCons (fName 1) (fCons (fName 2) (fNil)))) (fNil))) (fNil)))) (fNil))) (fNil))))) (gNx)) (gSeq (gIf (fAnd (fTest (fBin eqF (fName 3) (fC (.int 1)))) (fTest (fBin geF (fName 2) (fBin subF (fName 1) (fC (.int 1)))))) (gRet (fTup (fCons (fC (.str "pool")) (fCons (fApp tupF (fCons (fLst (fComp (fRng1 (fCons (fBin addF0 (fC (.int 1)) (fCallI sa 0 (F_law_draw K sa) (fCons (fC (.int 2)) (fNil)))) (fNil))) (hName 5) (fTrue) (fIf (fTest (fBin eqF (fName 5) (fC (.int 0)))) (fCallI sa 0 (F_law_v_some K sa) (fCons (fName 1) (fNil))) (fTup (fCons (fCallI sa 0 (F_law_draw K sa) (fCons (fName 1) (fNil))) (fNil)))) [5])) (fNil))) (fNil))))) (gNx)) (gRet (fTup (fCons (fC (.str "mix")) (fCons (fApp tupF (fCons (fLst (fComp (fRng1 (fCons (fBin addF0 (fC (.int 1)) (fCallI sa 0 (F_law_draw K sa) (fCons (fC (.int 3)) (fNil)))) (fNil))) (hName 4) (fTrue) (fCallI sa 0 (F_law_v_row K sa) (fCons (fName 1) (fNil))) [4])) (fNil))) (fNil)))))))
def F_law_v_layer_for (K : PySem.W.Frag) (sa : Addr) (ds : List Da) : Fx Dr Da := fun s => if ds.length = 2 then runI (g_law_v_layer_for K sa) sa 5 ds s else .no
theorem E_law_v_layer_for (K : PySem.W.Frag) (sa : Addr) (d0 d1 : Da) (s : Dr) : F_law_v_layer_for K sa [d0, d1] s = finI (g_law_v_layer_for K sa [.raw (.ref sa), .dat d0, .dat d1, .no, .no, .no] s) := (if_pos rfl).trans (runI_eq _ _ _ _ _)
def g_law_v_bends (K : PySem.W.Frag) : Sx Unit := gSeq (gIf (fTest (fBin eqF (fBin ixF (fName 0) (fC (.int 0))) (fC (.str "rest")))) (gRet (fApp lenF (fCons (fBin ixF (fName 0) (fC (.int 1))) (fNil)))) (gNx)) (gRet (fIf (fTest (fBin eqF (fBin ixF (fName 0) (fC (.int 0))) (fC (.str "pool")))) (fApp sumF (fCons (fLst (fComp (fIt (fBin ixF (fName 0) (fC (.int 1)))) (hName 1) (fTrue) (fBin subF (fApp lenF (fCons (fName 1) (fNil))) (fC (.int 1))) [1])) (fNil))) (fC (.int 0))))
def F_law_v_bends (K : PySem.W.Frag) (ds : List Da) : Rp Da := if ds.length = 1 then runD (g_law_v_bends K) 2 ds else .no
theorem E_law_v_bends (K : PySem.W.Frag) (d0 : Da) : F_law_v_bends K [d0] = finD (g_law_v_bends K [.dat d0, .no] ()) := (if_pos rfl).trans (runD_eq _ _ _)
def g_law_v_net (K : PySem.W.Frag) (sa : Addr) : Sx Dr := gSeq (gParM3 5 6 7 (mOwn (fNil) (mDat (fName 1) (mDat (fName 3) (mNil))))) (gSeq (gFor (fRng1 (fCons (fName 2) (fNil))) (hName 4) (gSeq (gSet 8 (fCallI sa 0 (F_law_v_layer_for K sa) (fCons (fName 6) (fCons (fName 7) (fNil))))) (gSeq (gApp 5 (fName 8)) (gSeq (gSet 7 (fBin subF (fName 7) (fCall (F_law_v_bends K) (fCons (fName 8) (fNil))))) (gSet 6 (fIf (fTest (fBin eqF (fBin ixF (fName 8) (fC (.int 0))) (fC (.str "rest")))) (fName 6) (fApp lenF (fCons (fBin ixF (fName 8) (fC (.int 1))) (fNil))))))))) (gRet (fTup (fCons (fName 1) (fCons (fApp tupF (fCons (fNameO 5) (fNil))) (fNil))))))
def F_law_v_net (K : PySem.W.Frag) (sa : Addr) (ds : List Da) : Fx Dr Da := fun s => if ds.length = 3 then runI (g_law_v_net K sa) sa 8 ds s else .no
theorem E_law_v_net (K : PySem.W.Frag) (sa : Addr) (d0 d1 d2 : Da) (s : Dr) : F_law_v_net K sa [d0, d1, d2] s = finI (g_law_v_net K sa [.raw (.ref sa), .dat d0, .dat d1, .dat d2, .no, .no, .no, .no, .no] s) := (if_pos rfl).trans (runI_eq _ _ _ _ _)
def g_law_v_input (K : PySem.W.Frag) (sa : Addr) : Sx Dr := gRet (fApp tupF (fCons (fLst (fComp (fRng1 (fCons (fName 1) (fNil))) (hName 2) (fTrue) (fCallI sa 0 (F_law_v_number K sa) (fCons (fC (.int 4)) (fNil))) [2])) (fNil)))
def F_law_v_input (K : PySem.W.Frag) (sa : Addr) (ds : List Da) : Fx Dr Da := fun s => if ds.length = 1 then runI (g_law_v_input K sa) sa 2 ds s else .no
theorem E_law_v_input (K : PySem.W.Frag) (sa : Addr) (d0 : Da) (s : Dr) : F_law_v_input K sa [d0] s = finI (g_law_v_input K sa [.raw (.ref sa), .dat d0, .no] s) := (if_pos rfl).trans (runI_eq _ _ _ _ _)
def g_law_v_kind (K : PySem.W.Frag) : Sx Unit := gSeq (gIf (fTest (fBin isNF (fName 0) (fC .non))) (gRet (fC (.str ""))) (gNx)) (gSeq (gSet 1 (fBin addF0 (fBin addF0 (fIf (fTest (fUn (isiF K exL (.ref (He.ga K "BadNet"))) (fName 0))) (fC (.str "net ")) (fC (.str ""))) (fIf (fTest (fUn (isiF K exL (.ref (He.ga K "BadNets"))) (fName 0))) (fC (.str "nets ")) (fC (.str "")))) (fIf (fTest (fUn (isiF K exL (.ref (He.ga K "BadFraction"))) (fName 0))) (fC (.str "fraction ")) (fC (.str ""))))) (gSeq (gSet 1 (fBin addF0 (fBin addF0 (fBin addF0 (fName 1) (fIf (fTest (fUn (isiF K exL (.ref (He.ga K "BadClaim"))) (fName 0))) (fC (.str "claim ")) (fC (.str "")))) (fIf (fTest (fUn (isiF K exL (.ref (He.ga K "BadPlace"))) (fName 0))) (fC (.str "place ")) (fC (.str "")))) (fIf (fTest (fUn (isiF K exL (.ref (He.ga K "TooGreat"))) (fName 0))) (fC (.str "great ")) (fC (.str ""))))) (gRet (fBin addF0 (fBin addF0 (fName 1) (fIf (fTest (fUn (isiF K exL (.ref (He.ga K "BadEdit"))) (fName 0))) (fC (.str "edit ")) (fC (.str "")))) (fIf (fTest (fUn (isiF K exL (.ref (He.ga K "Uneditable"))) (fName 0))) (fC (.str "uneditable ")) (fC (.str "")))))))
def F_law_v_kind (K : PySem.W.Frag) (ds : List Da) : Rp Da := if ds.length = 1 then runD (g_law_v_kind K) 2 ds else .no
theorem E_law_v_kind (K : PySem.W.Frag) (d0 : Da) : F_law_v_kind K [d0] = finD (g_law_v_kind K [.dat d0, .no] ()) := (if_pos rfl).trans (runD_eq _ _ _)
def g_law_k82_value (K : PySem.W.Frag) : Sx Unit := gRet (fCall (F_law_v_plus K) (fCons (fCall (F_law_v_sum K) (fCons (fBin ixF (fName 1) (fC (.int 0))) (fCons (fName 2) (fCons (fBin ixF (fName 1) (fC (.int 2))) (fNil))))) (fCons (fCall (F_law_v_sum K) (fCons (fBin ixF (fName 1) (fC (.int 1))) (fCons (fCall (F_law_v_told K) (fCons (fName 0) (fCons (fName 2) (fNil)))) (fCons (fTup (fCons (fC (.int 0)) (fCons (fC (.int 1)) (fNil)))) (fNil))))) (fNil))))
def F_law_k82_value (K : PySem.W.Frag) (ds : List Da) : Rp Da := if ds.length = 3 then runD (g_law_k82_value K) 3 ds else .no
theorem E_law_k82_value (K : PySem.W.Frag) (d0 d1 d2 : Da) : F_law_k82_value K [d0, d1, d2] = finD (g_law_k82_value K [.dat d0, .dat d1, .dat d2] ()) := (if_pos rfl).trans (runD_eq _ _ _)
def g_law (K : PySem.W.Frag) (sa : Addr) : Sx Dr := gSeq (gFor (fRng1 (fCons (fBin addF0 (fC (.int 5)) (fApp minF (fCons (fApp lenF (fCons (fName 0) (fNil))) (fCons (fC (.int 10)) (fNil))))) (fNil))) (hName 2) (gSeq (gSet 4 (fBin addF0 (fC (.int 1)) (fCallI sa 1 (F_law_draw K sa) (fCons (fC (.int 3)) (fNil))))) (gSeq (gSet 5 (fCallI sa 1 (F_law_v_net K sa) (fCons (fName 4) (fCons (fBin addF0 (fC (.int 1)) (fCallI sa 1 (F_law_draw K sa) (fCons (fC (.int 3)) (fNil)))) (fCons (fC (.int 4)) (fNil)))))) (gSeq (gSet 6 (fBin ixF (fCall (F_widths_of K) (fCons (fName 5) (fNil))) (fUn negF (fC (.int 1))))) (gSeq (gIf (fTest (fBin gtF (fCallI sa 1 (F_law_draw K sa) (fCons (fC (.int 4)) (fNil))) (fC (.int 0)))) (gSet 5 (fTup (fCons (fName 4) (fCons (fBin addF0 (fBin ixF (fName 5) (fC (.int 1))) (fTup (fCons (fTup (fCons (fC (.str "mix")) (fCons (fApp tupF (fCons (fLst (fComp (fRng1 (fCons (fBin addF0 (fC (.int 1)) (fCallI sa 1 (F_law_draw K sa) (fCons (fC (.int 3)) (fNil)))) (fNil))) (hName 11) (fTrue) (fCallI sa 1 (F_law_v_row K sa) (fCons (fName 6) (fNil))) [11])) (fNil))) (fNil)))) (fNil)))) (fNil))))) (gNx)) (gSeq (gSet 6 (fBin ixF (fCall (F_widths_of K) (fCons (fName 5) (fNil))) (fUn negF (fC (.int 1))))) (gSeq (gSet 7 (fTup (fCons (fCallI sa 1 (F_law_v_input K sa) (fCons (fName 4) (fNil))) (fCons (fCallI sa 1 (F_law_v_input K sa) (fCons (fName 6) (fNil))) (fCons (fCallI sa 1 (F_law_v_number K sa) (fCons (fC (.int 4)) (fNil))) (fNil)))))) (gSeq (gSet 8 (fKept exL (fCall (F_carried_back K) (fCons (fName 5) (fCons (fName 7) (fNil)))))) (gSeq (gIf (fTest (fBin neF (fBin ixF (fBin ixF (fBin ixF (fName 5) (fC (.int 1))) (fUn negF (fC (.int 1)))) (fC (.int 0))) (fC (.str "mix")))) (gSeq (gIf (fTest (fBin neF (fCall (F_law_v_kind K) (fCons (fName 8) (fNil))) (fC (.str "nets ")))) (gRet (fC (.bl false))) (gNx)) (gCt)) (gNx)) (gSeq (gIf (fTest (fBin notNF (fName 8) (fC .non))) (gRet (fC (.bl false))) (gNx)) (gSeq (gSet 9 (fCall (F_carried_back K) (fPick [1, 0] (fNil) (fCons (fName 7) (fCons (fName 5) (fNil)))))) (gSeq (gSet 10 (fTup (fCons (fName 4) (fCons (fSl (fBin ixF (fName 5) (fC (.int 1))) (fPart none) (fPart (some (fUn negF (fC (.int 1)))))) (fNil))))) (gSeq (gIf (fOr (fNot (fTest (fCall (F_is_claim K) (fCons (fName 9) (fCons (fName 4) (fCons (fBin ixF (fCall (F_widths_of K) (fCons (fName 10) (fNil))) (fUn negF (fC (.int 1)))) (fNil))))))) (fTest (fBin neF (fApp reprF (fCons (fCall (F_carried_back K) (fCons (fName 5) (fCons (fName 7) (fNil)))) (fNil))) (fApp reprF (fCons (fName 9) (fNil)))))) (gRet (fC (.bl false))) (gNx)) (gSeq (gFor (fRng1 (fCons (fC (.int 3)) (fNil))) (hName 11) (gSeq (gSet 13 (fCallI sa 1 (F_law_v_input K sa) (fCons (fName 4) (fNil)))) (gIf (fTest (fBin neF (fCall (F_law_k82_value K) (fCons (fName 10) (fCons (fName 9) (fCons (fName 13) (fNil))))) (fCall (F_law_k82_value K) (fCons (fName 5) (fCons (fName 7) (fCons (fName 13) (fNil))))))) (gRet (fC (.bl false))) (gNx)))) (gSeq (gFor (fIt (fLst (fCons (fC .non) (fCons (fSl (fName 7) (fPart none) (fPart (some (fC (.int 2))))) (fCons (fTup (fCons (fBin ixF (fName 7) (fC (.int 0))) (fCons (fBin addF0 (fBin ixF (fName 7) (fC (.int 1))) (fTup (fCons (fTup (fCons (fC (.int 0)) (fCons (fC (.int 1)) (fNil)))) (fNil)))) (fCons (fBin ixF (fName 7) (fC (.int 2))) (fNil))))) (fCons (fTup (fCons (fBin ixF (fName 7) (fC (.int 0))) (fCons (fBin ixF (fName 7) (fC (.int 1))) (fCons (fTup (fCons (fC (.int 1)) (fCons (fC (.int 0)) (fNil)))) (fNil))))) (fNil))))))) (hName 12) (gIf (fTest (fBin neF (fCall (F_law_v_kind K) (fCons (fKept exL (fCall (F_carried_back K) (fCons (fName 5) (fCons (fName 12) (fNil))))) (fNil))) (fC (.str "claim ")))) (gRet (fC (.bl false))) (gNx))) (gIf (fTest (fBin neF (fCall (F_law_v_kind K) (fCons (fKept exL (fCall (F_carried_back K) (fCons (fC .non) (fCons (fName 7) (fNil))))) (fNil))) (fC (.str "net ")))) (gRet (fC (.bl false))) (gNx))))))))))))))))) (gSeq (gSet 3 (fTup (fCons (fC (.int 1)) (fCons (fTup (fCons (fTup (fCons (fC (.str "mix")) (fCons (fTup (fCons (fTup (fCons (fTup (fCons (fTup (fCons (fBin powF (fC (.int 10)) (fC (.int 8))) (fCons (fC (.int 1)) (fNil)))) (fNil))) (fCons (fTup (fCons (fC (.int 0)) (fCons (fC (.int 1)) (fNil)))) (fNil)))) (fNil))) (fNil)))) (fNil))) (fNil))))) (gSeq (gIf (fTest (fBin neF (fCall (F_law_v_kind K) (fCons (fKept exL (fCall (F_carried_back K) (fCons (fName 3) (fCons (fTup (fCons (fTup (fCons (fTup (fCons (fC (.int 0)) (fCons (fC (.int 1)) (fNil)))) (fNil))) (fCons (fTup (fCons (fTup (fCons (fC (.int 11)) (fCons (fC (.int 1)) (fNil)))) (fNil))) (fCons (fTup (fCons (fC (.int 0)) (fCons (fC (.int 1)) (fNil)))) (fNil))))) (fNil))))) (fNil))) (fC (.str "great ")))) (gRet (fC (.bl false))) (gNx)) (gRet (fBin eqF (fCall (F_law_v_kind K) (fCons (fKept exL (fCall (F_carried_back K) (fCons (fTup (fCons (fC (.int 1)) (fCons (fTup (fNil)) (fNil)))) (fCons (fTup (fCons (fTup (fCons (fTup (fCons (fC (.int 0)) (fCons (fC (.int 1)) (fNil)))) (fNil))) (fCons (fTup (fCons (fTup (fCons (fC (.int 1)) (fCons (fC (.int 1)) (fNil)))) (fNil))) (fCons (fTup (fCons (fC (.int 0)) (fCons (fC (.int 1)) (fNil)))) (fNil))))) (fNil))))) (fNil))) (fC (.str "nets "))))))
def envL (ns : List Int) (sa : Addr) : Ev := [.dat (.lst (ns.map Da.int)), .raw (.ref sa), .no, .no, .no, .no, .no, .no, .no, .no, .no, .no, .no, .no]
end Sw

set_option Elab.async false
set_option linter.all false
set_option maxRecDepth 100000
set_option maxHeartbeats 0
/-! SwHd: the head of k82; printed. -/
namespace Sw
open PySem PySem.Spec PyProof.Rows L2 LamX

def top (i : Nat) : Stmt := PySem.Challenge.pw_sureweights_k82_whole_claims_carried_bac.main.body.getD i (.Pass ⟨0, 0, 0, 0⟩)
abbrev s_is_whole : Stmt := top 1
abbrev s_is_number : Stmt := top 2
abbrev s_is_tuple_of : Stmt := top 3
abbrev s_is_headed : Stmt := top 4
abbrev s_are_unlike : Stmt := top 5
abbrev s_common_divisor : Stmt := top 20
abbrev s_reduced : Stmt := top 21
abbrev s_is_fraction : Stmt := top 22
abbrev s_is_given : Stmt := top 23
abbrev s_is_weight : Stmt := top 24
abbrev s_plus : Stmt := top 25
abbrev s_by : Stmt := top 26
abbrev s_sum_of : Stmt := top 27
abbrev s_are_given : Stmt := top 33
abbrev s_is_places : Stmt := top 34
abbrev s_is_row : Stmt := top 35
abbrev s_is_layer : Stmt := top 36
abbrev s_told_by : Stmt := top 37
abbrev s_bends_in : Stmt := top 38
abbrev s_is_net : Stmt := top 39
abbrev s_need_net : Stmt := top 40
abbrev s_widths_in : Stmt := top 41
abbrev s_widths_of : Stmt := top 42
abbrev s_outputs_of : Stmt := top 43
abbrev s_is_claim : Stmt := top 44
abbrev s_carried_back : Stmt := top 46
abbrev s_law_begun : Stmt := top 48
abbrev s_law_blended : Stmt := top 49
abbrev s_law_draw : Stmt := top 50
abbrev s_law_mixed : Stmt := top 51
abbrev s_law_caught : Stmt := top 52
abbrev s_law_v_number : Stmt := top 53
abbrev s_law_v_low : Stmt := top 54
abbrev s_law_v_plus : Stmt := top 55
abbrev s_law_v_by : Stmt := top 56
abbrev s_law_v_above : Stmt := top 57
abbrev s_law_v_sum : Stmt := top 58
abbrev s_law_v_layer : Stmt := top 59
abbrev s_law_v_told : Stmt := top 60
abbrev s_law_v_row : Stmt := top 61
abbrev s_law_v_some : Stmt := top 62
abbrev s_law_v_layer_for : Stmt := top 63
abbrev s_law_v_net : Stmt := top 64
abbrev s_law_v_bends : Stmt := top 65
abbrev s_law_v_input : Stmt := top 66
abbrev s_law_v_kind : Stmt := top 67
abbrev s_law_k82_value : Stmt := top 68
abbrev s_law : Stmt := top 69
def d_is_whole : He.DefD := ⟨("is_whole", none), "is_whole", "is_whole", defArgs s_is_whole, defBody s_is_whole, defScope s_is_whole, [], []⟩
def d_is_number : He.DefD := ⟨("is_number", none), "is_number", "is_number", defArgs s_is_number, defBody s_is_number, defScope s_is_number, [], []⟩
def d_is_tuple_of : He.DefD := ⟨("is_tuple_of", none), "is_tuple_of", "is_tuple_of", defArgs s_is_tuple_of, defBody s_is_tuple_of, defScope s_is_tuple_of, [], []⟩
def d_is_headed : He.DefD := ⟨("is_headed", none), "is_headed", "is_headed", defArgs s_is_headed, defBody s_is_headed, defScope s_is_headed, [], []⟩
def d_are_unlike : He.DefD := ⟨("are_unlike", none), "are_unlike", "are_unlike", defArgs s_are_unlike, defBody s_are_unlike, defScope s_are_unlike, [], []⟩
def d_common_divisor : He.DefD := ⟨("common_divisor", none), "common_divisor", "common_divisor", defArgs s_common_divisor, defBody s_common_divisor, defScope s_common_divisor, [], []⟩
def d_reduced : He.DefD := ⟨("reduced", none), "reduced", "reduced", defArgs s_reduced, defBody s_reduced, defScope s_reduced, [], []⟩
def d_is_fraction : He.DefD := ⟨("is_fraction", none), "is_fraction", "is_fraction", defArgs s_is_fraction, defBody s_is_fraction, defScope s_is_fraction, [], []⟩
def d_is_given : He.DefD := ⟨("is_given", none), "is_given", "is_given", defArgs s_is_given, defBody s_is_given, defScope s_is_given, [], []⟩
def d_is_weight : He.DefD := ⟨("is_weight", none), "is_weight", "is_weight", defArgs s_is_weight, defBody s_is_weight, defScope s_is_weight, [], []⟩
def d_plus : He.DefD := ⟨("plus", none), "plus", "plus", defArgs s_plus, defBody s_plus, defScope s_plus, [], []⟩
def d_by : He.DefD := ⟨("by", none), "by", "by", defArgs s_by, defBody s_by, defScope s_by, [], []⟩
def d_sum_of : He.DefD := ⟨("sum_of", none), "sum_of", "sum_of", defArgs s_sum_of, defBody s_sum_of, defScope s_sum_of, [], []⟩
def d_are_given : He.DefD := ⟨("are_given", none), "are_given", "are_given", defArgs s_are_given, defBody s_are_given, defScope s_are_given, [], []⟩
def d_is_places : He.DefD := ⟨("is_places", none), "is_places", "is_places", defArgs s_is_places, defBody s_is_places, defScope s_is_places, [], []⟩
def d_is_row : He.DefD := ⟨("is_row", none), "is_row", "is_row", defArgs s_is_row, defBody s_is_row, defScope s_is_row, [], []⟩
def d_is_layer : He.DefD := ⟨("is_layer", none), "is_layer", "is_layer", defArgs s_is_layer, defBody s_is_layer, defScope s_is_layer, [], []⟩
def d_told_by : He.DefD := ⟨("told_by", none), "told_by", "told_by", defArgs s_told_by, defBody s_told_by, defScope s_told_by, [], []⟩
def d_bends_in : He.DefD := ⟨("bends_in", none), "bends_in", "bends_in", defArgs s_bends_in, defBody s_bends_in, defScope s_bends_in, [], []⟩
def d_is_net : He.DefD := ⟨("is_net", none), "is_net", "is_net", defArgs s_is_net, defBody s_is_net, defScope s_is_net, [], []⟩
def d_need_net : He.DefD := ⟨("need_net", none), "need_net", "need_net", defArgs s_need_net, defBody s_need_net, defScope s_need_net, [], []⟩
def d_widths_in : He.DefD := ⟨("widths_in", none), "widths_in", "widths_in", defArgs s_widths_in, defBody s_widths_in, defScope s_widths_in, [], []⟩
def d_widths_of : He.DefD := ⟨("widths_of", none), "widths_of", "widths_of", defArgs s_widths_of, defBody s_widths_of, defScope s_widths_of, [], []⟩
def d_outputs_of : He.DefD := ⟨("outputs_of", none), "outputs_of", "outputs_of", defArgs s_outputs_of, defBody s_outputs_of, defScope s_outputs_of, [], []⟩
def d_is_claim : He.DefD := ⟨("is_claim", none), "is_claim", "is_claim", defArgs s_is_claim, defBody s_is_claim, defScope s_is_claim, [], []⟩
def d_carried_back : He.DefD := ⟨("carried_back", none), "carried_back", "carried_back", defArgs s_carried_back, defBody s_carried_back, defScope s_carried_back, [], []⟩
def d_law_begun : He.DefD := ⟨("_law_begun", none), "_law_begun", "_law_begun", defArgs s_law_begun, defBody s_law_begun, defScope s_law_begun, [], []⟩
def d_law_blended : He.DefD := ⟨("_law_blended", none), "_law_blended", "_law_blended", defArgs s_law_blended, defBody s_law_blended, defScope s_law_blended, [], []⟩
def d_law_draw : He.DefD := ⟨("_law_draw", none), "_law_draw", "_law_draw", defArgs s_law_draw, defBody s_law_draw, defScope s_law_draw, [], []⟩
def d_law_mixed : He.DefD := ⟨("_law_mixed", none), "_law_mixed", "_law_mixed", defArgs s_law_mixed, defBody s_law_mixed, defScope s_law_mixed, [], []⟩
def d_law_caught : He.DefD := ⟨("_law_caught", none), "_law_caught", "_law_caught", defArgs s_law_caught, defBody s_law_caught, defScope s_law_caught, [], []⟩
def d_law_v_number : He.DefD := ⟨("_law_v_number", none), "_law_v_number", "_law_v_number", defArgs s_law_v_number, defBody s_law_v_number, defScope s_law_v_number, [], []⟩
def d_law_v_low : He.DefD := ⟨("_law_v_low", none), "_law_v_low", "_law_v_low", defArgs s_law_v_low, defBody s_law_v_low, defScope s_law_v_low, [], []⟩
def d_law_v_plus : He.DefD := ⟨("_law_v_plus", none), "_law_v_plus", "_law_v_plus", defArgs s_law_v_plus, defBody s_law_v_plus, defScope s_law_v_plus, [], []⟩
def d_law_v_by : He.DefD := ⟨("_law_v_by", none), "_law_v_by", "_law_v_by", defArgs s_law_v_by, defBody s_law_v_by, defScope s_law_v_by, [], []⟩
def d_law_v_above : He.DefD := ⟨("_law_v_above", none), "_law_v_above", "_law_v_above", defArgs s_law_v_above, defBody s_law_v_above, defScope s_law_v_above, [], []⟩
def d_law_v_sum : He.DefD := ⟨("_law_v_sum", none), "_law_v_sum", "_law_v_sum", defArgs s_law_v_sum, defBody s_law_v_sum, defScope s_law_v_sum, [], []⟩
def d_law_v_layer : He.DefD := ⟨("_law_v_layer", none), "_law_v_layer", "_law_v_layer", defArgs s_law_v_layer, defBody s_law_v_layer, defScope s_law_v_layer, [], []⟩
def d_law_v_told : He.DefD := ⟨("_law_v_told", none), "_law_v_told", "_law_v_told", defArgs s_law_v_told, defBody s_law_v_told, defScope s_law_v_told, [], []⟩
def d_law_v_row : He.DefD := ⟨("_law_v_row", none), "_law_v_row", "_law_v_row", defArgs s_law_v_row, defBody s_law_v_row, defScope s_law_v_row, [], []⟩
def d_law_v_some : He.DefD := ⟨("_law_v_some", none), "_law_v_some", "_law_v_some", defArgs s_law_v_some, defBody s_law_v_some, defScope s_law_v_some, [], []⟩
def d_law_v_layer_for : He.DefD := ⟨("_law_v_layer_for", none), "_law_v_layer_for", "_law_v_layer_for", defArgs s_law_v_layer_for, defBody s_law_v_layer_for, defScope s_law_v_layer_for, [], []⟩
def d_law_v_net : He.DefD := ⟨("_law_v_net", none), "_law_v_net", "_law_v_net", defArgs s_law_v_net, defBody s_law_v_net, defScope s_law_v_net, [], []⟩
def d_law_v_bends : He.DefD := ⟨("_law_v_bends", none), "_law_v_bends", "_law_v_bends", defArgs s_law_v_bends, defBody s_law_v_bends, defScope s_law_v_bends, [], []⟩
def d_law_v_input : He.DefD := ⟨("_law_v_input", none), "_law_v_input", "_law_v_input", defArgs s_law_v_input, defBody s_law_v_input, defScope s_law_v_input, [], []⟩
def d_law_v_kind : He.DefD := ⟨("_law_v_kind", none), "_law_v_kind", "_law_v_kind", defArgs s_law_v_kind, defBody s_law_v_kind, defScope s_law_v_kind, [], []⟩
def d_law_k82_value : He.DefD := ⟨("_law_k82_value", none), "_law_k82_value", "_law_k82_value", defArgs s_law_k82_value, defBody s_law_k82_value, defScope s_law_k82_value, [], []⟩
def d_law : He.DefD := ⟨("law", none), "law", "law", defArgs s_law, defBody s_law, defScope s_law, [], []⟩
def fnL : List He.DefD := [d_is_whole, d_is_number, d_is_tuple_of, d_is_headed, d_are_unlike, d_common_divisor, d_reduced, d_is_fraction, d_is_given, d_is_weight, d_plus, d_by, d_sum_of, d_are_given, d_is_places, d_is_row, d_is_layer, d_told_by, d_bends_in, d_is_net, d_need_net, d_widths_in, d_widths_of, d_outputs_of, d_is_claim, d_carried_back, d_law_begun, d_law_blended, d_law_draw, d_law_mixed, d_law_caught, d_law_v_number, d_law_v_low, d_law_v_plus, d_law_v_by, d_law_v_above, d_law_v_sum, d_law_v_layer, d_law_v_told, d_law_v_row, d_law_v_some, d_law_v_layer_for, d_law_v_net, d_law_v_bends, d_law_v_input, d_law_v_kind, d_law_k82_value, d_law]
def faL : List He.Fa := [.glo "NetError", .glo "BadClaim", .glo "BadEdit", .glo "BadFraction", .glo "BadNet", .glo "BadNets", .glo "BadPlace", .glo "TooGreat", .glo "Uneditable", .exc "BadClaim", .exc "BadEdit", .exc "BadFraction", .exc "BadNet", .exc "BadNets", .exc "BadPlace", .exc "TooGreat", .exc "Uneditable", .exm "BadClaim" "NetError" true, .exm "BadEdit" "NetError" true, .exm "BadFraction" "NetError" true, .exm "BadNet" "NetError" true, .exm "BadNets" "NetError" true, .exm "BadPlace" "NetError" true, .exm "TooGreat" "NetError" true, .exm "Uneditable" "NetError" true, .int "MOST_GIVEN" 999999999, .int "MOST_WEIGHT" 999999999999999999999999999999999999999999999999999999999999, .int "MOST_INPUTS" 4, .int "MOST_WIDTH" 6, .int "MOST_LAYERS" 8, .int "MOST_BENDS" 10, .free "abs", .free "all", .free "bool", .free "enumerate", .free "int", .free "isinstance", .free "len", .free "list", .free "min", .free "range", .free "repr", .free "set", .free "sorted", .free "str", .free "sum", .free "tuple", .free "zip", .glo "is_whole", .glo "is_number", .glo "is_tuple_of", .glo "is_headed", .glo "are_unlike", .glo "common_divisor", .glo "reduced", .glo "is_fraction", .glo "is_given", .glo "is_weight", .glo "plus", .glo "by", .glo "sum_of", .glo "are_given", .glo "is_places", .glo "is_row", .glo "is_layer", .glo "told_by", .glo "bends_in", .glo "is_net", .glo "need_net", .glo "widths_in", .glo "widths_of", .glo "outputs_of", .glo "is_claim", .glo "carried_back", .glo "_law_begun", .glo "_law_blended", .glo "_law_draw", .glo "_law_mixed", .glo "_law_caught", .glo "_law_v_number", .glo "_law_v_low", .glo "_law_v_plus", .glo "_law_v_by", .glo "_law_v_above", .glo "_law_v_sum", .glo "_law_v_layer", .glo "_law_v_told", .glo "_law_v_row", .glo "_law_v_some", .glo "_law_v_layer_for", .glo "_law_v_net", .glo "_law_v_bends", .glo "_law_v_input", .glo "_law_v_kind", .glo "_law_k82_value", .glo "law"]
def excB (K : PySem.W.Frag) (x : Str) : Bool :=
  He.eqO (PySem.W.findIn K (.ref (He.ga K x)) "__getattribute__") (some (some (.builtin "BaseException.__getattribute__"))) && (He.eqO (PySem.W.findIn K (.ref (He.ga K x)) "__getattr__") (some none) && (decide (PySem.W.subIn K (.ref (He.ga K x)) (.type "BaseException") = some true) && (PySem.W.hasDictIn K (He.ga K x) && (He.eqO (PySem.W.findIn K (.ref (He.ga K x)) "__class__") (some (some (.builtin "object.__class__"))) &&
  (He.eqO (PySem.W.specialIn K (.builtin "object.__class__") "__get__") (some (some (.builtin "getset_descriptor.__get__"))) && (decide (PySem.W.takesIn K (.builtin "object.__class__") = some true) && decide (PySem.W.mroIn K (He.ga K x) (.type "object") = some true)))))))
theorem excC_of {K : PySem.W.Frag} {x : Str} (h : excB K x = true) : ExcC K (He.ga K x) := by
  unfold excB at h
  obtain ⟨h1, h⟩ := He.ba h; obtain ⟨h2, h⟩ := He.ba h; obtain ⟨h3, h⟩ := He.ba h; obtain ⟨h4, h⟩ := He.ba h; obtain ⟨h5, h⟩ := He.ba h; obtain ⟨h6, h⟩ := He.ba h; obtain ⟨h7, h8⟩ := He.ba h
  exact ⟨He.eqO_ok h1, He.eqO_ok h2, of_decide_eq_true h3, h4, He.eqO_ok h5, He.eqO_ok h6, of_decide_eq_true h7, of_decide_eq_true h8⟩
def kitB2 (K : PySem.W.Frag) (t : Value) (c : Str) (b : Bool) : Bool := decide (PySem.W.kitOne K t (.ref (He.ga K c)) = some b)
/-- the classes that are asked for -/
def askL : List Str := ["BadFraction", "TooGreat", "Uneditable", "BadNet", "BadNets", "BadPlace", "BadEdit", "BadClaim"]
def exB (K : PySem.W.Frag) : Bool := glB K "ZERO" (.tup [(.int 0), (.int 1)]) && (exL.all (fun c => excB K c && askL.all fun d => kitB2 K (.ref (He.ga K c)) d (decide (c = d))) && (askL.all (fun d => kitB2 K (.type "NoneType") d false) && (true)))
def tfL : List He.Defn := [("law", none)]
abbrev R : PySem.W.OpenRow := PySem.W.OpenLaw.row PySem.Challenge.rw_sureweights_k82_whole_claims_carried_bac
abbrev hk : PySem.W.Hook := He.hookX 4 faL fnL [] tfL exB
def ob (s : PySem.W.SharedT) : He.AlX := He.obsX 4 faL fnL [] tfL exB (HandSHeadRun.getT s)
theorem ob_eq (s : PySem.W.SharedT) : ob s = hk.obs s.abs := He.obsX_eq (HandSHeadRun.getT_eq s)
def looseL : List Str := (["__name__", "NetError", "BadClaim", "BadEdit", "BadFraction", "BadNet", "BadNets", "BadPlace", "TooGreat", "Uneditable", "is_whole", "is_number", "is_tuple_of", "is_headed", "are_unlike", "MOST_GIVEN", "MOST_WEIGHT", "ZERO", "common_divisor", "reduced", "is_fraction", "is_given", "is_weight", "plus", "by", "sum_of", "MOST_INPUTS", "MOST_WIDTH", "MOST_LAYERS", "MOST_BENDS"] : List Str) ++ (["are_given", "is_places", "is_row", "is_layer", "told_by", "bends_in", "is_net", "need_net", "widths_in", "widths_of", "outputs_of", "is_claim", "carried_back", "_law_begun", "_law_blended", "_law_draw", "_law_mixed", "_law_caught", "_law_v_number", "_law_v_low", "_law_v_plus", "_law_v_by", "_law_v_above", "_law_v_sum", "_law_v_layer", "_law_v_told", "_law_v_row", "_law_v_some", "_law_v_layer_for", "_law_v_net"] : List Str) ++ (["_law_v_bends", "_law_v_input", "_law_v_kind", "_law_k82_value"] : List Str)
theorem run (w : World) : HandSHeadRun.RunEq R (PySem.W.view R.prog [69]) hk ob 20000 looseL w := by
  intro os
  kernel_rfl
/-- the facts of the top that the bodies ask -/
structure Fc (K : PySem.W.Frag) (mg : Str → Option Value) : Prop where
  f_abs : mg "abs" = none
  f_all : mg "all" = none
  f_bool : mg "bool" = none
  f_enumerate : mg "enumerate" = none
  f_int : mg "int" = none
  f_isinstance : mg "isinstance" = none
  f_len : mg "len" = none
  f_list : mg "list" = none
  f_min : mg "min" = none
  f_range : mg "range" = none
  f_repr : mg "repr" = none
  f_set : mg "set" = none
  f_sorted : mg "sorted" = none
  f_str : mg "str" = none
  f_sum : mg "sum" = none
  f_tuple : mg "tuple" = none
  f_zip : mg "zip" = none
  i_MOST_GIVEN : ∃ t, mg "MOST_GIVEN" = some (.int 999999999 t)
  i_MOST_WEIGHT : ∃ t, mg "MOST_WEIGHT" = some (.int 999999999999999999999999999999999999999999999999999999999999 t)
  i_MOST_INPUTS : ∃ t, mg "MOST_INPUTS" = some (.int 4 t)
  i_MOST_WIDTH : ∃ t, mg "MOST_WIDTH" = some (.int 6 t)
  i_MOST_LAYERS : ∃ t, mg "MOST_LAYERS" = some (.int 8 t)
  i_MOST_BENDS : ∃ t, mg "MOST_BENDS" = some (.int 10 t)
  d_ZERO : GlD K mg "ZERO" (.tup [(.int 0), (.int 1)])
  e_BadClaim : ExF K mg "BadClaim"
  e_BadEdit : ExF K mg "BadEdit"
  e_BadFraction : ExF K mg "BadFraction"
  e_BadNet : ExF K mg "BadNet"
  e_BadNets : ExF K mg "BadNets"
  e_BadPlace : ExF K mg "BadPlace"
  e_TooGreat : ExF K mg "TooGreat"
  e_Uneditable : ExF K mg "Uneditable"
  e_NetError : mg "NetError" = some (.ref (He.ga K "NetError"))
  exc : ∀ c ∈ exL, ExcC K (He.ga K c)
  exm : ∀ c ∈ exL, PySem.W.exmOne K (.ref (He.ga K c)) (.ref (He.ga K "NetError")) = some true
  kit : ∀ c ∈ exL, ∀ d ∈ askL, PySem.W.kitOne K (.ref (He.ga K c)) (.ref (He.ga K d)) = some (decide (c = d))
  kin : ∀ d ∈ askL, PySem.W.kitOne K (.type "NoneType") (.ref (He.ga K d)) = some false
end Sw

set_option Elab.async false
set_option linter.all false
set_option maxRecDepth 100000
set_option maxHeartbeats 4000000
/-! SwOk: the texts of k82 reckon it; printed. -/
namespace Sw
open PySem PySem.Spec PyProof.Rows L2 LamX

section
variable {P : Program} {w : World} {K : PySem.W.Frag} {mg : Str → Option Value} {base : Heap} {T : List (Addr × Str)}
theorem ok_is_whole {f : Addr} {fd : FuncData} (c : Fc K mg) (Fd : FunD K "is_whole" "is_whole" (defArgs s_is_whole) (defBody s_is_whole) (defScope s_is_whole) [] [] f fd) : FnOk P w K mg base (L2.CX P w) 1 f fd ["value"] (spP K (F_is_whole K)) := by
  have S : FnScope ["value"] ["value"] (defScope s_is_whole) := C8.fnScope_by (by decide +kernel)
  refine fnOk_of (g := g_is_whole K) Fd S (fun cdv A outer s H E hr => ?_) (runP_ok (g := g_is_whole K) (n := 1) (m := 1))
  exact dss_one (ds_ret (ps_ret (DE.pe (de_and (de_isi (L := []) (v := .ty "int") (u := .type "int") (by rfl) c.f_isinstance noExc (DE.o (de_name 0 (pe_var (i := 0) (by rfl) (by first | exact .inl rfl | exact .inr (.inl rfl) | exact .inr (.inr rfl))))) (pe_bltn (by rfl) c.f_int boot_int rfl) (.ty "int")) (de_one (de_not (de_isi (L := []) (v := .ty "bool") (u := .type "bool") (by rfl) c.f_isinstance noExc (DE.o (de_name 0 (pe_var (i := 0) (by rfl) (by first | exact .inl rfl | exact .inr (.inl rfl) | exact .inr (.inr rfl))))) (pe_bltn (by rfl) c.f_bool boot_bool rfl) (.ty "bool"))))))))
theorem ok_is_number {f : Addr} {fd : FuncData} (c : Fc K mg) (h_is_whole : FnP P w K mg base 1 "is_whole" ["value"] (F_is_whole K)) (Fd : FunD K "is_number" "is_number" (defArgs s_is_number) (defBody s_is_number) (defScope s_is_number) [] [] f fd) : FnOk P w K mg base (L2.CX P w) 2 f fd ["value", "least", "most"] (spP K (F_is_number K)) := by
  have S : FnScope ["value", "least", "most"] ["value", "least", "most"] (defScope s_is_number) := C8.fnScope_by (by decide +kernel)
  refine fnOk_of (g := g_is_number K) Fd S (fun cdv A outer s H E hr => ?_) (runP_ok (g := g_is_number K) (n := 3) (m := 3))
  exact dss_one (ds_ret (ps_ret (DE.pe (de_and (de_call (Ek := E) h_is_whole hr (by decide) passC (by rfl) (da_cons (de_name 0 (pe_var (i := 0) (by rfl) (by first | exact .inl rfl | exact .inr (.inl rfl) | exact .inr (.inr rfl)))) (da_nil))) (de_one (de_chain op_leA op_leA (opd_le _) (opd_le _) (DE.o (de_name 1 (pe_var (i := 1) (by rfl) (by first | exact .inl rfl | exact .inr (.inl rfl) | exact .inr (.inr rfl))))) (DE.o (de_name 0 (pe_var (i := 0) (by rfl) (by first | exact .inl rfl | exact .inr (.inl rfl) | exact .inr (.inr rfl))))) (DE.o (de_name 2 (pe_var (i := 2) (by rfl) (by first | exact .inl rfl | exact .inr (.inl rfl) | exact .inr (.inr rfl)))))))))))
theorem ok_is_tuple_of {f : Addr} {fd : FuncData} (c : Fc K mg) (Fd : FunD K "is_tuple_of" "is_tuple_of" (defArgs s_is_tuple_of) (defBody s_is_tuple_of) (defScope s_is_tuple_of) [] [] f fd) : FnOk P w K mg base (L2.CX P w) 1 f fd ["value", "size"] (spP K (F_is_tuple_of K)) := by
  have S : FnScope ["value", "size"] ["value", "size"] (defScope s_is_tuple_of) := C8.fnScope_by (by decide +kernel)
  refine fnOk_of (g := g_is_tuple_of K) Fd S (fun cdv A outer s H E hr => ?_) (runP_ok (g := g_is_tuple_of K) (n := 2) (m := 2))
  exact dss_one (ds_ret (ps_ret (DE.pe (de_and (de_isi (L := []) (v := .ty "tuple") (u := .type "tuple") (by rfl) c.f_isinstance noExc (DE.o (de_name 0 (pe_var (i := 0) (by rfl) (by first | exact .inl rfl | exact .inr (.inl rfl) | exact .inr (.inr rfl))))) (pe_bltn (by rfl) c.f_tuple boot_tuple rfl) (.ty "tuple")) (de_one (de_cmp (op_eqA hr.units) (opd_eq _) (DE.o (de_callB call_len (cal_len _) (by rfl) c.f_len boot_len (doa_cons (DE.o (de_name 0 (pe_var (i := 0) (by rfl) (by first | exact .inl rfl | exact .inr (.inl rfl) | exact .inr (.inr rfl))))) (doa_nil)))) (DE.o (de_name 1 (pe_var (i := 1) (by rfl) (by first | exact .inl rfl | exact .inr (.inl rfl) | exact .inr (.inr rfl))))) (by rfl)))))))
theorem ok_is_headed {f : Addr} {fd : FuncData} (c : Fc K mg) (Fd : FunD K "is_headed" "is_headed" (defArgs s_is_headed) (defBody s_is_headed) (defScope s_is_headed) [] [] f fd) : FnOk P w K mg base (L2.CX P w) 1 f fd ["value"] (spP K (F_is_headed K)) := by
  have S : FnScope ["value"] ["value"] (defScope s_is_headed) := C8.fnScope_by (by decide +kernel)
  refine fnOk_of (g := g_is_headed K) Fd S (fun cdv A outer s H E hr => ?_) (runP_ok (g := g_is_headed K) (n := 1) (m := 1))
  exact dss_one (ds_ret (ps_ret (DE.pe (de_and (de_isi (L := []) (v := .ty "tuple") (u := .type "tuple") (by rfl) c.f_isinstance noExc (DE.o (de_name 0 (pe_var (i := 0) (by rfl) (by first | exact .inl rfl | exact .inr (.inl rfl) | exact .inr (.inr rfl))))) (pe_bltn (by rfl) c.f_tuple boot_tuple rfl) (.ty "tuple")) (de_and (de_cmp (op_neA hr.units) (opd_ne _) (DE.o (de_name 0 (pe_var (i := 0) (by rfl) (by first | exact .inl rfl | exact .inr (.inl rfl) | exact .inr (.inr rfl))))) (DE.o (de_tup (da_nil) (by decide) (lenNil))) (by rfl)) (de_one (de_isi (L := []) (v := .ty "str") (u := .type "str") (by rfl) c.f_isinstance noExc (DE.o (de_ix ix_seq (opd_ix _) (DE.o (de_name 0 (pe_var (i := 0) (by rfl) (by first | exact .inl rfl | exact .inr (.inl rfl) | exact .inr (.inr rfl))))) (DE.o (de_int)) (by intro _ _; rfl))) (pe_bltn (by rfl) c.f_str boot_str rfl) (.ty "str"))))))))
theorem ok_are_unlike {f : Addr} {fd : FuncData} (c : Fc K mg) (Fd : FunD K "are_unlike" "are_unlike" (defArgs s_are_unlike) (defBody s_are_unlike) (defScope s_are_unlike) [] [] f fd) : FnOk P w K mg base (L2.CX P w) 1 f fd ["names"] (spP K (F_are_unlike K)) := by
  have S : FnScope ["names"] ["names"] (defScope s_are_unlike) := C8.fnScope_by (by decide +kernel)
  refine fnOk_of (g := g_are_unlike K) Fd S (fun cdv A outer s H E hr => ?_) (runP_ok (g := g_are_unlike K) (n := 1) (m := 1))
  exact dss_one (ds_ret (ps_ret (DE.pe (de_cmp (op_eqA hr.units) (opd_eq _) (DE.o (de_lenSet (by rfl) c.f_len (by rfl) c.f_set (de_name 0 (pe_var (i := 0) (by rfl) (by first | exact .inl rfl | exact .inr (.inl rfl) | exact .inr (.inr rfl)))))) (DE.o (de_callB call_len (cal_len _) (by rfl) c.f_len boot_len (doa_cons (DE.o (de_name 0 (pe_var (i := 0) (by rfl) (by first | exact .inl rfl | exact .inr (.inl rfl) | exact .inr (.inr rfl))))) (doa_nil)))) (by rfl)))))
theorem ok_common_divisor {f : Addr} {fd : FuncData} (c : Fc K mg) (Fd : FunD K "common_divisor" "common_divisor" (defArgs s_common_divisor) (defBody s_common_divisor) (defScope s_common_divisor) [] [] f fd) : FnOk P w K mg base (L2.CX P w) 1 f fd ["one", "other"] (spP K (F_common_divisor K)) := by
  have S : FnScope ["one", "other"] ["one", "other"] (defScope s_common_divisor) := C8.fnScope_by (by decide +kernel)
  refine fnOk_of (g := g_common_divisor K) Fd S (fun cdv A outer s H E hr => ?_) (runP_ok (g := g_common_divisor K) (n := 2) (m := 2))
  exact dss_cons (ds_par (by rfl) S.nd (by rfl) (by rfl) (by decide) (by rfl) (by rfl) (da_cons (de_callB call_abs (cal_abs _) (by rfl) c.f_abs boot_abs (doa_cons (DE.o (de_name 0 (pe_var (i := 0) (by rfl) (by first | exact .inl rfl | exact .inr (.inl rfl) | exact .inr (.inr rfl))))) (doa_nil))) (da_cons (de_callB call_abs (cal_abs _) (by rfl) c.f_abs boot_abs (doa_cons (DE.o (de_name 1 (pe_var (i := 1) (by rfl) (by first | exact .inl rfl | exact .inr (.inl rfl) | exact .inr (.inr rfl))))) (doa_nil))) (da_nil))) (by rfl)) (dss_cons (ds_whileI ownC (dt_cmp (op_neA hr.units) (opd_ne _) (DE.o (de_name 1 (pe_var (i := 1) (by rfl) (by first | exact .inl rfl | exact .inr (.inl rfl) | exact .inr (.inr rfl))))) (DE.o (de_int)) (by rfl)) (dss_one (ds_par (by rfl) S.nd (by rfl) (by rfl) (by decide) (by rfl) (by rfl) (da_cons (de_name 1 (pe_var (i := 1) (by rfl) (by first | exact .inl rfl | exact .inr (.inl rfl) | exact .inr (.inr rfl)))) (da_cons (de_bin op_modN (opd_mod _) (DE.o (de_name 0 (pe_var (i := 0) (by rfl) (by first | exact .inl rfl | exact .inr (.inl rfl) | exact .inr (.inr rfl))))) (DE.o (de_name 1 (pe_var (i := 1) (by rfl) (by first | exact .inl rfl | exact .inr (.inl rfl) | exact .inr (.inr rfl)))))) (da_nil))) (by rfl)))) (dss_one (ds_ret (ps_ret (DE.pe (de_name 0 (pe_var (i := 0) (by rfl) (by first | exact .inl rfl | exact .inr (.inl rfl) | exact .inr (.inr rfl)))))))))
theorem ok_reduced {f : Addr} {fd : FuncData} (c : Fc K mg) (h_common_divisor : FnP P w K mg base 1 "common_divisor" ["one", "other"] (F_common_divisor K)) (Fd : FunD K "reduced" "reduced" (defArgs s_reduced) (defBody s_reduced) (defScope s_reduced) [] [] f fd) : FnOk P w K mg base (L2.CX P w) 2 f fd ["number", "divisor"] (spP K (F_reduced K)) := by
  have S : FnScope ["number", "divisor", "common"] ["number", "divisor"] (defScope s_reduced) := C8.fnScope_by (by decide +kernel)
  refine fnOk_of (g := g_reduced K) Fd S (fun cdv A outer s H E hr => ?_) (runP_ok (g := g_reduced K) (n := 3) (m := 2))
  exact dss_cons (ds_if (ps_if (DT.pt (dt_cmp op_ltA (opd_lt _) (DE.o (de_name 1 (pe_var (i := 1) (by rfl) (by first | exact .inl rfl | exact .inr (.inl rfl) | exact .inr (.inr rfl))))) (DE.o (de_int)) (by rfl))) (dss_one (ds_par (by rfl) S.nd (by rfl) (by rfl) (by decide) (by rfl) (by rfl) (da_cons (de_neg (de_name 0 (pe_var (i := 0) (by rfl) (by first | exact .inl rfl | exact .inr (.inl rfl) | exact .inr (.inr rfl))))) (da_cons (de_neg (de_name 1 (pe_var (i := 1) (by rfl) (by first | exact .inl rfl | exact .inr (.inl rfl) | exact .inr (.inr rfl))))) (da_nil))) (by rfl))) (dss_nil))) (dss_cons (ds_set (ps_set (i := 2) S.nd (by rfl) (by first | exact .inl rfl | exact .inr rfl) (DE.pe (de_call (Ek := E) h_common_divisor hr (by decide) passC (by rfl) (da_cons (de_name 0 (pe_var (i := 0) (by rfl) (by first | exact .inl rfl | exact .inr (.inl rfl) | exact .inr (.inr rfl)))) (da_cons (de_name 1 (pe_var (i := 1) (by rfl) (by first | exact .inl rfl | exact .inr (.inl rfl) | exact .inr (.inr rfl)))) (da_nil))))))) (dss_one (ds_ret (ps_ret (DE.pe (de_tup (da_cons (de_bin op_fdivW (opd_div _) (DE.o (de_name 0 (pe_var (i := 0) (by rfl) (by first | exact .inl rfl | exact .inr (.inl rfl) | exact .inr (.inr rfl))))) (DE.o (de_name 2 (pe_var (i := 2) (by rfl) (by first | exact .inl rfl | exact .inr (.inl rfl) | exact .inr (.inr rfl)))))) (da_cons (de_bin op_fdivW (opd_div _) (DE.o (de_name 1 (pe_var (i := 1) (by rfl) (by first | exact .inl rfl | exact .inr (.inl rfl) | exact .inr (.inr rfl))))) (DE.o (de_name 2 (pe_var (i := 2) (by rfl) (by first | exact .inl rfl | exact .inr (.inl rfl) | exact .inr (.inr rfl)))))) (da_nil))) (by decide) (lenCons (lenCons (lenNil)))))))))
theorem ok_is_fraction {f : Addr} {fd : FuncData} (c : Fc K mg) (h_common_divisor : FnP P w K mg base 1 "common_divisor" ["one", "other"] (F_common_divisor K)) (h_is_tuple_of : FnP P w K mg base 1 "is_tuple_of" ["value", "size"] (F_is_tuple_of K)) (h_is_whole : FnP P w K mg base 1 "is_whole" ["value"] (F_is_whole K)) (Fd : FunD K "is_fraction" "is_fraction" (defArgs s_is_fraction) (defBody s_is_fraction) (defScope s_is_fraction) [] [] f fd) : FnOk P w K mg base (L2.CX P w) 2 f fd ["value"] (spP K (F_is_fraction K)) := by
  have S : FnScope ["value"] ["value"] (defScope s_is_fraction) := C8.fnScope_by (by decide +kernel)
  refine fnOk_of (g := g_is_fraction K) Fd S (fun cdv A outer s H E hr => ?_) (runP_ok (g := g_is_fraction K) (n := 1) (m := 1))
  exact dss_cons (ds_if (ps_if (DT.pt (DW.dt (dw_or (dt_not (dt_val (de_call (Ek := E) h_is_tuple_of hr (by decide) passC (by rfl) (da_cons (de_name 0 (pe_var (i := 0) (by rfl) (by first | exact .inl rfl | exact .inr (.inl rfl) | exact .inr (.inr rfl)))) (da_cons (de_int) (da_nil)))))) (dw_or (dt_not (dt_val (de_call (Ek := E) h_is_whole hr (by decide) passC (by rfl) (da_cons (de_ix ix_seq (opd_ix _) (DE.o (de_name 0 (pe_var (i := 0) (by rfl) (by first | exact .inl rfl | exact .inr (.inl rfl) | exact .inr (.inr rfl))))) (DE.o (de_int)) (by intro _ _; rfl)) (da_nil))))) (dw_or (dt_not (dt_val (de_call (Ek := E) h_is_whole hr (by decide) passC (by rfl) (da_cons (de_ix ix_seq (opd_ix _) (DE.o (de_name 0 (pe_var (i := 0) (by rfl) (by first | exact .inl rfl | exact .inr (.inl rfl) | exact .inr (.inr rfl))))) (DE.o (de_int)) (by intro _ _; rfl)) (da_nil))))) (dw_or1 (dt_cmp op_ltA (opd_lt _) (DE.o (de_ix ix_seq (opd_ix _) (DE.o (de_name 0 (pe_var (i := 0) (by rfl) (by first | exact .inl rfl | exact .inr (.inl rfl) | exact .inr (.inr rfl))))) (DE.o (de_int)) (by intro _ _; rfl))) (DE.o (de_int)) (by rfl)))))))) (dss_one (ds_ret (ps_ret (DE.pe (de_bl))))) (dss_nil))) (dss_one (ds_ret (ps_ret (DE.pe (de_cmp (op_eqA hr.units) (opd_eq _) (DE.o (de_call (Ek := E) h_common_divisor hr (by decide) passC (by rfl) (da_cons (de_ix ix_seq (opd_ix _) (DE.o (de_name 0 (pe_var (i := 0) (by rfl) (by first | exact .inl rfl | exact .inr (.inl rfl) | exact .inr (.inr rfl))))) (DE.o (de_int)) (by intro _ _; rfl)) (da_cons (de_ix ix_seq (opd_ix _) (DE.o (de_name 0 (pe_var (i := 0) (by rfl) (by first | exact .inl rfl | exact .inr (.inl rfl) | exact .inr (.inr rfl))))) (DE.o (de_int)) (by intro _ _; rfl)) (da_nil))))) (DE.o (de_int)) (by rfl))))))
theorem ok_is_given {f : Addr} {fd : FuncData} (c : Fc K mg) (h_is_fraction : FnP P w K mg base 2 "is_fraction" ["value"] (F_is_fraction K)) (Fd : FunD K "is_given" "is_given" (defArgs s_is_given) (defBody s_is_given) (defScope s_is_given) [] [] f fd) : FnOk P w K mg base (L2.CX P w) 3 f fd ["value"] (spP K (F_is_given K)) := by
  have S : FnScope ["value"] ["value"] (defScope s_is_given) := C8.fnScope_by (by decide +kernel)
  refine fnOk_of (g := g_is_given K) Fd S (fun cdv A outer s H E hr => ?_) (runP_ok (g := g_is_given K) (n := 1) (m := 1))
  exact dss_one (ds_ret (ps_ret (DE.pe (de_and (de_call (Ek := E) h_is_fraction hr (by decide) passC (by rfl) (da_cons (de_name 0 (pe_var (i := 0) (by rfl) (by first | exact .inl rfl | exact .inr (.inl rfl) | exact .inr (.inr rfl)))) (da_nil))) (de_and (de_cmp op_leA (opd_le _) (DE.o (de_callB call_abs (cal_abs _) (by rfl) c.f_abs boot_abs (doa_cons (DE.o (de_ix ix_seq (opd_ix _) (DE.o (de_name 0 (pe_var (i := 0) (by rfl) (by first | exact .inl rfl | exact .inr (.inl rfl) | exact .inr (.inr rfl))))) (DE.o (de_int)) (by intro _ _; rfl))) (doa_nil)))) (DE.o (de_gint c.i_MOST_GIVEN (by rfl))) (by rfl)) (de_one (de_cmp op_leA (opd_le _) (DE.o (de_ix ix_seq (opd_ix _) (DE.o (de_name 0 (pe_var (i := 0) (by rfl) (by first | exact .inl rfl | exact .inr (.inl rfl) | exact .inr (.inr rfl))))) (DE.o (de_int)) (by intro _ _; rfl))) (DE.o (de_gint c.i_MOST_GIVEN (by rfl))) (by rfl))))))))
theorem ok_is_weight {f : Addr} {fd : FuncData} (c : Fc K mg) (h_is_fraction : FnP P w K mg base 2 "is_fraction" ["value"] (F_is_fraction K)) (Fd : FunD K "is_weight" "is_weight" (defArgs s_is_weight) (defBody s_is_weight) (defScope s_is_weight) [] [] f fd) : FnOk P w K mg base (L2.CX P w) 3 f fd ["value"] (spP K (F_is_weight K)) := by
  have S : FnScope ["value"] ["value"] (defScope s_is_weight) := C8.fnScope_by (by decide +kernel)
  refine fnOk_of (g := g_is_weight K) Fd S (fun cdv A outer s H E hr => ?_) (runP_ok (g := g_is_weight K) (n := 1) (m := 1))
  exact dss_one (ds_ret (ps_ret (DE.pe (de_and (de_call (Ek := E) h_is_fraction hr (by decide) passC (by rfl) (da_cons (de_name 0 (pe_var (i := 0) (by rfl) (by first | exact .inl rfl | exact .inr (.inl rfl) | exact .inr (.inr rfl)))) (da_nil))) (de_and (de_cmp op_leA (opd_le _) (DE.o (de_callB call_abs (cal_abs _) (by rfl) c.f_abs boot_abs (doa_cons (DE.o (de_ix ix_seq (opd_ix _) (DE.o (de_name 0 (pe_var (i := 0) (by rfl) (by first | exact .inl rfl | exact .inr (.inl rfl) | exact .inr (.inr rfl))))) (DE.o (de_int)) (by intro _ _; rfl))) (doa_nil)))) (DE.o (de_gint c.i_MOST_WEIGHT (by rfl))) (by rfl)) (de_one (de_cmp op_leA (opd_le _) (DE.o (de_ix ix_seq (opd_ix _) (DE.o (de_name 0 (pe_var (i := 0) (by rfl) (by first | exact .inl rfl | exact .inr (.inl rfl) | exact .inr (.inr rfl))))) (DE.o (de_int)) (by intro _ _; rfl))) (DE.o (de_gint c.i_MOST_WEIGHT (by rfl))) (by rfl))))))))
theorem ok_plus {f : Addr} {fd : FuncData} (c : Fc K mg) (h_reduced : FnP P w K mg base 2 "reduced" ["number", "divisor"] (F_reduced K)) (Fd : FunD K "plus" "plus" (defArgs s_plus) (defBody s_plus) (defScope s_plus) [] [] f fd) : FnOk P w K mg base (L2.CX P w) 3 f fd ["one", "other"] (spP K (F_plus K)) := by
  have S : FnScope ["one", "other"] ["one", "other"] (defScope s_plus) := C8.fnScope_by (by decide +kernel)
  refine fnOk_of (g := g_plus K) Fd S (fun cdv A outer s H E hr => ?_) (runP_ok (g := g_plus K) (n := 2) (m := 2))
  exact dss_cons (ds_if (ps_if (DT.pt (dt_cmp (op_eqA hr.units) (opd_eq _) (DE.o (de_ix ix_seq (opd_ix _) (DE.o (de_name 0 (pe_var (i := 0) (by rfl) (by first | exact .inl rfl | exact .inr (.inl rfl) | exact .inr (.inr rfl))))) (DE.o (de_int)) (by intro _ _; rfl))) (DE.o (de_ix ix_seq (opd_ix _) (DE.o (de_name 1 (pe_var (i := 1) (by rfl) (by first | exact .inl rfl | exact .inr (.inl rfl) | exact .inr (.inr rfl))))) (DE.o (de_int)) (by intro _ _; rfl))) (by rfl))) (dss_one (ds_ret (ps_ret (DE.pe (de_call (Ek := E) h_reduced hr (by decide) passC (by rfl) (da_cons (de_bin op_addA (opd_add _) (DE.o (de_ix ix_seq (opd_ix _) (DE.o (de_name 0 (pe_var (i := 0) (by rfl) (by first | exact .inl rfl | exact .inr (.inl rfl) | exact .inr (.inr rfl))))) (DE.o (de_int)) (by intro _ _; rfl))) (DE.o (de_ix ix_seq (opd_ix _) (DE.o (de_name 1 (pe_var (i := 1) (by rfl) (by first | exact .inl rfl | exact .inr (.inl rfl) | exact .inr (.inr rfl))))) (DE.o (de_int)) (by intro _ _; rfl)))) (da_cons (de_ix ix_seq (opd_ix _) (DE.o (de_name 0 (pe_var (i := 0) (by rfl) (by first | exact .inl rfl | exact .inr (.inl rfl) | exact .inr (.inr rfl))))) (DE.o (de_int)) (by intro _ _; rfl)) (da_nil)))))))) (dss_nil))) (dss_one (ds_ret (ps_ret (DE.pe (de_call (Ek := E) h_reduced hr (by decide) passC (by rfl) (da_cons (de_bin op_addA (opd_add _) (DE.o (de_bin op_mulS (opd_mulS _) (DE.o (de_ix ix_seq (opd_ix _) (DE.o (de_name 0 (pe_var (i := 0) (by rfl) (by first | exact .inl rfl | exact .inr (.inl rfl) | exact .inr (.inr rfl))))) (DE.o (de_int)) (by intro _ _; rfl))) (DE.o (de_ix ix_seq (opd_ix _) (DE.o (de_name 1 (pe_var (i := 1) (by rfl) (by first | exact .inl rfl | exact .inr (.inl rfl) | exact .inr (.inr rfl))))) (DE.o (de_int)) (by intro _ _; rfl))))) (DE.o (de_bin op_mulS (opd_mulS _) (DE.o (de_ix ix_seq (opd_ix _) (DE.o (de_name 1 (pe_var (i := 1) (by rfl) (by first | exact .inl rfl | exact .inr (.inl rfl) | exact .inr (.inr rfl))))) (DE.o (de_int)) (by intro _ _; rfl))) (DE.o (de_ix ix_seq (opd_ix _) (DE.o (de_name 0 (pe_var (i := 0) (by rfl) (by first | exact .inl rfl | exact .inr (.inl rfl) | exact .inr (.inr rfl))))) (DE.o (de_int)) (by intro _ _; rfl)))))) (da_cons (de_bin op_mulS (opd_mulS _) (DE.o (de_ix ix_seq (opd_ix _) (DE.o (de_name 0 (pe_var (i := 0) (by rfl) (by first | exact .inl rfl | exact .inr (.inl rfl) | exact .inr (.inr rfl))))) (DE.o (de_int)) (by intro _ _; rfl))) (DE.o (de_ix ix_seq (opd_ix _) (DE.o (de_name 1 (pe_var (i := 1) (by rfl) (by first | exact .inl rfl | exact .inr (.inl rfl) | exact .inr (.inr rfl))))) (DE.o (de_int)) (by intro _ _; rfl)))) (da_nil))))))))
theorem ok_by {f : Addr} {fd : FuncData} (c : Fc K mg) (h_reduced : FnP P w K mg base 2 "reduced" ["number", "divisor"] (F_reduced K)) (Fd : FunD K "by" "by" (defArgs s_by) (defBody s_by) (defScope s_by) [] [] f fd) : FnOk P w K mg base (L2.CX P w) 3 f fd ["one", "other"] (spP K (F_by K)) := by
  have S : FnScope ["one", "other"] ["one", "other"] (defScope s_by) := C8.fnScope_by (by decide +kernel)
  refine fnOk_of (g := g_by K) Fd S (fun cdv A outer s H E hr => ?_) (runP_ok (g := g_by K) (n := 2) (m := 2))
  exact dss_one (ds_ret (ps_ret (DE.pe (de_call (Ek := E) h_reduced hr (by decide) passC (by rfl) (da_cons (de_bin op_mulS (opd_mulS _) (DE.o (de_ix ix_seq (opd_ix _) (DE.o (de_name 0 (pe_var (i := 0) (by rfl) (by first | exact .inl rfl | exact .inr (.inl rfl) | exact .inr (.inr rfl))))) (DE.o (de_int)) (by intro _ _; rfl))) (DE.o (de_ix ix_seq (opd_ix _) (DE.o (de_name 1 (pe_var (i := 1) (by rfl) (by first | exact .inl rfl | exact .inr (.inl rfl) | exact .inr (.inr rfl))))) (DE.o (de_int)) (by intro _ _; rfl)))) (da_cons (de_bin op_mulS (opd_mulS _) (DE.o (de_ix ix_seq (opd_ix _) (DE.o (de_name 0 (pe_var (i := 0) (by rfl) (by first | exact .inl rfl | exact .inr (.inl rfl) | exact .inr (.inr rfl))))) (DE.o (de_int)) (by intro _ _; rfl))) (DE.o (de_ix ix_seq (opd_ix _) (DE.o (de_name 1 (pe_var (i := 1) (by rfl) (by first | exact .inl rfl | exact .inr (.inl rfl) | exact .inr (.inr rfl))))) (DE.o (de_int)) (by intro _ _; rfl)))) (da_nil)))))))
theorem ok_sum_of {f : Addr} {fd : FuncData} (c : Fc K mg) (h_plus : FnP P w K mg base 3 "plus" ["one", "other"] (F_plus K)) (h_by : FnP P w K mg base 3 "by" ["one", "other"] (F_by K)) (Fd : FunD K "sum_of" "sum_of" (defArgs s_sum_of) (defBody s_sum_of) (defScope s_sum_of) [] [] f fd) : FnOk P w K mg base (L2.CX P w) 4 f fd ["weights", "vector", "bias"] (spP K (F_sum_of K)) := by
  have S : FnScope ["weights", "vector", "bias", "found", "weight", "number"] ["weights", "vector", "bias"] (defScope s_sum_of) := C8.fnScope_by (by decide +kernel)
  refine fnOk_of (g := g_sum_of K) Fd S (fun cdv A outer s H E hr => ?_) (runP_ok (g := g_sum_of K) (n := 6) (m := 3))
  exact dss_cons (ds_set (ps_set (i := 3) S.nd (by rfl) (by first | exact .inl rfl | exact .inr rfl) (DE.pe (de_name 2 (pe_var (i := 2) (by rfl) (by first | exact .inl rfl | exact .inr (.inl rfl) | exact .inr (.inr rfl))))))) (dss_cons (ds_forI (js := ([4] ++ ([5] ++ []))) ownC (by rfl) (di_zip (by rfl) c.f_zip (da_cons (de_name 0 (pe_var (i := 0) (by rfl) (by first | exact .inl rfl | exact .inr (.inl rfl) | exact .inr (.inr rfl)))) (da_cons (de_name 1 (pe_var (i := 1) (by rfl) (by first | exact .inl rfl | exact .inr (.inl rfl) | exact .inr (.inr rfl)))) (da_nil)))) (dg_tup (n := 2) (by rfl) (dgs_cons (dg_name 4 (pg_name S.nd (by rfl) (by first | exact .inl rfl | exact .inr rfl))) (dgs_cons (dg_name 5 (pg_name S.nd (by rfl) (by first | exact .inl rfl | exact .inr rfl))) (dgs_nil))) (fun _ _ _ e => hCons_len (fun _ _ _ e => hCons_len (fun _ _ _ e => hNil_len e) e) e)) (dss_one (ds_if (ps_if (DT.pt (DW.dt (dw_and (dt_cmp (op_neA hr.units) (opd_ne _) (DE.o (de_ix ix_seq (opd_ix _) (DE.o (de_name 4 (pe_var (i := 4) (by rfl) (by first | exact .inl rfl | exact .inr (.inl rfl) | exact .inr (.inr rfl))))) (DE.o (de_int)) (by intro _ _; rfl))) (DE.o (de_int)) (by rfl)) (dw_and1 (dt_cmp (op_neA hr.units) (opd_ne _) (DE.o (de_ix ix_seq (opd_ix _) (DE.o (de_name 5 (pe_var (i := 5) (by rfl) (by first | exact .inl rfl | exact .inr (.inl rfl) | exact .inr (.inr rfl))))) (DE.o (de_int)) (by intro _ _; rfl))) (DE.o (de_int)) (by rfl)))))) (dss_one (ds_set (ps_set (i := 3) S.nd (by rfl) (by first | exact .inl rfl | exact .inr rfl) (DE.pe (de_call (Ek := E) h_plus hr (by decide) passC (by rfl) (da_cons (de_name 3 (pe_var (i := 3) (by rfl) (by first | exact .inl rfl | exact .inr (.inl rfl) | exact .inr (.inr rfl)))) (da_cons (de_call (Ek := E) h_by hr (by decide) passC (by rfl) (da_cons (de_name 4 (pe_var (i := 4) (by rfl) (by first | exact .inl rfl | exact .inr (.inl rfl) | exact .inr (.inr rfl)))) (da_cons (de_name 5 (pe_var (i := 5) (by rfl) (by first | exact .inl rfl | exact .inr (.inl rfl) | exact .inr (.inr rfl)))) (da_nil)))) (da_nil)))))))) (dss_nil))))) (dss_one (ds_ret (ps_ret (DE.pe (de_name 3 (pe_var (i := 3) (by rfl) (by first | exact .inl rfl | exact .inr (.inl rfl) | exact .inr (.inr rfl)))))))))
theorem ok_are_given {f : Addr} {fd : FuncData} (c : Fc K mg) (h_is_tuple_of : FnP P w K mg base 1 "is_tuple_of" ["value", "size"] (F_is_tuple_of K)) (h_is_given : FnP P w K mg base 3 "is_given" ["value"] (F_is_given K)) (Fd : FunD K "are_given" "are_given" (defArgs s_are_given) (defBody s_are_given) (defScope s_are_given) [] [] f fd) : FnOk P w K mg base (L2.CX P w) 4 f fd ["value", "many"] (spP K (F_are_given K)) := by
  have S : FnScope ["value", "many", "one"] ["value", "many"] (defScope s_are_given) := C8.fnScope_by (by decide +kernel)
  refine fnOk_of (g := g_are_given K) Fd S (fun cdv A outer s H E hr => ?_) (runP_ok (g := g_are_given K) (n := 3) (m := 2))
  exact dss_one (ds_ret (ps_ret (DE.pe (de_and (de_call (Ek := E) h_is_tuple_of hr (by decide) passC (by rfl) (da_cons (de_name 0 (pe_var (i := 0) (by rfl) (by first | exact .inl rfl | exact .inr (.inl rfl) | exact .inr (.inr rfl)))) (da_cons (de_name 1 (pe_var (i := 1) (by rfl) (by first | exact .inl rfl | exact .inr (.inl rfl) | exact .inr (.inr rfl)))) (da_nil)))) (de_one (de_callB (cr_all rfl) (cal_all _) (by rfl) c.f_all boot_all (doa_cons (DE.o (DN.de (dn_comp (own := [("one", 2)]) (js := [2]) (by rfl) S.nd (di_any (de_name 0 (pe_var (i := 0) (by rfl) (by first | exact .inl rfl | exact .inr (.inl rfl) | exact .inr (.inr rfl))))) (blkOk_by (by rfl)) (by decide) (fun _ _ _ _ _ => dg_name 2 (pg_name S.nd (by rfl) (by first | exact .inl rfl | exact .inr rfl))) (fun _ _ _ _ _ => pts_nilD) (fun _ _ _ _ _ => de_call (Ek := (fun _ _ _ => False)) h_is_given hr (by decide) passB (by rfl) (da_cons (de_name 2 (pe_var (i := 2) (by rfl) (by first | exact .inl rfl | exact .inr (.inl rfl) | exact .inr (.inr rfl)))) (da_nil)))))) (doa_nil))))))))
theorem ok_is_places {f : Addr} {fd : FuncData} (c : Fc K mg) (h_are_unlike : FnP P w K mg base 1 "are_unlike" ["names"] (F_are_unlike K)) (h_is_number : FnP P w K mg base 2 "is_number" ["value", "least", "most"] (F_is_number K)) (Fd : FunD K "is_places" "is_places" (defArgs s_is_places) (defBody s_is_places) (defScope s_is_places) [] [] f fd) : FnOk P w K mg base (L2.CX P w) 3 f fd ["value", "most"] (spP K (F_is_places K)) := by
  have S : FnScope ["value", "most", "one"] ["value", "most"] (defScope s_is_places) := C8.fnScope_by (by decide +kernel)
  refine fnOk_of (g := g_is_places K) Fd S (fun cdv A outer s H E hr => ?_) (runP_ok (g := g_is_places K) (n := 3) (m := 2))
  exact dss_cons (ds_if (ps_if (DT.pt (DW.dt (dw_or (dt_not (dt_val (de_isi (L := []) (v := .ty "tuple") (u := .type "tuple") (by rfl) c.f_isinstance noExc (DE.o (de_name 0 (pe_var (i := 0) (by rfl) (by first | exact .inl rfl | exact .inr (.inl rfl) | exact .inr (.inr rfl))))) (pe_bltn (by rfl) c.f_tuple boot_tuple rfl) (.ty "tuple")))) (dw_or1 (dt_not (dt_val (de_callB (cr_all rfl) (cal_all _) (by rfl) c.f_all boot_all (doa_cons (DE.o (DN.de (dn_comp (own := [("one", 2)]) (js := [2]) (by rfl) S.nd (di_any (de_name 0 (pe_var (i := 0) (by rfl) (by first | exact .inl rfl | exact .inr (.inl rfl) | exact .inr (.inr rfl))))) (blkOk_by (by rfl)) (by decide) (fun _ _ _ _ _ => dg_name 2 (pg_name S.nd (by rfl) (by first | exact .inl rfl | exact .inr rfl))) (fun _ _ _ _ _ => pts_nilD) (fun _ _ _ _ _ => de_call (Ek := (fun _ _ _ => False)) h_is_number hr (by decide) passB (by rfl) (da_cons (de_name 2 (pe_var (i := 2) (by rfl) (by first | exact .inl rfl | exact .inr (.inl rfl) | exact .inr (.inr rfl)))) (da_cons (de_int) (da_cons (de_bin op_sub (opd_sub _) (DE.o (de_name 1 (pe_var (i := 1) (by rfl) (by first | exact .inl rfl | exact .inr (.inl rfl) | exact .inr (.inr rfl))))) (DE.o (de_int))) (da_nil)))))))) (doa_nil))))))))) (dss_one (ds_ret (ps_ret (DE.pe (de_bl))))) (dss_nil))) (dss_one (ds_ret (ps_ret (DE.pe (de_call (Ek := E) h_are_unlike hr (by decide) passC (by rfl) (da_cons (de_name 0 (pe_var (i := 0) (by rfl) (by first | exact .inl rfl | exact .inr (.inl rfl) | exact .inr (.inr rfl)))) (da_nil)))))))
theorem ok_is_row {f : Addr} {fd : FuncData} (c : Fc K mg) (h_is_weight : FnP P w K mg base 3 "is_weight" ["value"] (F_is_weight K)) (h_is_tuple_of : FnP P w K mg base 1 "is_tuple_of" ["value", "size"] (F_is_tuple_of K)) (Fd : FunD K "is_row" "is_row" (defArgs s_is_row) (defBody s_is_row) (defScope s_is_row) [] [] f fd) : FnOk P w K mg base (L2.CX P w) 4 f fd ["value", "many"] (spP K (F_is_row K)) := by
  have S : FnScope ["value", "many", "one"] ["value", "many"] (defScope s_is_row) := C8.fnScope_by (by decide +kernel)
  refine fnOk_of (g := g_is_row K) Fd S (fun cdv A outer s H E hr => ?_) (runP_ok (g := g_is_row K) (n := 3) (m := 2))
  exact dss_cons (ds_if (ps_if (DT.pt (DW.dt (dw_or (dt_not (dt_val (de_call (Ek := E) h_is_tuple_of hr (by decide) passC (by rfl) (da_cons (de_name 0 (pe_var (i := 0) (by rfl) (by first | exact .inl rfl | exact .inr (.inl rfl) | exact .inr (.inr rfl)))) (da_cons (de_int) (da_nil)))))) (dw_or1 (dt_not (dt_val (de_call (Ek := E) h_is_tuple_of hr (by decide) passC (by rfl) (da_cons (de_ix ix_seq (opd_ix _) (DE.o (de_name 0 (pe_var (i := 0) (by rfl) (by first | exact .inl rfl | exact .inr (.inl rfl) | exact .inr (.inr rfl))))) (DE.o (de_int)) (by intro _ _; rfl)) (da_cons (de_name 1 (pe_var (i := 1) (by rfl) (by first | exact .inl rfl | exact .inr (.inl rfl) | exact .inr (.inr rfl)))) (da_nil)))))))))) (dss_one (ds_ret (ps_ret (DE.pe (de_bl))))) (dss_nil))) (dss_one (ds_ret (ps_ret (DE.pe (de_and (de_call (Ek := E) h_is_weight hr (by decide) passC (by rfl) (da_cons (de_ix ix_seq (opd_ix _) (DE.o (de_name 0 (pe_var (i := 0) (by rfl) (by first | exact .inl rfl | exact .inr (.inl rfl) | exact .inr (.inr rfl))))) (DE.o (de_int)) (by intro _ _; rfl)) (da_nil))) (de_one (de_callB (cr_all rfl) (cal_all _) (by rfl) c.f_all boot_all (doa_cons (DE.o (DN.de (dn_comp (own := [("one", 2)]) (js := [2]) (by rfl) S.nd (di_any (de_ix ix_seq (opd_ix _) (DE.o (de_name 0 (pe_var (i := 0) (by rfl) (by first | exact .inl rfl | exact .inr (.inl rfl) | exact .inr (.inr rfl))))) (DE.o (de_int)) (by intro _ _; rfl))) (blkOk_by (by rfl)) (by decide) (fun _ _ _ _ _ => dg_name 2 (pg_name S.nd (by rfl) (by first | exact .inl rfl | exact .inr rfl))) (fun _ _ _ _ _ => pts_nilD) (fun _ _ _ _ _ => de_call (Ek := (fun _ _ _ => False)) h_is_weight hr (by decide) passB (by rfl) (da_cons (de_name 2 (pe_var (i := 2) (by rfl) (by first | exact .inl rfl | exact .inr (.inl rfl) | exact .inr (.inr rfl)))) (da_nil)))))) (doa_nil)))))))))
theorem ok_is_layer {f : Addr} {fd : FuncData} (c : Fc K mg) (h_is_places : FnP P w K mg base 3 "is_places" ["value", "most"] (F_is_places K)) (h_is_row : FnP P w K mg base 4 "is_row" ["value", "many"] (F_is_row K)) (h_is_headed : FnP P w K mg base 1 "is_headed" ["value"] (F_is_headed K)) (Fd : FunD K "is_layer" "is_layer" (defArgs s_is_layer) (defBody s_is_layer) (defScope s_is_layer) [] [] f fd) : FnOk P w K mg base (L2.CX P w) 5 f fd ["value", "many"] (spP K (F_is_layer K)) := by
  have S : FnScope ["value", "many", "row", "group"] ["value", "many"] (defScope s_is_layer) := C8.fnScope_by (by decide +kernel)
  refine fnOk_of (g := g_is_layer K) Fd S (fun cdv A outer s H E hr => ?_) (runP_ok (g := g_is_layer K) (n := 4) (m := 2))
  exact dss_cons (ds_if (ps_if (DT.pt (DW.dt (dw_or (dt_not (dt_val (de_call (Ek := E) h_is_headed hr (by decide) passC (by rfl) (da_cons (de_name 0 (pe_var (i := 0) (by rfl) (by first | exact .inl rfl | exact .inr (.inl rfl) | exact .inr (.inr rfl)))) (da_nil))))) (dw_or (dt_cmp (op_neA hr.units) (opd_ne _) (DE.o (de_callB call_len (cal_len _) (by rfl) c.f_len boot_len (doa_cons (DE.o (de_name 0 (pe_var (i := 0) (by rfl) (by first | exact .inl rfl | exact .inr (.inl rfl) | exact .inr (.inr rfl))))) (doa_nil)))) (DE.o (de_int)) (by rfl)) (dw_or1 (dt_not (dt_val (de_isi (L := []) (v := .ty "tuple") (u := .type "tuple") (by rfl) c.f_isinstance noExc (DE.o (de_ix ix_seq (opd_ix _) (DE.o (de_name 0 (pe_var (i := 0) (by rfl) (by first | exact .inl rfl | exact .inr (.inl rfl) | exact .inr (.inr rfl))))) (DE.o (de_int)) (by intro _ _; rfl))) (pe_bltn (by rfl) c.f_tuple boot_tuple rfl) (.ty "tuple"))))))))) (dss_one (ds_ret (ps_ret (DE.pe (de_bl))))) (dss_nil))) (dss_cons (ds_if (ps_if (DT.pt (dt_cmp (op_eqA hr.units) (opd_eq _) (DE.o (de_ix ix_seq (opd_ix _) (DE.o (de_name 0 (pe_var (i := 0) (by rfl) (by first | exact .inl rfl | exact .inr (.inl rfl) | exact .inr (.inr rfl))))) (DE.o (de_int)) (by intro _ _; rfl))) (DE.o (de_str)) (by rfl))) (dss_one (ds_ret (ps_ret (DE.pe (de_and (de_call (Ek := E) h_is_places hr (by decide) passC (by rfl) (da_cons (de_ix ix_seq (opd_ix _) (DE.o (de_name 0 (pe_var (i := 0) (by rfl) (by first | exact .inl rfl | exact .inr (.inl rfl) | exact .inr (.inr rfl))))) (DE.o (de_int)) (by intro _ _; rfl)) (da_cons (de_name 1 (pe_var (i := 1) (by rfl) (by first | exact .inl rfl | exact .inr (.inl rfl) | exact .inr (.inr rfl)))) (da_nil)))) (de_one (de_cmp (op_eqA hr.units) (opd_eq _) (DE.o (DN.de (dn_callTy call_list_of (cln_list _) (by rfl) c.f_list boot_list (doa_cons (DE.o (de_ix ix_seq (opd_ix _) (DE.o (de_name 0 (pe_var (i := 0) (by rfl) (by first | exact .inl rfl | exact .inr (.inl rfl) | exact .inr (.inr rfl))))) (DE.o (de_int)) (by intro _ _; rfl))) (doa_nil))))) (DE.o (DN.de (dn_callB cr_sortA (cln_sortA _) (by rfl) c.f_sorted boot_sorted (doa_cons (DE.o (de_ix ix_seq (opd_ix _) (DE.o (de_name 0 (pe_var (i := 0) (by rfl) (by first | exact .inl rfl | exact .inr (.inl rfl) | exact .inr (.inr rfl))))) (DE.o (de_int)) (by intro _ _; rfl))) (doa_nil))))) (by rfl)))))))) (dss_nil))) (dss_cons (ds_if (ps_if (DT.pt (dt_not (dt_chain op_leA op_leA (opd_le _) (opd_le _) (DE.o (de_int)) (DE.o (de_callB call_len (cal_len _) (by rfl) c.f_len boot_len (doa_cons (DE.o (de_ix ix_seq (opd_ix _) (DE.o (de_name 0 (pe_var (i := 0) (by rfl) (by first | exact .inl rfl | exact .inr (.inl rfl) | exact .inr (.inr rfl))))) (DE.o (de_int)) (by intro _ _; rfl))) (doa_nil)))) (DE.o (de_gint c.i_MOST_WIDTH (by rfl)))))) (dss_one (ds_ret (ps_ret (DE.pe (de_bl))))) (dss_nil))) (dss_cons (ds_if (ps_if (DT.pt (dt_cmp (op_eqA hr.units) (opd_eq _) (DE.o (de_ix ix_seq (opd_ix _) (DE.o (de_name 0 (pe_var (i := 0) (by rfl) (by first | exact .inl rfl | exact .inr (.inl rfl) | exact .inr (.inr rfl))))) (DE.o (de_int)) (by intro _ _; rfl))) (DE.o (de_str)) (by rfl))) (dss_one (ds_ret (ps_ret (DE.pe (de_callB (cr_all rfl) (cal_all _) (by rfl) c.f_all boot_all (doa_cons (DE.o (DN.de (dn_comp (own := [("row", 2)]) (js := [2]) (by rfl) S.nd (di_any (de_ix ix_seq (opd_ix _) (DE.o (de_name 0 (pe_var (i := 0) (by rfl) (by first | exact .inl rfl | exact .inr (.inl rfl) | exact .inr (.inr rfl))))) (DE.o (de_int)) (by intro _ _; rfl))) (blkOk_by (by rfl)) (by decide) (fun _ _ _ _ _ => dg_name 2 (pg_name S.nd (by rfl) (by first | exact .inl rfl | exact .inr rfl))) (fun _ _ _ _ _ => pts_nilD) (fun _ _ _ _ _ => de_call (Ek := (fun _ _ _ => False)) h_is_row hr (by decide) passB (by rfl) (da_cons (de_name 2 (pe_var (i := 2) (by rfl) (by first | exact .inl rfl | exact .inr (.inl rfl) | exact .inr (.inr rfl)))) (da_cons (de_name 1 (pe_var (i := 1) (by rfl) (by first | exact .inl rfl | exact .inr (.inl rfl) | exact .inr (.inr rfl)))) (da_nil))))))) (doa_nil))))))) (dss_nil))) (dss_one (ds_ret (ps_ret (DE.pe (de_and (de_cmp (op_eqA hr.units) (opd_eq _) (DE.o (de_ix ix_seq (opd_ix _) (DE.o (de_name 0 (pe_var (i := 0) (by rfl) (by first | exact .inl rfl | exact .inr (.inl rfl) | exact .inr (.inr rfl))))) (DE.o (de_int)) (by intro _ _; rfl))) (DE.o (de_str)) (by rfl)) (de_one (de_callB (cr_all rfl) (cal_all _) (by rfl) c.f_all boot_all (doa_cons (DE.o (DN.de (dn_comp (own := [("group", 3)]) (js := [3]) (by rfl) S.nd (di_any (de_ix ix_seq (opd_ix _) (DE.o (de_name 0 (pe_var (i := 0) (by rfl) (by first | exact .inl rfl | exact .inr (.inl rfl) | exact .inr (.inr rfl))))) (DE.o (de_int)) (by intro _ _; rfl))) (blkOk_by (by rfl)) (by decide) (fun _ _ _ _ _ => dg_name 3 (pg_name S.nd (by rfl) (by first | exact .inl rfl | exact .inr rfl))) (fun _ _ _ _ _ => pts_nilD) (fun _ _ _ _ _ => de_and (de_call (Ek := (fun _ _ _ => False)) h_is_places hr (by decide) passB (by rfl) (da_cons (de_name 3 (pe_var (i := 3) (by rfl) (by first | exact .inl rfl | exact .inr (.inl rfl) | exact .inr (.inr rfl)))) (da_cons (de_name 1 (pe_var (i := 1) (by rfl) (by first | exact .inl rfl | exact .inr (.inl rfl) | exact .inr (.inr rfl)))) (da_nil)))) (de_one (de_cmp (op_neA hr.units) (opd_ne _) (DE.o (de_name 3 (pe_var (i := 3) (by rfl) (by first | exact .inl rfl | exact .inr (.inl rfl) | exact .inr (.inr rfl))))) (DE.o (de_tup (da_nil) (by decide) (lenNil))) (by rfl))))))) (doa_nil))))))))))))
theorem ok_told_by {f : Addr} {fd : FuncData} (c : Fc K mg) (Fd : FunD K "told_by" "told_by" (defArgs s_told_by) (defBody s_told_by) (defScope s_told_by) [] [] f fd) : FnOk P w K mg base (L2.CX P w) 1 f fd ["layer", "many"] (spP K (F_told_by K)) := by
  have S : FnScope ["layer", "many"] ["layer", "many"] (defScope s_told_by) := C8.fnScope_by (by decide +kernel)
  refine fnOk_of (g := g_told_by K) Fd S (fun cdv A outer s H E hr => ?_) (runP_ok (g := g_told_by K) (n := 2) (m := 2))
  exact dss_one (ds_ret (ps_ret (DE.pe (de_if (dt_cmp (op_eqA hr.units) (opd_eq _) (DE.o (de_ix ix_seq (opd_ix _) (DE.o (de_name 0 (pe_var (i := 0) (by rfl) (by first | exact .inl rfl | exact .inr (.inl rfl) | exact .inr (.inr rfl))))) (DE.o (de_int)) (by intro _ _; rfl))) (DE.o (de_str)) (by rfl)) (de_name 1 (pe_var (i := 1) (by rfl) (by first | exact .inl rfl | exact .inr (.inl rfl) | exact .inr (.inr rfl)))) (de_callB call_len (cal_len _) (by rfl) c.f_len boot_len (doa_cons (DE.o (de_ix ix_seq (opd_ix _) (DE.o (de_name 0 (pe_var (i := 0) (by rfl) (by first | exact .inl rfl | exact .inr (.inl rfl) | exact .inr (.inr rfl))))) (DE.o (de_int)) (by intro _ _; rfl))) (doa_nil)))))))
theorem ok_bends_in {f : Addr} {fd : FuncData} (c : Fc K mg) (Fd : FunD K "bends_in" "bends_in" (defArgs s_bends_in) (defBody s_bends_in) (defScope s_bends_in) [] [] f fd) : FnOk P w K mg base (L2.CX P w) 1 f fd ["layer"] (spP K (F_bends_in K)) := by
  have S : FnScope ["layer", "group"] ["layer"] (defScope s_bends_in) := C8.fnScope_by (by decide +kernel)
  refine fnOk_of (g := g_bends_in K) Fd S (fun cdv A outer s H E hr => ?_) (runP_ok (g := g_bends_in K) (n := 2) (m := 1))
  exact dss_cons (ds_if (ps_if (DT.pt (dt_cmp (op_eqA hr.units) (opd_eq _) (DE.o (de_ix ix_seq (opd_ix _) (DE.o (de_name 0 (pe_var (i := 0) (by rfl) (by first | exact .inl rfl | exact .inr (.inl rfl) | exact .inr (.inr rfl))))) (DE.o (de_int)) (by intro _ _; rfl))) (DE.o (de_str)) (by rfl))) (dss_one (ds_ret (ps_ret (DE.pe (de_callB call_len (cal_len _) (by rfl) c.f_len boot_len (doa_cons (DE.o (de_ix ix_seq (opd_ix _) (DE.o (de_name 0 (pe_var (i := 0) (by rfl) (by first | exact .inl rfl | exact .inr (.inl rfl) | exact .inr (.inr rfl))))) (DE.o (de_int)) (by intro _ _; rfl))) (doa_nil))))))) (dss_nil))) (dss_one (ds_ret (ps_ret (DE.pe (de_if (dt_cmp (op_eqA hr.units) (opd_eq _) (DE.o (de_ix ix_seq (opd_ix _) (DE.o (de_name 0 (pe_var (i := 0) (by rfl) (by first | exact .inl rfl | exact .inr (.inl rfl) | exact .inr (.inr rfl))))) (DE.o (de_int)) (by intro _ _; rfl))) (DE.o (de_str)) (by rfl)) (de_callB (cr_sum rfl) (cal_sum _) (by rfl) c.f_sum boot_sum (doa_cons (DE.o (DN.de (dn_comp (own := [("group", 1)]) (js := [1]) (by rfl) S.nd (di_any (de_ix ix_seq (opd_ix _) (DE.o (de_name 0 (pe_var (i := 0) (by rfl) (by first | exact .inl rfl | exact .inr (.inl rfl) | exact .inr (.inr rfl))))) (DE.o (de_int)) (by intro _ _; rfl))) (blkOk_by (by rfl)) (by decide) (fun _ _ _ _ _ => dg_name 1 (pg_name S.nd (by rfl) (by first | exact .inl rfl | exact .inr rfl))) (fun _ _ _ _ _ => pts_nilD) (fun _ _ _ _ _ => de_bin op_sub (opd_sub _) (DE.o (de_callB call_len (cal_len _) (by rfl) c.f_len boot_len (doa_cons (DE.o (de_name 1 (pe_var (i := 1) (by rfl) (by first | exact .inl rfl | exact .inr (.inl rfl) | exact .inr (.inr rfl))))) (doa_nil)))) (DE.o (de_int)))))) (doa_nil))) (de_int))))))
theorem ok_is_net {f : Addr} {fd : FuncData} (c : Fc K mg) (h_bends_in : FnP P w K mg base 1 "bends_in" ["layer"] (F_bends_in K)) (h_told_by : FnP P w K mg base 1 "told_by" ["layer", "many"] (F_told_by K)) (h_is_layer : FnP P w K mg base 5 "is_layer" ["value", "many"] (F_is_layer K)) (h_is_tuple_of : FnP P w K mg base 1 "is_tuple_of" ["value", "size"] (F_is_tuple_of K)) (h_is_number : FnP P w K mg base 2 "is_number" ["value", "least", "most"] (F_is_number K)) (Fd : FunD K "is_net" "is_net" (defArgs s_is_net) (defBody s_is_net) (defScope s_is_net) [] [] f fd) : FnOk P w K mg base (L2.CX P w) 6 f fd ["value"] (spP K (F_is_net K)) := by
  have S : FnScope ["value", "layer", "many", "bends"] ["value"] (defScope s_is_net) := C8.fnScope_by (by decide +kernel)
  refine fnOk_of (g := g_is_net K) Fd S (fun cdv A outer s H E hr => ?_) (runP_ok (g := g_is_net K) (n := 4) (m := 1))
  exact dss_cons (ds_if (ps_if (DT.pt (DW.dt (dw_or (dt_not (dt_val (de_call (Ek := E) h_is_tuple_of hr (by decide) passC (by rfl) (da_cons (de_name 0 (pe_var (i := 0) (by rfl) (by first | exact .inl rfl | exact .inr (.inl rfl) | exact .inr (.inr rfl)))) (da_cons (de_int) (da_nil)))))) (dw_or (dt_not (dt_val (de_call (Ek := E) h_is_number hr (by decide) passC (by rfl) (da_cons (de_ix ix_seq (opd_ix _) (DE.o (de_name 0 (pe_var (i := 0) (by rfl) (by first | exact .inl rfl | exact .inr (.inl rfl) | exact .inr (.inr rfl))))) (DE.o (de_int)) (by intro _ _; rfl)) (da_cons (de_int) (da_cons (de_gint c.i_MOST_INPUTS (by rfl)) (da_nil))))))) (dw_or1 (dt_not (dt_val (de_isi (L := []) (v := .ty "tuple") (u := .type "tuple") (by rfl) c.f_isinstance noExc (DE.o (de_ix ix_seq (opd_ix _) (DE.o (de_name 0 (pe_var (i := 0) (by rfl) (by first | exact .inl rfl | exact .inr (.inl rfl) | exact .inr (.inr rfl))))) (DE.o (de_int)) (by intro _ _; rfl))) (pe_bltn (by rfl) c.f_tuple boot_tuple rfl) (.ty "tuple"))))))))) (dss_one (ds_ret (ps_ret (DE.pe (de_bl))))) (dss_nil))) (dss_cons (ds_if (ps_if (DT.pt (dt_cmp op_gtA (opd_gt _) (DE.o (de_callB call_len (cal_len _) (by rfl) c.f_len boot_len (doa_cons (DE.o (de_ix ix_seq (opd_ix _) (DE.o (de_name 0 (pe_var (i := 0) (by rfl) (by first | exact .inl rfl | exact .inr (.inl rfl) | exact .inr (.inr rfl))))) (DE.o (de_int)) (by intro _ _; rfl))) (doa_nil)))) (DE.o (de_gint c.i_MOST_LAYERS (by rfl))) (by rfl))) (dss_one (ds_ret (ps_ret (DE.pe (de_bl))))) (dss_nil))) (dss_cons (ds_par (by rfl) S.nd (by rfl) (by rfl) (by decide) (by rfl) (by rfl) (da_cons (de_ix ix_seq (opd_ix _) (DE.o (de_name 0 (pe_var (i := 0) (by rfl) (by first | exact .inl rfl | exact .inr (.inl rfl) | exact .inr (.inr rfl))))) (DE.o (de_int)) (by intro _ _; rfl)) (da_cons (de_int) (da_nil))) (by rfl)) (dss_cons (ds_forI (js := [1]) ownC (by rfl) (di_any (de_ix ix_seq (opd_ix _) (DE.o (de_name 0 (pe_var (i := 0) (by rfl) (by first | exact .inl rfl | exact .inr (.inl rfl) | exact .inr (.inr rfl))))) (DE.o (de_int)) (by intro _ _; rfl))) (dg_name 1 (pg_name S.nd (by rfl) (by first | exact .inl rfl | exact .inr rfl))) (dss_cons (ds_if (ps_if (DT.pt (dt_not (dt_val (de_call (Ek := E) h_is_layer hr (by decide) passC (by rfl) (da_cons (de_name 1 (pe_var (i := 1) (by rfl) (by first | exact .inl rfl | exact .inr (.inl rfl) | exact .inr (.inr rfl)))) (da_cons (de_name 2 (pe_var (i := 2) (by rfl) (by first | exact .inl rfl | exact .inr (.inl rfl) | exact .inr (.inr rfl)))) (da_nil))))))) (dss_one (ds_ret (ps_ret (DE.pe (de_bl))))) (dss_nil))) (dss_one (ds_par (by rfl) S.nd (by rfl) (by rfl) (by decide) (by rfl) (by rfl) (da_cons (de_call (Ek := E) h_told_by hr (by decide) passC (by rfl) (da_cons (de_name 1 (pe_var (i := 1) (by rfl) (by first | exact .inl rfl | exact .inr (.inl rfl) | exact .inr (.inr rfl)))) (da_cons (de_name 2 (pe_var (i := 2) (by rfl) (by first | exact .inl rfl | exact .inr (.inl rfl) | exact .inr (.inr rfl)))) (da_nil)))) (da_cons (de_bin op_addA (opd_add _) (DE.o (de_name 3 (pe_var (i := 3) (by rfl) (by first | exact .inl rfl | exact .inr (.inl rfl) | exact .inr (.inr rfl))))) (DE.o (de_call (Ek := E) h_bends_in hr (by decide) passC (by rfl) (da_cons (de_name 1 (pe_var (i := 1) (by rfl) (by first | exact .inl rfl | exact .inr (.inl rfl) | exact .inr (.inr rfl)))) (da_nil))))) (da_nil))) (by rfl))))) (dss_one (ds_ret (ps_ret (DE.pe (de_cmp op_leA (opd_le _) (DE.o (de_name 3 (pe_var (i := 3) (by rfl) (by first | exact .inl rfl | exact .inr (.inl rfl) | exact .inr (.inr rfl))))) (DE.o (de_gint c.i_MOST_BENDS (by rfl))) (by rfl)))))))))
theorem ok_need_net {f : Addr} {fd : FuncData} (c : Fc K mg) (h_is_net : FnP P w K mg base 6 "is_net" ["value"] (F_is_net K)) (Fd : FunD K "need_net" "need_net" (defArgs s_need_net) (defBody s_need_net) (defScope s_need_net) [] [] f fd) : FnOk P w K mg base (L2.CX P w) 7 f fd ["net"] (spP K (F_need_net K)) := by
  have S : FnScope ["net"] ["net"] (defScope s_need_net) := C8.fnScope_by (by decide +kernel)
  refine fnOk_of (g := g_need_net K) Fd S (fun cdv A outer s H E hr => ?_) (runP_ok (g := g_need_net K) (n := 1) (m := 1))
  exact dss_one (ds_if (ps_if (DT.pt (dt_not (dt_val (de_call (Ek := E) h_is_net hr (by decide) passC (by rfl) (da_cons (de_name 0 (pe_var (i := 0) (by rfl) (by first | exact .inl rfl | exact .inr (.inl rfl) | exact .inr (.inr rfl)))) (da_nil)))))) (dss_one (ds_raise0 (Ek := E) (by rfl) takesC c.e_BadNet (by rfl))) (dss_nil)))
theorem ok_widths_in {f : Addr} {fd : FuncData} (c : Fc K mg) (h_told_by : FnP P w K mg base 1 "told_by" ["layer", "many"] (F_told_by K)) (Fd : FunD K "widths_in" "widths_in" (defArgs s_widths_in) (defBody s_widths_in) (defScope s_widths_in) [] [] f fd) : FnOk P w K mg base (L2.CX P w) 2 f fd ["net"] (spP K (F_widths_in K)) := by
  have S : FnScope ["net", "found", "layer"] ["net"] (defScope s_widths_in) := C8.fnScope_by (by decide +kernel)
  refine fnOk_of (g := g_widths_in K) Fd S (fun cdv A outer s H E hr => ?_) (runP_ok (g := g_widths_in K) (n := 3) (m := 1))
  exact dss_cons (ds_setO (ps_set (i := 1) S.nd (by rfl) (.inl rfl) (DN.pe (dn_lst (da_cons (de_ix ix_seq (opd_ix _) (DE.o (de_name 0 (pe_var (i := 0) (by rfl) (by first | exact .inl rfl | exact .inr (.inl rfl) | exact .inr (.inr rfl))))) (DE.o (de_int)) (by intro _ _; rfl)) (da_nil)) (by decide) (lenCons (lenNil)))))) (dss_cons (ds_forI (js := [2]) ownC (by rfl) (di_any (de_ix ix_seq (opd_ix _) (DE.o (de_name 0 (pe_var (i := 0) (by rfl) (by first | exact .inl rfl | exact .inr (.inl rfl) | exact .inr (.inr rfl))))) (DE.o (de_int)) (by intro _ _; rfl))) (dg_name 2 (pg_name S.nd (by rfl) (by first | exact .inl rfl | exact .inr rfl))) (dss_one (ds_app (i := 1) (ps_expr (pe_bm PySem.F.plainAttrs_list PySem.F.slot_list_append PySem.F.type_list_append mt_append (pe_var (i := 1) (by rfl) (by first | exact .inl rfl | exact .inr (.inl rfl) | exact .inr (.inr rfl))) (pa_cons (DE.pe (de_call (Ek := E) h_told_by hr (by decide) passC (by rfl) (da_cons (de_name 2 (pe_var (i := 2) (by rfl) (by first | exact .inl rfl | exact .inr (.inl rfl) | exact .inr (.inr rfl)))) (da_cons (de_ix ix_seq (opd_ix _) (do_name 1 (pe_var (i := 1) (by rfl) (by first | exact .inl rfl | exact .inr (.inl rfl) | exact .inr (.inr rfl)))) (DE.o (de_neg (de_int))) (by intro _ _; rfl)) (da_nil))))) pa_nil)))))) (dss_one (ds_retO (ps_ret (pe_var (i := 1) (by rfl) (by first | exact .inl rfl | exact .inr (.inl rfl) | exact .inr (.inr rfl)))))))
theorem ok_widths_of {f : Addr} {fd : FuncData} (c : Fc K mg) (h_widths_in : FnP P w K mg base 2 "widths_in" ["net"] (F_widths_in K)) (h_need_net : FnP P w K mg base 7 "need_net" ["net"] (F_need_net K)) (Fd : FunD K "widths_of" "widths_of" (defArgs s_widths_of) (defBody s_widths_of) (defScope s_widths_of) [] [] f fd) : FnOk P w K mg base (L2.CX P w) 8 f fd ["net"] (spP K (F_widths_of K)) := by
  have S : FnScope ["net"] ["net"] (defScope s_widths_of) := C8.fnScope_by (by decide +kernel)
  refine fnOk_of (g := g_widths_of K) Fd S (fun cdv A outer s H E hr => ?_) (runP_ok (g := g_widths_of K) (n := 1) (m := 1))
  exact dss_cons (ds_expr (ps_expr (DE.pe (de_call (Ek := E) h_need_net hr (by decide) passC (by rfl) (da_cons (de_name 0 (pe_var (i := 0) (by rfl) (by first | exact .inl rfl | exact .inr (.inl rfl) | exact .inr (.inr rfl)))) (da_nil)))))) (dss_one (ds_ret (ps_ret (DE.pe (de_callTy call_tuple_of (cal_tup _) (by rfl) c.f_tuple boot_tuple (doa_cons (DE.o (de_call (Ek := E) h_widths_in hr (by decide) passC (by rfl) (da_cons (de_name 0 (pe_var (i := 0) (by rfl) (by first | exact .inl rfl | exact .inr (.inl rfl) | exact .inr (.inr rfl)))) (da_nil)))) (doa_nil)))))))
theorem ok_outputs_of {f : Addr} {fd : FuncData} (c : Fc K mg) (h_widths_in : FnP P w K mg base 2 "widths_in" ["net"] (F_widths_in K)) (h_need_net : FnP P w K mg base 7 "need_net" ["net"] (F_need_net K)) (Fd : FunD K "outputs_of" "outputs_of" (defArgs s_outputs_of) (defBody s_outputs_of) (defScope s_outputs_of) [] [] f fd) : FnOk P w K mg base (L2.CX P w) 8 f fd ["net"] (spP K (F_outputs_of K)) := by
  have S : FnScope ["net"] ["net"] (defScope s_outputs_of) := C8.fnScope_by (by decide +kernel)
  refine fnOk_of (g := g_outputs_of K) Fd S (fun cdv A outer s H E hr => ?_) (runP_ok (g := g_outputs_of K) (n := 1) (m := 1))
  exact dss_cons (ds_expr (ps_expr (DE.pe (de_call (Ek := E) h_need_net hr (by decide) passC (by rfl) (da_cons (de_name 0 (pe_var (i := 0) (by rfl) (by first | exact .inl rfl | exact .inr (.inl rfl) | exact .inr (.inr rfl)))) (da_nil)))))) (dss_one (ds_ret (ps_ret (DE.pe (de_ix ix_seq (opd_ix _) (DE.o (de_call (Ek := E) h_widths_in hr (by decide) passC (by rfl) (da_cons (de_name 0 (pe_var (i := 0) (by rfl) (by first | exact .inl rfl | exact .inr (.inl rfl) | exact .inr (.inr rfl)))) (da_nil)))) (DE.o (de_neg (de_int))) (by intro _ _; rfl))))))
theorem ok_is_claim {f : Addr} {fd : FuncData} (c : Fc K mg) (h_is_given : FnP P w K mg base 3 "is_given" ["value"] (F_is_given K)) (h_is_tuple_of : FnP P w K mg base 1 "is_tuple_of" ["value", "size"] (F_is_tuple_of K)) (h_are_given : FnP P w K mg base 4 "are_given" ["value", "many"] (F_are_given K)) (Fd : FunD K "is_claim" "is_claim" (defArgs s_is_claim) (defBody s_is_claim) (defScope s_is_claim) [] [] f fd) : FnOk P w K mg base (L2.CX P w) 5 f fd ["value", "inputs", "outputs"] (spP K (F_is_claim K)) := by
  have S : FnScope ["value", "inputs", "outputs"] ["value", "inputs", "outputs"] (defScope s_is_claim) := C8.fnScope_by (by decide +kernel)
  refine fnOk_of (g := g_is_claim K) Fd S (fun cdv A outer s H E hr => ?_) (runP_ok (g := g_is_claim K) (n := 3) (m := 3))
  exact dss_cons (ds_if (ps_if (DT.pt (DW.dt (dw_or (dt_not (dt_val (de_call (Ek := E) h_is_tuple_of hr (by decide) passC (by rfl) (da_cons (de_name 0 (pe_var (i := 0) (by rfl) (by first | exact .inl rfl | exact .inr (.inl rfl) | exact .inr (.inr rfl)))) (da_cons (de_int) (da_nil)))))) (dw_or (dt_not (dt_val (de_call (Ek := E) h_are_given hr (by decide) passC (by rfl) (da_cons (de_ix ix_seq (opd_ix _) (DE.o (de_name 0 (pe_var (i := 0) (by rfl) (by first | exact .inl rfl | exact .inr (.inl rfl) | exact .inr (.inr rfl))))) (DE.o (de_int)) (by intro _ _; rfl)) (da_cons (de_name 1 (pe_var (i := 1) (by rfl) (by first | exact .inl rfl | exact .inr (.inl rfl) | exact .inr (.inr rfl)))) (da_nil)))))) (dw_or1 (dt_not (dt_val (de_call (Ek := E) h_are_given hr (by decide) passC (by rfl) (da_cons (de_ix ix_seq (opd_ix _) (DE.o (de_name 0 (pe_var (i := 0) (by rfl) (by first | exact .inl rfl | exact .inr (.inl rfl) | exact .inr (.inr rfl))))) (DE.o (de_int)) (by intro _ _; rfl)) (da_cons (de_name 2 (pe_var (i := 2) (by rfl) (by first | exact .inl rfl | exact .inr (.inl rfl) | exact .inr (.inr rfl)))) (da_nil))))))))))) (dss_one (ds_ret (ps_ret (DE.pe (de_bl))))) (dss_nil))) (dss_one (ds_ret (ps_ret (DE.pe (de_call (Ek := E) h_is_given hr (by decide) passC (by rfl) (da_cons (de_ix ix_seq (opd_ix _) (DE.o (de_name 0 (pe_var (i := 0) (by rfl) (by first | exact .inl rfl | exact .inr (.inl rfl) | exact .inr (.inr rfl))))) (DE.o (de_int)) (by intro _ _; rfl)) (da_nil)))))))
theorem ok_carried_back {f : Addr} {fd : FuncData} (c : Fc K mg) (h_is_claim : FnP P w K mg base 5 "is_claim" ["value", "inputs", "outputs"] (F_is_claim K)) (h_sum_of : FnP P w K mg base 4 "sum_of" ["weights", "vector", "bias"] (F_sum_of K)) (h_widths_in : FnP P w K mg base 2 "widths_in" ["net"] (F_widths_in K)) (h_outputs_of : FnP P w K mg base 8 "outputs_of" ["net"] (F_outputs_of K)) (h_need_net : FnP P w K mg base 7 "need_net" ["net"] (F_need_net K)) (Fd : FunD K "carried_back" "carried_back" (defArgs s_carried_back) (defBody s_carried_back) (defScope s_carried_back) [] [] f fd) : FnOk P w K mg base (L2.CX P w) 9 f fd ["net", "claim"] (spP K (F_carried_back K)) := by
  have S : FnScope ["net", "claim", "weights", "later", "rows", "many", "place", "row"] ["net", "claim"] (defScope s_carried_back) := C8.fnScope_by (by decide +kernel)
  refine fnOk_of (g := g_carried_back K) Fd S (fun cdv A outer s H E hr => ?_) (runP_ok (g := g_carried_back K) (n := 8) (m := 2))
  exact dss_cons (ds_expr (ps_expr (DE.pe (de_call (Ek := E) h_need_net hr (by decide) passC (by rfl) (da_cons (de_name 0 (pe_var (i := 0) (by rfl) (by first | exact .inl rfl | exact .inr (.inl rfl) | exact .inr (.inr rfl)))) (da_nil)))))) (dss_cons (ds_if (ps_if (DT.pt (dt_not (dt_val (de_call (Ek := E) h_is_claim hr (by decide) passC (by rfl) (da_cons (de_name 1 (pe_var (i := 1) (by rfl) (by first | exact .inl rfl | exact .inr (.inl rfl) | exact .inr (.inr rfl)))) (da_cons (de_ix ix_seq (opd_ix _) (DE.o (de_name 0 (pe_var (i := 0) (by rfl) (by first | exact .inl rfl | exact .inr (.inl rfl) | exact .inr (.inr rfl))))) (DE.o (de_int)) (by intro _ _; rfl)) (da_cons (de_call (Ek := E) h_outputs_of hr (by decide) passC (by rfl) (da_cons (de_name 0 (pe_var (i := 0) (by rfl) (by first | exact .inl rfl | exact .inr (.inl rfl) | exact .inr (.inr rfl)))) (da_nil))) (da_nil)))))))) (dss_one (ds_raise0 (Ek := E) (by rfl) takesC c.e_BadClaim (by rfl))) (dss_nil))) (dss_cons (ds_if (ps_if (DT.pt (DW.dt (dw_or (dt_cmp (op_eqA hr.units) (opd_eq _) (DE.o (de_ix ix_seq (opd_ix _) (DE.o (de_name 0 (pe_var (i := 0) (by rfl) (by first | exact .inl rfl | exact .inr (.inl rfl) | exact .inr (.inr rfl))))) (DE.o (de_int)) (by intro _ _; rfl))) (DE.o (de_tup (da_nil) (by decide) (lenNil))) (by rfl)) (dw_or1 (dt_cmp (op_neA hr.units) (opd_ne _) (DE.o (de_ix ix_seq (opd_ix _) (DE.o (de_ix ix_seq (opd_ix _) (DE.o (de_ix ix_seq (opd_ix _) (DE.o (de_name 0 (pe_var (i := 0) (by rfl) (by first | exact .inl rfl | exact .inr (.inl rfl) | exact .inr (.inr rfl))))) (DE.o (de_int)) (by intro _ _; rfl))) (DE.o (de_neg (de_int))) (by intro _ _; rfl))) (DE.o (de_int)) (by intro _ _; rfl))) (DE.o (de_str)) (by rfl)))))) (dss_one (ds_raise0 (Ek := E) (by rfl) takesC c.e_BadNets (by rfl))) (dss_nil))) (dss_cons (ds_unpI (js := ([4] ++ ([5] ++ []))) (de_tup (da_cons (de_ix ix_seq (opd_ix _) (DE.o (de_ix ix_seq (opd_ix _) (DE.o (de_ix ix_seq (opd_ix _) (DE.o (de_name 0 (pe_var (i := 0) (by rfl) (by first | exact .inl rfl | exact .inr (.inl rfl) | exact .inr (.inr rfl))))) (DE.o (de_int)) (by intro _ _; rfl))) (DE.o (de_neg (de_int))) (by intro _ _; rfl))) (DE.o (de_int)) (by intro _ _; rfl)) (da_cons (de_ix ix_seq (opd_ix _) (DE.o (de_call (Ek := E) h_widths_in hr (by decide) passC (by rfl) (da_cons (de_name 0 (pe_var (i := 0) (by rfl) (by first | exact .inl rfl | exact .inr (.inl rfl) | exact .inr (.inr rfl)))) (da_nil)))) (DE.o (de_neg (de_int))) (by intro _ _; rfl)) (da_nil))) (by decide) (lenCons (lenCons (lenNil)))) (dg_tup (n := 2) (by rfl) (dgs_cons (dg_name 4 (pg_name S.nd (by rfl) (by first | exact .inl rfl | exact .inr rfl))) (dgs_cons (dg_name 5 (pg_name S.nd (by rfl) (by first | exact .inl rfl | exact .inr rfl))) (dgs_nil))) (fun _ _ _ e => hCons_len (fun _ _ _ e => hCons_len (fun _ _ _ e => hNil_len e) e) e))) (dss_cons (ds_setD (ds_setLc (i := 2) (own := [("place", 6)]) (js := [6]) (by rfl) S.nd (by rfl) (by rfl) (sw_true (by rfl) (by rfl) (by rfl) (by rfl)) (di_rng1 (by rfl) c.f_range (doa_cons (DE.o (de_name 5 (pe_var (i := 5) (by rfl) (by first | exact .inl rfl | exact .inr (.inl rfl) | exact .inr (.inr rfl))))) (doa_nil))) (blkOk_by (by rfl)) (by decide) (fun _ _ _ _ _ => dg_name 6 (pg_name S.nd (by rfl) (by first | exact .inl rfl | exact .inr rfl))) (fun _ _ _ _ _ => pts_nilD) (fun _ _ _ _ _ => de_call (Ek := (fun _ _ _ => False)) h_sum_of hr (by decide) passB (by rfl) (da_cons (de_ix ix_seq (opd_ix _) (DE.o (de_name 1 (pe_var (i := 1) (by rfl) (by first | exact .inl rfl | exact .inr (.inl rfl) | exact .inr (.inr rfl))))) (DE.o (de_int)) (by intro _ _; rfl)) (da_cons (DN.de (dn_comp (own := [("row", 7)]) (js := [7]) (by rfl) S.nd (di_any (de_name 4 (pe_var (i := 4) (by rfl) (by first | exact .inl rfl | exact .inr (.inl rfl) | exact .inr (.inr rfl))))) (blkOk_by (by rfl)) (by decide) (fun _ _ _ _ _ => dg_name 7 (pg_name S.nd (by rfl) (by first | exact .inl rfl | exact .inr rfl))) (fun _ _ _ _ _ => pts_nilD) (fun _ _ _ _ _ => de_ix ix_seq (opd_ix _) (DE.o (de_ix ix_seq (opd_ix _) (DE.o (de_name 7 (pe_var (i := 7) (by rfl) (by first | exact .inl rfl | exact .inr (.inl rfl) | exact .inr (.inr rfl))))) (DE.o (de_int)) (by intro _ _; rfl))) (DE.o (de_name 6 (pe_var (i := 6) (by rfl) (by first | exact .inl rfl | exact .inr (.inl rfl) | exact .inr (.inr rfl))))) (by intro _ _; rfl)))) (da_cons (de_gdat c.d_ZERO (by rfl)) (da_nil))))))) (dss_cons (ds_set (ps_set (i := 3) S.nd (by rfl) (by first | exact .inl rfl | exact .inr rfl) (DE.pe (de_tup (da_cons (de_ix ix_seq (opd_ix _) (DE.o (de_name 1 (pe_var (i := 1) (by rfl) (by first | exact .inl rfl | exact .inr (.inl rfl) | exact .inr (.inr rfl))))) (DE.o (de_int)) (by intro _ _; rfl)) (da_cons (de_callTy call_tuple_of (cal_tup _) (by rfl) c.f_tuple boot_tuple (doa_cons (DE.o (de_name 2 (pe_var (i := 2) (by rfl) (by first | exact .inl rfl | exact .inr (.inl rfl) | exact .inr (.inr rfl))))) (doa_nil))) (da_cons (de_call (Ek := E) h_sum_of hr (by decide) passC (by rfl) (da_cons (de_ix ix_seq (opd_ix _) (DE.o (de_name 1 (pe_var (i := 1) (by rfl) (by first | exact .inl rfl | exact .inr (.inl rfl) | exact .inr (.inr rfl))))) (DE.o (de_int)) (by intro _ _; rfl)) (da_cons (DN.de (dn_comp (own := [("row", 7)]) (js := [7]) (by rfl) S.nd (di_any (de_name 4 (pe_var (i := 4) (by rfl) (by first | exact .inl rfl | exact .inr (.inl rfl) | exact .inr (.inr rfl))))) (blkOk_by (by rfl)) (by decide) (fun _ _ _ _ _ => dg_name 7 (pg_name S.nd (by rfl) (by first | exact .inl rfl | exact .inr rfl))) (fun _ _ _ _ _ => pts_nilD) (fun _ _ _ _ _ => de_ix ix_seq (opd_ix _) (DE.o (de_name 7 (pe_var (i := 7) (by rfl) (by first | exact .inl rfl | exact .inr (.inl rfl) | exact .inr (.inr rfl))))) (DE.o (de_int)) (by intro _ _; rfl)))) (da_cons (de_ix ix_seq (opd_ix _) (DE.o (de_name 1 (pe_var (i := 1) (by rfl) (by first | exact .inl rfl | exact .inr (.inl rfl) | exact .inr (.inr rfl))))) (DE.o (de_int)) (by intro _ _; rfl)) (da_nil))))) (da_nil)))) (by decide) (lenCons (lenCons (lenCons (lenNil)))))))) (dss_cons (ds_if (ps_if (DT.pt (dt_not (dt_val (de_call (Ek := E) h_is_claim hr (by decide) passC (by rfl) (da_cons (de_name 3 (pe_var (i := 3) (by rfl) (by first | exact .inl rfl | exact .inr (.inl rfl) | exact .inr (.inr rfl)))) (da_cons (de_ix ix_seq (opd_ix _) (DE.o (de_name 0 (pe_var (i := 0) (by rfl) (by first | exact .inl rfl | exact .inr (.inl rfl) | exact .inr (.inr rfl))))) (DE.o (de_int)) (by intro _ _; rfl)) (da_cons (de_name 5 (pe_var (i := 5) (by rfl) (by first | exact .inl rfl | exact .inr (.inl rfl) | exact .inr (.inr rfl)))) (da_nil)))))))) (dss_one (ds_raise0 (Ek := E) (by rfl) takesC c.e_TooGreat (by rfl))) (dss_nil))) (dss_one (ds_ret (ps_ret (DE.pe (de_name 3 (pe_var (i := 3) (by rfl) (by first | exact .inl rfl | exact .inr (.inl rfl) | exact .inr (.inr rfl))))))))))))))
theorem ok_law_blended {f : Addr} {fd : FuncData} (c : Fc K mg) (Fd : FunD K "_law_blended" "_law_blended" (defArgs s_law_blended) (defBody s_law_blended) (defScope s_law_blended) [] [] f fd) : FnOk P w K mg base (L2.CX P w) 1 f fd ["state"] (spI K T (F_law_blended K)) := by
  have S : FnScope ["state", "prime", "turn", "found", "blend", "cell"] ["state"] (defScope s_law_blended) := C8.fnScope_by (by decide +kernel)
  refine fnOkI_of (n := 5) (g := g_law_blended K) Fd S rfl (fun sa ga ca cdv A outer s H E hr => ?_) (runF_ok (g := g_law_blended K) (n := 5) (m := 0))
  exact dss_cons (ds_par (by rfl) S.nd (by rfl) (by rfl) (by decide) (by rfl) (by rfl) (da_cons (de_bin op_addA (opd_add _) (DE.o (de_stTurn (Room_u1 hr) (pe_var (i := 0) (by rfl) (by first | exact .inl rfl | exact .inr (.inl rfl) | exact .inr (.inr rfl))))) (DE.o (de_int))) (da_cons (de_int) (da_nil))) (by rfl)) (dss_cons (ds_stSet "turn" (fun s n => { s with turn := n }) putK_turn (fun _ _ => rfl) (fun _ _ => rfl) (Room_u1 hr) (pe_var (i := 0) (by rfl) (by first | exact .inl rfl | exact .inr (.inl rfl) | exact .inr (.inr rfl))) (de_name 2 (pe_var (i := 2) (by rfl) (by first | exact .inl rfl | exact .inr (.inl rfl) | exact .inr (.inr rfl))))) (dss_cons (ds_forI (js := [1]) ownC (by rfl) (di_any (DN.de (dn_lst (da_cons (de_int) (da_cons (de_int) (da_cons (de_int) (da_nil)))) (by decide) (lenCons (lenCons (lenCons (lenNil))))))) (dg_name 1 (pg_name S.nd (by rfl) (by first | exact .inl rfl | exact .inr rfl))) (dss_cons (ds_set (ps_set (i := 4) S.nd (by rfl) (by first | exact .inl rfl | exact .inr rfl) (DE.pe (de_bin op_addA (opd_add _) (DE.o (de_bin op_mulS (opd_mulS _) (DE.o (de_int)) (DE.o (de_name 2 (pe_var (i := 2) (by rfl) (by first | exact .inl rfl | exact .inr (.inl rfl) | exact .inr (.inr rfl))))))) (DE.o (de_bin op_fdivW (opd_div _) (DE.o (de_name 1 (pe_var (i := 1) (by rfl) (by first | exact .inl rfl | exact .inr (.inl rfl) | exact .inr (.inr rfl))))) (DE.o (de_int)))))))) (dss_cons (ds_forI (js := [5]) ownC (by rfl) (di_any (de_stCells (Room_u1 hr) (pe_var (i := 0) (by rfl) (by first | exact .inl rfl | exact .inr (.inl rfl) | exact .inr (.inr rfl))))) (dg_name 5 (pg_name S.nd (by rfl) (by first | exact .inl rfl | exact .inr rfl))) (dss_one (ds_set (ps_set (i := 4) S.nd (by rfl) (by first | exact .inl rfl | exact .inr rfl) (DE.pe (de_bin op_modN (opd_mod _) (DE.o (de_callTy call_intA (cal_int _) (by rfl) c.f_int boot_int (doa_cons (DE.o (de_bin op_addA (opd_add _) (DE.o (de_bin op_addA (opd_add _) (DE.o (de_bin op_mulS (opd_mulS _) (DE.o (de_name 4 (pe_var (i := 4) (by rfl) (by first | exact .inl rfl | exact .inr (.inl rfl) | exact .inr (.inr rfl))))) (DE.o (de_int)))) (DE.o (de_name 5 (pe_var (i := 5) (by rfl) (by first | exact .inl rfl | exact .inr (.inl rfl) | exact .inr (.inr rfl))))))) (DE.o (de_name 2 (pe_var (i := 2) (by rfl) (by first | exact .inl rfl | exact .inr (.inl rfl) | exact .inr (.inr rfl))))))) (doa_nil)))) (DE.o (de_name 1 (pe_var (i := 1) (by rfl) (by first | exact .inl rfl | exact .inr (.inl rfl) | exact .inr (.inr rfl))))))))))) (dss_one (ds_set (ps_set (i := 3) S.nd (by rfl) (by first | exact .inl rfl | exact .inr rfl) (DE.pe (de_bin op_addA (opd_add _) (DE.o (de_bin op_mulS (opd_mulS _) (DE.o (de_name 3 (pe_var (i := 3) (by rfl) (by first | exact .inl rfl | exact .inr (.inl rfl) | exact .inr (.inr rfl))))) (DE.o (de_int)))) (DE.o (de_bin op_modN (opd_mod _) (DE.o (de_callTy call_intA (cal_int _) (by rfl) c.f_int boot_int (doa_cons (DE.o (de_bin op_pow (opd_pow _) (DE.o (de_name 4 (pe_var (i := 4) (by rfl) (by first | exact .inl rfl | exact .inr (.inl rfl) | exact .inr (.inr rfl))))) (DE.o (de_int)))) (doa_nil)))) (DE.o (de_name 1 (pe_var (i := 1) (by rfl) (by first | exact .inl rfl | exact .inr (.inl rfl) | exact .inr (.inr rfl))))))))))))))) (dss_one (ds_ret (ps_ret (DE.pe (de_name 3 (pe_var (i := 3) (by rfl) (by first | exact .inl rfl | exact .inr (.inl rfl) | exact .inr (.inr rfl))))))))))
theorem ok_law_draw {f : Addr} {fd : FuncData} (c : Fc K mg) (h_law_blended : FnI P w K mg base T 1 "_law_blended" ["state"] (F_law_blended K)) (Fd : FunD K "_law_draw" "_law_draw" (defArgs s_law_draw) (defBody s_law_draw) (defScope s_law_draw) [] [] f fd) : FnOk P w K mg base (L2.CX P w) 2 f fd ["state", "size_here"] (spI K T (F_law_draw K)) := by
  have S : FnScope ["state", "size_here", "found"] ["state", "size_here"] (defScope s_law_draw) := C8.fnScope_by (by decide +kernel)
  refine fnOkI_of (n := 2) (g := g_law_draw K) Fd S rfl (fun sa ga ca cdv A outer s H E hr => ?_) (runF_ok (g := g_law_draw K) (n := 2) (m := 1))
  exact dss_cons (ds_if (ps_if (DT.pt (dt_cmp (op_eqA hr.units) (opd_eq _) (DE.o (de_stLeft (Room_u1 hr) (pe_var (i := 0) (by rfl) (by first | exact .inl rfl | exact .inr (.inl rfl) | exact .inr (.inr rfl))))) (DE.o (de_int)) (by rfl))) (dss_one (ds_stSet "left" (fun s n => { s with left := n }) putK_left (fun _ _ => rfl) (fun _ _ => rfl) (Room_u1 hr) (pe_var (i := 0) (by rfl) (by first | exact .inl rfl | exact .inr (.inl rfl) | exact .inr (.inr rfl))) (de_if (dt_stGreat hr.units (pe_var (i := 0) (by rfl) (by first | exact .inl rfl | exact .inr (.inl rfl) | exact .inr (.inr rfl)))) (de_stPop (Room_u1 hr) (pe_var (i := 0) (by rfl) (by first | exact .inl rfl | exact .inr (.inl rfl) | exact .inr (.inr rfl)))) (de_callI (Ek := E) (i := 0) h_law_blended hr (by decide) passC (by rfl) (pe_var (i := 0) (by rfl) (by first | exact .inl rfl | exact .inr (.inl rfl) | exact .inr (.inr rfl))) (da_nil))))) (dss_nil))) (dss_cons (ds_set (ps_set (i := 2) S.nd (by rfl) (by first | exact .inl rfl | exact .inr rfl) (DE.pe (de_bin op_modN (opd_mod _) (DE.o (de_callTy call_intA (cal_int _) (by rfl) c.f_int boot_int (doa_cons (DE.o (de_stLeft (Room_u1 hr) (pe_var (i := 0) (by rfl) (by first | exact .inl rfl | exact .inr (.inl rfl) | exact .inr (.inr rfl))))) (doa_nil)))) (DE.o (de_name 1 (pe_var (i := 1) (by rfl) (by first | exact .inl rfl | exact .inr (.inl rfl) | exact .inr (.inr rfl))))))))) (dss_cons (ds_stSet "left" (fun s n => { s with left := n }) putK_left (fun _ _ => rfl) (fun _ _ => rfl) (Room_u1 hr) (pe_var (i := 0) (by rfl) (by first | exact .inl rfl | exact .inr (.inl rfl) | exact .inr (.inr rfl))) (de_bin op_fdivW (opd_div _) (DE.o (de_stLeft (Room_u1 hr) (pe_var (i := 0) (by rfl) (by first | exact .inl rfl | exact .inr (.inl rfl) | exact .inr (.inr rfl))))) (DE.o (de_name 1 (pe_var (i := 1) (by rfl) (by first | exact .inl rfl | exact .inr (.inl rfl) | exact .inr (.inr rfl))))))) (dss_one (ds_ret (ps_ret (DE.pe (de_name 2 (pe_var (i := 2) (by rfl) (by first | exact .inl rfl | exact .inr (.inl rfl) | exact .inr (.inr rfl))))))))))
theorem ok_law_mixed {f : Addr} {fd : FuncData} (c : Fc K mg) (h_law_draw : FnI P w K mg base T 2 "_law_draw" ["state", "size_here"] (F_law_draw K)) (Fd : FunD K "_law_mixed" "_law_mixed" (defArgs s_law_mixed) (defBody s_law_mixed) (defScope s_law_mixed) [] [] f fd) : FnOk P w K mg base (L2.CX P w) 3 f fd ["state", "several"] (spI K T (F_law_mixed K)) := by
  have S : FnScope ["state", "several", "left", "found"] ["state", "several"] (defScope s_law_mixed) := C8.fnScope_by (by decide +kernel)
  refine fnOkI_of (n := 3) (g := g_law_mixed K) Fd S rfl (fun sa ga ca cdv A outer s H E hr => ?_) (runF_ok (g := g_law_mixed K) (n := 3) (m := 1))
  exact dss_cons (ds_parM (by rfl) S.nd (by rfl) (by rfl) (by decide) (by rfl) (by rfl) (dm_own (dn_callTy call_list_of (cln_list _) (by rfl) c.f_list boot_list (doa_cons (DE.o (de_name 1 (pe_var (i := 1) (by rfl) (by first | exact .inl rfl | exact .inr (.inl rfl) | exact .inr (.inr rfl))))) (doa_nil))) (dm_own (dn_lst (da_nil) (by decide) (lenNil)) (dm_nil))) (by rfl)) (dss_cons (ds_whileI ownC (dt_cmp (op_neA hr.units) (opd_ne _) (do_name 2 (pe_var (i := 2) (by rfl) (by first | exact .inl rfl | exact .inr (.inl rfl) | exact .inr (.inr rfl)))) (DE.o (DN.de (dn_lst (da_nil) (by decide) (lenNil)))) (by rfl)) (dss_one (ds_appPop (i := 3) (j := 2) (ps_expr (pe_bm PySem.F.plainAttrs_list PySem.F.slot_list_append PySem.F.type_list_append mt_append (pe_var (i := 3) (by rfl) (by first | exact .inl rfl | exact .inr (.inl rfl) | exact .inr (.inr rfl))) (pa_cons (pe_bm PySem.F.plainAttrs_list PySem.F.slot_list_pop PySem.F.type_list_pop mt_popAt (pe_var (i := 2) (by rfl) (by first | exact .inl rfl | exact .inr (.inl rfl) | exact .inr (.inr rfl))) (pa_cons (DE.pe (de_callI (Ek := E) (i := 0) h_law_draw hr (by decide) passC (by rfl) (pe_var (i := 0) (by rfl) (by first | exact .inl rfl | exact .inr (.inl rfl) | exact .inr (.inr rfl))) (da_cons (de_callB call_len (cal_len _) (by rfl) c.f_len boot_len (doa_cons (do_name 2 (pe_var (i := 2) (by rfl) (by first | exact .inl rfl | exact .inr (.inl rfl) | exact .inr (.inr rfl)))) (doa_nil))) (da_nil)))) pa_nil)) pa_nil)))))) (dss_one (ds_retO (ps_ret (pe_var (i := 3) (by rfl) (by first | exact .inl rfl | exact .inr (.inl rfl) | exact .inr (.inr rfl)))))))
theorem ok_law_v_low {f : Addr} {fd : FuncData} (c : Fc K mg) (Fd : FunD K "_law_v_low" "_law_v_low" (defArgs s_law_v_low) (defBody s_law_v_low) (defScope s_law_v_low) [] [] f fd) : FnOk P w K mg base (L2.CX P w) 1 f fd ["number", "divisor"] (spP K (F_law_v_low K)) := by
  have S : FnScope ["number", "divisor", "lap", "sign", "one", "other"] ["number", "divisor"] (defScope s_law_v_low) := C8.fnScope_by (by decide +kernel)
  refine fnOk_of (g := g_law_v_low K) Fd S (fun cdv A outer s H E hr => ?_) (runP_ok (g := g_law_v_low K) (n := 6) (m := 2))
  exact dss_cons (ds_par (by rfl) S.nd (by rfl) (by rfl) (by decide) (by rfl) (by rfl) (da_cons (de_callB call_abs (cal_abs _) (by rfl) c.f_abs boot_abs (doa_cons (DE.o (de_name 0 (pe_var (i := 0) (by rfl) (by first | exact .inl rfl | exact .inr (.inl rfl) | exact .inr (.inr rfl))))) (doa_nil))) (da_cons (de_callB call_abs (cal_abs _) (by rfl) c.f_abs boot_abs (doa_cons (DE.o (de_name 1 (pe_var (i := 1) (by rfl) (by first | exact .inl rfl | exact .inr (.inl rfl) | exact .inr (.inr rfl))))) (doa_nil))) (da_nil))) (by rfl)) (dss_cons (ds_forI (js := [2]) ownC (by rfl) (di_rng1 (by rfl) c.f_range (doa_cons (DE.o (de_int)) (doa_nil))) (dg_name 2 (pg_name S.nd (by rfl) (by first | exact .inl rfl | exact .inr rfl))) (dss_cons (ds_if (ps_if (DT.pt (dt_cmp (op_eqA hr.units) (opd_eq _) (DE.o (de_name 5 (pe_var (i := 5) (by rfl) (by first | exact .inl rfl | exact .inr (.inl rfl) | exact .inr (.inr rfl))))) (DE.o (de_int)) (by rfl))) (dss_one (ds_break)) (dss_nil))) (dss_one (ds_par (by rfl) S.nd (by rfl) (by rfl) (by decide) (by rfl) (by rfl) (da_cons (de_name 5 (pe_var (i := 5) (by rfl) (by first | exact .inl rfl | exact .inr (.inl rfl) | exact .inr (.inr rfl)))) (da_cons (de_bin op_modN (opd_mod _) (DE.o (de_name 4 (pe_var (i := 4) (by rfl) (by first | exact .inl rfl | exact .inr (.inl rfl) | exact .inr (.inr rfl))))) (DE.o (de_name 5 (pe_var (i := 5) (by rfl) (by first | exact .inl rfl | exact .inr (.inl rfl) | exact .inr (.inr rfl)))))) (da_nil))) (by rfl))))) (dss_cons (ds_set (ps_set (i := 3) S.nd (by rfl) (by first | exact .inl rfl | exact .inr rfl) (DE.pe (de_if (dt_cmp op_ltA (opd_lt _) (DE.o (de_name 1 (pe_var (i := 1) (by rfl) (by first | exact .inl rfl | exact .inr (.inl rfl) | exact .inr (.inr rfl))))) (DE.o (de_int)) (by rfl)) (de_neg (de_int)) (de_int))))) (dss_one (ds_ret (ps_ret (DE.pe (de_tup (da_cons (de_bin op_fdivW (opd_div _) (DE.o (de_bin op_mulS (opd_mulS _) (DE.o (de_name 3 (pe_var (i := 3) (by rfl) (by first | exact .inl rfl | exact .inr (.inl rfl) | exact .inr (.inr rfl))))) (DE.o (de_name 0 (pe_var (i := 0) (by rfl) (by first | exact .inl rfl | exact .inr (.inl rfl) | exact .inr (.inr rfl))))))) (DE.o (de_name 4 (pe_var (i := 4) (by rfl) (by first | exact .inl rfl | exact .inr (.inl rfl) | exact .inr (.inr rfl)))))) (da_cons (de_bin op_fdivW (opd_div _) (DE.o (de_callB call_abs (cal_abs _) (by rfl) c.f_abs boot_abs (doa_cons (DE.o (de_name 1 (pe_var (i := 1) (by rfl) (by first | exact .inl rfl | exact .inr (.inl rfl) | exact .inr (.inr rfl))))) (doa_nil)))) (DE.o (de_name 4 (pe_var (i := 4) (by rfl) (by first | exact .inl rfl | exact .inr (.inl rfl) | exact .inr (.inr rfl)))))) (da_nil))) (by decide) (lenCons (lenCons (lenNil))))))))))
theorem ok_law_v_number {f : Addr} {fd : FuncData} (c : Fc K mg) (h_law_v_low : FnP P w K mg base 1 "_law_v_low" ["number", "divisor"] (F_law_v_low K)) (h_law_draw : FnI P w K mg base T 2 "_law_draw" ["state", "size_here"] (F_law_draw K)) (Fd : FunD K "_law_v_number" "_law_v_number" (defArgs s_law_v_number) (defBody s_law_v_number) (defScope s_law_v_number) [] [] f fd) : FnOk P w K mg base (L2.CX P w) 3 f fd ["state", "most"] (spI K T (F_law_v_number K)) := by
  have S : FnScope ["state", "most", "number", "divisor"] ["state", "most"] (defScope s_law_v_number) := C8.fnScope_by (by decide +kernel)
  refine fnOkI_of (n := 3) (g := g_law_v_number K) Fd S rfl (fun sa ga ca cdv A outer s H E hr => ?_) (runF_ok (g := g_law_v_number K) (n := 3) (m := 1))
  exact dss_cons (ds_par (by rfl) S.nd (by rfl) (by rfl) (by decide) (by rfl) (by rfl) (da_cons (de_bin op_sub (opd_sub _) (DE.o (de_callI (Ek := E) (i := 0) h_law_draw hr (by decide) passC (by rfl) (pe_var (i := 0) (by rfl) (by first | exact .inl rfl | exact .inr (.inl rfl) | exact .inr (.inr rfl))) (da_cons (de_bin op_addA (opd_add _) (DE.o (de_bin op_mulS (opd_mulS _) (DE.o (de_int)) (DE.o (de_name 1 (pe_var (i := 1) (by rfl) (by first | exact .inl rfl | exact .inr (.inl rfl) | exact .inr (.inr rfl))))))) (DE.o (de_int))) (da_nil)))) (DE.o (de_name 1 (pe_var (i := 1) (by rfl) (by first | exact .inl rfl | exact .inr (.inl rfl) | exact .inr (.inr rfl)))))) (da_cons (de_bin op_addA (opd_add _) (DE.o (de_int)) (DE.o (de_callI (Ek := E) (i := 0) h_law_draw hr (by decide) passC (by rfl) (pe_var (i := 0) (by rfl) (by first | exact .inl rfl | exact .inr (.inl rfl) | exact .inr (.inr rfl))) (da_cons (de_int) (da_nil))))) (da_nil))) (by rfl)) (dss_one (ds_ret (ps_ret (DE.pe (de_call (Ek := E) h_law_v_low hr (by decide) passC (by rfl) (da_cons (de_name 2 (pe_var (i := 2) (by rfl) (by first | exact .inl rfl | exact .inr (.inl rfl) | exact .inr (.inr rfl)))) (da_cons (de_name 3 (pe_var (i := 3) (by rfl) (by first | exact .inl rfl | exact .inr (.inl rfl) | exact .inr (.inr rfl)))) (da_nil))))))))
theorem ok_law_v_plus {f : Addr} {fd : FuncData} (c : Fc K mg) (h_law_v_low : FnP P w K mg base 1 "_law_v_low" ["number", "divisor"] (F_law_v_low K)) (Fd : FunD K "_law_v_plus" "_law_v_plus" (defArgs s_law_v_plus) (defBody s_law_v_plus) (defScope s_law_v_plus) [] [] f fd) : FnOk P w K mg base (L2.CX P w) 2 f fd ["one", "other"] (spP K (F_law_v_plus K)) := by
  have S : FnScope ["one", "other"] ["one", "other"] (defScope s_law_v_plus) := C8.fnScope_by (by decide +kernel)
  refine fnOk_of (g := g_law_v_plus K) Fd S (fun cdv A outer s H E hr => ?_) (runP_ok (g := g_law_v_plus K) (n := 2) (m := 2))
  exact dss_one (ds_ret (ps_ret (DE.pe (de_call (Ek := E) h_law_v_low hr (by decide) passC (by rfl) (da_cons (de_bin op_addA (opd_add _) (DE.o (de_bin op_mulS (opd_mulS _) (DE.o (de_ix ix_seq (opd_ix _) (DE.o (de_name 0 (pe_var (i := 0) (by rfl) (by first | exact .inl rfl | exact .inr (.inl rfl) | exact .inr (.inr rfl))))) (DE.o (de_int)) (by intro _ _; rfl))) (DE.o (de_ix ix_seq (opd_ix _) (DE.o (de_name 1 (pe_var (i := 1) (by rfl) (by first | exact .inl rfl | exact .inr (.inl rfl) | exact .inr (.inr rfl))))) (DE.o (de_int)) (by intro _ _; rfl))))) (DE.o (de_bin op_mulS (opd_mulS _) (DE.o (de_ix ix_seq (opd_ix _) (DE.o (de_name 1 (pe_var (i := 1) (by rfl) (by first | exact .inl rfl | exact .inr (.inl rfl) | exact .inr (.inr rfl))))) (DE.o (de_int)) (by intro _ _; rfl))) (DE.o (de_ix ix_seq (opd_ix _) (DE.o (de_name 0 (pe_var (i := 0) (by rfl) (by first | exact .inl rfl | exact .inr (.inl rfl) | exact .inr (.inr rfl))))) (DE.o (de_int)) (by intro _ _; rfl)))))) (da_cons (de_bin op_mulS (opd_mulS _) (DE.o (de_ix ix_seq (opd_ix _) (DE.o (de_name 0 (pe_var (i := 0) (by rfl) (by first | exact .inl rfl | exact .inr (.inl rfl) | exact .inr (.inr rfl))))) (DE.o (de_int)) (by intro _ _; rfl))) (DE.o (de_ix ix_seq (opd_ix _) (DE.o (de_name 1 (pe_var (i := 1) (by rfl) (by first | exact .inl rfl | exact .inr (.inl rfl) | exact .inr (.inr rfl))))) (DE.o (de_int)) (by intro _ _; rfl)))) (da_nil)))))))
theorem ok_law_v_by {f : Addr} {fd : FuncData} (c : Fc K mg) (h_law_v_low : FnP P w K mg base 1 "_law_v_low" ["number", "divisor"] (F_law_v_low K)) (Fd : FunD K "_law_v_by" "_law_v_by" (defArgs s_law_v_by) (defBody s_law_v_by) (defScope s_law_v_by) [] [] f fd) : FnOk P w K mg base (L2.CX P w) 2 f fd ["one", "other"] (spP K (F_law_v_by K)) := by
  have S : FnScope ["one", "other"] ["one", "other"] (defScope s_law_v_by) := C8.fnScope_by (by decide +kernel)
  refine fnOk_of (g := g_law_v_by K) Fd S (fun cdv A outer s H E hr => ?_) (runP_ok (g := g_law_v_by K) (n := 2) (m := 2))
  exact dss_one (ds_ret (ps_ret (DE.pe (de_call (Ek := E) h_law_v_low hr (by decide) passC (by rfl) (da_cons (de_bin op_mulS (opd_mulS _) (DE.o (de_ix ix_seq (opd_ix _) (DE.o (de_name 0 (pe_var (i := 0) (by rfl) (by first | exact .inl rfl | exact .inr (.inl rfl) | exact .inr (.inr rfl))))) (DE.o (de_int)) (by intro _ _; rfl))) (DE.o (de_ix ix_seq (opd_ix _) (DE.o (de_name 1 (pe_var (i := 1) (by rfl) (by first | exact .inl rfl | exact .inr (.inl rfl) | exact .inr (.inr rfl))))) (DE.o (de_int)) (by intro _ _; rfl)))) (da_cons (de_bin op_mulS (opd_mulS _) (DE.o (de_ix ix_seq (opd_ix _) (DE.o (de_name 0 (pe_var (i := 0) (by rfl) (by first | exact .inl rfl | exact .inr (.inl rfl) | exact .inr (.inr rfl))))) (DE.o (de_int)) (by intro _ _; rfl))) (DE.o (de_ix ix_seq (opd_ix _) (DE.o (de_name 1 (pe_var (i := 1) (by rfl) (by first | exact .inl rfl | exact .inr (.inl rfl) | exact .inr (.inr rfl))))) (DE.o (de_int)) (by intro _ _; rfl)))) (da_nil)))))))
theorem ok_law_v_above {f : Addr} {fd : FuncData} (c : Fc K mg) (Fd : FunD K "_law_v_above" "_law_v_above" (defArgs s_law_v_above) (defBody s_law_v_above) (defScope s_law_v_above) [] [] f fd) : FnOk P w K mg base (L2.CX P w) 1 f fd ["one", "other"] (spP K (F_law_v_above K)) := by
  have S : FnScope ["one", "other"] ["one", "other"] (defScope s_law_v_above) := C8.fnScope_by (by decide +kernel)
  refine fnOk_of (g := g_law_v_above K) Fd S (fun cdv A outer s H E hr => ?_) (runP_ok (g := g_law_v_above K) (n := 2) (m := 2))
  exact dss_one (ds_ret (ps_ret (DE.pe (de_cmp op_gtA (opd_gt _) (DE.o (de_bin op_mulS (opd_mulS _) (DE.o (de_ix ix_seq (opd_ix _) (DE.o (de_name 0 (pe_var (i := 0) (by rfl) (by first | exact .inl rfl | exact .inr (.inl rfl) | exact .inr (.inr rfl))))) (DE.o (de_int)) (by intro _ _; rfl))) (DE.o (de_ix ix_seq (opd_ix _) (DE.o (de_name 1 (pe_var (i := 1) (by rfl) (by first | exact .inl rfl | exact .inr (.inl rfl) | exact .inr (.inr rfl))))) (DE.o (de_int)) (by intro _ _; rfl))))) (DE.o (de_bin op_mulS (opd_mulS _) (DE.o (de_ix ix_seq (opd_ix _) (DE.o (de_name 1 (pe_var (i := 1) (by rfl) (by first | exact .inl rfl | exact .inr (.inl rfl) | exact .inr (.inr rfl))))) (DE.o (de_int)) (by intro _ _; rfl))) (DE.o (de_ix ix_seq (opd_ix _) (DE.o (de_name 0 (pe_var (i := 0) (by rfl) (by first | exact .inl rfl | exact .inr (.inl rfl) | exact .inr (.inr rfl))))) (DE.o (de_int)) (by intro _ _; rfl))))) (by rfl)))))
theorem ok_law_v_sum {f : Addr} {fd : FuncData} (c : Fc K mg) (h_law_v_plus : FnP P w K mg base 2 "_law_v_plus" ["one", "other"] (F_law_v_plus K)) (h_law_v_by : FnP P w K mg base 2 "_law_v_by" ["one", "other"] (F_law_v_by K)) (Fd : FunD K "_law_v_sum" "_law_v_sum" (defArgs s_law_v_sum) (defBody s_law_v_sum) (defScope s_law_v_sum) [] [] f fd) : FnOk P w K mg base (L2.CX P w) 3 f fd ["weights", "vector", "bias"] (spP K (F_law_v_sum K)) := by
  have S : FnScope ["weights", "vector", "bias", "found", "weight", "number"] ["weights", "vector", "bias"] (defScope s_law_v_sum) := C8.fnScope_by (by decide +kernel)
  refine fnOk_of (g := g_law_v_sum K) Fd S (fun cdv A outer s H E hr => ?_) (runP_ok (g := g_law_v_sum K) (n := 6) (m := 3))
  exact dss_cons (ds_set (ps_set (i := 3) S.nd (by rfl) (by first | exact .inl rfl | exact .inr rfl) (DE.pe (de_name 2 (pe_var (i := 2) (by rfl) (by first | exact .inl rfl | exact .inr (.inl rfl) | exact .inr (.inr rfl))))))) (dss_cons (ds_forI (js := ([4] ++ ([5] ++ []))) ownC (by rfl) (di_zip (by rfl) c.f_zip (da_cons (de_name 0 (pe_var (i := 0) (by rfl) (by first | exact .inl rfl | exact .inr (.inl rfl) | exact .inr (.inr rfl)))) (da_cons (de_name 1 (pe_var (i := 1) (by rfl) (by first | exact .inl rfl | exact .inr (.inl rfl) | exact .inr (.inr rfl)))) (da_nil)))) (dg_tup (n := 2) (by rfl) (dgs_cons (dg_name 4 (pg_name S.nd (by rfl) (by first | exact .inl rfl | exact .inr rfl))) (dgs_cons (dg_name 5 (pg_name S.nd (by rfl) (by first | exact .inl rfl | exact .inr rfl))) (dgs_nil))) (fun _ _ _ e => hCons_len (fun _ _ _ e => hCons_len (fun _ _ _ e => hNil_len e) e) e)) (dss_one (ds_set (ps_set (i := 3) S.nd (by rfl) (by first | exact .inl rfl | exact .inr rfl) (DE.pe (de_call (Ek := E) h_law_v_plus hr (by decide) passC (by rfl) (da_cons (de_name 3 (pe_var (i := 3) (by rfl) (by first | exact .inl rfl | exact .inr (.inl rfl) | exact .inr (.inr rfl)))) (da_cons (de_call (Ek := E) h_law_v_by hr (by decide) passC (by rfl) (da_cons (de_name 4 (pe_var (i := 4) (by rfl) (by first | exact .inl rfl | exact .inr (.inl rfl) | exact .inr (.inr rfl)))) (da_cons (de_name 5 (pe_var (i := 5) (by rfl) (by first | exact .inl rfl | exact .inr (.inl rfl) | exact .inr (.inr rfl)))) (da_nil)))) (da_nil))))))))) (dss_one (ds_ret (ps_ret (DE.pe (de_name 3 (pe_var (i := 3) (by rfl) (by first | exact .inl rfl | exact .inr (.inl rfl) | exact .inr (.inr rfl)))))))))
theorem ok_law_v_layer {f : Addr} {fd : FuncData} (c : Fc K mg) (h_law_v_above : FnP P w K mg base 1 "_law_v_above" ["one", "other"] (F_law_v_above K)) (h_law_v_sum : FnP P w K mg base 3 "_law_v_sum" ["weights", "vector", "bias"] (F_law_v_sum K)) (Fd : FunD K "_law_v_layer" "_law_v_layer" (defArgs s_law_v_layer) (defBody s_law_v_layer) (defScope s_law_v_layer) [] [] f fd) : FnOk P w K mg base (L2.CX P w) 4 f fd ["layer", "vector"] (spP K (F_law_v_layer K)) := by
  have S : FnScope ["layer", "vector", "found", "group", "best", "place", "weights", "bias", "at", "number"] ["layer", "vector"] (defScope s_law_v_layer) := C8.fnScope_by (by decide +kernel)
  refine fnOk_of (g := g_law_v_layer K) Fd S (fun cdv A outer s H E hr => ?_) (runP_ok (g := g_law_v_layer K) (n := 10) (m := 2))
  exact dss_cons (ds_if (ps_if (DT.pt (dt_cmp (op_eqA hr.units) (opd_eq _) (DE.o (de_ix ix_seq (opd_ix _) (DE.o (de_name 0 (pe_var (i := 0) (by rfl) (by first | exact .inl rfl | exact .inr (.inl rfl) | exact .inr (.inr rfl))))) (DE.o (de_int)) (by intro _ _; rfl))) (DE.o (de_str)) (by rfl))) (dss_one (ds_ret (ps_ret (DE.pe (de_callTy call_tuple_of (cal_tup _) (by rfl) c.f_tuple boot_tuple (doa_cons (DE.o (DN.de (dn_comp (own := [("weights", 6), ("bias", 7)]) (js := ([6] ++ ([7] ++ []))) (by rfl) S.nd (di_any (de_ix ix_seq (opd_ix _) (DE.o (de_name 0 (pe_var (i := 0) (by rfl) (by first | exact .inl rfl | exact .inr (.inl rfl) | exact .inr (.inr rfl))))) (DE.o (de_int)) (by intro _ _; rfl))) (blkOk_by (by rfl)) (by decide) (fun _ _ _ _ _ => dg_tup (n := 2) (by rfl) (dgs_cons (dg_name 6 (pg_name S.nd (by rfl) (by first | exact .inl rfl | exact .inr rfl))) (dgs_cons (dg_name 7 (pg_name S.nd (by rfl) (by first | exact .inl rfl | exact .inr rfl))) (dgs_nil))) (fun _ _ _ e => hCons_len (fun _ _ _ e => hCons_len (fun _ _ _ e => hNil_len e) e) e)) (fun _ _ _ _ _ => pts_nilD) (fun _ _ _ _ _ => de_call (Ek := (fun _ _ _ => False)) h_law_v_sum hr (by decide) passB (by rfl) (da_cons (de_name 6 (pe_var (i := 6) (by rfl) (by first | exact .inl rfl | exact .inr (.inl rfl) | exact .inr (.inr rfl)))) (da_cons (de_name 1 (pe_var (i := 1) (by rfl) (by first | exact .inl rfl | exact .inr (.inl rfl) | exact .inr (.inr rfl)))) (da_cons (de_name 7 (pe_var (i := 7) (by rfl) (by first | exact .inl rfl | exact .inr (.inl rfl) | exact .inr (.inr rfl)))) (da_nil)))))))) (doa_nil))))))) (dss_nil))) (dss_cons (ds_if (ps_if (DT.pt (dt_cmp (op_eqA hr.units) (opd_eq _) (DE.o (de_ix ix_seq (opd_ix _) (DE.o (de_name 0 (pe_var (i := 0) (by rfl) (by first | exact .inl rfl | exact .inr (.inl rfl) | exact .inr (.inr rfl))))) (DE.o (de_int)) (by intro _ _; rfl))) (DE.o (de_str)) (by rfl))) (dss_one (ds_ret (ps_ret (DE.pe (de_callTy call_tuple_of (cal_tup _) (by rfl) c.f_tuple boot_tuple (doa_cons (DE.o (DN.de (dn_comp (own := [("at", 8), ("number", 9)]) (js := ([8] ++ ([9] ++ []))) (by rfl) S.nd (di_enum (by rfl) c.f_enumerate (da_cons (de_name 1 (pe_var (i := 1) (by rfl) (by first | exact .inl rfl | exact .inr (.inl rfl) | exact .inr (.inr rfl)))) (da_nil))) (blkOk_by (by rfl)) (by decide) (fun _ _ _ _ _ => dg_tup (n := 2) (by rfl) (dgs_cons (dg_name 8 (pg_name S.nd (by rfl) (by first | exact .inl rfl | exact .inr rfl))) (dgs_cons (dg_name 9 (pg_name S.nd (by rfl) (by first | exact .inl rfl | exact .inr rfl))) (dgs_nil))) (fun _ _ _ e => hCons_len (fun _ _ _ e => hCons_len (fun _ _ _ e => hNil_len e) e) e)) (fun _ _ _ _ _ => pts_nilD) (fun _ _ _ _ _ => de_if (DW.dt (dw_and (dt_cmp op_inA (opd_in _) (DE.o (de_name 8 (pe_var (i := 8) (by rfl) (by first | exact .inl rfl | exact .inr (.inl rfl) | exact .inr (.inr rfl))))) (DE.o (de_ix ix_seq (opd_ix _) (DE.o (de_name 0 (pe_var (i := 0) (by rfl) (by first | exact .inl rfl | exact .inr (.inl rfl) | exact .inr (.inr rfl))))) (DE.o (de_int)) (by intro _ _; rfl))) (by rfl)) (dw_and1 (dt_cmp op_ltA (opd_lt _) (DE.o (de_ix ix_seq (opd_ix _) (DE.o (de_name 9 (pe_var (i := 9) (by rfl) (by first | exact .inl rfl | exact .inr (.inl rfl) | exact .inr (.inr rfl))))) (DE.o (de_int)) (by intro _ _; rfl))) (DE.o (de_int)) (by rfl))))) (de_tup (da_cons (de_int) (da_cons (de_int) (da_nil))) (by decide) (lenCons (lenCons (lenNil)))) (de_name 9 (pe_var (i := 9) (by rfl) (by first | exact .inl rfl | exact .inr (.inl rfl) | exact .inr (.inr rfl)))))))) (doa_nil))))))) (dss_nil))) (dss_cons (ds_setO (ps_set (i := 2) S.nd (by rfl) (.inl rfl) (DN.pe (dn_lst (da_nil) (by decide) (lenNil))))) (dss_cons (ds_forI (js := [3]) ownC (by rfl) (di_any (de_ix ix_seq (opd_ix _) (DE.o (de_name 0 (pe_var (i := 0) (by rfl) (by first | exact .inl rfl | exact .inr (.inl rfl) | exact .inr (.inr rfl))))) (DE.o (de_int)) (by intro _ _; rfl))) (dg_name 3 (pg_name S.nd (by rfl) (by first | exact .inl rfl | exact .inr rfl))) (dss_cons (ds_set (ps_set (i := 4) S.nd (by rfl) (by first | exact .inl rfl | exact .inr rfl) (DE.pe (de_ix ix_seq (opd_ix _) (DE.o (de_name 1 (pe_var (i := 1) (by rfl) (by first | exact .inl rfl | exact .inr (.inl rfl) | exact .inr (.inr rfl))))) (DE.o (de_ix ix_seq (opd_ix _) (DE.o (de_name 3 (pe_var (i := 3) (by rfl) (by first | exact .inl rfl | exact .inr (.inl rfl) | exact .inr (.inr rfl))))) (DE.o (de_int)) (by intro _ _; rfl))) (by intro _ _; rfl))))) (dss_cons (ds_forI (js := [5]) ownC (by rfl) (di_any (de_slice (DE.o (de_name 3 (pe_var (i := 3) (by rfl) (by first | exact .inl rfl | exact .inr (.inl rfl) | exact .inr (.inr rfl))))) (dp_some (de_int)) (dp_none))) (dg_name 5 (pg_name S.nd (by rfl) (by first | exact .inl rfl | exact .inr rfl))) (dss_one (ds_set (ps_set (i := 4) S.nd (by rfl) (by first | exact .inl rfl | exact .inr rfl) (DE.pe (de_if (dt_val (de_call (Ek := E) h_law_v_above hr (by decide) passC (by rfl) (da_cons (de_ix ix_seq (opd_ix _) (DE.o (de_name 1 (pe_var (i := 1) (by rfl) (by first | exact .inl rfl | exact .inr (.inl rfl) | exact .inr (.inr rfl))))) (DE.o (de_name 5 (pe_var (i := 5) (by rfl) (by first | exact .inl rfl | exact .inr (.inl rfl) | exact .inr (.inr rfl))))) (by intro _ _; rfl)) (da_cons (de_name 4 (pe_var (i := 4) (by rfl) (by first | exact .inl rfl | exact .inr (.inl rfl) | exact .inr (.inr rfl)))) (da_nil))))) (de_ix ix_seq (opd_ix _) (DE.o (de_name 1 (pe_var (i := 1) (by rfl) (by first | exact .inl rfl | exact .inr (.inl rfl) | exact .inr (.inr rfl))))) (DE.o (de_name 5 (pe_var (i := 5) (by rfl) (by first | exact .inl rfl | exact .inr (.inl rfl) | exact .inr (.inr rfl))))) (by intro _ _; rfl)) (de_name 4 (pe_var (i := 4) (by rfl) (by first | exact .inl rfl | exact .inr (.inl rfl) | exact .inr (.inr rfl)))))))))) (dss_one (ds_app (i := 2) (ps_expr (pe_bm PySem.F.plainAttrs_list PySem.F.slot_list_append PySem.F.type_list_append mt_append (pe_var (i := 2) (by rfl) (by first | exact .inl rfl | exact .inr (.inl rfl) | exact .inr (.inr rfl))) (pa_cons (DE.pe (de_name 4 (pe_var (i := 4) (by rfl) (by first | exact .inl rfl | exact .inr (.inl rfl) | exact .inr (.inr rfl))))) pa_nil)))))))) (dss_one (ds_ret (ps_ret (DE.pe (de_callTy call_tuple_of (cal_tup _) (by rfl) c.f_tuple boot_tuple (doa_cons (do_name 2 (pe_var (i := 2) (by rfl) (by first | exact .inl rfl | exact .inr (.inl rfl) | exact .inr (.inr rfl)))) (doa_nil))))))))))
theorem ok_law_v_told {f : Addr} {fd : FuncData} (c : Fc K mg) (h_law_v_layer : FnP P w K mg base 4 "_law_v_layer" ["layer", "vector"] (F_law_v_layer K)) (Fd : FunD K "_law_v_told" "_law_v_told" (defArgs s_law_v_told) (defBody s_law_v_told) (defScope s_law_v_told) [] [] f fd) : FnOk P w K mg base (L2.CX P w) 5 f fd ["net", "vector"] (spP K (F_law_v_told K)) := by
  have S : FnScope ["net", "vector", "layer"] ["net", "vector"] (defScope s_law_v_told) := C8.fnScope_by (by decide +kernel)
  refine fnOk_of (g := g_law_v_told K) Fd S (fun cdv A outer s H E hr => ?_) (runP_ok (g := g_law_v_told K) (n := 3) (m := 2))
  exact dss_cons (ds_forI (js := [2]) ownC (by rfl) (di_any (de_ix ix_seq (opd_ix _) (DE.o (de_name 0 (pe_var (i := 0) (by rfl) (by first | exact .inl rfl | exact .inr (.inl rfl) | exact .inr (.inr rfl))))) (DE.o (de_int)) (by intro _ _; rfl))) (dg_name 2 (pg_name S.nd (by rfl) (by first | exact .inl rfl | exact .inr rfl))) (dss_one (ds_set (ps_set (i := 1) S.nd (by rfl) (by first | exact .inl rfl | exact .inr rfl) (DE.pe (de_call (Ek := E) h_law_v_layer hr (by decide) passC (by rfl) (da_cons (de_name 2 (pe_var (i := 2) (by rfl) (by first | exact .inl rfl | exact .inr (.inl rfl) | exact .inr (.inr rfl)))) (da_cons (de_name 1 (pe_var (i := 1) (by rfl) (by first | exact .inl rfl | exact .inr (.inl rfl) | exact .inr (.inr rfl)))) (da_nil))))))))) (dss_one (ds_ret (ps_ret (DE.pe (de_name 1 (pe_var (i := 1) (by rfl) (by first | exact .inl rfl | exact .inr (.inl rfl) | exact .inr (.inr rfl))))))))
theorem ok_law_v_row {f : Addr} {fd : FuncData} (c : Fc K mg) (h_law_v_number : FnI P w K mg base T 3 "_law_v_number" ["state", "most"] (F_law_v_number K)) (Fd : FunD K "_law_v_row" "_law_v_row" (defArgs s_law_v_row) (defBody s_law_v_row) (defScope s_law_v_row) [] [] f fd) : FnOk P w K mg base (L2.CX P w) 4 f fd ["state", "many"] (spI K T (F_law_v_row K)) := by
  have S : FnScope ["state", "many", "lap"] ["state", "many"] (defScope s_law_v_row) := C8.fnScope_by (by decide +kernel)
  refine fnOkI_of (n := 2) (g := g_law_v_row K) Fd S rfl (fun sa ga ca cdv A outer s H E hr => ?_) (runF_ok (g := g_law_v_row K) (n := 2) (m := 1))
  exact dss_one (ds_ret (ps_ret (DE.pe (de_tup (da_cons (de_callTy call_tuple_of (cal_tup _) (by rfl) c.f_tuple boot_tuple (doa_cons (DE.o (DN.de (dn_comp (own := [("lap", 2)]) (js := [2]) (by rfl) S.nd (di_rng1 (by rfl) c.f_range (doa_cons (DE.o (de_name 1 (pe_var (i := 1) (by rfl) (by first | exact .inl rfl | exact .inr (.inl rfl) | exact .inr (.inr rfl))))) (doa_nil))) (blkOk_by (by rfl)) (by decide) (fun _ _ _ _ _ => dg_name 2 (pg_name S.nd (by rfl) (by first | exact .inl rfl | exact .inr rfl))) (fun _ _ _ _ _ => pts_nilD) (fun _ _ _ _ _ => de_callI (Ek := (fun _ _ _ => False)) (i := 0) h_law_v_number hr (by decide) passB (by rfl) (pe_var (i := 0) (by rfl) (by first | exact .inl rfl | exact .inr (.inl rfl) | exact .inr (.inr rfl))) (da_cons (de_int) (da_nil)))))) (doa_nil))) (da_cons (de_callI (Ek := E) (i := 0) h_law_v_number hr (by decide) passC (by rfl) (pe_var (i := 0) (by rfl) (by first | exact .inl rfl | exact .inr (.inl rfl) | exact .inr (.inr rfl))) (da_cons (de_int) (da_nil))) (da_nil))) (by decide) (lenCons (lenCons (lenNil)))))))
theorem ok_law_v_some {f : Addr} {fd : FuncData} (c : Fc K mg) (h_law_mixed : FnI P w K mg base T 3 "_law_mixed" ["state", "several"] (F_law_mixed K)) (h_law_draw : FnI P w K mg base T 2 "_law_draw" ["state", "size_here"] (F_law_draw K)) (Fd : FunD K "_law_v_some" "_law_v_some" (defArgs s_law_v_some) (defBody s_law_v_some) (defScope s_law_v_some) [] [] f fd) : FnOk P w K mg base (L2.CX P w) 4 f fd ["state", "many"] (spI K T (F_law_v_some K)) := by
  have S : FnScope ["state", "many"] ["state", "many"] (defScope s_law_v_some) := C8.fnScope_by (by decide +kernel)
  refine fnOkI_of (n := 1) (g := g_law_v_some K) Fd S rfl (fun sa ga ca cdv A outer s H E hr => ?_) (runF_ok (g := g_law_v_some K) (n := 1) (m := 1))
  exact dss_one (ds_ret (ps_ret (DE.pe (de_callTy call_tuple_of (cal_tup _) (by rfl) c.f_tuple boot_tuple (doa_cons (DE.o (de_slice (DE.o (de_callI (Ek := E) (i := 0) h_law_mixed hr (by decide) passC (by rfl) (pe_var (i := 0) (by rfl) (by first | exact .inl rfl | exact .inr (.inl rfl) | exact .inr (.inr rfl))) (da_cons (DN.de (dn_listRng (by rfl) (by rfl) c.f_list (by rfl) c.f_range (de_name 1 (pe_var (i := 1) (by rfl) (by first | exact .inl rfl | exact .inr (.inl rfl) | exact .inr (.inr rfl)))))) (da_nil)))) (dp_none) (dp_some (de_bin op_addA (opd_add _) (DE.o (de_int)) (DE.o (de_callI (Ek := E) (i := 0) h_law_draw hr (by decide) passC (by rfl) (pe_var (i := 0) (by rfl) (by first | exact .inl rfl | exact .inr (.inl rfl) | exact .inr (.inr rfl))) (da_cons (de_name 1 (pe_var (i := 1) (by rfl) (by first | exact .inl rfl | exact .inr (.inl rfl) | exact .inr (.inr rfl)))) (da_nil)))))))) (doa_nil))))))
theorem ok_law_v_layer_for {f : Addr} {fd : FuncData} (c : Fc K mg) (h_law_draw : FnI P w K mg base T 2 "_law_draw" ["state", "size_here"] (F_law_draw K)) (h_law_v_row : FnI P w K mg base T 4 "_law_v_row" ["state", "many"] (F_law_v_row K)) (h_law_v_some : FnI P w K mg base T 4 "_law_v_some" ["state", "many"] (F_law_v_some K)) (Fd : FunD K "_law_v_layer_for" "_law_v_layer_for" (defArgs s_law_v_layer_for) (defBody s_law_v_layer_for) (defScope s_law_v_layer_for) [] [] f fd) : FnOk P w K mg base (L2.CX P w) 5 f fd ["state", "many", "room"] (spI K T (F_law_v_layer_for K)) := by
  have S : FnScope ["state", "many", "room", "way", "lap", "at"] ["state", "many", "room"] (defScope s_law_v_layer_for) := C8.fnScope_by (by decide +kernel)
  refine fnOkI_of (n := 5) (g := g_law_v_layer_for K) Fd S rfl (fun sa ga ca cdv A outer s H E hr => ?_) (runF_ok (g := g_law_v_layer_for K) (n := 5) (m := 2))
  exact dss_cons (ds_set (ps_set (i := 3) S.nd (by rfl) (by first | exact .inl rfl | exact .inr rfl) (DE.pe (de_callI (Ek := E) (i := 0) h_law_draw hr (by decide) passC (by rfl) (pe_var (i := 0) (by rfl) (by first | exact .inl rfl | exact .inr (.inl rfl) | exact .inr (.inr rfl))) (da_cons (de_int) (da_nil)))))) (dss_cons (ds_if (ps_if (DT.pt (DW.dt (dw_and (dt_cmp (op_eqA hr.units) (opd_eq _) (DE.o (de_name 3 (pe_var (i := 3) (by rfl) (by first | exact .inl rfl | exact .inr (.inl rfl) | exact .inr (.inr rfl))))) (DE.o (de_int)) (by rfl)) (dw_and1 (dt_cmp op_gtA (opd_gt _) (DE.o (de_name 2 (pe_var (i := 2) (by rfl) (by first | exact .inl rfl | exact .inr (.inl rfl) | exact .inr (.inr rfl))))) (DE.o (de_int)) (by rfl)))))) (dss_one (ds_ret (ps_ret (DE.pe (de_tup (da_cons (de_str) (da_cons (de_callTy call_tuple_of (cal_tup _) (by rfl) c.f_tuple boot_tuple (doa_cons (DE.o (DN.de (dn_callB cr_sortA (cln_sortA _) (by rfl) c.f_sorted boot_sorted (doa_cons (DE.o (de_callI (Ek := E) (i := 0) h_law_v_some hr (by decide) passC (by rfl) (pe_var (i := 0) (by rfl) (by first | exact .inl rfl | exact .inr (.inl rfl) | exact .inr (.inr rfl))) (da_cons (de_callB (call_min2 rfl) (cal_min _) (by rfl) c.f_min boot_min (doa_cons (DE.o (de_name 1 (pe_var (i := 1) (by rfl) (by first | exact .inl rfl | exact .inr (.inl rfl) | exact .inr (.inr rfl))))) (doa_cons (DE.o (de_name 2 (pe_var (i := 2) (by rfl) (by first | exact .inl rfl | exact .inr (.inl rfl) | exact .inr (.inr rfl))))) (doa_nil)))) (da_nil)))) (doa_nil))))) (doa_nil))) (da_nil))) (by decide) (lenCons (lenCons (lenNil)))))))) (dss_nil))) (dss_cons (ds_if (ps_if (DT.pt (DW.dt (dw_and (dt_cmp (op_eqA hr.units) (opd_eq _) (DE.o (de_name 3 (pe_var (i := 3) (by rfl) (by first | exact .inl rfl | exact .inr (.inl rfl) | exact .inr (.inr rfl))))) (DE.o (de_int)) (by rfl)) (dw_and1 (dt_cmp op_geA (opd_ge _) (DE.o (de_name 2 (pe_var (i := 2) (by rfl) (by first | exact .inl rfl | exact .inr (.inl rfl) | exact .inr (.inr rfl))))) (DE.o (de_bin op_sub (opd_sub _) (DE.o (de_name 1 (pe_var (i := 1) (by rfl) (by first | exact .inl rfl | exact .inr (.inl rfl) | exact .inr (.inr rfl))))) (DE.o (de_int)))) (by rfl)))))) (dss_one (ds_ret (ps_ret (DE.pe (de_tup (da_cons (de_str) (da_cons (de_callTy call_tuple_of (cal_tup _) (by rfl) c.f_tuple boot_tuple (doa_cons (DE.o (DN.de (dn_comp (own := [("at", 5)]) (js := [5]) (by rfl) S.nd (di_rng1 (by rfl) c.f_range (doa_cons (DE.o (de_bin op_addA (opd_add _) (DE.o (de_int)) (DE.o (de_callI (Ek := E) (i := 0) h_law_draw hr (by decide) passC (by rfl) (pe_var (i := 0) (by rfl) (by first | exact .inl rfl | exact .inr (.inl rfl) | exact .inr (.inr rfl))) (da_cons (de_int) (da_nil)))))) (doa_nil))) (blkOk_by (by rfl)) (by decide) (fun _ _ _ _ _ => dg_name 5 (pg_name S.nd (by rfl) (by first | exact .inl rfl | exact .inr rfl))) (fun _ _ _ _ _ => pts_nilD) (fun _ _ _ _ _ => de_if (dt_cmp (op_eqA hr.units) (opd_eq _) (DE.o (de_name 5 (pe_var (i := 5) (by rfl) (by first | exact .inl rfl | exact .inr (.inl rfl) | exact .inr (.inr rfl))))) (DE.o (de_int)) (by rfl)) (de_callI (Ek := (fun _ _ _ => False)) (i := 0) h_law_v_some hr (by decide) passB (by rfl) (pe_var (i := 0) (by rfl) (by first | exact .inl rfl | exact .inr (.inl rfl) | exact .inr (.inr rfl))) (da_cons (de_name 1 (pe_var (i := 1) (by rfl) (by first | exact .inl rfl | exact .inr (.inl rfl) | exact .inr (.inr rfl)))) (da_nil))) (de_tup (da_cons (de_callI (Ek := (fun _ _ _ => False)) (i := 0) h_law_draw hr (by decide) passB (by rfl) (pe_var (i := 0) (by rfl) (by first | exact .inl rfl | exact .inr (.inl rfl) | exact .inr (.inr rfl))) (da_cons (de_name 1 (pe_var (i := 1) (by rfl) (by first | exact .inl rfl | exact .inr (.inl rfl) | exact .inr (.inr rfl)))) (da_nil))) (da_nil)) (by decide) (lenCons (lenNil))))))) (doa_nil))) (da_nil))) (by decide) (lenCons (lenCons (lenNil)))))))) (dss_nil))) (dss_one (ds_ret (ps_ret (DE.pe (de_tup (da_cons (de_str) (da_cons (de_callTy call_tuple_of (cal_tup _) (by rfl) c.f_tuple boot_tuple (doa_cons (DE.o (DN.de (dn_comp (own := [("lap", 4)]) (js := [4]) (by rfl) S.nd (di_rng1 (by rfl) c.f_range (doa_cons (DE.o (de_bin op_addA (opd_add _) (DE.o (de_int)) (DE.o (de_callI (Ek := E) (i := 0) h_law_draw hr (by decide) passC (by rfl) (pe_var (i := 0) (by rfl) (by first | exact .inl rfl | exact .inr (.inl rfl) | exact .inr (.inr rfl))) (da_cons (de_int) (da_nil)))))) (doa_nil))) (blkOk_by (by rfl)) (by decide) (fun _ _ _ _ _ => dg_name 4 (pg_name S.nd (by rfl) (by first | exact .inl rfl | exact .inr rfl))) (fun _ _ _ _ _ => pts_nilD) (fun _ _ _ _ _ => de_callI (Ek := (fun _ _ _ => False)) (i := 0) h_law_v_row hr (by decide) passB (by rfl) (pe_var (i := 0) (by rfl) (by first | exact .inl rfl | exact .inr (.inl rfl) | exact .inr (.inr rfl))) (da_cons (de_name 1 (pe_var (i := 1) (by rfl) (by first | exact .inl rfl | exact .inr (.inl rfl) | exact .inr (.inr rfl)))) (da_nil)))))) (doa_nil))) (da_nil))) (by decide) (lenCons (lenCons (lenNil))))))))))
theorem ok_law_v_bends {f : Addr} {fd : FuncData} (c : Fc K mg) (Fd : FunD K "_law_v_bends" "_law_v_bends" (defArgs s_law_v_bends) (defBody s_law_v_bends) (defScope s_law_v_bends) [] [] f fd) : FnOk P w K mg base (L2.CX P w) 1 f fd ["layer"] (spP K (F_law_v_bends K)) := by
  have S : FnScope ["layer", "group"] ["layer"] (defScope s_law_v_bends) := C8.fnScope_by (by decide +kernel)
  refine fnOk_of (g := g_law_v_bends K) Fd S (fun cdv A outer s H E hr => ?_) (runP_ok (g := g_law_v_bends K) (n := 2) (m := 1))
  exact dss_cons (ds_if (ps_if (DT.pt (dt_cmp (op_eqA hr.units) (opd_eq _) (DE.o (de_ix ix_seq (opd_ix _) (DE.o (de_name 0 (pe_var (i := 0) (by rfl) (by first | exact .inl rfl | exact .inr (.inl rfl) | exact .inr (.inr rfl))))) (DE.o (de_int)) (by intro _ _; rfl))) (DE.o (de_str)) (by rfl))) (dss_one (ds_ret (ps_ret (DE.pe (de_callB call_len (cal_len _) (by rfl) c.f_len boot_len (doa_cons (DE.o (de_ix ix_seq (opd_ix _) (DE.o (de_name 0 (pe_var (i := 0) (by rfl) (by first | exact .inl rfl | exact .inr (.inl rfl) | exact .inr (.inr rfl))))) (DE.o (de_int)) (by intro _ _; rfl))) (doa_nil))))))) (dss_nil))) (dss_one (ds_ret (ps_ret (DE.pe (de_if (dt_cmp (op_eqA hr.units) (opd_eq _) (DE.o (de_ix ix_seq (opd_ix _) (DE.o (de_name 0 (pe_var (i := 0) (by rfl) (by first | exact .inl rfl | exact .inr (.inl rfl) | exact .inr (.inr rfl))))) (DE.o (de_int)) (by intro _ _; rfl))) (DE.o (de_str)) (by rfl)) (de_callB (cr_sum rfl) (cal_sum _) (by rfl) c.f_sum boot_sum (doa_cons (DE.o (DN.de (dn_comp (own := [("group", 1)]) (js := [1]) (by rfl) S.nd (di_any (de_ix ix_seq (opd_ix _) (DE.o (de_name 0 (pe_var (i := 0) (by rfl) (by first | exact .inl rfl | exact .inr (.inl rfl) | exact .inr (.inr rfl))))) (DE.o (de_int)) (by intro _ _; rfl))) (blkOk_by (by rfl)) (by decide) (fun _ _ _ _ _ => dg_name 1 (pg_name S.nd (by rfl) (by first | exact .inl rfl | exact .inr rfl))) (fun _ _ _ _ _ => pts_nilD) (fun _ _ _ _ _ => de_bin op_sub (opd_sub _) (DE.o (de_callB call_len (cal_len _) (by rfl) c.f_len boot_len (doa_cons (DE.o (de_name 1 (pe_var (i := 1) (by rfl) (by first | exact .inl rfl | exact .inr (.inl rfl) | exact .inr (.inr rfl))))) (doa_nil)))) (DE.o (de_int)))))) (doa_nil))) (de_int))))))
theorem ok_law_v_net {f : Addr} {fd : FuncData} (c : Fc K mg) (h_law_v_bends : FnP P w K mg base 1 "_law_v_bends" ["layer"] (F_law_v_bends K)) (h_law_v_layer_for : FnI P w K mg base T 5 "_law_v_layer_for" ["state", "many", "room"] (F_law_v_layer_for K)) (Fd : FunD K "_law_v_net" "_law_v_net" (defArgs s_law_v_net) (defBody s_law_v_net) (defScope s_law_v_net) [] [] f fd) : FnOk P w K mg base (L2.CX P w) 6 f fd ["state", "inputs", "layers", "bends"] (spI K T (F_law_v_net K)) := by
  have S : FnScope ["state", "inputs", "layers", "bends", "lap", "found", "many", "room", "layer"] ["state", "inputs", "layers", "bends"] (defScope s_law_v_net) := C8.fnScope_by (by decide +kernel)
  refine fnOkI_of (n := 8) (g := g_law_v_net K) Fd S rfl (fun sa ga ca cdv A outer s H E hr => ?_) (runF_ok (g := g_law_v_net K) (n := 8) (m := 3))
  exact dss_cons (ds_parM3 (by rfl) S.nd (by rfl) (by rfl) (by rfl) (by decide) (by decide) (by decide) (by rfl) (by rfl) (by rfl) (dm_own (dn_lst (da_nil) (by decide) (lenNil)) (dm_dat (de_name 1 (pe_var (i := 1) (by rfl) (by first | exact .inl rfl | exact .inr (.inl rfl) | exact .inr (.inr rfl)))) (dm_dat (de_name 3 (pe_var (i := 3) (by rfl) (by first | exact .inl rfl | exact .inr (.inl rfl) | exact .inr (.inr rfl)))) (dm_nil)))) (by rfl)) (dss_cons (ds_forI (js := [4]) ownC (by rfl) (di_rng1 (by rfl) c.f_range (doa_cons (DE.o (de_name 2 (pe_var (i := 2) (by rfl) (by first | exact .inl rfl | exact .inr (.inl rfl) | exact .inr (.inr rfl))))) (doa_nil))) (dg_name 4 (pg_name S.nd (by rfl) (by first | exact .inl rfl | exact .inr rfl))) (dss_cons (ds_set (ps_set (i := 8) S.nd (by rfl) (by first | exact .inl rfl | exact .inr rfl) (DE.pe (de_callI (Ek := E) (i := 0) h_law_v_layer_for hr (by decide) passC (by rfl) (pe_var (i := 0) (by rfl) (by first | exact .inl rfl | exact .inr (.inl rfl) | exact .inr (.inr rfl))) (da_cons (de_name 6 (pe_var (i := 6) (by rfl) (by first | exact .inl rfl | exact .inr (.inl rfl) | exact .inr (.inr rfl)))) (da_cons (de_name 7 (pe_var (i := 7) (by rfl) (by first | exact .inl rfl | exact .inr (.inl rfl) | exact .inr (.inr rfl)))) (da_nil))))))) (dss_cons (ds_app (i := 5) (ps_expr (pe_bm PySem.F.plainAttrs_list PySem.F.slot_list_append PySem.F.type_list_append mt_append (pe_var (i := 5) (by rfl) (by first | exact .inl rfl | exact .inr (.inl rfl) | exact .inr (.inr rfl))) (pa_cons (DE.pe (de_name 8 (pe_var (i := 8) (by rfl) (by first | exact .inl rfl | exact .inr (.inl rfl) | exact .inr (.inr rfl))))) pa_nil)))) (dss_cons (ds_set (ps_set (i := 7) S.nd (by rfl) (by first | exact .inl rfl | exact .inr rfl) (DE.pe (de_bin op_sub (opd_sub _) (DE.o (de_name 7 (pe_var (i := 7) (by rfl) (by first | exact .inl rfl | exact .inr (.inl rfl) | exact .inr (.inr rfl))))) (DE.o (de_call (Ek := E) h_law_v_bends hr (by decide) passC (by rfl) (da_cons (de_name 8 (pe_var (i := 8) (by rfl) (by first | exact .inl rfl | exact .inr (.inl rfl) | exact .inr (.inr rfl)))) (da_nil)))))))) (dss_one (ds_set (ps_set (i := 6) S.nd (by rfl) (by first | exact .inl rfl | exact .inr rfl) (DE.pe (de_if (dt_cmp (op_eqA hr.units) (opd_eq _) (DE.o (de_ix ix_seq (opd_ix _) (DE.o (de_name 8 (pe_var (i := 8) (by rfl) (by first | exact .inl rfl | exact .inr (.inl rfl) | exact .inr (.inr rfl))))) (DE.o (de_int)) (by intro _ _; rfl))) (DE.o (de_str)) (by rfl)) (de_name 6 (pe_var (i := 6) (by rfl) (by first | exact .inl rfl | exact .inr (.inl rfl) | exact .inr (.inr rfl)))) (de_callB call_len (cal_len _) (by rfl) c.f_len boot_len (doa_cons (DE.o (de_ix ix_seq (opd_ix _) (DE.o (de_name 8 (pe_var (i := 8) (by rfl) (by first | exact .inl rfl | exact .inr (.inl rfl) | exact .inr (.inr rfl))))) (DE.o (de_int)) (by intro _ _; rfl))) (doa_nil)))))))))))) (dss_one (ds_ret (ps_ret (DE.pe (de_tup (da_cons (de_name 1 (pe_var (i := 1) (by rfl) (by first | exact .inl rfl | exact .inr (.inl rfl) | exact .inr (.inr rfl)))) (da_cons (de_callTy call_tuple_of (cal_tup _) (by rfl) c.f_tuple boot_tuple (doa_cons (do_name 5 (pe_var (i := 5) (by rfl) (by first | exact .inl rfl | exact .inr (.inl rfl) | exact .inr (.inr rfl)))) (doa_nil))) (da_nil))) (by decide) (lenCons (lenCons (lenNil)))))))))
theorem ok_law_v_input {f : Addr} {fd : FuncData} (c : Fc K mg) (h_law_v_number : FnI P w K mg base T 3 "_law_v_number" ["state", "most"] (F_law_v_number K)) (Fd : FunD K "_law_v_input" "_law_v_input" (defArgs s_law_v_input) (defBody s_law_v_input) (defScope s_law_v_input) [] [] f fd) : FnOk P w K mg base (L2.CX P w) 4 f fd ["state", "many"] (spI K T (F_law_v_input K)) := by
  have S : FnScope ["state", "many", "lap"] ["state", "many"] (defScope s_law_v_input) := C8.fnScope_by (by decide +kernel)
  refine fnOkI_of (n := 2) (g := g_law_v_input K) Fd S rfl (fun sa ga ca cdv A outer s H E hr => ?_) (runF_ok (g := g_law_v_input K) (n := 2) (m := 1))
  exact dss_one (ds_ret (ps_ret (DE.pe (de_callTy call_tuple_of (cal_tup _) (by rfl) c.f_tuple boot_tuple (doa_cons (DE.o (DN.de (dn_comp (own := [("lap", 2)]) (js := [2]) (by rfl) S.nd (di_rng1 (by rfl) c.f_range (doa_cons (DE.o (de_name 1 (pe_var (i := 1) (by rfl) (by first | exact .inl rfl | exact .inr (.inl rfl) | exact .inr (.inr rfl))))) (doa_nil))) (blkOk_by (by rfl)) (by decide) (fun _ _ _ _ _ => dg_name 2 (pg_name S.nd (by rfl) (by first | exact .inl rfl | exact .inr rfl))) (fun _ _ _ _ _ => pts_nilD) (fun _ _ _ _ _ => de_callI (Ek := (fun _ _ _ => False)) (i := 0) h_law_v_number hr (by decide) passB (by rfl) (pe_var (i := 0) (by rfl) (by first | exact .inl rfl | exact .inr (.inl rfl) | exact .inr (.inr rfl))) (da_cons (de_int) (da_nil)))))) (doa_nil))))))
theorem ok_law_v_kind {f : Addr} {fd : FuncData} (c : Fc K mg) (Fd : FunD K "_law_v_kind" "_law_v_kind" (defArgs s_law_v_kind) (defBody s_law_v_kind) (defScope s_law_v_kind) [] [] f fd) : FnOk P w K mg base (L2.CX P w) 1 f fd ["error"] (spP K (F_law_v_kind K)) := by
  have S : FnScope ["error", "found"] ["error"] (defScope s_law_v_kind) := C8.fnScope_by (by decide +kernel)
  refine fnOk_of (g := g_law_v_kind K) Fd S (fun cdv A outer s H E hr => ?_) (runP_ok (g := g_law_v_kind K) (n := 2) (m := 1))
  exact dss_cons (ds_if (ps_if (DT.pt (dt_cmp op_isN (opd_isN _) (DE.o (de_name 0 (pe_var (i := 0) (by rfl) (by first | exact .inl rfl | exact .inr (.inl rfl) | exact .inr (.inr rfl))))) (DE.o (de_non)) (by rfl))) (dss_one (ds_ret (ps_ret (DE.pe (de_str))))) (dss_nil))) (dss_cons (ds_set (ps_set (i := 1) S.nd (by rfl) (by first | exact .inl rfl | exact .inr rfl) (DE.pe (de_bin op_addA (opd_add _) (DE.o (de_bin op_addA (opd_add _) (DE.o (de_if (dt_val (de_isi (L := exL) (v := .ref (He.ga K "BadNet")) (u := .ref (He.ga K "BadNet")) (by rfl) c.f_isinstance c.exc (DE.o (de_name 0 (pe_var (i := 0) (by rfl) (by first | exact .inl rfl | exact .inr (.inl rfl) | exact .inr (.inr rfl))))) (pe_glob (by rfl) c.e_BadNet.g rfl) (.own _))) (de_str) (de_str))) (DE.o (de_if (dt_val (de_isi (L := exL) (v := .ref (He.ga K "BadNets")) (u := .ref (He.ga K "BadNets")) (by rfl) c.f_isinstance c.exc (DE.o (de_name 0 (pe_var (i := 0) (by rfl) (by first | exact .inl rfl | exact .inr (.inl rfl) | exact .inr (.inr rfl))))) (pe_glob (by rfl) c.e_BadNets.g rfl) (.own _))) (de_str) (de_str))))) (DE.o (de_if (dt_val (de_isi (L := exL) (v := .ref (He.ga K "BadFraction")) (u := .ref (He.ga K "BadFraction")) (by rfl) c.f_isinstance c.exc (DE.o (de_name 0 (pe_var (i := 0) (by rfl) (by first | exact .inl rfl | exact .inr (.inl rfl) | exact .inr (.inr rfl))))) (pe_glob (by rfl) c.e_BadFraction.g rfl) (.own _))) (de_str) (de_str))))))) (dss_cons (ds_set (ps_set (i := 1) S.nd (by rfl) (by first | exact .inl rfl | exact .inr rfl) (DE.pe (de_bin op_addA (opd_add _) (DE.o (de_bin op_addA (opd_add _) (DE.o (de_bin op_addA (opd_add _) (DE.o (de_name 1 (pe_var (i := 1) (by rfl) (by first | exact .inl rfl | exact .inr (.inl rfl) | exact .inr (.inr rfl))))) (DE.o (de_if (dt_val (de_isi (L := exL) (v := .ref (He.ga K "BadClaim")) (u := .ref (He.ga K "BadClaim")) (by rfl) c.f_isinstance c.exc (DE.o (de_name 0 (pe_var (i := 0) (by rfl) (by first | exact .inl rfl | exact .inr (.inl rfl) | exact .inr (.inr rfl))))) (pe_glob (by rfl) c.e_BadClaim.g rfl) (.own _))) (de_str) (de_str))))) (DE.o (de_if (dt_val (de_isi (L := exL) (v := .ref (He.ga K "BadPlace")) (u := .ref (He.ga K "BadPlace")) (by rfl) c.f_isinstance c.exc (DE.o (de_name 0 (pe_var (i := 0) (by rfl) (by first | exact .inl rfl | exact .inr (.inl rfl) | exact .inr (.inr rfl))))) (pe_glob (by rfl) c.e_BadPlace.g rfl) (.own _))) (de_str) (de_str))))) (DE.o (de_if (dt_val (de_isi (L := exL) (v := .ref (He.ga K "TooGreat")) (u := .ref (He.ga K "TooGreat")) (by rfl) c.f_isinstance c.exc (DE.o (de_name 0 (pe_var (i := 0) (by rfl) (by first | exact .inl rfl | exact .inr (.inl rfl) | exact .inr (.inr rfl))))) (pe_glob (by rfl) c.e_TooGreat.g rfl) (.own _))) (de_str) (de_str))))))) (dss_one (ds_ret (ps_ret (DE.pe (de_bin op_addA (opd_add _) (DE.o (de_bin op_addA (opd_add _) (DE.o (de_name 1 (pe_var (i := 1) (by rfl) (by first | exact .inl rfl | exact .inr (.inl rfl) | exact .inr (.inr rfl))))) (DE.o (de_if (dt_val (de_isi (L := exL) (v := .ref (He.ga K "BadEdit")) (u := .ref (He.ga K "BadEdit")) (by rfl) c.f_isinstance c.exc (DE.o (de_name 0 (pe_var (i := 0) (by rfl) (by first | exact .inl rfl | exact .inr (.inl rfl) | exact .inr (.inr rfl))))) (pe_glob (by rfl) c.e_BadEdit.g rfl) (.own _))) (de_str) (de_str))))) (DE.o (de_if (dt_val (de_isi (L := exL) (v := .ref (He.ga K "Uneditable")) (u := .ref (He.ga K "Uneditable")) (by rfl) c.f_isinstance c.exc (DE.o (de_name 0 (pe_var (i := 0) (by rfl) (by first | exact .inl rfl | exact .inr (.inl rfl) | exact .inr (.inr rfl))))) (pe_glob (by rfl) c.e_Uneditable.g rfl) (.own _))) (de_str) (de_str))))))))))
theorem ok_law_k82_value {f : Addr} {fd : FuncData} (c : Fc K mg) (h_law_v_plus : FnP P w K mg base 2 "_law_v_plus" ["one", "other"] (F_law_v_plus K)) (h_law_v_sum : FnP P w K mg base 3 "_law_v_sum" ["weights", "vector", "bias"] (F_law_v_sum K)) (h_law_v_told : FnP P w K mg base 5 "_law_v_told" ["net", "vector"] (F_law_v_told K)) (Fd : FunD K "_law_k82_value" "_law_k82_value" (defArgs s_law_k82_value) (defBody s_law_k82_value) (defScope s_law_k82_value) [] [] f fd) : FnOk P w K mg base (L2.CX P w) 6 f fd ["net", "claim", "vector"] (spP K (F_law_k82_value K)) := by
  have S : FnScope ["net", "claim", "vector"] ["net", "claim", "vector"] (defScope s_law_k82_value) := C8.fnScope_by (by decide +kernel)
  refine fnOk_of (g := g_law_k82_value K) Fd S (fun cdv A outer s H E hr => ?_) (runP_ok (g := g_law_k82_value K) (n := 3) (m := 3))
  exact dss_one (ds_ret (ps_ret (DE.pe (de_call (Ek := E) h_law_v_plus hr (by decide) passC (by rfl) (da_cons (de_call (Ek := E) h_law_v_sum hr (by decide) passC (by rfl) (da_cons (de_ix ix_seq (opd_ix _) (DE.o (de_name 1 (pe_var (i := 1) (by rfl) (by first | exact .inl rfl | exact .inr (.inl rfl) | exact .inr (.inr rfl))))) (DE.o (de_int)) (by intro _ _; rfl)) (da_cons (de_name 2 (pe_var (i := 2) (by rfl) (by first | exact .inl rfl | exact .inr (.inl rfl) | exact .inr (.inr rfl)))) (da_cons (de_ix ix_seq (opd_ix _) (DE.o (de_name 1 (pe_var (i := 1) (by rfl) (by first | exact .inl rfl | exact .inr (.inl rfl) | exact .inr (.inr rfl))))) (DE.o (de_int)) (by intro _ _; rfl)) (da_nil))))) (da_cons (de_call (Ek := E) h_law_v_sum hr (by decide) passC (by rfl) (da_cons (de_ix ix_seq (opd_ix _) (DE.o (de_name 1 (pe_var (i := 1) (by rfl) (by first | exact .inl rfl | exact .inr (.inl rfl) | exact .inr (.inr rfl))))) (DE.o (de_int)) (by intro _ _; rfl)) (da_cons (de_call (Ek := E) h_law_v_told hr (by decide) passC (by rfl) (da_cons (de_name 0 (pe_var (i := 0) (by rfl) (by first | exact .inl rfl | exact .inr (.inl rfl) | exact .inr (.inr rfl)))) (da_cons (de_name 2 (pe_var (i := 2) (by rfl) (by first | exact .inl rfl | exact .inr (.inl rfl) | exact .inr (.inr rfl)))) (da_nil)))) (da_cons (de_tup (da_cons (de_int) (da_cons (de_int) (da_nil))) (by decide) (lenCons (lenCons (lenNil)))) (da_nil))))) (da_nil)))))))
theorem pss_law (c : Fc K mg) (h_law_v_kind : FnP P w K mg base 1 "_law_v_kind" ["error"] (F_law_v_kind K)) (h_carried_back : FnP P w K mg base 9 "carried_back" ["net", "claim"] (F_carried_back K)) (h_law_k82_value : FnP P w K mg base 6 "_law_k82_value" ["net", "claim", "vector"] (F_law_k82_value K)) (h_law_v_input : FnI P w K mg base T 4 "_law_v_input" ["state", "many"] (F_law_v_input K)) (h_is_claim : FnP P w K mg base 5 "is_claim" ["value", "inputs", "outputs"] (F_is_claim K)) (h_widths_of : FnP P w K mg base 8 "widths_of" ["net"] (F_widths_of K)) (h_law_v_number : FnI P w K mg base T 3 "_law_v_number" ["state", "most"] (F_law_v_number K)) (h_law_draw : FnI P w K mg base T 2 "_law_draw" ["state", "size_here"] (F_law_draw K)) (h_law_v_row : FnI P w K mg base T 4 "_law_v_row" ["state", "many"] (F_law_v_row K)) (h_law_v_net : FnI P w K mg base T 6 "_law_v_net" ["state", "inputs", "layers", "bends"] (F_law_v_net K)) (hk0_carried_back : FnK P w K mg base 9 "carried_back" 0 ["claim", "net"] [1, 0] (F_carried_back K))
    (LD : ∀ {X : Cx}, X.K = K → X.mg = mg → X.base = base → X.env.code = .ref (He.cT K ("law", none)).1 → X.env.qual ++ "<lambda>" = "law.<locals>.<lambda>" → LamD X T "_law_caught" (He.cT K ("law", none)).2 (He.ga K "NetError"))
    (sa ga ca : Addr) (A : Around) (hgd : A.guards = some []) (outer : List Env) (s : Shared) (H : Hp) (E : XK) (hr : Room 11 (A.deeper (envOfC "law" (defScope s_law) s.heap.objs.size (He.fAd K ("law", none)) (.ref (He.cT K ("law", none)).1)))) :
    PSs (cxOf (L2.CX P w) P w K mg base ["script", "state", "turn", "great", "inputs", "net", "many", "claim", "error", "later", "ahead", "lap", "wrong", "vector"] "law" (defScope s_law) (He.fAd K ("law", none)) (.ref (He.cT K ("law", none)).1) A outer s H E) ((defBody s_law).drop 1) (tS K (WD K T sa ga ca) (wk K E) (g_law K sa)) := by
  have S : FnScope ["script", "state", "turn", "great", "inputs", "net", "many", "claim", "error", "later", "ahead", "lap", "wrong", "vector"] ["script"] (defScope s_law) := C8.fnScope_by (by decide +kernel)
  exact dss_cons (ds_forI (js := [2]) ownC (by rfl) (di_rng1 (by rfl) c.f_range (doa_cons (DE.o (de_bin op_addA (opd_add _) (DE.o (de_int)) (DE.o (de_callB (call_min2 rfl) (cal_min _) (by rfl) c.f_min boot_min (doa_cons (DE.o (de_callB call_len (cal_len _) (by rfl) c.f_len boot_len (doa_cons (DE.o (de_name 0 (pe_var (i := 0) (by rfl) (by first | exact .inl rfl | exact .inr (.inl rfl) | exact .inr (.inr rfl))))) (doa_nil)))) (doa_cons (DE.o (de_int)) (doa_nil))))))) (doa_nil))) (dg_name 2 (pg_name S.nd (by rfl) (by first | exact .inl rfl | exact .inr rfl))) (dss_cons (ds_set (ps_set (i := 4) S.nd (by rfl) (by first | exact .inl rfl | exact .inr rfl) (DE.pe (de_bin op_addA (opd_add _) (DE.o (de_int)) (DE.o (de_callI (Ek := E) (i := 1) h_law_draw hr (by decide) passC (by rfl) (pe_var (i := 1) (by rfl) (by first | exact .inl rfl | exact .inr (.inl rfl) | exact .inr (.inr rfl))) (da_cons (de_int) (da_nil)))))))) (dss_cons (ds_set (ps_set (i := 5) S.nd (by rfl) (by first | exact .inl rfl | exact .inr rfl) (DE.pe (de_callI (Ek := E) (i := 1) h_law_v_net hr (by decide) passC (by rfl) (pe_var (i := 1) (by rfl) (by first | exact .inl rfl | exact .inr (.inl rfl) | exact .inr (.inr rfl))) (da_cons (de_name 4 (pe_var (i := 4) (by rfl) (by first | exact .inl rfl | exact .inr (.inl rfl) | exact .inr (.inr rfl)))) (da_cons (de_bin op_addA (opd_add _) (DE.o (de_int)) (DE.o (de_callI (Ek := E) (i := 1) h_law_draw hr (by decide) passC (by rfl) (pe_var (i := 1) (by rfl) (by first | exact .inl rfl | exact .inr (.inl rfl) | exact .inr (.inr rfl))) (da_cons (de_int) (da_nil))))) (da_cons (de_int) (da_nil)))))))) (dss_cons (ds_set (ps_set (i := 6) S.nd (by rfl) (by first | exact .inl rfl | exact .inr rfl) (DE.pe (de_ix ix_seq (opd_ix _) (DE.o (de_call (Ek := E) h_widths_of hr (by decide) passC (by rfl) (da_cons (de_name 5 (pe_var (i := 5) (by rfl) (by first | exact .inl rfl | exact .inr (.inl rfl) | exact .inr (.inr rfl)))) (da_nil)))) (DE.o (de_neg (de_int))) (by intro _ _; rfl))))) (dss_cons (ds_if (ps_if (DT.pt (dt_cmp op_gtA (opd_gt _) (DE.o (de_callI (Ek := E) (i := 1) h_law_draw hr (by decide) passC (by rfl) (pe_var (i := 1) (by rfl) (by first | exact .inl rfl | exact .inr (.inl rfl) | exact .inr (.inr rfl))) (da_cons (de_int) (da_nil)))) (DE.o (de_int)) (by rfl))) (dss_one (ds_set (ps_set (i := 5) S.nd (by rfl) (by first | exact .inl rfl | exact .inr rfl) (DE.pe (de_tup (da_cons (de_name 4 (pe_var (i := 4) (by rfl) (by first | exact .inl rfl | exact .inr (.inl rfl) | exact .inr (.inr rfl)))) (da_cons (de_bin op_addA (opd_add _) (DE.o (de_ix ix_seq (opd_ix _) (DE.o (de_name 5 (pe_var (i := 5) (by rfl) (by first | exact .inl rfl | exact .inr (.inl rfl) | exact .inr (.inr rfl))))) (DE.o (de_int)) (by intro _ _; rfl))) (DE.o (de_tup (da_cons (de_tup (da_cons (de_str) (da_cons (de_callTy call_tuple_of (cal_tup _) (by rfl) c.f_tuple boot_tuple (doa_cons (DE.o (DN.de (dn_comp (own := [("lap", 11)]) (js := [11]) (by rfl) S.nd (di_rng1 (by rfl) c.f_range (doa_cons (DE.o (de_bin op_addA (opd_add _) (DE.o (de_int)) (DE.o (de_callI (Ek := E) (i := 1) h_law_draw hr (by decide) passC (by rfl) (pe_var (i := 1) (by rfl) (by first | exact .inl rfl | exact .inr (.inl rfl) | exact .inr (.inr rfl))) (da_cons (de_int) (da_nil)))))) (doa_nil))) (blkOk_by (by rfl)) (by decide) (fun _ _ _ _ _ => dg_name 11 (pg_name S.nd (by rfl) (by first | exact .inl rfl | exact .inr rfl))) (fun _ _ _ _ _ => pts_nilD) (fun _ _ _ _ _ => de_callI (Ek := (fun _ _ _ => False)) (i := 1) h_law_v_row hr (by decide) passB (by rfl) (pe_var (i := 1) (by rfl) (by first | exact .inl rfl | exact .inr (.inl rfl) | exact .inr (.inr rfl))) (da_cons (de_name 6 (pe_var (i := 6) (by rfl) (by first | exact .inl rfl | exact .inr (.inl rfl) | exact .inr (.inr rfl)))) (da_nil)))))) (doa_nil))) (da_nil))) (by decide) (lenCons (lenCons (lenNil)))) (da_nil)) (by decide) (lenCons (lenNil))))) (da_nil))) (by decide) (lenCons (lenCons (lenNil)))))))) (dss_nil))) (dss_cons (ds_set (ps_set (i := 6) S.nd (by rfl) (by first | exact .inl rfl | exact .inr rfl) (DE.pe (de_ix ix_seq (opd_ix _) (DE.o (de_call (Ek := E) h_widths_of hr (by decide) passC (by rfl) (da_cons (de_name 5 (pe_var (i := 5) (by rfl) (by first | exact .inl rfl | exact .inr (.inl rfl) | exact .inr (.inr rfl)))) (da_nil)))) (DE.o (de_neg (de_int))) (by intro _ _; rfl))))) (dss_cons (ds_set (ps_set (i := 7) S.nd (by rfl) (by first | exact .inl rfl | exact .inr rfl) (DE.pe (de_tup (da_cons (de_callI (Ek := E) (i := 1) h_law_v_input hr (by decide) passC (by rfl) (pe_var (i := 1) (by rfl) (by first | exact .inl rfl | exact .inr (.inl rfl) | exact .inr (.inr rfl))) (da_cons (de_name 4 (pe_var (i := 4) (by rfl) (by first | exact .inl rfl | exact .inr (.inl rfl) | exact .inr (.inr rfl)))) (da_nil))) (da_cons (de_callI (Ek := E) (i := 1) h_law_v_input hr (by decide) passC (by rfl) (pe_var (i := 1) (by rfl) (by first | exact .inl rfl | exact .inr (.inl rfl) | exact .inr (.inr rfl))) (da_cons (de_name 6 (pe_var (i := 6) (by rfl) (by first | exact .inl rfl | exact .inr (.inl rfl) | exact .inr (.inr rfl)))) (da_nil))) (da_cons (de_callI (Ek := E) (i := 1) h_law_v_number hr (by decide) passC (by rfl) (pe_var (i := 1) (by rfl) (by first | exact .inl rfl | exact .inr (.inl rfl) | exact .inr (.inr rfl))) (da_cons (de_int) (da_nil))) (da_nil)))) (by decide) (lenCons (lenCons (lenCons (lenNil)))))))) (dss_cons (ds_set (ps_set (i := 8) S.nd (by rfl) (by first | exact .inl rfl | exact .inr rfl) (DE.pe (de_kept (k := 9) (L := exL) hasWD (LD rfl rfl rfl rfl rfl) c.exm (by rfl) (hr.mono (by decide)) (lamS_by (by rfl)) (by rfl) (fun _ _ _ _ _ => rfl) (fun A2 outer2 s2 H2 E fa2 c2 hr => de_call (Ek := E) h_carried_back hr (by decide) (passL rfl rfl) (by rfl) (da_cons (de_name 5 (pe_var (i := 5) (by rfl) (by first | exact .inl rfl | exact .inr (.inl rfl) | exact .inr (.inr rfl)))) (da_cons (de_name 7 (pe_var (i := 7) (by rfl) (by first | exact .inl rfl | exact .inr (.inl rfl) | exact .inr (.inr rfl)))) (da_nil)))))))) (dss_cons (ds_if (ps_if (DT.pt (dt_cmp (op_neA hr.units) (opd_ne _) (DE.o (de_ix ix_seq (opd_ix _) (DE.o (de_ix ix_seq (opd_ix _) (DE.o (de_ix ix_seq (opd_ix _) (DE.o (de_name 5 (pe_var (i := 5) (by rfl) (by first | exact .inl rfl | exact .inr (.inl rfl) | exact .inr (.inr rfl))))) (DE.o (de_int)) (by intro _ _; rfl))) (DE.o (de_neg (de_int))) (by intro _ _; rfl))) (DE.o (de_int)) (by intro _ _; rfl))) (DE.o (de_str)) (by rfl))) (dss_cons (ds_if (ps_if (DT.pt (dt_cmp (op_neA hr.units) (opd_ne _) (DE.o (de_call (Ek := E) h_law_v_kind hr (by decide) passC (by rfl) (da_cons (de_name 8 (pe_var (i := 8) (by rfl) (by first | exact .inl rfl | exact .inr (.inl rfl) | exact .inr (.inr rfl)))) (da_nil)))) (DE.o (de_str)) (by rfl))) (dss_one (ds_ret (ps_ret (DE.pe (de_bl))))) (dss_nil))) (dss_one (ds_continue))) (dss_nil))) (dss_cons (ds_if (ps_if (DT.pt (dt_cmp op_notN (opd_notN _) (DE.o (de_name 8 (pe_var (i := 8) (by rfl) (by first | exact .inl rfl | exact .inr (.inl rfl) | exact .inr (.inr rfl))))) (DE.o (de_non)) (by rfl))) (dss_one (ds_ret (ps_ret (DE.pe (de_bl))))) (dss_nil))) (dss_cons (ds_set (ps_set (i := 9) S.nd (by rfl) (by first | exact .inl rfl | exact .inr rfl) (DE.pe (de_callK0 (Ek := E) hk0_carried_back hr (by decide) passC (by rfl) (dk_cons (de_name 7 (pe_var (i := 7) (by rfl) (by first | exact .inl rfl | exact .inr (.inl rfl) | exact .inr (.inr rfl)))) (dk_cons (de_name 5 (pe_var (i := 5) (by rfl) (by first | exact .inl rfl | exact .inr (.inl rfl) | exact .inr (.inr rfl)))) (dk_nil))) (lenCons (lenCons (lenNil))))))) (dss_cons (ds_set (ps_set (i := 10) S.nd (by rfl) (by first | exact .inl rfl | exact .inr rfl) (DE.pe (de_tup (da_cons (de_name 4 (pe_var (i := 4) (by rfl) (by first | exact .inl rfl | exact .inr (.inl rfl) | exact .inr (.inr rfl)))) (da_cons (de_slice (DE.o (de_ix ix_seq (opd_ix _) (DE.o (de_name 5 (pe_var (i := 5) (by rfl) (by first | exact .inl rfl | exact .inr (.inl rfl) | exact .inr (.inr rfl))))) (DE.o (de_int)) (by intro _ _; rfl))) (dp_none) (dp_some (de_neg (de_int)))) (da_nil))) (by decide) (lenCons (lenCons (lenNil))))))) (dss_cons (ds_if (ps_if (DT.pt (DW.dt (dw_or (dt_not (dt_val (de_call (Ek := E) h_is_claim hr (by decide) passC (by rfl) (da_cons (de_name 9 (pe_var (i := 9) (by rfl) (by first | exact .inl rfl | exact .inr (.inl rfl) | exact .inr (.inr rfl)))) (da_cons (de_name 4 (pe_var (i := 4) (by rfl) (by first | exact .inl rfl | exact .inr (.inl rfl) | exact .inr (.inr rfl)))) (da_cons (de_ix ix_seq (opd_ix _) (DE.o (de_call (Ek := E) h_widths_of hr (by decide) passC (by rfl) (da_cons (de_name 10 (pe_var (i := 10) (by rfl) (by first | exact .inl rfl | exact .inr (.inl rfl) | exact .inr (.inr rfl)))) (da_nil)))) (DE.o (de_neg (de_int))) (by intro _ _; rfl)) (da_nil))))))) (dw_or1 (dt_cmp (op_neA hr.units) (opd_ne _) (DE.o (de_callB (call_repr hgd hr.units) (cal_repr _) (by rfl) c.f_repr boot_repr (doa_cons (DE.o (de_call (Ek := E) h_carried_back hr (by decide) passC (by rfl) (da_cons (de_name 5 (pe_var (i := 5) (by rfl) (by first | exact .inl rfl | exact .inr (.inl rfl) | exact .inr (.inr rfl)))) (da_cons (de_name 7 (pe_var (i := 7) (by rfl) (by first | exact .inl rfl | exact .inr (.inl rfl) | exact .inr (.inr rfl)))) (da_nil))))) (doa_nil)))) (DE.o (de_callB (call_repr hgd hr.units) (cal_repr _) (by rfl) c.f_repr boot_repr (doa_cons (DE.o (de_name 9 (pe_var (i := 9) (by rfl) (by first | exact .inl rfl | exact .inr (.inl rfl) | exact .inr (.inr rfl))))) (doa_nil)))) (by rfl)))))) (dss_one (ds_ret (ps_ret (DE.pe (de_bl))))) (dss_nil))) (dss_cons (ds_forI (js := [11]) ownC (by rfl) (di_rng1 (by rfl) c.f_range (doa_cons (DE.o (de_int)) (doa_nil))) (dg_name 11 (pg_name S.nd (by rfl) (by first | exact .inl rfl | exact .inr rfl))) (dss_cons (ds_set (ps_set (i := 13) S.nd (by rfl) (by first | exact .inl rfl | exact .inr rfl) (DE.pe (de_callI (Ek := E) (i := 1) h_law_v_input hr (by decide) passC (by rfl) (pe_var (i := 1) (by rfl) (by first | exact .inl rfl | exact .inr (.inl rfl) | exact .inr (.inr rfl))) (da_cons (de_name 4 (pe_var (i := 4) (by rfl) (by first | exact .inl rfl | exact .inr (.inl rfl) | exact .inr (.inr rfl)))) (da_nil)))))) (dss_one (ds_if (ps_if (DT.pt (dt_cmp (op_neA hr.units) (opd_ne _) (DE.o (de_call (Ek := E) h_law_k82_value hr (by decide) passC (by rfl) (da_cons (de_name 10 (pe_var (i := 10) (by rfl) (by first | exact .inl rfl | exact .inr (.inl rfl) | exact .inr (.inr rfl)))) (da_cons (de_name 9 (pe_var (i := 9) (by rfl) (by first | exact .inl rfl | exact .inr (.inl rfl) | exact .inr (.inr rfl)))) (da_cons (de_name 13 (pe_var (i := 13) (by rfl) (by first | exact .inl rfl | exact .inr (.inl rfl) | exact .inr (.inr rfl)))) (da_nil)))))) (DE.o (de_call (Ek := E) h_law_k82_value hr (by decide) passC (by rfl) (da_cons (de_name 5 (pe_var (i := 5) (by rfl) (by first | exact .inl rfl | exact .inr (.inl rfl) | exact .inr (.inr rfl)))) (da_cons (de_name 7 (pe_var (i := 7) (by rfl) (by first | exact .inl rfl | exact .inr (.inl rfl) | exact .inr (.inr rfl)))) (da_cons (de_name 13 (pe_var (i := 13) (by rfl) (by first | exact .inl rfl | exact .inr (.inl rfl) | exact .inr (.inr rfl)))) (da_nil)))))) (by rfl))) (dss_one (ds_ret (ps_ret (DE.pe (de_bl))))) (dss_nil)))))) (dss_cons (ds_forI (js := [12]) ownC (by rfl) (di_any (DN.de (dn_lst (da_cons (de_non) (da_cons (de_slice (DE.o (de_name 7 (pe_var (i := 7) (by rfl) (by first | exact .inl rfl | exact .inr (.inl rfl) | exact .inr (.inr rfl))))) (dp_none) (dp_some (de_int))) (da_cons (de_tup (da_cons (de_ix ix_seq (opd_ix _) (DE.o (de_name 7 (pe_var (i := 7) (by rfl) (by first | exact .inl rfl | exact .inr (.inl rfl) | exact .inr (.inr rfl))))) (DE.o (de_int)) (by intro _ _; rfl)) (da_cons (de_bin op_addA (opd_add _) (DE.o (de_ix ix_seq (opd_ix _) (DE.o (de_name 7 (pe_var (i := 7) (by rfl) (by first | exact .inl rfl | exact .inr (.inl rfl) | exact .inr (.inr rfl))))) (DE.o (de_int)) (by intro _ _; rfl))) (DE.o (de_tup (da_cons (de_tup (da_cons (de_int) (da_cons (de_int) (da_nil))) (by decide) (lenCons (lenCons (lenNil)))) (da_nil)) (by decide) (lenCons (lenNil))))) (da_cons (de_ix ix_seq (opd_ix _) (DE.o (de_name 7 (pe_var (i := 7) (by rfl) (by first | exact .inl rfl | exact .inr (.inl rfl) | exact .inr (.inr rfl))))) (DE.o (de_int)) (by intro _ _; rfl)) (da_nil)))) (by decide) (lenCons (lenCons (lenCons (lenNil))))) (da_cons (de_tup (da_cons (de_ix ix_seq (opd_ix _) (DE.o (de_name 7 (pe_var (i := 7) (by rfl) (by first | exact .inl rfl | exact .inr (.inl rfl) | exact .inr (.inr rfl))))) (DE.o (de_int)) (by intro _ _; rfl)) (da_cons (de_ix ix_seq (opd_ix _) (DE.o (de_name 7 (pe_var (i := 7) (by rfl) (by first | exact .inl rfl | exact .inr (.inl rfl) | exact .inr (.inr rfl))))) (DE.o (de_int)) (by intro _ _; rfl)) (da_cons (de_tup (da_cons (de_int) (da_cons (de_int) (da_nil))) (by decide) (lenCons (lenCons (lenNil)))) (da_nil)))) (by decide) (lenCons (lenCons (lenCons (lenNil))))) (da_nil))))) (by decide) (lenCons (lenCons (lenCons (lenCons (lenNil)))))))) (dg_name 12 (pg_name S.nd (by rfl) (by first | exact .inl rfl | exact .inr rfl))) (dss_one (ds_if (ps_if (DT.pt (dt_cmp (op_neA hr.units) (opd_ne _) (DE.o (de_call (Ek := E) h_law_v_kind hr (by decide) passC (by rfl) (da_cons (de_kept (k := 9) (L := exL) hasWD (LD rfl rfl rfl rfl rfl) c.exm (by rfl) (hr.mono (by decide)) (lamS_by (by rfl)) (by rfl) (fun _ _ _ _ _ => rfl) (fun A2 outer2 s2 H2 E fa2 c2 hr => de_call (Ek := E) h_carried_back hr (by decide) (passL rfl rfl) (by rfl) (da_cons (de_name 5 (pe_var (i := 5) (by rfl) (by first | exact .inl rfl | exact .inr (.inl rfl) | exact .inr (.inr rfl)))) (da_cons (de_name 12 (pe_var (i := 12) (by rfl) (by first | exact .inl rfl | exact .inr (.inl rfl) | exact .inr (.inr rfl)))) (da_nil))))) (da_nil)))) (DE.o (de_str)) (by rfl))) (dss_one (ds_ret (ps_ret (DE.pe (de_bl))))) (dss_nil))))) (dss_one (ds_if (ps_if (DT.pt (dt_cmp (op_neA hr.units) (opd_ne _) (DE.o (de_call (Ek := E) h_law_v_kind hr (by decide) passC (by rfl) (da_cons (de_kept (k := 9) (L := exL) hasWD (LD rfl rfl rfl rfl rfl) c.exm (by rfl) (hr.mono (by decide)) (lamS_by (by rfl)) (by rfl) (fun _ _ _ _ _ => rfl) (fun A2 outer2 s2 H2 E fa2 c2 hr => de_call (Ek := E) h_carried_back hr (by decide) (passL rfl rfl) (by rfl) (da_cons (de_non) (da_cons (de_name 7 (pe_var (i := 7) (by rfl) (by first | exact .inl rfl | exact .inr (.inl rfl) | exact .inr (.inr rfl)))) (da_nil))))) (da_nil)))) (DE.o (de_str)) (by rfl))) (dss_one (ds_ret (ps_ret (DE.pe (de_bl))))) (dss_nil))))))))))))))))))) (dss_cons (ds_set (ps_set (i := 3) S.nd (by rfl) (by first | exact .inl rfl | exact .inr rfl) (DE.pe (de_tup (da_cons (de_int) (da_cons (de_tup (da_cons (de_tup (da_cons (de_str) (da_cons (de_tup (da_cons (de_tup (da_cons (de_tup (da_cons (de_tup (da_cons (de_bin op_pow (opd_pow _) (DE.o (de_int)) (DE.o (de_int))) (da_cons (de_int) (da_nil))) (by decide) (lenCons (lenCons (lenNil)))) (da_nil)) (by decide) (lenCons (lenNil))) (da_cons (de_tup (da_cons (de_int) (da_cons (de_int) (da_nil))) (by decide) (lenCons (lenCons (lenNil)))) (da_nil))) (by decide) (lenCons (lenCons (lenNil)))) (da_nil)) (by decide) (lenCons (lenNil))) (da_nil))) (by decide) (lenCons (lenCons (lenNil)))) (da_nil)) (by decide) (lenCons (lenNil))) (da_nil))) (by decide) (lenCons (lenCons (lenNil))))))) (dss_cons (ds_if (ps_if (DT.pt (dt_cmp (op_neA hr.units) (opd_ne _) (DE.o (de_call (Ek := E) h_law_v_kind hr (by decide) passC (by rfl) (da_cons (de_kept (k := 9) (L := exL) hasWD (LD rfl rfl rfl rfl rfl) c.exm (by rfl) (hr.mono (by decide)) (lamS_by (by rfl)) (by rfl) (fun _ _ _ _ _ => rfl) (fun A2 outer2 s2 H2 E fa2 c2 hr => de_call (Ek := E) h_carried_back hr (by decide) (passL rfl rfl) (by rfl) (da_cons (de_name 3 (pe_var (i := 3) (by rfl) (by first | exact .inl rfl | exact .inr (.inl rfl) | exact .inr (.inr rfl)))) (da_cons (de_tup (da_cons (de_tup (da_cons (de_tup (da_cons (de_int) (da_cons (de_int) (da_nil))) (by decide) (lenCons (lenCons (lenNil)))) (da_nil)) (by decide) (lenCons (lenNil))) (da_cons (de_tup (da_cons (de_tup (da_cons (de_int) (da_cons (de_int) (da_nil))) (by decide) (lenCons (lenCons (lenNil)))) (da_nil)) (by decide) (lenCons (lenNil))) (da_cons (de_tup (da_cons (de_int) (da_cons (de_int) (da_nil))) (by decide) (lenCons (lenCons (lenNil)))) (da_nil)))) (by decide) (lenCons (lenCons (lenCons (lenNil))))) (da_nil))))) (da_nil)))) (DE.o (de_str)) (by rfl))) (dss_one (ds_ret (ps_ret (DE.pe (de_bl))))) (dss_nil))) (dss_one (ds_ret (ps_ret (DE.pe (de_cmp (op_eqA hr.units) (opd_eq _) (DE.o (de_call (Ek := E) h_law_v_kind hr (by decide) passC (by rfl) (da_cons (de_kept (k := 9) (L := exL) hasWD (LD rfl rfl rfl rfl rfl) c.exm (by rfl) (hr.mono (by decide)) (lamS_by (by rfl)) (by rfl) (fun _ _ _ _ _ => rfl) (fun A2 outer2 s2 H2 E fa2 c2 hr => de_call (Ek := E) h_carried_back hr (by decide) (passL rfl rfl) (by rfl) (da_cons (de_tup (da_cons (de_int) (da_cons (de_tup (da_nil) (by decide) (lenNil)) (da_nil))) (by decide) (lenCons (lenCons (lenNil)))) (da_cons (de_tup (da_cons (de_tup (da_cons (de_tup (da_cons (de_int) (da_cons (de_int) (da_nil))) (by decide) (lenCons (lenCons (lenNil)))) (da_nil)) (by decide) (lenCons (lenNil))) (da_cons (de_tup (da_cons (de_tup (da_cons (de_int) (da_cons (de_int) (da_nil))) (by decide) (lenCons (lenCons (lenNil)))) (da_nil)) (by decide) (lenCons (lenNil))) (da_cons (de_tup (da_cons (de_int) (da_cons (de_int) (da_nil))) (by decide) (lenCons (lenCons (lenNil)))) (da_nil)))) (by decide) (lenCons (lenCons (lenCons (lenNil))))) (da_nil))))) (da_nil)))) (DE.o (de_str)) (by rfl))))))))
theorem ok_law_begun {f : Addr} {fd : FuncData} (c : Fc K mg) (Fd : FunD K "_law_begun" "_law_begun" (defArgs s_law_begun) (defBody s_law_begun) (defScope s_law_begun) [] [] f fd) : FnOk P w K mg base (L2.CX P w) 1 f fd ["script"] (spB K) := by
  have S : FnScope ["script", "great", "cell"] ["script"] (defScope s_law_begun) := C8.fnScope_by (by decide +kernel)
  refine Fd.ok S (fun vs H Q E h => ?_) fun cdv A outer s H vs Q E hr h => ?_
  · obtain ⟨G, v, ns, rfl, _⟩ := h
    rfl
  · obtain ⟨G, v, ns, rfl, hs, rv, hl, q⟩ := h
    have st1 : PS (cxOf (L2.CX P w) P w K mg base ["script", "great", "cell"] "_law_begun" (defScope s_law_begun) f cdv A outer s H E) ((defBody s_law_begun).getD 0 (.Pass ⟨0, 0, 0, 0⟩)) (tS K pureW (wk K E) (gSetO 1 f_b1)) :=
      ds_setLc (i := 1) (own := [("cell", 2)]) (js := [2]) (by rfl) S.nd (by rfl) (by rfl) (sw_true (by rfl) (by rfl) (by rfl) (by rfl)) (di_list (de_name 0 (pe_var (i := 0) (by rfl) (.inl (by rfl))))) (blkOk_by (by rfl)) (by decide) (fun _ _ _ _ _ => dg_name 2 (pg_name S.nd (by rfl) (by first | exact .inl rfl | exact .inr rfl))) (fun _ _ _ _ _ => pts_oneD (dt_cmp op_geA (opd_ge _) (DE.o (de_callB call_abs (cal_abs _) (by rfl) c.f_abs boot_abs (doa_cons (DE.o (de_name 2 (pe_var (i := 2) (by rfl) (by first | exact .inl rfl | exact .inr (.inl rfl) | exact .inr (.inr rfl))))) (doa_nil)))) (DE.o (de_bin op_pow (opd_pow _) (DE.o (de_int)) (DE.o (de_int)))) (by rfl))) (fun _ _ _ _ _ => de_bin op_sub (opd_sub _) (DE.o (de_callB call_abs (cal_abs _) (by rfl) c.f_abs boot_abs (doa_cons (DE.o (de_name 2 (pe_var (i := 2) (by rfl) (by first | exact .inl rfl | exact .inr (.inl rfl) | exact .inr (.inr rfl))))) (doa_nil)))) (DE.o (de_bin op_pow (opd_pow _) (DE.o (de_int)) (DE.o (de_int)))))
    have st2 : PS (cxOf (L2.CX P w) P w K mg base ["script", "great", "cell"] "_law_begun" (defScope s_law_begun) f cdv A outer s H E) ((defBody s_law_begun).getD 1 (.Pass ⟨0, 0, 0, 0⟩)) _ :=
      ps_ret (pe_disp (pps_cons pe_str (pe_var (i := 1) (by rfl) (.inl (by rfl))) (pps_cons pe_str (DN.pe (W := pureW) (E := wk K E) (h := f_b2) (dn_comp (own := [("cell", 2)]) (js := [2]) (by rfl) S.nd (di_list (de_name 0 (pe_var (i := 0) (by rfl) (.inl (by rfl))))) (blkOk_by (by rfl)) (by decide) (fun _ _ _ _ _ => dg_name 2 (pg_name S.nd (by rfl) (by first | exact .inl rfl | exact .inr rfl))) (fun _ _ _ _ _ => pts_nilD) (fun _ _ _ _ _ => de_callB call_abs (cal_abs _) (by rfl) c.f_abs boot_abs (doa_cons (DE.o (de_name 2 (pe_var (i := 2) (by rfl) (by first | exact .inl rfl | exact .inr (.inl rfl) | exact .inr (.inr rfl))))) (doa_nil))))) (pps_cons pe_str pe_int (pps_cons pe_str pe_int pps_nil)))) (by rfl) (by rfl) (by simp) (by decide))
    refine ⟨_, pss_cons st1 (pss_one st2), ?_⟩
    have S0 := start_stt (K := K) hs (.cons rv .nil) ["script", "great", "cell"]
    refine ⟨H, G, G, [.dat (.lst (ns.map Da.int)), .no, .no], (), ⟨S0, .refl hs, fun i ds' p e => ?_⟩, ?_⟩
    · exfalso
      rcases i with _ | _ | _ | i
      · cases e
      · cases e
      · cases e
      · cases e
    unfold gSetO
    rw [b1_ok ns hl]
    intro σ G1 H1 S1
    intro p hp
    obtain ⟨v1, e1, gp, gvs, e2, hgp, ggp, _, rg⟩ := S1.st.sl 1 (.own ((greatOf ns).map Da.int)) rfl
    subst e2
    obtain rfl := rg.ints
    have bgp := S1.own 1 _ gp rfl e1
    have X1 := Xp.new0 (o := .dK []) S1.st.in_ hp
    have S2 := S1.st.xp X1
    refine ⟨_, e1, G1, _, (), S2, ?_⟩
    unfold NPost
    rw [show f_b2 ([Sl.dat (Da.lst (ns.map Da.int)), Sl.no, Sl.no].set 1 (Sl.own ((greatOf ns).map Da.int))) () = _ from b2_ok ns (greatOf ns) hl]
    intro p2 vs2 G2 H2 x2 _ hp2 gp2 np2 r2
    obtain rfl := r2.ints
    have x2' : Xp G1 (upd H1 p (.dK [])) G2 H2 := x2
    have ep : H2 p = some (.dK []) := x2'.same p _ upd_same
    have np : p ≠ p2 := fun z => by rw [← z, upd_same] at np2; cases np2
    have ngp : gp ≠ p := fun z => by rw [z, hp] at hgp; cases hgp
    have hgp1 : upd H1 p (.dK []) gp = some (.lst ((greatOf ns).map V.int)) := by rw [upd_ne ngp]; exact hgp
    have ngp2 : gp ≠ p2 := fun z => by rw [z, np2] at hgp1; cases hgp1
    have g2p : G2 p = none := x2'.new p (S1.st.in_.free hp) (by rw [upd_same]; simp)
    have g2gp : G2 gp = none := x2'.new gp ggp (by rw [hgp1]; simp)
    refine ⟨ep, [(.inr "great", .ref gp), (.inr "cells", .ref p2), (.inr "left", .int 0), (.inr "turn", .int 0)], rfl, (by show 4 ≤ 15; omega), ?_⟩
    have fx : Xp G1 (upd H1 p (.dK [])) (upd G2 p2 (.lst ((ns.map absI).map V.int))) H2 := Xt.fix x2' hp2 gp2 np2
    have x3 : Xp G1 H1 (upd G2 p2 (.lst ((ns.map absI).map V.int))) (upd H2 p (.dK (drK gp p2 (begun ns)))) := by
      have y := X1.trans fx
      refine ⟨fun a o hm e => ?_, fun a n => ?_, y.sub, fun a o e => ?_, y.new⟩
      · rw [upd_ne (ne_of_none e hp)]; exact y.ext a o hm e
      · by_cases h : a = p
        · rw [h, upd_same]; simp
        · rw [upd_ne h]; exact y.dom a n
      · rw [upd_ne (fun z => by rw [z, upd_ne np, g2p] at e; cases e)]; exact y.in_ a o e
    have x0 : Xp G H G1 H1 := S1.xt
    refine q p gp p2 _ _ (x0.trans x3) ?_ bgp (by rw [upd_ne np]; exact g2p) (by rw [upd_ne ngp2]; exact g2gp) upd_same (by rw [upd_ne ngp]; exact x2'.same gp _ hgp1) (SqX.of upd_same)
    cases z : H p with
    | none => rfl
    | some o => exact absurd hp (x0.dom p (by rw [z]; simp))

end
theorem ld_all {K : PySem.W.Frag} {mg : Str → Option Value} {base : Heap} {T : List (Addr × Str)} {g cc PP : Addr} {q : Str} {fd : FuncData} (c : Fc K mg) (Fd : FunD K "_law_caught" "_law_caught" (defArgs s_law_caught) (defBody s_law_caught) (defScope s_law_caught) [] [] g fd) (hm : mg "_law_caught" = some (.ref g))
    (TB : TabB base mg cc PP) (mem : (PP, q) ∈ T) (uni : ∀ p ∈ T, p.1 = PP → p.2 = q) {X : Cx} (h1 : X.K = K) (h2 : X.mg = mg) (h3 : X.base = base) (h4 : X.env.code = .ref cc) (h5 : X.env.qual ++ "<lambda>" = q) : LamD X T "_law_caught" PP (He.ga K "NetError") := by
  subst h1 h2 h3 h5
  refine lamD_of Fd hm (C8.fnScope_by (by decide +kernel)) (.inl (by rfl)) (fun _ _ _ _ _ _ us hl => match us, hl with | [_], _ => rfl) (fun q cdv => ?_) TB h4 mem uni
  exact kept_gives (by rfl) c.e_NetError (by decide) (by rfl) (by rfl)

end Sw

set_option Elab.async false
set_option linter.all false
set_option maxRecDepth 100000
set_option maxHeartbeats 1000000
/-! SwPa: reckoning: the combinators applied. -/
namespace Sw
open PySem PySem.Spec PyProof.Rows L2
section
variable {S α β : Type} {ρ : Ev} {s : S}
@[simp] theorem ap_bnd (m : Fx S α) (k : α → Fx S β) : bnd m k s = match m s with
  | .ok (a, s') => k a s'
  | .er c => .er c
  | .no => .no := rfl
@[simp] theorem ap_ret (a : α) : ret a s = .ok (a, s) := rfl
@[simp] theorem ap_lift_s (a : α) : lift (some a) s = .ok (a, s) := rfl
@[simp] theorem ap_lift_n : lift (none : Option α) s = .no := rfl
@[simp] theorem ap_liftR_o (a : α) : liftR (.ok a) s = .ok (a, s) := rfl
@[simp] theorem ap_liftR_e (c : Str) : liftR (.er c : Rp α) s = .er c := rfl
def nameR (o : Option Sl) (s : S) : Rp (Da × S) := match o with
  | some (.dat d) => .ok (d, s)
  | _ => .no
def nameRO (o : Option Sl) (s : S) : Rp (Da × S) := match o with
  | some (.dat d) => .ok (d, s)
  | some (.own ds) => .ok (.lst ds, s)
  | _ => .no
@[simp] theorem nameR_d (d : Da) : nameR (some (.dat d)) s = .ok (d, s) := rfl
@[simp] theorem nameRO_d (d : Da) : nameRO (some (.dat d)) s = .ok (d, s) := rfl
@[simp] theorem nameRO_o (ds : List Da) : nameRO (some (.own ds)) s = .ok (.lst ds, s) := rfl
@[simp] theorem ap_name (i : Nat) : fName i ρ s = nameR ρ[i]? s := by
  unfold fName nameR
  generalize ρ[i]? = o
  cases o with
  | none => rfl
  | some sl => cases sl <;> rfl
@[simp] theorem ap_nameO (i : Nat) : fNameO i ρ s = nameRO ρ[i]? s := by
  unfold fNameO nameRO
  generalize ρ[i]? = o
  cases o with
  | none => rfl
  | some sl => cases sl <;> rfl
@[simp] theorem ap_C (d : Da) : fC d ρ s = .ok (d, s) := rfl
@[simp] theorem ap_bin (F : Da → Da → Option Da) (f g : Ev → Fx S Da) : fBin F f g ρ s = bnd (f ρ) (fun x => bnd (g ρ) fun y => lift (F x y)) s := rfl
@[simp] theorem ap_un (F : Da → Option Da) (f : Ev → Fx S Da) : fUn F f ρ s = bnd (f ρ) (fun x => lift (F x)) s := rfl
@[simp] theorem ap_unN (F : Da → Option (List Da)) (f : Ev → Fx S Da) : fUnN F f ρ s = bnd (f ρ) (fun x => lift (F x)) s := rfl
def tstR (d : Da) (s : S) : Rp (Bool × S) := match d with
  | .bl b => .ok (b, s)
  | _ => .no
@[simp] theorem ap_tstR (b : Bool) : tstR (.bl b) s = .ok (b, s) := rfl
@[simp] theorem ap_test (f : Ev → Fx S Da) : fTest f ρ s = bnd (f ρ) (fun x s => tstR x s) s := by
  unfold fTest bnd tstR
  cases f ρ s with
  | ok z => obtain ⟨d, s'⟩ := z; cases d <;> rfl
  | _ => rfl
@[simp] theorem ap_not (f : Ev → Fx S Bool) : fNot f ρ s = bnd (f ρ) (fun x => ret (!x)) s := rfl
@[simp] theorem ap_and (f g : Ev → Fx S Bool) : fAnd f g ρ s = bnd (f ρ) (fun x => if x = true then g ρ else ret false) s := rfl
@[simp] theorem ap_or (f g : Ev → Fx S Bool) : fOr f g ρ s = bnd (f ρ) (fun x => if x = true then ret true else g ρ) s := rfl
def andR (d : Da) (k : Fx S Da) : Fx S Da := fun s => match d with
  | .bl true => k s
  | .bl false => .ok (.bl false, s)
  | _ => .no
def orR (d : Da) (k : Fx S Da) : Fx S Da := fun s => match d with
  | .bl true => .ok (.bl true, s)
  | .bl false => k s
  | _ => .no
@[simp] theorem ap_andR (b : Bool) (k : Fx S Da) : andR (.bl b) k s = if b = true then k s else .ok (.bl false, s) := by cases b <;> rfl
@[simp] theorem ap_orR (b : Bool) (k : Fx S Da) : orR (.bl b) k s = if b = true then .ok (.bl true, s) else k s := by cases b <;> rfl
theorem ap_andV0 (f g : Ev → Fx S Da) : fAndV f g ρ s = bnd (f ρ) (fun x => andR x (g ρ)) s := by
  unfold fAndV bnd andR
  cases f ρ s with
  | ok z =>
    obtain ⟨d, s'⟩ := z
    cases d with
    | bl b => cases b <;> rfl
    | _ => rfl
  | _ => rfl
theorem ap_orV0 (f g : Ev → Fx S Da) : fOrV f g ρ s = bnd (f ρ) (fun x => orR x (g ρ)) s := by
  unfold fOrV bnd orR
  cases f ρ s with
  | ok z =>
    obtain ⟨d, s'⟩ := z
    cases d with
    | bl b => cases b <;> rfl
    | _ => rfl
  | _ => rfl
def notR (d : Da) (s : S) : Rp (Da × S) := match d with
  | .bl b => .ok (.bl (!b), s)
  | _ => .no
@[simp] theorem ap_notR (b : Bool) : notR (.bl b) s = .ok (.bl (!b), s) := rfl
theorem ap_notV0 (f : Ev → Fx S Da) : fNotV f ρ s = bnd (f ρ) (fun x s => notR x s) s := by
  unfold fNotV bnd notR
  cases f ρ s with
  | ok z => obtain ⟨d, s'⟩ := z; cases d <;> rfl
  | _ => rfl
@[simp] theorem ap_if (t : Ev → Fx S Bool) (f g : Ev → Fx S Da) : fIf t f g ρ s = bnd (t ρ) (fun x => if x = true then f ρ else g ρ) s := rfl
@[simp] theorem ap_ite (b : Bool) (f g : Fx S α) : (if b = true then f else g) s = if b = true then f s else g s := by cases b <;> rfl
@[simp] theorem ap_nil : fNil ρ s = .ok ([], s) := rfl
@[simp] theorem ap_cons (f : Ev → Fx S Da) (g : Ev → Fx S (List Da)) : fCons f g ρ s = bnd (f ρ) (fun x => bnd (g ρ) fun y => ret (x :: y)) s := rfl
@[simp] theorem ap_tup (h : Ev → Fx S (List Da)) : fTup h ρ s = bnd (h ρ) (fun ds => ret (.tup ds)) s := rfl
@[simp] theorem ap_lst (h : Ev → Fx S (List Da)) : fLst h ρ s = bnd (h ρ) (fun ds => ret (.lst ds)) s := rfl
@[simp] theorem ap_app (F : List Da → Option Da) (h : Ev → Fx S (List Da)) : fApp F h ρ s = bnd (h ρ) (fun x => lift (F x)) s := rfl
@[simp] theorem ap_appN (F : List Da → Option (List Da)) (h : Ev → Fx S (List Da)) : fAppN F h ρ s = bnd (h ρ) (fun x => lift (F x)) s := rfl
@[simp] theorem ap_call (F : List Da → Rp Da) (h : Ev → Fx S (List Da)) : fCall F h ρ s = bnd (h ρ) (fun x => liftR (F x)) s := rfl
@[simp] theorem ap_cat (f g : Ev → Fx S Da) : fCat f g ρ s = bnd (f ρ) (fun x => bnd (g ρ) fun y => lift (catL x y)) s := rfl
@[simp] theorem ap_it (f : Ev → Fx S Da) : fIt f ρ s = bnd (f ρ) (fun d => lift (itemsD d)) s := rfl
@[simp] theorem ap_true : fTrue ρ s = .ok (true, s) := rfl
@[simp] theorem ap_part_n : fPart (S := S) none ρ s = .ok (none, s) := rfl
def partR (d : Da) (s : S) : Rp (Option Int × S) := match d with
  | .int i => .ok (some i, s)
  | _ => .no
@[simp] theorem ap_partR (i : Int) : partR (.int i) s = .ok (some i, s) := rfl
@[simp] theorem ap_part_s (f : Ev → Fx S Da) : fPart (some f) ρ s = bnd (f ρ) (fun d s => partR d s) s := by
  show bnd (f ρ) _ s = _
  unfold bnd
  cases f ρ s with
  | ok z => obtain ⟨d, s'⟩ := z; cases d <;> rfl
  | _ => rfl
@[simp] theorem ap_sl (f : Ev → Fx S Da) (l u : Ev → Fx S (Option Int)) : fSl f l u ρ s = bnd (f ρ) (fun d => bnd (l ρ) fun lo => bnd (u ρ) fun hi => lift (slF d lo hi)) s := rfl
def chnR (F2 : Da → Da → Option Da) (z y : Da) (k : Fx S Da) : Fx S Da := fun s => match z with
  | .bl true => bnd k (fun w => lift (F2 y w)) s
  | .bl false => .ok (.bl false, s)
  | _ => .no
@[simp] theorem ap_chnR (F2 : Da → Da → Option Da) (b : Bool) (y : Da) (k : Fx S Da) : chnR F2 (.bl b) y k s = if b = true then bnd k (fun w => lift (F2 y w)) s else .ok (.bl false, s) := by cases b <;> rfl
theorem ap_chain0 (F1 F2 : Da → Da → Option Da) (f g m : Ev → Fx S Da) : fChain F1 F2 f g m ρ s = bnd (f ρ) (fun x => bnd (g ρ) fun y => bnd (lift (F1 x y)) fun z => chnR F2 z y (m ρ)) s := by
  unfold fChain bnd chnR
  cases f ρ s with
  | ok z =>
    obtain ⟨x, s1⟩ := z
    simp only
    cases g ρ s1 with
    | ok z =>
      obtain ⟨y, s2⟩ := z
      simp only
      cases lift (F1 x y) s2 with
      | ok z =>
        obtain ⟨z, s3⟩ := z
        cases z with
        | bl b => cases b <;> rfl
        | _ => rfl
      | _ => rfl
    | _ => rfl
  | _ => rfl
/-! ### statements -/
@[simp] theorem ap_nx : gNx ρ s = .nx ρ s := rfl
@[simp] theorem ap_seq (g k : Sx S) : gSeq g k ρ s = match g ρ s with
  | .nx ρ' s' => k ρ' s'
  | o => o := rfl
@[simp] theorem ap_set (i : Nat) (f : Ev → Fx S Da) : gSet i f ρ s = match f ρ s with
  | .ok (d, s') => .nx (ρ.set i (.dat d)) s'
  | .er c => .er c
  | .no => .no := rfl
@[simp] theorem ap_setO (i : Nat) (f : Ev → Fx S (List Da)) : gSetO i f ρ s = match f ρ s with
  | .ok (d, s') => .nx (ρ.set i (.own d)) s'
  | .er c => .er c
  | .no => .no := rfl
@[simp] theorem ap_setD (i : Nat) (f : Ev → Fx S (List Da)) : gSetD i f ρ s = match f ρ s with
  | .ok (d, s') => .nx (ρ.set i (.dat (.lst d))) s'
  | .er c => .er c
  | .no => .no := rfl
@[simp] theorem ap_gret (f : Ev → Fx S Da) : gRet f ρ s = match f ρ s with
  | .ok (d, s') => .rt d s'
  | .er c => .er c
  | .no => .no := rfl
@[simp] theorem ap_gdrop (f : Ev → Fx S Da) : gDrop f ρ s = match f ρ s with
  | .ok (_, s') => .nx ρ s'
  | .er c => .er c
  | .no => .no := rfl
@[simp] theorem ap_gif (t : Ev → Fx S Bool) (g k : Sx S) : gIf t g k ρ s = match t ρ s with
  | .ok (b, s') => if b = true then g ρ s' else k ρ s'
  | .er c => .er c
  | .no => .no := by
  unfold gIf
  cases t ρ s with
  | ok z => obtain ⟨b, s'⟩ := z; cases b <;> rfl
  | _ => rfl
@[simp] theorem ap_raise (c : Str) : gRaise c ρ s = .er c := rfl
@[simp] theorem ap_bk : gBk ρ s = .bk ρ s := rfl
@[simp] theorem ap_ct : gCt ρ s = .ct ρ s := rfl
@[simp] theorem ap_retN : gRetN ρ s = .rt .non s := rfl
@[simp] theorem ap_finD_r (d : Da) : finD (.rt d ()) = .ok d := rfl
@[simp] theorem ap_finD_n (ρ : Ev) : finD (.nx ρ ()) = .ok .non := rfl
@[simp] theorem ap_finD_e (c : Str) : finD (.er c) = .er c := rfl
@[simp] theorem ap_finI_r (d : Da) (s : Dr) : finI (.rt d s) = .ok (d, s) := rfl
@[simp] theorem ap_finI_n (ρ : Ev) (s : Dr) : finI (.nx ρ s) = .ok (.non, s) := rfl
@[simp] theorem ap_finI_e (c : Str) : finI (.er c) = .er c := rfl
def gRetOR (o : Option Sl) (s : S) : Out S := match o with
  | some (.own ds) => .rt (.lst ds) s
  | some (.dat d) => .rt d s
  | _ => .no
@[simp] theorem gRetOR_o (ds : List Da) : gRetOR (some (.own ds)) s = .rt (.lst ds) s := rfl
@[simp] theorem ap_retO (i : Nat) : gRetO i ρ s = gRetOR ρ[i]? s := by
  unfold gRetO gRetOR
  generalize ρ[i]? = o
  cases o with
  | none => rfl
  | some sl => cases sl <;> rfl
end
/-! ### operations on values -/
section
@[simp] theorem eq_int (a b : Int) : eqF (.int a) (.int b) = some (.bl (decide (a = b))) := by
  unfold eqF eqB nilT eqB0 scaV
  simp [scal]
@[simp] theorem ne_int (a b : Int) : neF (.int a) (.int b) = some (.bl (!decide (a = b))) := by
  unfold neF eqB nilT eqB0 scaV
  simp [scal]
@[simp] theorem eq_str (a b : Str) : eqF (.str a) (.str b) = some (.bl (decide (a = b))) := by
  unfold eqF eqB nilT eqB0 scaV
  simp [scal]
@[simp] theorem ne_str (a b : Str) : neF (.str a) (.str b) = some (.bl (!decide (a = b))) := by
  unfold neF eqB nilT eqB0 scaV
  simp [scal]
@[simp] theorem eq_nil (ds : List Da) : eqF (.tup ds) (.tup []) = some (.bl ds.isEmpty) := rfl
@[simp] theorem ne_nil (ds : List Da) : neF (.tup ds) (.tup []) = some (.bl (!ds.isEmpty)) := rfl
@[simp] theorem lt_int (a b : Int) : ltF (.int a) (.int b) = some (.bl (decide (a < b))) := rfl
@[simp] theorem le_int (a b : Int) : leF (.int a) (.int b) = some (.bl (decide (a ≤ b))) := rfl
@[simp] theorem gt_int (a b : Int) : gtF (.int a) (.int b) = some (.bl (decide (b < a))) := rfl
@[simp] theorem ge_int (a b : Int) : geF (.int a) (.int b) = some (.bl (decide (b ≤ a))) := rfl
@[simp] theorem add_int (a b : Int) : addF0 (.int a) (.int b) = some (.int (a + b)) := rfl
@[simp] theorem sub_int (a b : Int) : subF (.int a) (.int b) = some (.int (a - b)) := rfl
@[simp] theorem neg_int (a : Int) : negF (.int a) = some (.int (-a)) := rfl
@[simp] theorem len_tup (ds : List Da) : lenF [.tup ds] = some (.int (ds.length : Nat)) := rfl
@[simp] theorem len_lst (ds : List Da) : lenF [.lst ds] = some (.int (ds.length : Nat)) := rfl
@[simp] theorem tup_lst (ds : List Da) : tupF [.lst ds] = some (.tup ds) := rfl
@[simp] theorem tup_tup (ds : List Da) : tupF [.tup ds] = some (.tup ds) := rfl
@[simp] theorem items_lst (ds : List Da) : itemsD (.lst ds) = some ds := rfl
@[simp] theorem items_tup (ds : List Da) : itemsD (.tup ds) = some ds := rfl
@[simp] theorem list_tup (ds : List Da) : listF [.tup ds] = some ds := rfl
@[simp] theorem list_lst (ds : List Da) : listF [.lst ds] = some ds := rfl
@[simp] theorem isN_non : isNF .non .non = some (.bl true) := rfl
@[simp] theorem isN_tup (ds : List Da) : isNF (.tup ds) .non = some (.bl false) := rfl
@[simp] theorem isN_exc (c : Str) : isNF (.exc c) .non = some (.bl false) := rfl
@[simp] theorem notN_non : notNF .non .non = some (.bl false) := rfl
@[simp] theorem notN_exc (c : Str) : notNF (.exc c) .non = some (.bl true) := rfl
@[simp] theorem abs_int (i : Int) : absF [.int i] = some (.int (i.natAbs : Nat)) := by
  show some (Da.int (if i < 0 then -i else i)) = _
  congr 2
  split <;> omega
@[simp] theorem min_int (i j : Int) : minF [.int i, .int j] = some (.int (if j < i then j else i)) := rfl
theorem mulS_of {i j : Int} (h : CMulW i j) : mulSF (.int i) (.int j) = some (.int (i * j)) := if_pos h
theorem log_lt' {n k : Nat} (h : n < 2 ^ k) (hk : 1 ≤ k) : n.log2 < k := PySem.Flt.log2_lt_of hk h
/-- numbers that are no trouble -/
def Sm (i : Int) : Prop := i.natAbs < 2 ^ 4000
theorem Sm.mulW {i j : Int} (a : Sm i) (b : Sm j) : CMulW i j := by
  have h1 := log_lt' a (by decide)
  have h2 := log_lt' b (by decide)
  show _ + _ < 1000000
  omega
theorem mulS_sm {i j : Int} (a : Sm i) (b : Sm j) : mulSF (.int i) (.int j) = some (.int (i * j)) := mulS_of (a.mulW b)
theorem div_sm {i j : Int} (h : 0 < j) (b : Sm j) : divF (.int i) (.int j) = some (.int (i / j)) := if_pos ⟨h, by have := log_lt' b (by decide); omega⟩
theorem mod_ne {i j : Int} (h : j ≠ 0) : modF (.int i) (.int j) = some (.int (i.fmod j)) := if_pos h
/-! ### kinds -/
theorem kit_str {K : PySem.W.Frag} {a b : String} {r : Bool} (h : kitB a b = some r) : PySem.W.kitOne K (.type a) (.type b) = some r := kit_ty h
def tyN : Da → String
  | .non => "NoneType"
  | .bl _ => "bool"
  | .int _ => "int"
  | .str _ => "str"
  | .lst _ => "list"
  | .tup _ => "tuple"
  | .dic => "dict"
  | .exc _ => "exc"
  | .fn _ => "fn"
/-- data without exceptions and defs -/
def dataB : Da → Bool
  | .exc _ => false
  | .fn _ => false
  | _ => true
theorem tyD_data {K : PySem.W.Frag} {L : List Str} {d : Da} (h : dataB d = true) : tyD K L d = some (.type (tyN d)) := by
  cases d <;> first | rfl | cases h
theorem kitc (K : PySem.W.Frag) (a b : String) (r : Bool) (h : kitB a b = some r) : (PySem.W.kitOne K (.type a) (.type b)).map Da.bl = some (.bl r) := by rw [kit_ty h]; rfl
def tupB : Da → Bool
  | .tup _ => true
  | _ => false
theorem isi_tup {K : PySem.W.Frag} {d : Da} (h : dataB d = true) : isiF K [] (.type "tuple") d = some (.bl (tupB d)) := by
  unfold isiF
  rw [tyD_data h, Option.bind_some]
  cases d with
  | non => exact kitc K "NoneType" "tuple" false (by decide +kernel)
  | bl _ => exact kitc K "bool" "tuple" false (by decide +kernel)
  | int _ => exact kitc K "int" "tuple" false (by decide +kernel)
  | str _ => exact kitc K "str" "tuple" false (by decide +kernel)
  | lst _ => exact kitc K "list" "tuple" false (by decide +kernel)
  | tup _ => exact kitc K "tuple" "tuple" true (by decide +kernel)
  | dic => exact kitc K "dict" "tuple" false (by decide +kernel)
  | exc _ => cases h
  | fn _ => cases h
def strB : Da → Bool
  | .str _ => true
  | _ => false
theorem isi_str {K : PySem.W.Frag} {d : Da} (h : dataB d = true) : isiF K [] (.type "str") d = some (.bl (strB d)) := by
  unfold isiF
  rw [tyD_data h, Option.bind_some]
  cases d with
  | non => exact kitc K "NoneType" "str" false (by decide +kernel)
  | bl _ => exact kitc K "bool" "str" false (by decide +kernel)
  | int _ => exact kitc K "int" "str" false (by decide +kernel)
  | str _ => exact kitc K "str" "str" true (by decide +kernel)
  | lst _ => exact kitc K "list" "str" false (by decide +kernel)
  | tup _ => exact kitc K "tuple" "str" false (by decide +kernel)
  | dic => exact kitc K "dict" "str" false (by decide +kernel)
  | exc _ => cases h
  | fn _ => cases h
def intB : Da → Bool
  | .int _ => true
  | .bl _ => true
  | _ => false
theorem isi_int {K : PySem.W.Frag} {d : Da} (h : dataB d = true) : isiF K [] (.type "int") d = some (.bl (intB d)) := by
  unfold isiF
  rw [tyD_data h, Option.bind_some]
  cases d with
  | non => exact kitc K "NoneType" "int" false (by decide +kernel)
  | bl _ => exact kitc K "bool" "int" true (by decide +kernel)
  | int _ => exact kitc K "int" "int" true (by decide +kernel)
  | str _ => exact kitc K "str" "int" false (by decide +kernel)
  | lst _ => exact kitc K "list" "int" false (by decide +kernel)
  | tup _ => exact kitc K "tuple" "int" false (by decide +kernel)
  | dic => exact kitc K "dict" "int" false (by decide +kernel)
  | exc _ => cases h
  | fn _ => cases h
def boolB : Da → Bool
  | .bl _ => true
  | _ => false
theorem isi_bool {K : PySem.W.Frag} {d : Da} (h : dataB d = true) : isiF K [] (.type "bool") d = some (.bl (boolB d)) := by
  unfold isiF
  rw [tyD_data h, Option.bind_some]
  cases d with
  | non => exact kitc K "NoneType" "bool" false (by decide +kernel)
  | bl _ => exact kitc K "bool" "bool" true (by decide +kernel)
  | int _ => exact kitc K "int" "bool" false (by decide +kernel)
  | str _ => exact kitc K "str" "bool" false (by decide +kernel)
  | lst _ => exact kitc K "list" "bool" false (by decide +kernel)
  | tup _ => exact kitc K "tuple" "bool" false (by decide +kernel)
  | dic => exact kitc K "dict" "bool" false (by decide +kernel)
  | exc _ => cases h
  | fn _ => cases h
def lstB : Da → Bool
  | .lst _ => true
  | _ => false
theorem isi_lst {K : PySem.W.Frag} {d : Da} (h : dataB d = true) : isiF K [] (.type "list") d = some (.bl (lstB d)) := by
  unfold isiF
  rw [tyD_data h, Option.bind_some]
  cases d with
  | non => exact kitc K "NoneType" "list" false (by decide +kernel)
  | bl _ => exact kitc K "bool" "list" false (by decide +kernel)
  | int _ => exact kitc K "int" "list" false (by decide +kernel)
  | str _ => exact kitc K "str" "list" false (by decide +kernel)
  | lst _ => exact kitc K "list" "list" true (by decide +kernel)
  | tup _ => exact kitc K "tuple" "list" false (by decide +kernel)
  | dic => exact kitc K "dict" "list" false (by decide +kernel)
  | exc _ => cases h
  | fn _ => cases h
@[simp] theorem isi_tup_t {K : PySem.W.Frag} {ds : List Da} : isiF K [] (.type "tuple") (.tup ds) = some (.bl true) := isi_tup rfl
@[simp] theorem isi_tup_n {K : PySem.W.Frag} : isiF K [] (.type "tuple") .non = some (.bl false) := isi_tup rfl
@[simp] theorem isi_tup_l {K : PySem.W.Frag} {ds : List Da} : isiF K [] (.type "tuple") (.lst ds) = some (.bl false) := isi_tup rfl
@[simp] theorem isi_tup_i {K : PySem.W.Frag} {i : Int} : isiF K [] (.type "tuple") (.int i) = some (.bl false) := isi_tup rfl
@[simp] theorem isi_str_s {K : PySem.W.Frag} {x : Str} : isiF K [] (.type "str") (.str x) = some (.bl true) := isi_str rfl
@[simp] theorem isi_int_i {K : PySem.W.Frag} {i : Int} : isiF K [] (.type "int") (.int i) = some (.bl true) := isi_int rfl
@[simp] theorem isi_bool_i {K : PySem.W.Frag} {i : Int} : isiF K [] (.type "bool") (.int i) = some (.bl false) := isi_bool rfl
end
end Sw

set_option Elab.async false
set_option linter.all false
set_option maxRecDepth 100000
set_option maxHeartbeats 1000000
/-! SwPb: checks, fractions, plainly. -/
namespace Sw
open PySem PySem.Spec PyProof.Rows L2
section
variable {K : PySem.W.Frag}
def wholeB : Da → Bool
  | .int _ => true
  | _ => false
theorem r_is_whole {d : Da} (h : dataB d = true) : F_is_whole K [d] = .ok (.bl (wholeB d)) := by
  rw [E_is_whole]
  simp [g_is_whole, ap_andV0, ap_notV0, isi_int h, isi_bool h]
  cases d <;> simp [intB, boolB, wholeB]
def numB (d : Da) (lo hi : Int) : Bool := match d with
  | .int i => decide (lo ≤ i) && decide (i ≤ hi)
  | _ => false
theorem r_is_number {d : Da} {lo hi : Int} (h : dataB d = true) : F_is_number K [d, .int lo, .int hi] = .ok (.bl (numB d lo hi)) := by
  rw [E_is_number]
  simp [g_is_number, ap_andV0, ap_chain0, r_is_whole h]
  cases d with
  | int i =>
    simp [wholeB, numB]
    by_cases q : lo ≤ i <;> simp [q]
  | _ => simp [wholeB, numB]
def tupN (d : Da) (n : Int) : Bool := match d with
  | .tup ds => decide ((ds.length : Int) = n)
  | _ => false
theorem r_is_tuple_of {d : Da} {n : Int} (h : dataB d = true) : F_is_tuple_of K [d, .int n] = .ok (.bl (tupN d n)) := by
  rw [E_is_tuple_of]
  simp [g_is_tuple_of, ap_andV0, isi_tup h]
  cases d <;> simp [tupB, tupN]
theorem fmod_nat (a b : Nat) : Int.fmod (a : Int) (b : Int) = ((a % b : Nat) : Int) := by
  rw [Int.fmod_eq_emod_of_nonneg _ (Int.natCast_nonneg b), Int.natCast_emod]
theorem mod_half {a b : Nat} (hb : b ≠ 0) (hr : a % b ≠ 0) {k : Nat} (h : b < 2 ^ (k + 1)) : b % (a % b) < 2 ^ k := by
  have h1 : a % b < b := Nat.mod_lt _ (by omega)
  have h2 : b % (a % b) < a % b := Nat.mod_lt _ (by omega)
  have h3 : a % b + b % (a % b) ≤ b := by
    have e := Nat.mod_add_div b (a % b)
    have q : 1 ≤ b / (a % b) := (Nat.one_le_div_iff (by omega)).mpr (by omega)
    have m : a % b ≤ (a % b) * (b / (a % b)) := Nat.le_mul_of_pos_right _ (by omega)
    omega
  rw [Nat.pow_succ] at h
  omega
theorem gcd_step (a b : Nat) : Nat.gcd a b = Nat.gcd b (a % b) := by rw [Nat.gcd_comm a b, Nat.gcd_rec b a, Nat.gcd_comm]
/-- Euclid's loop -/
theorem gcd_wh {t : Ev → Fx Unit Bool} {g : Sx Unit} {st : Nat → Nat → Ev} (T : ∀ a b, t (st a b) () = .ok (!decide (b = 0), ())) (G : ∀ a b, b ≠ 0 → g (st a b) () = .nx (st b (a % b)) ()) :
    ∀ (k a b fuel : Nat), b < 2 ^ k → 2 * k + 2 ≤ fuel → whileF t g fuel (st a b) () = .nx (st (Nat.gcd a b) 0) () := by
  have zero : ∀ a fuel, 1 ≤ fuel → whileF t g fuel (st a 0) () = .nx (st (Nat.gcd a 0) 0) () := fun a fuel hf => by
    obtain ⟨n, rfl⟩ : ∃ n, fuel = n + 1 := ⟨fuel - 1, by omega⟩
    unfold whileF
    rw [T a 0]
    simp
  intro k
  induction k with
  | zero =>
    intro a b fuel hb hf
    obtain rfl : b = 0 := by simpa using hb
    exact zero a fuel (by omega)
  | succ k ih =>
    intro a b fuel hb hf
    by_cases h0 : b = 0
    · subst h0
      exact zero a fuel (by omega)
    · obtain ⟨n, rfl⟩ : ∃ n, fuel = n + 2 := ⟨fuel - 2, by omega⟩
      unfold whileF
      rw [T a b]
      simp only [h0, decide_false, Bool.not_false]
      rw [G a b h0]
      simp only
      by_cases hr : a % b = 0
      · rw [hr, zero b (n + 1) (by omega), gcd_step a b, hr]
      · unfold whileF
        rw [T b (a % b)]
        simp only [hr, decide_false, Bool.not_false]
        rw [G b (a % b) hr]
        simp only
        rw [ih _ _ n (mod_half h0 hr hb) (by omega), gcd_step a b, gcd_step b (a % b)]
/-- the same, with laps and a break -/
theorem gcd_for {h : Ev → Da → Option Ev} {g : Sx Unit} {st : Sl → Nat → Nat → Ev} (H : ∀ x a b d, h (st x a b) d = some (st (.dat d) a b)) (Z : ∀ x a, g (st x a 0) () = .bk (st x a 0) ()) (G : ∀ x a b, b ≠ 0 → g (st x a b) () = .nx (st x b (a % b)) ()) :
    ∀ (k a b : Nat) (x : Sl) (ds : List Da), b < 2 ^ k → 2 * k ≤ ds.length → ∃ x', forF h g ds (st x a b) () = .nx (st x' (Nat.gcd a b) 0) () := by
  have zero : ∀ a x ds, ∃ x', forF h g ds (st x a 0) () = .nx (st x' (Nat.gcd a 0) 0) () := fun a x ds => by
    cases ds with
    | nil => exact ⟨x, by unfold forF; simp⟩
    | cons d ds =>
      refine ⟨.dat d, ?_⟩
      unfold forF
      rw [H]
      simp only
      rw [Z]
      simp
  intro k
  induction k with
  | zero =>
    intro a b x ds hb hl
    obtain rfl : b = 0 := by simpa using hb
    exact zero a x ds
  | succ k ih =>
    intro a b x ds hb hl
    by_cases h0 : b = 0
    · subst h0
      exact zero a x ds
    · match ds, hl with
      | d :: e :: ds, hl =>
        simp only [List.length_cons] at hl
        unfold forF
        rw [H]
        simp only
        rw [G _ a b h0]
        simp only
        by_cases hr : a % b = 0
        · rw [hr, gcd_step a b, hr]
          exact zero b _ _
        · unfold forF
          rw [H]
          simp only
          rw [G _ b (a % b) hr]
          simp only
          rw [gcd_step a b, gcd_step b (a % b)]
          exact ih _ _ _ ds (mod_half h0 hr hb) (by omega)
      | [], hl => simp at hl
      | [_], hl => simp at hl; omega
theorem r_common_divisor {a b : Int} (ha : Sm a) (hb : Sm b) : F_common_divisor K [.int a, .int b] = .ok (.int (Int.gcd a b : Nat)) := by
  rw [E_common_divisor]
  have w := gcd_wh (t := fTest (fBin neF (fName 1) (fC (.int 0)))) (g := gPar 0 1 (fCons (fName 1) (fCons (fBin modF (fName 0) (fName 1)) (fNil)))) (st := fun a b => [.dat (.int (a : Nat)), .dat (.int (b : Nat))])
    (fun a b => by simp) (fun a b h => by
      have h' : (b : Int) ≠ 0 := by omega
      simp [gPar, mod_ne h', fmod_nat]) 4000 a.natAbs b.natAbs 1000000 hb (by omega)
  simp only [g_common_divisor, ap_seq]
  have e1 : gPar 0 1 (fCons (fApp absF (fCons (fName 0) (fNil))) (fCons (fApp absF (fCons (fName 1) (fNil))) (fNil))) [.dat (.int a), .dat (.int b)] () = .nx [.dat (.int (a.natAbs : Nat)), .dat (.int (b.natAbs : Nat))] () := by
    simp [gPar]
  rw [e1]
  simp only
  unfold gWhile
  rw [w]
  simp [Int.gcd]
end
end Sw

set_option Elab.async false
set_option linter.all false
set_option maxRecDepth 100000
set_option maxHeartbeats 1000000
/-! SwPc: fractions as rational numbers, with bounds. -/
namespace Sw
open PySem PySem.Spec PyProof.Rows L2
/-- a fraction -/
def fr (q : Rat) : Da := .tup [.int q.num, .int (q.den : Nat)]
/-- q is m / D with m at most M -/
def QB (D M : Nat) (q : Rat) : Prop := 0 < D ∧ ∃ m : Int, q = Rat.divInt m D ∧ m.natAbs ≤ M
theorem QB.den {D M : Nat} {q : Rat} (h : QB D M q) : q.den ≤ D := by
  obtain ⟨hD, m, rfl, hm⟩ := h
  rw [Rat.den_divInt, if_neg (by omega)]
  exact Nat.div_le_self ..
theorem QB.num {D M : Nat} {q : Rat} (h : QB D M q) : q.num.natAbs ≤ M := by
  obtain ⟨hD, m, rfl, hm⟩ := h
  rw [Rat.num_divInt]
  have e : (D : Int).sign = 1 := Int.sign_eq_one_of_pos (by omega)
  rw [e, Int.one_mul, Int.natAbs_ediv_of_dvd (Int.gcd_dvd_right ..)]
  exact Nat.le_trans (Nat.div_le_self ..) hm
theorem QB.mono {D M M' : Nat} {q : Rat} (h : QB D M q) (l : M ≤ M') : QB D M' q := ⟨h.1, h.2.imp fun m ⟨a, b⟩ => ⟨a, Nat.le_trans b l⟩⟩
theorem QB.raise {D M : Nat} {q : Rat} (h : QB D M q) (E : Nat) (hE : 0 < E) : QB (D * E) (M * E) q := by
  obtain ⟨hD, m, rfl, hm⟩ := h
  refine ⟨Nat.mul_pos hD hE, m * E, ?_, ?_⟩
  · rw [Int.natCast_mul, Rat.divInt_eq_divInt_iff (by omega) (by
      have := Nat.mul_pos hD hE
      rw [← Int.natCast_mul]; omega)]
    rw [Int.mul_comm (D : Int) (E : Int), Int.mul_assoc]
  · rw [Int.natAbs_mul, Int.natAbs_natCast]
    exact Nat.mul_le_mul_right _ hm
theorem QB.add {D M N : Nat} {p q : Rat} (a : QB D M p) (b : QB D N q) : QB D (M + N) (p + q) := by
  obtain ⟨hD, m, rfl, hm⟩ := a
  obtain ⟨_, n, rfl, hn⟩ := b
  refine ⟨hD, m + n, ?_, by omega⟩
  rw [Rat.divInt_add_divInt _ _ (by omega) (by omega), Rat.divInt_eq_divInt_iff (by have := Nat.mul_pos hD hD; rw [← Int.natCast_mul]; omega) (by omega), ← Int.add_mul, Int.mul_assoc]
theorem QB.mul {D E M N : Nat} {p q : Rat} (a : QB D M p) (b : QB E N q) : QB (D * E) (M * N) (p * q) := by
  obtain ⟨hD, m, rfl, hm⟩ := a
  obtain ⟨hE, n, rfl, hn⟩ := b
  refine ⟨Nat.mul_pos hD hE, m * n, ?_, ?_⟩
  · rw [Rat.divInt_mul_divInt, Int.natCast_mul]
  · rw [Int.natAbs_mul]; exact Nat.mul_le_mul hm hn
theorem QB.neg {D M : Nat} {q : Rat} (h : QB D M q) : QB D M (-q) := by
  obtain ⟨hD, m, rfl, hm⟩ := h
  exact ⟨hD, -m, by rw [Rat.neg_divInt], by rw [Int.natAbs_neg]; exact hm⟩
theorem QB.zero {D M : Nat} (h : 0 < D) : QB D M 0 := ⟨h, 0, by rw [Rat.zero_divInt], by simp⟩
/-- small enough for all that is done with it -/
def Bq (q : Rat) : Prop := q.num.natAbs < 2 ^ 1900 ∧ q.den < 2 ^ 1900
theorem QB.bq {D M : Nat} {q : Rat} (h : QB D M q) (hD : D < 2 ^ 1900) (hM : M < 2 ^ 1900) : Bq q := ⟨Nat.lt_of_le_of_lt h.num hM, Nat.lt_of_le_of_lt h.den hD⟩
theorem bq_mul {a b : Int} (ha : a.natAbs < 2 ^ 1900) (hb : b.natAbs < 2 ^ 1900) : (a * b).natAbs < 2 ^ 3800 := by
  rw [Int.natAbs_mul]
  have e : (2 : Nat) ^ 3800 = 2 ^ 1900 * 2 ^ 1900 := by rw [← Nat.pow_add]
  rw [e]
  exact Nat.mul_lt_mul'' ha hb
theorem pow_le' {a b : Nat} (h : a ≤ b) : (2 : Nat) ^ a ≤ 2 ^ b := Nat.pow_le_pow_right (by decide) h
theorem sm_of {i : Int} {k : Nat} (h : i.natAbs < 2 ^ k) (hk : k ≤ 4000) : Sm i := Nat.lt_of_lt_of_le h (pow_le' hk)
theorem sm_add {i j : Int} (hi : i.natAbs < 2 ^ 3800) (hj : j.natAbs < 2 ^ 3800) : Sm (i + j) := by
  have e : (2 : Nat) ^ 3801 = 2 ^ 3800 + 2 ^ 3800 := by rw [Nat.pow_succ]; omega
  have h : (i + j).natAbs ≤ i.natAbs + j.natAbs := Int.natAbs_add_le i j
  refine sm_of (k := 3801) ?_ (by omega)
  rw [e]
  omega
section
variable {K : PySem.W.Frag}
theorem gcd_pos' {n d : Int} (h : d ≠ 0) : 0 < Int.gcd n d := Int.gcd_pos_of_ne_zero_right _ h
theorem r_reduced {n d : Int} (hd : d ≠ 0) (hn : Sm n) (hs : Sm d) : F_reduced K [.int n, .int d] = .ok (fr (Rat.divInt n d)) := by
  rw [E_reduced]
  have g0 := gcd_pos' (n := n) hd
  have gs : Sm (Int.gcd n d : Nat) := by
    show ((Int.gcd n d : Nat) : Int).natAbs < _
    rw [Int.natAbs_natCast]
    exact Nat.lt_of_le_of_lt (Nat.le_of_dvd (by omega) (Int.gcd_dvd_natAbs_right ..)) hs
  have gp : (0 : Int) < (Int.gcd n d : Nat) := by omega
  have fin : ∀ (x y : Int), x = d.sign * n → y = (d.natAbs : Nat) → Int.gcd x y = Int.gcd n d →
      Da.tup [.int (x / (Int.gcd n d : Nat)), .int (y / (Int.gcd n d : Nat))] = fr (Rat.divInt n d) := fun x y hx hy hg => by
    unfold fr
    rw [Rat.num_divInt, Rat.den_divInt, if_neg hd, hx, hy, Int.gcd_comm d n]
    congr 4
  by_cases h : d < 0
  · have e1 : F_common_divisor K [.int (-n), .int (-d)] = .ok (.int (Int.gcd n d : Nat)) := by
      rw [r_common_divisor (by show (-n).natAbs < _; rw [Int.natAbs_neg]; exact hn) (by show (-d).natAbs < _; rw [Int.natAbs_neg]; exact hs), Int.gcd_neg, Int.neg_gcd]
    simp [g_reduced, gPar, h, e1, div_sm gp gs]
    have sd : d.sign = -1 := Int.sign_eq_neg_one_of_neg h
    exact fin _ _ (by rw [sd]; omega) (by omega) (by rw [Int.gcd_neg, Int.neg_gcd])
  · have e1 := r_common_divisor (K := K) hn hs
    simp [g_reduced, gPar, h, e1, div_sm gp gs]
    have sd : d.sign = 1 := Int.sign_eq_one_of_pos (by omega)
    exact fin _ _ (by rw [sd]; omega) (by omega) rfl
theorem atI_k {α : Type} (xs : List α) (k : Nat) : atI xs ((k : Nat) : Int) = xs[k]? := by
  unfold atI ixN
  rw [if_pos (by omega)]
  by_cases h : k < xs.length
  · rw [if_pos (by omega)]
    simp
  · rw [if_neg (by omega), List.getElem?_eq_none (by omega)]
    rfl
theorem atI_neg {α : Type} (xs : List α) (k : Nat) (h : 1 ≤ k) (hk : k ≤ xs.length) : atI xs (-((k : Nat) : Int)) = xs[xs.length - k]? := by
  unfold atI ixN
  rw [if_neg (by omega), if_pos (by omega)]
  have e : (-((k : Nat) : Int) + xs.length).toNat = xs.length - k := by omega
  simp [e]
theorem ix0 (a : Da) (ds : List Da) : ixF (.tup (a :: ds)) (.int 0) = some a := atI_k (a :: ds) 0
theorem ix1 (a b : Da) (ds : List Da) : ixF (.tup (a :: b :: ds)) (.int 1) = some b := atI_k (a :: b :: ds) 1
theorem ix2 (a b c : Da) (ds : List Da) : ixF (.tup (a :: b :: c :: ds)) (.int 2) = some c := atI_k (a :: b :: c :: ds) 2
theorem fr0 (q : Rat) : ixF (fr q) (.int 0) = some (.int q.num) := ix0 _ _
theorem fr1 (q : Rat) : ixF (fr q) (.int 1) = some (.int (q.den : Nat)) := ix1 _ _ _
theorem den_ne (q : Rat) : ((q.den : Nat) : Int) ≠ 0 := by have := q.den_nz; omega
theorem r_plus {p q : Rat} (hp : Bq p) (hq : Bq q) : F_plus K [fr p, fr q] = .ok (fr (p + q)) := by
  rw [E_plus]
  have d1 := den_ne p
  have d2 := den_ne q
  have sp : Sm p.num := sm_of hp.1 (by decide)
  have sq : Sm q.num := sm_of hq.1 (by decide)
  have tp : Sm (p.den : Nat) := sm_of (k := 1900) (by rw [Int.natAbs_natCast]; exact hp.2) (by decide)
  have tq : Sm (q.den : Nat) := sm_of (k := 1900) (by rw [Int.natAbs_natCast]; exact hq.2) (by decide)
  by_cases h : ((p.den : Nat) : Int) = (q.den : Nat)
  · have e1 := r_reduced (K := K) (n := p.num + q.num) d1 (sm_add (Nat.lt_of_lt_of_le hp.1 (pow_le' (by decide))) (Nat.lt_of_lt_of_le hq.1 (pow_le' (by decide)))) tp
    simp [g_plus, fr0, fr1, h]
    rw [h] at e1
    rw [e1]
    have e2 : Rat.divInt (p.num + q.num) (q.den : Nat) = p + q := by
      have a := Rat.num_divInt_den p
      have b := Rat.num_divInt_den q
      have c : p + q = Rat.divInt (p.num * (q.den : Nat) + q.num * (p.den : Nat)) ((p.den : Nat) * (q.den : Nat)) := by rw [← Rat.divInt_add_divInt _ _ d1 d2, a, b]
      rw [c, h, Rat.divInt_eq_divInt_iff d2 (Int.mul_ne_zero d2 d2), ← Int.add_mul, Int.mul_assoc]
    simp [e2]
  · have e1 := r_reduced (K := K) (n := p.num * (q.den : Nat) + q.num * (p.den : Nat)) (d := (p.den : Nat) * (q.den : Nat)) (Int.mul_ne_zero d1 d2)
      (sm_add (bq_mul hp.1 (by rw [Int.natAbs_natCast]; exact hq.2)) (bq_mul hq.1 (by rw [Int.natAbs_natCast]; exact hp.2))) (sm_of (bq_mul (by rw [Int.natAbs_natCast]; exact hp.2) (by rw [Int.natAbs_natCast]; exact hq.2)) (by decide))
    simp [g_plus, fr0, fr1, h, mulS_sm sp tq, mulS_sm sq tp, mulS_sm tp tq]
    rw [e1, ← Rat.divInt_add_divInt _ _ d1 d2, Rat.num_divInt_den, Rat.num_divInt_den]
    simp
theorem r_by {p q : Rat} (hp : Bq p) (hq : Bq q) : F_by K [fr p, fr q] = .ok (fr (p * q)) := by
  rw [E_by]
  have d1 := den_ne p
  have d2 := den_ne q
  have sp : Sm p.num := sm_of hp.1 (by decide)
  have sq : Sm q.num := sm_of hq.1 (by decide)
  have tp : Sm (p.den : Nat) := sm_of (k := 1900) (by rw [Int.natAbs_natCast]; exact hp.2) (by decide)
  have tq : Sm (q.den : Nat) := sm_of (k := 1900) (by rw [Int.natAbs_natCast]; exact hq.2) (by decide)
  have e1 := r_reduced (K := K) (n := p.num * q.num) (d := (p.den : Nat) * (q.den : Nat)) (Int.mul_ne_zero d1 d2)
    (sm_of (bq_mul hp.1 hq.1) (by decide)) (sm_of (bq_mul (by rw [Int.natAbs_natCast]; exact hp.2) (by rw [Int.natAbs_natCast]; exact hq.2)) (by decide))
  simp [g_by, fr0, fr1, mulS_sm sp sq, mulS_sm tp tq]
  rw [e1, ← Rat.divInt_mul_divInt, Rat.num_divInt_den, Rat.num_divInt_den]
  simp
end
end Sw

set_option Elab.async false
set_option linter.all false
set_option maxRecDepth 100000
set_option maxHeartbeats 1000000
set_option exponentiation.threshold 5000
/-! SwPd: the law's own fractions; what is a fraction. -/
namespace Sw
open PySem PySem.Spec PyProof.Rows L2
section
variable {K : PySem.W.Frag}
theorem r_law_v_low {n d : Int} (hd : d ≠ 0) (hn : Sm n) (hs : d.natAbs < 2 ^ 199) : F_law_v_low K [.int n, .int d] = .ok (fr (Rat.divInt n d)) := by
  rw [E_law_v_low]
  have g0 := gcd_pos' (n := n) hd
  have gs : Sm (Int.gcd n d : Nat) := by
    show ((Int.gcd n d : Nat) : Int).natAbs < _
    rw [Int.natAbs_natCast]
    exact Nat.lt_of_le_of_lt (Nat.le_of_dvd (by omega) (Int.gcd_dvd_natAbs_right ..)) (Nat.lt_of_lt_of_le hs (pow_le' (by decide)))
  have gp : (0 : Int) < (Int.gcd n d : Nat) := by omega
  obtain ⟨x', w⟩ := gcd_for (h := hName 2) (g := gSeq (gIf (fTest (fBin eqF (fName 5) (fC (.int 0)))) (gBk) (gNx)) (gPar 4 5 (fCons (fName 5) (fCons (fBin modF (fName 4) (fName 5)) (fNil)))))
    (st := fun x a b => [.dat (.int n), .dat (.int d), x, .no, .dat (.int (a : Nat)), .dat (.int (b : Nat))])
    (fun x a b d => by simp [hName]) (fun x a => by simp) (fun x a b h => by
      have h' : (b : Int) ≠ 0 := by omega
      simp [gPar, mod_ne h', fmod_nat, h]) 199 n.natAbs d.natAbs .no (rngD 0 400) hs (by rw [rngD_len]; decide)
  have e0 : fRng1 (fCons (fC (.int 400)) (fNil)) (S := Unit) = fun ρ => ret (rngD 0 400) := by
    funext ρ
    rfl
  have sg1 : Sm 1 := by unfold Sm; decide
  have sg2 : Sm (-1) := by unfold Sm; decide
  simp [g_law_v_low, gPar]
  unfold gFor
  rw [e0]
  simp only [ap_ret]
  rw [w]
  have hg : ((Nat.gcd n.natAbs d.natAbs : Nat) : Int) = (Int.gcd n d : Nat) := rfl
  have fin : ∀ (x y : Int), x = d.sign * n → y = (d.natAbs : Nat) → Da.tup [.int (x / (Int.gcd n d : Nat)), .int (y / (Int.gcd n d : Nat))] = fr (Rat.divInt n d) := fun x y hx hy => by
    unfold fr
    rw [Rat.num_divInt, Rat.den_divInt, if_neg hd, hx, hy, Int.gcd_comm d n]
    congr 4
  by_cases h : d < 0
  · simp [h, mulS_sm sg2 hn, hg, div_sm gp gs]
    have sd : d.sign = -1 := Int.sign_eq_neg_one_of_neg h
    exact fin _ _ (by rw [sd]; omega) (by omega)
  · simp [h, mulS_sm sg1 hn, hg, div_sm gp gs]
    have sd : d.sign = 1 := Int.sign_eq_one_of_pos (by omega)
    exact fin _ _ (by rw [sd]; omega) (by omega)
/-- small for the law's own sums too -/
def Lq (q : Rat) : Prop := q.num.natAbs < 2 ^ 90 ∧ q.den < 2 ^ 90
theorem QB.lq {D M : Nat} {q : Rat} (h : QB D M q) (hD : D < 2 ^ 90) (hM : M < 2 ^ 90) : Lq q := ⟨Nat.lt_of_le_of_lt h.num hM, Nat.lt_of_le_of_lt h.den hD⟩
theorem Lq.bq {q : Rat} (h : Lq q) : Bq q := ⟨Nat.lt_of_lt_of_le h.1 (pow_le' (by decide)), Nat.lt_of_lt_of_le h.2 (pow_le' (by decide))⟩
theorem lq_den {p q : Rat} (hp : Lq p) (hq : Lq q) : (((p.den : Nat) : Int) * (q.den : Nat)).natAbs < 2 ^ 199 := by
  rw [Int.natAbs_mul, Int.natAbs_natCast, Int.natAbs_natCast]
  have e : (2 : Nat) ^ 90 * 2 ^ 90 ≤ 2 ^ 199 := by decide
  exact Nat.lt_of_lt_of_le (Nat.mul_lt_mul'' hp.2 hq.2) e
theorem r_law_v_plus {p q : Rat} (hp : Lq p) (hq : Lq q) : F_law_v_plus K [fr p, fr q] = .ok (fr (p + q)) := by
  rw [E_law_v_plus]
  have d1 := den_ne p
  have d2 := den_ne q
  have sp : Sm p.num := sm_of hp.1 (by decide)
  have sq : Sm q.num := sm_of hq.1 (by decide)
  have tp : Sm (p.den : Nat) := sm_of (k := 90) (by rw [Int.natAbs_natCast]; exact hp.2) (by decide)
  have tq : Sm (q.den : Nat) := sm_of (k := 90) (by rw [Int.natAbs_natCast]; exact hq.2) (by decide)
  have bp := hp.bq
  have bq := hq.bq
  have e1 := r_law_v_low (K := K) (n := p.num * (q.den : Nat) + q.num * (p.den : Nat)) (d := (p.den : Nat) * (q.den : Nat)) (Int.mul_ne_zero d1 d2)
    (sm_add (bq_mul bp.1 (by rw [Int.natAbs_natCast]; exact bq.2)) (bq_mul bq.1 (by rw [Int.natAbs_natCast]; exact bp.2))) (lq_den hp hq)
  simp [g_law_v_plus, fr0, fr1, mulS_sm sp tq, mulS_sm sq tp, mulS_sm tp tq]
  rw [e1, ← Rat.divInt_add_divInt _ _ d1 d2, Rat.num_divInt_den, Rat.num_divInt_den]
  simp
theorem r_law_v_by {p q : Rat} (hp : Lq p) (hq : Lq q) : F_law_v_by K [fr p, fr q] = .ok (fr (p * q)) := by
  rw [E_law_v_by]
  have d1 := den_ne p
  have d2 := den_ne q
  have sp : Sm p.num := sm_of hp.1 (by decide)
  have sq : Sm q.num := sm_of hq.1 (by decide)
  have tp : Sm (p.den : Nat) := sm_of (k := 90) (by rw [Int.natAbs_natCast]; exact hp.2) (by decide)
  have tq : Sm (q.den : Nat) := sm_of (k := 90) (by rw [Int.natAbs_natCast]; exact hq.2) (by decide)
  have bp := hp.bq
  have bq := hq.bq
  have e1 := r_law_v_low (K := K) (n := p.num * q.num) (d := (p.den : Nat) * (q.den : Nat)) (Int.mul_ne_zero d1 d2) (sm_of (bq_mul bp.1 bq.1) (by decide)) (lq_den hp hq)
  simp [g_law_v_by, fr0, fr1, mulS_sm sp sq, mulS_sm tp tq]
  rw [e1, ← Rat.divInt_mul_divInt, Rat.num_divInt_den, Rat.num_divInt_den]
  simp
theorem r_law_v_above {p q : Rat} (hp : Lq p) (hq : Lq q) : F_law_v_above K [fr p, fr q] = .ok (.bl (decide (q < p))) := by
  rw [E_law_v_above]
  have sp : Sm p.num := sm_of hp.1 (by decide)
  have sq : Sm q.num := sm_of hq.1 (by decide)
  have tp : Sm (p.den : Nat) := sm_of (k := 90) (by rw [Int.natAbs_natCast]; exact hp.2) (by decide)
  have tq : Sm (q.den : Nat) := sm_of (k := 90) (by rw [Int.natAbs_natCast]; exact hq.2) (by decide)
  simp [g_law_v_above, fr0, fr1, mulS_sm sp tq, mulS_sm sq tp]
  rw [Rat.lt_iff]
/-! ### what is a fraction -/
mutual
/-- data all through, numbers that are no trouble -/
def Dt : Da → Prop
  | .int i => Sm i
  | .lst ds => ds.length ≤ 1000 ∧ DtL ds
  | .tup ds => ds.length ≤ 1000 ∧ DtL ds
  | .exc _ => False
  | .fn _ => False
  | _ => True
def DtL : List Da → Prop
  | [] => True
  | d :: ds => Dt d ∧ DtL ds
end
theorem DtL.mem : ∀ {ds : List Da}, DtL ds → ∀ d ∈ ds, Dt d
  | [], _, _, h => absurd h (by simp)
  | d :: ds, h, e, he => by
    unfold DtL at h
    rcases List.mem_cons.mp he with rfl | he
    · exact h.1
    · exact DtL.mem h.2 e he
theorem DtL.of : ∀ {ds : List Da}, (∀ d ∈ ds, Dt d) → DtL ds
  | [], _ => by unfold DtL; trivial
  | d :: ds, h => by unfold DtL; exact ⟨h d (by simp), DtL.of fun e he => h e (by simp [he])⟩
theorem Dt.data {d : Da} (h : Dt d) : dataB d = true := by
  cases d <;> first | rfl | (unfold Dt at h; exact h.elim)
theorem Dt.tup {ds : List Da} (h : Dt (.tup ds)) : ∀ d ∈ ds, Dt d := by unfold Dt at h; exact h.2.mem
theorem Dt.mk {ds : List Da} (l : ds.length ≤ 1000) (h : ∀ d ∈ ds, Dt d) : Dt (.tup ds) := by unfold Dt; exact ⟨l, DtL.of h⟩
theorem Dt.len {ds : List Da} (h : Dt (.tup ds)) : ds.length ≤ 1000 := by unfold Dt at h; exact h.1
theorem Dt.int {i : Int} (h : Dt (.int i)) : Sm i := by unfold Dt at h; exact h
def fracB : Da → Bool
  | .tup [.int n, .int m] => decide (1 ≤ m) && decide (Int.gcd n m = 1)
  | _ => false
theorem r_is_fraction {d : Da} (h : Dt d) : F_is_fraction K [d] = .ok (.bl (fracB d)) := by
  rw [E_is_fraction]
  simp [g_is_fraction, r_is_tuple_of h.data]
  match d, h with
  | .tup [a, b], h =>
    have ha : Dt a := h.tup a (by simp)
    have hb : Dt b := h.tup b (by simp)
    have wa := r_is_whole (K := K) ha.data
    have wb := r_is_whole (K := K) hb.data
    cases a with
    | int n =>
      cases b with
      | int m =>
        by_cases q : m < 1
        · have q' : ¬ (1 ≤ m) := by omega
          simp [tupN, ix0, ix1, wa, wb, wholeB, fracB, q, q']
        · have q' : 1 ≤ m := by omega
          simp [tupN, ix0, ix1, wa, wb, wholeB, fracB, q, q', r_common_divisor ha.int hb.int]
          by_cases z : Int.gcd n m = 1
          · simp [z]
          · simp [z]; omega
      | _ => simp [tupN, ix0, ix1, wa, wb, wholeB, fracB]
    | _ => simp [tupN, ix0, ix1, wa, wb, wholeB, fracB]
  | .tup [], _ => simp [tupN, fracB]
  | .tup [_], _ => simp [tupN, fracB]
  | .tup (_ :: _ :: _ :: r), _ =>
    have e : ¬ ((r.length : Int) + 1 + 1 + 1 = 2) := by omega
    simp [tupN, fracB, e]
  | .non, _ => simp [tupN, fracB]
  | .bl _, _ => simp [tupN, fracB]
  | .int _, _ => simp [tupN, fracB]
  | .str _, _ => simp [tupN, fracB]
  | .lst _, _ => simp [tupN, fracB]
  | .dic, _ => simp [tupN, fracB]
  | .exc _, h => exact absurd h.data (by simp [dataB])
  | .fn _, h => exact absurd h.data (by simp [dataB])
theorem fracB_fr (q : Rat) : fracB (fr q) = true := by
  have h1 : (1 : Int) ≤ (q.den : Nat) := by have := q.den_nz; omega
  have h2 : Int.gcd q.num (q.den : Nat) = 1 := q.reduced
  simp [fracB, fr, h1, h2]
theorem fracB_of {d : Da} (h : fracB d = true) : ∃ q : Rat, d = fr q := by
  unfold fracB at h
  split at h
  · rename_i n m
    simp only [Bool.and_eq_true, decide_eq_true_eq] at h
    refine ⟨⟨n, m.toNat, by omega, ?_⟩, ?_⟩
    · have e := h.2
      have em : ((m.toNat : Nat) : Int) = m := by omega
      rw [← em] at e
      exact e
    · unfold fr
      have em : ((m.toNat : Nat) : Int) = m := by omega
      simp [em]
  · cases h
/-- within a size -/
def sizB (w : Int) (d : Da) : Bool := fracB d && match d with
  | .tup [.int n, .int m] => decide ((n.natAbs : Int) ≤ w) && decide (m ≤ w)
  | _ => false
theorem r_is_given {d : Da} (h : Dt d) : F_is_given K [d] = .ok (.bl (sizB 999999999 d)) := by
  rw [E_is_given]
  simp [g_is_given, ap_andV0, r_is_fraction h]
  by_cases z : fracB d = true
  · obtain ⟨q, rfl⟩ := fracB_of z
    simp [z, fr0, fr1, sizB]
    unfold fr
    by_cases y : (q.num.natAbs : Int) ≤ 999999999 <;> simp [y]
  · simp [z, sizB]
def W60 : Int := 999999999999999999999999999999999999999999999999999999999999
theorem r_is_weight {d : Da} (h : Dt d) : F_is_weight K [d] = .ok (.bl (sizB W60 d)) := by
  rw [E_is_weight, show W60 = 999999999999999999999999999999999999999999999999999999999999 from rfl]
  simp [g_is_weight, ap_andV0, r_is_fraction h]
  by_cases z : fracB d = true
  · obtain ⟨q, rfl⟩ := fracB_of z
    simp [z, fr0, fr1, sizB]
    unfold fr
    by_cases y : (q.num.natAbs : Int) ≤ 999999999999999999999999999999999999999999999999999999999999 <;> simp [y]
  · simp [z, sizB]
end
end Sw

set_option Elab.async false
set_option linter.all false
set_option maxRecDepth 100000
set_option maxHeartbeats 1000000
set_option exponentiation.threshold 5000
/-! SwPe: forms, of any data. -/
namespace Sw
open PySem PySem.Spec PyProof.Rows L2
section
variable {K : PySem.W.Frag}
/-- all([f for x in it]) -/
theorem all_map {S : Type} {it : Ev → Fx S (List Da)} {h : Ev → Da → Option Ev} {f : Ev → Fx S Da} {vs : List Nat} {ρ : Ev} {s : S} {ds : List Da} (p : Da → Bool) (hit : it ρ s = .ok (ds, s)) (hl : ds.length ≤ 16000000)
    (H : ∀ d ∈ ds, ∃ ρ1, h (wipeE ρ vs) d = some ρ1 ∧ f ρ1 s = .ok (.bl (p d), s)) : fComp it h fTrue f vs ρ s = .ok (ds.map fun d => Da.bl (p d), s) :=
  comp_all (ds := ds) (s' := s) (fun d => .bl (p d)) hit (line_big _ hl) H
@[simp] theorem all_bools (p : Da → Bool) (ds : List Da) : allF [.lst (ds.map fun d => Da.bl (p d))] = some (.bl (ds.all p)) := by
  show (boolsD _).map _ = _
  have e : (ds.map fun d => Da.bl (p d)) = (ds.map p).map Da.bl := by rw [List.map_map]; rfl
  rw [e, boolsD_map]
  show some (Da.bl ((ds.map p).all id)) = _
  rw [List.all_map]
  rfl
theorem m_le {n : Nat} (h : n ≤ 1000) : n ≤ 16000000 := by omega
def givenB (d : Da) (n : Int) : Bool := match d with
  | .tup ds => decide ((ds.length : Int) = n) && ds.all (sizB 999999999)
  | _ => false
theorem r_are_given {d : Da} {n : Int} (h : Dt d) : F_are_given K [d, .int n] = .ok (.bl (givenB d n)) := by
  rw [E_are_given]
  simp [g_are_given, ap_andV0, r_is_tuple_of h.data]
  cases d with
  | tup ds =>
    have hc := all_map (S := Unit) (it := fIt (fName 0)) (h := hName 2) (f := fCall (F_is_given K) (fCons (fName 2) fNil)) (vs := [2]) (ρ := [.dat (.tup ds), .dat (.int n), .no]) (s := ()) (ds := ds) (sizB 999999999) (by simp) (m_le h.len) fun d hd => ⟨_, rfl, by simp [hName, wipeE, r_is_given (h.tup d hd)]⟩
    by_cases q : (ds.length : Int) = n <;> simp [tupN, givenB, hc, q]
  | _ => simp [tupN, givenB]
def rowB (d : Da) (n : Int) : Bool := match d with
  | .tup [.tup ws, b] => decide ((ws.length : Int) = n) && (sizB W60 b && ws.all (sizB W60))
  | _ => false
theorem r_is_row {d : Da} {n : Int} (h : Dt d) : F_is_row K [d, .int n] = .ok (.bl (rowB d n)) := by
  rw [E_is_row]
  simp [g_is_row, ap_andV0, r_is_tuple_of h.data]
  match d, h with
  | .tup [a, b], h =>
    have ha : Dt a := h.tup a (by simp)
    have hb : Dt b := h.tup b (by simp)
    have wa := r_is_tuple_of (K := K) (n := n) ha.data
    have wb := r_is_weight (K := K) hb
    cases a with
    | tup ws =>
      by_cases q : (ws.length : Int) = n
      · have hc := all_map (S := Unit) (it := fIt (fBin ixF (fName 0) (fC (.int 0)))) (h := hName 2) (f := fCall (F_is_weight K) (fCons (fName 2) fNil)) (vs := [2]) (ρ := [.dat (.tup [.tup ws, b]), .dat (.int n), .no]) (s := ()) (ds := ws) (sizB W60) (by simp [ix0]) (m_le ha.len) fun d hd => ⟨_, rfl, by simp [hName, wipeE, r_is_weight (ha.tup d hd)]⟩
        cases z : sizB W60 b <;> simp [tupN, ix0, ix1, wa, wb, rowB, q, hc, z]
      · simp [tupN, ix0, ix1, wa, wb, rowB, q]
    | _ => simp [tupN, ix0, ix1, wa, wb, rowB]
  | .tup [], _ => simp [tupN, rowB]
  | .tup [_], _ => simp [tupN, rowB]
  | .tup (_ :: _ :: _ :: r), _ =>
    have e : ¬ ((r.length : Int) + 1 + 1 + 1 = 2) := by omega
    simp [tupN, rowB, e]
  | .non, _ => simp [tupN, rowB]
  | .bl _, _ => simp [tupN, rowB]
  | .int _, _ => simp [tupN, rowB]
  | .str _, _ => simp [tupN, rowB]
  | .lst _, _ => simp [tupN, rowB]
  | .dic, _ => simp [tupN, rowB]
  | .exc _, h => exact absurd h.data (by simp [dataB])
  | .fn _, h => exact absurd h.data (by simp [dataB])
/-- places below a number, unlike -/
def placesB (d : Da) (n : Int) : Bool := match d with
  | .tup ds => ds.all (fun d => numB d 0 (n - 1)) && (match intsD ds with
    | some ns => decide ((ddI ns).length = ns.length)
    | none => false)
  | _ => false
theorem ints_of {ds : List Da} {lo hi : Int} (h : ds.all (fun d => numB d lo hi) = true) : ∃ ns : List Int, ds = ns.map Da.int ∧ ∀ i ∈ ns, lo ≤ i ∧ i ≤ hi := by
  induction ds with
  | nil => exact ⟨[], rfl, by simp⟩
  | cons d ds ih =>
    rw [List.all_cons, Bool.and_eq_true] at h
    obtain ⟨ns, e, q⟩ := ih h.2
    cases d with
    | int i =>
      have h1 := h.1
      simp only [numB, Bool.and_eq_true, decide_eq_true_eq] at h1
      refine ⟨i :: ns, by rw [e]; rfl, fun j hj => ?_⟩
      rcases List.mem_cons.mp hj with rfl | hj
      · exact h1
      · exact q j hj
    | _ => have h1 := h.1; simp [numB] at h1
theorem r_are_unlike {ns : List Int} (h : ns.length ≤ 1000) : F_are_unlike K [.tup (ns.map Da.int)] = .ok (.bl (decide ((ddI ns).length = ns.length))) := by
  rw [E_are_unlike]
  have e : lenSetF (.tup (ns.map Da.int)) = some (.int ((ddI ns).length : Nat)) := by
    unfold lenSetF
    simp [intsD_map, h]
  simp [g_are_unlike, e]
  omega
theorem r_is_places {d : Da} {n : Int} (h : Dt d) : F_is_places K [d, .int n] = .ok (.bl (placesB d n)) := by
  rw [E_is_places]
  simp [g_is_places, isi_tup h.data]
  cases d with
  | tup ds =>
    have hc := all_map (S := Unit) (it := fIt (fName 0)) (h := hName 2) (f := fCall (F_is_number K) (fCons (fName 2) (fCons (fC (.int 0)) (fCons (fBin subF (fName 1) (fC (.int 1))) (fNil))))) (vs := [2]) (ρ := [.dat (.tup ds), .dat (.int n), .no]) (s := ()) (ds := ds) (fun d => numB d 0 (n - 1)) (by simp) (m_le h.len)
      fun d hd => ⟨_, rfl, by simp [hName, wipeE, r_is_number (h.tup d hd).data]⟩
    cases q : ds.all (fun d => numB d 0 (n - 1)) with
    | true =>
      obtain ⟨ns, e, hn⟩ := ints_of q
      have hl : ns.length ≤ 1000 := by have := h.len; rw [e] at this; simpa using this
      have hu : F_are_unlike K [.tup ds] = .ok (.bl (decide ((ddI ns).length = ns.length))) := by rw [e]; exact r_are_unlike hl
      have hi : intsD ds = some ns := by rw [e, intsD_map]
      simp [tupB, hc, q, hu, placesB, hi]
    | false => simp [tupB, hc, q, placesB]
  | _ => simp [tupB, placesB]
end
end Sw

set_option Elab.async false
set_option linter.all false
set_option maxRecDepth 100000
set_option maxHeartbeats 1000000
set_option exponentiation.threshold 5000
/-! SwPf: layers, nets, claims, of any data. -/
namespace Sw
open PySem PySem.Spec PyProof.Rows L2
theorem eqvAll_ints : ∀ ns ms : List Int, PyData.eqvAll (ns.map PyData.int) (ms.map PyData.int) = decide (ns = ms)
  | [], [] => by simp [PyData.eqvAll]
  | [], m :: ms => by simp [PyData.eqvAll]
  | n :: ns, [] => by simp [PyData.eqvAll]
  | n :: ns, m :: ms => by
    simp only [List.map_cons, PyData.eqvAll, PyData.eqv, eqvAll_ints ns ms]
    by_cases h : n = m <;> simp [h]
@[simp] theorem eq_ints (ns ms : List Int) : eqF (.lst (ns.map Da.int)) (.lst (ms.map Da.int)) = some (.bl (decide (ns = ms))) := by
  have p1 : ∀ ks : List Int, (Da.lst (ks.map Da.int)).py = some (.list (ks.map PyData.int)) := fun ks => by
    unfold Da.py
    rw [pyL_ints]
    rfl
  have e : eqB (.lst (ns.map Da.int)) (.lst (ms.map Da.int)) = some (PyData.eqv (.list (ns.map PyData.int)) (.list (ms.map PyData.int))) := by
    show eqvF _ _ = _
    unfold eqvF
    rw [p1, p1]
    exact if_pos ⟨PySem.W.ke_shaped_ints _, PySem.W.ke_shaped_ints _⟩
  show (eqB _ _).map Da.bl = _
  rw [e]
  show some (Da.bl (PyData.eqvAll _ _)) = _
  rw [eqvAll_ints]
@[simp] theorem s_mr : (("mix" : Str) = "rest") = False := eq_false (by decide +kernel)
@[simp] theorem s_pr : (("pool" : Str) = "rest") = False := eq_false (by decide +kernel)
@[simp] theorem s_pm : (("pool" : Str) = "mix") = False := eq_false (by decide +kernel)
@[simp] theorem s_rm : (("rest" : Str) = "mix") = False := eq_false (by decide +kernel)
@[simp] theorem s_rp : (("rest" : Str) = "pool") = False := eq_false (by decide +kernel)
@[simp] theorem s_mp : (("mix" : Str) = "pool") = False := eq_false (by decide +kernel)
section
variable {K : PySem.W.Frag}
def headB : Da → Bool
  | .tup (.str _ :: _) => true
  | _ => false
theorem r_is_headed {d : Da} (h : Dt d) : F_is_headed K [d] = .ok (.bl (headB d)) := by
  rw [E_is_headed]
  simp [g_is_headed, ap_andV0, isi_tup h.data]
  match d, h with
  | .tup [], _ => simp [tupB, headB]
  | .tup (a :: r), h =>
    have ha := isi_str (K := K) (h.tup a (by simp)).data
    cases a <;> simp [tupB, headB, ix0, ha, strB]
  | .non, _ => simp [tupB, headB]
  | .bl _, _ => simp [tupB, headB]
  | .int _, _ => simp [tupB, headB]
  | .str _, _ => simp [tupB, headB]
  | .lst _, _ => simp [tupB, headB]
  | .dic, _ => simp [tupB, headB]
  | .exc _, h => exact absurd h.data (by simp [dataB])
  | .fn _, h => exact absurd h.data (by simp [dataB])
def riseB (ds : List Da) : Bool := match intsD ds with
  | some ns => decide (ns = srtI ns)
  | none => false
def groupB (n : Int) (g : Da) : Bool := placesB g n && (match g with
  | .tup (_ :: _) => true
  | _ => false)
def layerB (d : Da) (n : Int) : Bool := match d with
  | .tup [.str k, .tup ds] => if k = "rest" then placesB (.tup ds) n && riseB ds else (decide (1 ≤ ds.length) && decide (ds.length ≤ 6)) && (if k = "mix" then ds.all (fun d => rowB d n) else decide (k = "pool") && ds.all (groupB n))
  | _ => false
theorem placesB_ints {ds : List Da} {n : Int} (h : placesB (.tup ds) n = true) : ∃ ns : List Int, ds = ns.map Da.int ∧ (∀ i ∈ ns, 0 ≤ i ∧ i < n) ∧ (ddI ns).length = ns.length := by
  simp only [placesB, Bool.and_eq_true] at h
  obtain ⟨ns, e, q⟩ := ints_of h.1
  have h2 := h.2
  rw [e, intsD_map] at h2
  exact ⟨ns, e, fun i hi => ⟨(q i hi).1, by have := (q i hi).2; omega⟩, of_decide_eq_true h2⟩
theorem r_is_layer {d : Da} {n : Int} (h : Dt d) : F_is_layer K [d, .int n] = .ok (.bl (layerB d n)) := by
  rw [E_is_layer]
  simp [g_is_layer, ap_andV0, ap_chain0, r_is_headed h]
  match d, h with
  | .tup [a, b], h =>
    have ha : Dt a := h.tup a (by simp)
    have hb : Dt b := h.tup b (by simp)
    have tb := isi_tup (K := K) hb.data
    cases a with
    | str k =>
      cases b with
      | tup ds =>
        by_cases k1 : k = "rest"
        · have pl := r_is_places (K := K) (n := n) hb
          cases z : placesB (.tup ds) n with
          | false => simp [headB, layerB, ix0, ix1, tb, tupB, k1, pl, z]
          | true =>
            obtain ⟨ns, e, _, _⟩ := placesB_ints z
            have e2 : sortA [.tup ds] = some ((srtI ns).map Da.int) := by
              rw [e]
              show (intsD _).map _ = _
              rw [intsD_map]
              rfl
            have e3 : eqF (.lst ds) (.lst ((srtI ns).map Da.int)) = some (.bl (riseB ds)) := by
              rw [e, eq_ints]
              unfold riseB
              rw [intsD_map]
            simp [headB, layerB, ix0, ix1, tb, tupB, k1, pl, z, e2, e3]
        · have l6 : ∀ b : Bool, b = (decide (1 ≤ ds.length) && decide (ds.length ≤ 6)) → b = true ∨ b = false := fun b _ => by cases b <;> simp
          by_cases q1 : 1 ≤ ds.length
          · have q1' : (1 : Int) ≤ ds.length := by omega
            by_cases q2 : ds.length ≤ 6
            · have q2' : (ds.length : Int) ≤ 6 := by omega
              by_cases k2 : k = "mix"
              · have hc := all_map (S := Unit) (it := fIt (fBin ixF (fName 0) (fC (.int 1)))) (h := hName 2) (f := fCall (F_is_row K) (fCons (fName 2) (fCons (fName 1) (fNil)))) (vs := [2]) (ρ := [.dat (.tup [.str k, .tup ds]), .dat (.int n), .no, .no]) (s := ()) (ds := ds) (fun d => rowB d n) (by simp [ix1]) (m_le hb.len)
                  fun d hd => ⟨_, rfl, by simp [hName, wipeE, r_is_row (hb.tup d hd)]⟩
                subst k2
                simp [headB, layerB, ix0, ix1, tb, tupB, q1, q1', q2, q2', hc]
              · by_cases k3 : k = "pool"
                · have hc := all_map (S := Unit) (it := fIt (fBin ixF (fName 0) (fC (.int 1)))) (h := hName 3) (f := fAndV (fCall (F_is_places K) (fCons (fName 3) (fCons (fName 1) (fNil)))) (fBin neF (fName 3) (fTup (fNil)))) (vs := [3]) (ρ := [.dat (.tup [.str k, .tup ds]), .dat (.int n), .no, .no]) (s := ()) (ds := ds) (groupB n) (by simp [ix1]) (m_le hb.len)
                    fun d hd => ⟨_, rfl, by
                      have pl := r_is_places (K := K) (n := n) (hb.tup d hd)
                      simp [hName, wipeE, ap_andV0, pl]
                      cases z : placesB d n with
                      | false => simp [groupB, z]
                      | true =>
                        cases d with
                        | tup gs => cases gs <;> simp [groupB, z]
                        | _ => simp [placesB] at z⟩
                  subst k3
                  simp [headB, layerB, ix0, ix1, tb, tupB, q1, q1', q2, q2', hc]
                · simp [headB, layerB, ix0, ix1, tb, tupB, k1, k2, k3, q1, q1', q2, q2']
            · have q2' : ¬ ((ds.length : Int) ≤ 6) := by omega
              simp [headB, layerB, ix0, ix1, tb, tupB, k1, q1, q1', q2, q2']
          · have q1' : ¬ ((1 : Int) ≤ ds.length) := by omega
            simp [headB, layerB, ix0, ix1, tb, tupB, k1, q1, q1']
      | _ => simp [headB, layerB, ix0, ix1, tb, tupB]
    | _ => simp [headB, layerB]
  | .tup [], _ => simp [headB, layerB]
  | .tup [a], _ => cases a <;> simp [headB, layerB]
  | .tup (a :: b :: c :: r), h =>
    have e : ¬ ((r.length : Int) + 1 + 1 + 1 = 2) := by omega
    cases a <;> simp [headB, layerB, e]
  | .non, _ => simp [headB, layerB]
  | .bl _, _ => simp [headB, layerB]
  | .int _, _ => simp [headB, layerB]
  | .str _, _ => simp [headB, layerB]
  | .lst _, _ => simp [headB, layerB]
  | .dic, _ => simp [headB, layerB]
  | .exc _, h => exact absurd h.data (by simp [dataB])
  | .fn _, h => exact absurd h.data (by simp [dataB])
end
end Sw

set_option Elab.async false
set_option linter.all false
set_option maxRecDepth 100000
set_option maxHeartbeats 1000000
set_option exponentiation.threshold 5000
/-! SwPg: nets, claims, of any data. -/
namespace Sw
open PySem PySem.Spec PyProof.Rows L2
section
variable {K : PySem.W.Frag}
def toldD (l : Da) (n : Int) : Int := match l with
  | .tup (.str k :: .tup ds :: _) => if k = "rest" then n else ds.length
  | _ => n
def lenD : Da → Int
  | .tup gs => gs.length
  | _ => 0
def bendsD (l : Da) : Int := match l with
  | .tup (.str k :: .tup ds :: _) => if k = "rest" then ds.length else if k = "pool" then (ds.map fun g => lenD g - 1).sum else 0
  | _ => 0
theorem layerB_form {l : Da} {n : Int} (h : layerB l n = true) : ∃ k ds, l = .tup [.str k, .tup ds] := by
  unfold layerB at h
  split at h
  · exact ⟨_, _, rfl⟩
  · cases h
theorem r_told_by {l : Da} {n m : Int} (h : layerB l m = true) : F_told_by K [l, .int n] = .ok (.int (toldD l n)) := by
  obtain ⟨k, ds, rfl⟩ := layerB_form h
  rw [E_told_by]
  by_cases q : k = "rest" <;> simp [g_told_by, ix0, ix1, q, toldD]
theorem comp_ints {S : Type} {it : Ev → Fx S (List Da)} {h : Ev → Da → Option Ev} {f : Ev → Fx S Da} {vs : List Nat} {ρ : Ev} {s : S} {ds : List Da} (p : Da → Int) (hit : it ρ s = .ok (ds, s)) (hl : ds.length ≤ 16000000)
    (H : ∀ d ∈ ds, ∃ ρ1, h (wipeE ρ vs) d = some ρ1 ∧ f ρ1 s = .ok (.int (p d), s)) : fComp it h fTrue f vs ρ s = .ok (ds.map fun d => Da.int (p d), s) :=
  comp_all (ds := ds) (s' := s) (fun d => .int (p d)) hit (line_big _ hl) H
@[simp] theorem sum_ints (p : Da → Int) (ds : List Da) : sumF [.lst (ds.map fun d => Da.int (p d))] = some (.int (ds.map p).sum) := by
  show (intsD _).map _ = _
  have e : (ds.map fun d => Da.int (p d)) = (ds.map p).map Da.int := by rw [List.map_map]; rfl
  rw [e, intsD_map]
  rfl
theorem r_bends_in {l : Da} {m : Int} (hd : Dt l) (h : layerB l m = true) : F_bends_in K [l] = .ok (.int (bendsD l)) := by
  obtain ⟨k, ds, rfl⟩ := layerB_form h
  rw [E_bends_in]
  by_cases q : k = "rest"
  · simp [g_bends_in, ix0, ix1, q, bendsD]
  · by_cases q2 : k = "pool"
    · subst q2
      have hl : ds.length ≤ 1000 := (hd.tup (.tup ds) (by simp)).len
      have hg : ∀ g ∈ ds, groupB m g = true := by
        unfold layerB at h
        simp at h
        exact h.2
      have hc := comp_ints (S := Unit) (it := fIt (fBin ixF (fName 0) (fC (.int 1)))) (h := hName 1) (f := fBin subF (fApp lenF (fCons (fName 1) (fNil))) (fC (.int 1))) (vs := [1]) (ρ := [.dat (.tup [.str "pool", .tup ds]), .no]) (s := ()) (ds := ds) (fun g => lenD g - 1) (by simp [ix1]) (m_le hl)
        fun g hg' => ⟨_, rfl, by
          have z := hg g hg'
          cases g with
          | tup gs => simp [hName, wipeE, lenD]
          | _ => simp [groupB, placesB] at z⟩
      simp [g_bends_in, ix0, ix1, bendsD, hc]
    · simp [g_bends_in, ix0, ix1, q, q2, bendsD]
/-- layer by layer: the width and the bends behind, none if a layer is no one -/
def chainR : List Da → Int → Int → Option (Int × Int)
  | [], n, b => some (n, b)
  | l :: ls, n, b => if layerB l n = true then chainR ls (toldD l n) (b + bendsD l) else none
def netB (d : Da) : Bool := match d with
  | .tup [.int i, .tup ls] => (decide (1 ≤ i) && decide (i ≤ 4)) && (decide (ls.length ≤ 8) && (match chainR ls i 0 with
    | some (_, b) => decide (b ≤ 10)
    | none => false))
  | _ => false
theorem net_loop (d : Da) : ∀ (ls : List Da) (n b : Int) (x : Sl), (∀ l ∈ ls, Dt l) →
    ∃ x', forF (hName 1) (gSeq (gIf (fNot (fTest (fCall (F_is_layer K) (fCons (fName 1) (fCons (fName 2) (fNil)))))) (gRet (fC (.bl false))) (gNx)) (gPar 2 3 (fCons (fCall (F_told_by K) (fCons (fName 1) (fCons (fName 2) (fNil)))) (fCons (fBin addF0 (fName 3) (fCall (F_bends_in K) (fCons (fName 1) (fNil)))) (fNil))))) ls [.dat d, x, .dat (.int n), .dat (.int b)] () =
      match chainR ls n b with
      | some (n', b') => .nx [.dat d, x', .dat (.int n'), .dat (.int b')] ()
      | none => .rt (.bl false) ()
  | [], n, b, x, _ => ⟨x, rfl⟩
  | l :: ls, n, b, x, h => by
    have hl : Dt l := h l (by simp)
    have e1 := r_is_layer (K := K) (n := n) hl
    unfold forF chainR
    cases z : layerB l n with
    | true =>
      obtain ⟨x', ih⟩ := net_loop d ls (toldD l n) (b + bendsD l) (.dat l) fun l hl => h l (by simp [hl])
      refine ⟨x', ?_⟩
      simp [hName, e1, z, gPar, r_told_by z, r_bends_in hl z]
      exact ih
    | false =>
      refine ⟨.no, ?_⟩
      simp [hName, e1, z]
theorem r_is_net {d : Da} (h : Dt d) : F_is_net K [d] = .ok (.bl (netB d)) := by
  rw [E_is_net]
  simp [g_is_net, r_is_tuple_of h.data]
  match d, h with
  | .tup [a, b], h =>
    have ha : Dt a := h.tup a (by simp)
    have hb : Dt b := h.tup b (by simp)
    have na := r_is_number (K := K) (lo := 1) (hi := 4) ha.data
    have tb := isi_tup (K := K) hb.data
    cases a with
    | int i =>
      by_cases q : 1 ≤ i ∧ i ≤ 4
      · have q1 := q.1
        have q2 := q.2
        cases b with
        | tup ls =>
          by_cases q3 : ls.length ≤ 8
          · have q3' : ¬ ((8 : Int) < ls.length) := by omega
            obtain ⟨x', lp⟩ := net_loop (K := K) (.tup [.int i, .tup ls]) ls i 0 .no hb.tup
            simp [tupN, netB, ix0, ix1, na, numB, q1, q2, tb, tupB, q3, q3', gPar, gFor]
            rw [lp]
            cases chainR ls i 0 with
            | none => simp
            | some p => obtain ⟨n', b'⟩ := p; simp
          · have q3' : (8 : Int) < ls.length := by omega
            simp [tupN, netB, ix0, ix1, na, numB, q1, q2, tb, tupB, q3, q3']
        | _ => simp [tupN, netB, ix0, ix1, na, numB, q1, q2, tb, tupB]
      · have q' : (decide (1 ≤ i) && decide (i ≤ 4)) = false := by
          rw [Bool.and_eq_false_iff]
          by_cases h1 : 1 ≤ i
          · exact .inr (decide_eq_false fun z => q ⟨h1, z⟩)
          · exact .inl (decide_eq_false h1)
        cases b <;> simp [tupN, netB, ix0, ix1, na, numB, q']
    | _ => simp [tupN, netB, ix0, ix1, na, numB]
  | .tup [], _ => simp [tupN, netB]
  | .tup [_], _ => simp [tupN, netB]
  | .tup (_ :: _ :: _ :: r), _ =>
    have e : ¬ ((r.length : Int) + 1 + 1 + 1 = 2) := by omega
    simp [tupN, netB, e]
  | .non, _ => simp [tupN, netB]
  | .bl _, _ => simp [tupN, netB]
  | .int _, _ => simp [tupN, netB]
  | .str _, _ => simp [tupN, netB]
  | .lst _, _ => simp [tupN, netB]
  | .dic, _ => simp [tupN, netB]
  | .exc _, h => exact absurd h.data (by simp [dataB])
  | .fn _, h => exact absurd h.data (by simp [dataB])
theorem r_need_net {d : Da} (h : Dt d) : F_need_net K [d] = if netB d = true then .ok .non else .er "BadNet" := by
  rw [E_need_net]
  cases z : netB d <;> simp [g_need_net, r_is_net h, z]
/-- the widths behind each layer -/
def widthsD : List Da → Int → List Int
  | [], n => [n]
  | l :: ls, n => n :: widthsD ls (toldD l n)
theorem widthsD_ne : ∀ (ls : List Da) (n : Int), widthsD ls n ≠ []
  | [], _ => by simp [widthsD]
  | _ :: _, _ => by simp [widthsD]
theorem widths_loop (d : Da) : ∀ (ls : List Da) (n b : Int) (p : Int × Int) (acc : List Int) (x : Sl), chainR ls n b = some p → acc.length + ls.length ≤ 1000 →
    ∃ x', forF (hName 2) (gApp 1 (fCall (F_told_by K) (fCons (fName 2) (fCons (fBin ixF (fNameO 1) (fUn negF (fC (.int 1)))) (fNil))))) ls [.dat d, .own ((acc ++ [n]).map Da.int), x] () = .nx [.dat d, .own ((acc ++ widthsD ls n).map Da.int), x'] ()
  | [], n, b, p, acc, x, _, _ => ⟨x, rfl⟩
  | l :: ls, n, b, p, acc, x, h, hl => by
    unfold chainR at h
    split at h
    · rename_i z
      rw [List.length_cons] at hl
      obtain ⟨x', ih⟩ := widths_loop d ls (toldD l n) (b + bendsD l) p (acc ++ [n]) (.dat l) h (by rw [List.length_append, List.length_singleton]; omega)
      refine ⟨x', ?_⟩
      unfold forF
      have ei : ixF (.lst ((acc ++ [n]).map Da.int)) (.int (-1)) = some (.int n) := by
        show atI _ (-((1 : Nat) : Int)) = _
        rw [atI_neg _ 1 (by omega) (by simp)]
        simp
      have e2 : acc ++ widthsD (l :: ls) n = (acc ++ [n]) ++ widthsD ls (toldD l n) := by simp [widthsD]
      have la : (acc ++ [n]).length < 1000000 := by rw [List.length_append, List.length_singleton]; omega
      have e3 : (acc ++ [n]).map Da.int ++ [Da.int (toldD l n)] = ((acc ++ [n]) ++ [toldD l n]).map Da.int := by simp
      rw [e2, ← ih, ← e3]
      simp only [hName, List.set_cons_succ, List.set_cons_zero]
      simp only [gApp, List.getElem?_cons_succ, List.getElem?_cons_zero, ap_call, ap_cons, ap_name, ap_bin, ap_nameO, ap_un, ap_C, ap_bnd, ap_nil, ap_ret, nameR_d, nameRO_o, neg_int, ap_lift_s, ei, r_told_by z, ap_liftR_o, List.set_cons_succ, List.set_cons_zero, List.length_map, if_pos la]
    · cases h
theorem netB_form {d : Da} (h : netB d = true) : ∃ i ls p, d = .tup [.int i, .tup ls] ∧ (1 ≤ i ∧ i ≤ 4) ∧ ls.length ≤ 8 ∧ chainR ls i 0 = some p ∧ p.2 ≤ 10 := by
  unfold netB at h
  split at h
  · rename_i i ls
    simp only [Bool.and_eq_true, decide_eq_true_eq] at h
    obtain ⟨h1, h2, h3⟩ := h
    cases z : chainR ls i 0 with
    | none => rw [z] at h3; cases h3
    | some p => rw [z] at h3; exact ⟨i, ls, p, rfl, h1, h2, z, of_decide_eq_true h3⟩
  · cases h
theorem r_widths_in {i : Int} {ls : List Da} {p : Int × Int} (hc : chainR ls i 0 = some p) (hl : ls.length ≤ 8) : F_widths_in K [.tup [.int i, .tup ls]] = .ok (.lst ((widthsD ls i).map Da.int)) := by
  rw [E_widths_in]
  obtain ⟨x', lp⟩ := widths_loop (K := K) (.tup [.int i, .tup ls]) ls i 0 p [] .no hc (by simp; omega)
  simp [g_widths_in, ix0, ix1, gFor]
  have lp' : forF (hName 2) (gApp 1 (fCall (F_told_by K) (fCons (fName 2) (fCons (fBin ixF (fNameO 1) (fUn negF (fC (.int 1)))) (fNil))))) ls [.dat (.tup [.int i, .tup ls]), .own [.int i], .no] () = _ := lp
  rw [lp']
  simp
theorem r_widths_of {d : Da} (hd : Dt d) {i : Int} {ls : List Da} {p : Int × Int} (e : d = .tup [.int i, .tup ls]) (h : netB d = true) (hc : chainR ls i 0 = some p) (hl : ls.length ≤ 8) : F_widths_of K [d] = .ok (.tup ((widthsD ls i).map Da.int)) := by
  rw [E_widths_of]
  have w := r_widths_in (K := K) hc hl
  simp [g_widths_of, r_need_net hd, h]
  rw [e, w]
  simp
theorem widths_last : ∀ (ls : List Da) (n b : Int) (p : Int × Int), chainR ls n b = some p → (widthsD ls n).getLast? = some p.1
  | [], n, b, p, h => by unfold chainR at h; cases h; rfl
  | l :: ls, n, b, p, h => by
    unfold chainR at h
    split at h
    · have ih := widths_last ls _ _ p h
      unfold widthsD
      rw [List.getLast?_cons, ih]
      rfl
    · cases h
theorem ix_last {xs : List Int} {n : Int} (h : xs.getLast? = some n) : ixF (.lst (xs.map Da.int)) (.int (-1)) = some (.int n) ∧ ixF (.tup (xs.map Da.int)) (.int (-1)) = some (.int n) := by
  have l : 1 ≤ xs.length := by
    cases xs with
    | nil => simp at h
    | cons _ _ => simp
  have e : atI (xs.map Da.int) (-((1 : Nat) : Int)) = some (.int n) := by
    rw [atI_neg _ 1 (by omega) (by simpa using l), List.getElem?_map, List.length_map, ← List.getLast?_eq_getElem?, h]
    rfl
  exact ⟨e, e⟩
theorem r_outputs_of {d : Da} (hd : Dt d) {i : Int} {ls : List Da} {p : Int × Int} (e : d = .tup [.int i, .tup ls]) (h : netB d = true) (hc : chainR ls i 0 = some p) (hl : ls.length ≤ 8) : F_outputs_of K [d] = .ok (.int p.1) := by
  rw [E_outputs_of]
  have w := r_widths_in (K := K) hc hl
  have la := (ix_last (widths_last ls i 0 p hc)).1
  simp [g_outputs_of, r_need_net hd, h]
  rw [e, w]
  simp [la]
def claimB (d : Da) (i o : Int) : Bool := match d with
  | .tup [a, b, c] => givenB a i && (givenB b o && sizB 999999999 c)
  | _ => false
theorem r_is_claim {d : Da} {i o : Int} (h : Dt d) : F_is_claim K [d, .int i, .int o] = .ok (.bl (claimB d i o)) := by
  rw [E_is_claim]
  simp [g_is_claim, r_is_tuple_of h.data]
  match d, h with
  | .tup [a, b, c], h =>
    have ga := r_are_given (K := K) (n := i) (h.tup a (by simp))
    have gb := r_are_given (K := K) (n := o) (h.tup b (by simp))
    have gc := r_is_given (K := K) (h.tup c (by simp))
    cases z1 : givenB a i <;> cases z2 : givenB b o <;> simp [tupN, claimB, ix0, ix1, ix2, ga, gb, gc, z1, z2]
  | .tup [], _ => simp [tupN, claimB]
  | .tup [_], _ => simp [tupN, claimB]
  | .tup [_, _], _ => simp [tupN, claimB]
  | .tup (_ :: _ :: _ :: _ :: r), _ =>
    have e : ¬ ((r.length : Int) + 1 + 1 + 1 + 1 = 3) := by omega
    simp [tupN, claimB, e]
  | .non, _ => simp [tupN, claimB]
  | .bl _, _ => simp [tupN, claimB]
  | .int _, _ => simp [tupN, claimB]
  | .str _, _ => simp [tupN, claimB]
  | .lst _, _ => simp [tupN, claimB]
  | .dic, _ => simp [tupN, claimB]
  | .exc _, h => exact absurd h.data (by simp [dataB])
  | .fn _, h => exact absurd h.data (by simp [dataB])
end
end Sw

set_option Elab.async false
set_option linter.all false
set_option maxRecDepth 100000
set_option maxHeartbeats 1000000
set_option exponentiation.threshold 5000
/-! SwPh: draws, plainly. -/
namespace Sw
open PySem PySem.Spec PyProof.Rows L2
/-- a state with room for b draws -/
def Roomy (b : Nat) (s : Dr) : Prop := 0 ≤ s.turn ∧ s.turn + b ≤ 1099511627776
theorem Roomy.le {a b : Nat} {s : Dr} (h : Roomy b s) (l : a ≤ b) : Roomy a s := ⟨h.1, by have := h.2; omega⟩
theorem fmod_rng {a p : Int} (h : 0 < p) : 0 ≤ Int.fmod a p ∧ Int.fmod a p < p := by
  rw [Int.fmod_eq_emod_of_nonneg a (by omega)]
  exact ⟨Int.emod_nonneg _ (by omega), Int.emod_lt_of_pos _ h⟩
theorem log_lt {n k : Nat} (h : n < 2 ^ k) (hk : 1 ≤ k) : n.log2 < k := by
  by_cases h0 : n = 0
  · subst h0
    rw [show Nat.log2 0 = 0 by decide]
    omega
  · exact (Nat.log2_lt h0).mpr h
theorem log_small {n : Nat} (h : n < 2 ^ 64) : n.log2 < 64 := log_lt h (by decide)
theorem cmul {i j : Int} (hi : i.natAbs < 2 ^ 64) (hj : j.natAbs < 2 ^ 64) : CMulW i j := by
  have h1 := log_small hi
  have h2 := log_small hj
  show _ + _ < 1000000
  omega
theorem mulS_int {i j : Int} (h : CMulW i j) : mulSF (.int i) (.int j) = some (.int (i * j)) := if_pos h
def blendB (sa : Addr) : Sx Dr := gSet 4 (fBin modF (fApp intF (fCons (fBin addF0 (fBin addF0 (fBin mulSF (fName 4) (fC (.int 66047))) (fName 5)) (fName 2)) (fNil))) (fName 1))
theorem blend_loop (sa : Addr) (p t f : Int) (s : Dr) (hp : 0 < p ∧ p < 4294967296) : ∀ (cs : List Int) (x : Sl) (b : Int), 0 ≤ b ∧ b < 9223372036854775808 →
    ∃ (x' : Sl) (b' : Int), (0 ≤ b' ∧ b' < 9223372036854775808) ∧ forF (hName 5) (blendB sa) (cs.map Da.int) [.raw (.ref sa), .dat (.int p), .dat (.int t), .dat (.int f), .dat (.int b), x] s = .nx [.raw (.ref sa), .dat (.int p), .dat (.int t), .dat (.int f), .dat (.int b'), x'] s
  | [], x, b, h => ⟨x, b, h, rfl⟩
  | c :: cs, x, b, h => by
    have hm : CMulW b 66047 := cmul (by omega) (by decide)
    have r := fmod_rng (a := b * 66047 + c + t) hp.1
    obtain ⟨x', b', hb, e⟩ := blend_loop sa p t f s hp cs (.dat (.int c)) (Int.fmod (b * 66047 + c + t) p) ⟨r.1, by omega⟩
    refine ⟨x', b', hb, ?_⟩
    have step : blendB sa [.raw (.ref sa), .dat (.int p), .dat (.int t), .dat (.int f), .dat (.int b), .dat (.int c)] s = .nx [.raw (.ref sa), .dat (.int p), .dat (.int t), .dat (.int f), .dat (.int (Int.fmod (b * 66047 + c + t) p)), .dat (.int c)] s := by
      have hpne : p ≠ 0 := by omega
      simp [blendB, gSet, fBin, fApp, fCons, fNil, fName, fC, bnd, ret, lift, mulS_int hm, addF0, addF, intF, modF, hpne]
    show forF _ _ (.int c :: cs.map Da.int) _ s = _
    unfold forF
    simp only [hName, List.set]
    rw [step]
    exact e

def primeB (sa : Addr) : Sx Dr := gSeq (gSet 4 (fBin addF0 (fBin mulSF (fC (.int 47911)) (fName 2)) (fBin divF (fName 1) (fC (.int 97))))) (gSeq (gFor (fIt (fSt sa 0 (fun s => .ok (.lst (s.cells.map Da.int), s)))) (hName 5) (blendB sa)) (gSet 3 (fBin addF0 (fBin mulSF (fName 3) (fC (.int 2147483647))) (fBin modF (fApp intF (fCons (fBin powF (fName 4) (fC (.int 5))) (fNil))) (fName 1)))))
theorem prime_step (sa : Addr) (p t f : Int) (s : Dr) (x y : Sl) (k : Nat) (hp : 97 < p ∧ p < 4294967296) (ht : 0 ≤ t ∧ t ≤ 2199023255552) (hk : k ≤ 400) (hf : f.natAbs < 2 ^ k) :
    ∃ (x' y' : Sl) (f' : Int), f'.natAbs < 2 ^ (k + 33) ∧ primeB sa [.raw (.ref sa), .dat (.int p), .dat (.int t), .dat (.int f), x, y] s = .nx [.raw (.ref sa), .dat (.int p), .dat (.int t), .dat (.int f'), x', y'] s := by
  have hm : CMulW 47911 t := cmul (by decide) (by omega)
  have hd : CDivW p 97 := ⟨by decide, by decide⟩
  have hb0 : 0 ≤ 47911 * t + p / 97 ∧ 47911 * t + p / 97 < 9223372036854775808 := by
    have := Int.ediv_nonneg (a := p) (b := 97) (by omega) (by decide)
    omega
  obtain ⟨y', b', hb, e⟩ := blend_loop sa p t f s ⟨by omega, hp.2⟩ s.cells y _ hb0
  have r := fmod_rng (a := b' ^ 5) (p := p) (by omega)
  have hf1 : CMulW f 2147483647 := by
    have h1 := log_lt (n := f.natAbs) (k := k + 1) (Nat.lt_of_lt_of_le hf (Nat.pow_le_pow_right (by decide) (by omega))) (by omega)
    have h2 := log_small (n := (2147483647 : Int).natAbs) (by decide)
    show _ + _ < 1000000
    omega
  have hpw : CPow b' 5 := ⟨by decide, by decide, by omega⟩
  have hpne : p ≠ 0 := by omega
  refine ⟨.dat (.int b'), y', f * 2147483647 + Int.fmod (b' ^ 5) p, ?_, ?_⟩
  · have h1 : (f * 2147483647 + Int.fmod (b' ^ 5) p).natAbs ≤ f.natAbs * 2147483647 + 4294967296 := by
      have := Int.natAbs_add_le (f * 2147483647) (Int.fmod (b' ^ 5) p)
      rw [Int.natAbs_mul] at this
      have e5 : (2147483647 : Int).natAbs = 2147483647 := rfl
      rw [e5] at this
      omega
    have h2 : f.natAbs * 2147483647 + 4294967296 < 2 ^ k * 8589934592 := by
      have : 1 ≤ 2 ^ k := Nat.one_le_two_pow
      omega
    have h3 : 2 ^ (k + 33) = 2 ^ k * 8589934592 := by rw [Nat.pow_add]
    omega
  · have s1 : gSet 4 (fBin addF0 (fBin mulSF (fC (.int 47911)) (fName 2)) (fBin divF (fName 1) (fC (.int 97)))) [.raw (.ref sa), .dat (.int p), .dat (.int t), .dat (.int f), x, y] s = .nx [.raw (.ref sa), .dat (.int p), .dat (.int t), .dat (.int f), .dat (.int (47911 * t + p / 97)), y] s := by
      have dv : divF (.int p) (.int 97) = some (.int (p / 97)) := by
        show (if CDivW p 97 then some (Da.int (p / 97)) else none) = _
        exact if_pos hd
      simp [gSet, fBin, fName, fC, bnd, ret, lift, mulS_int hm, dv, addF0, addF]
    have s2 : gFor (fIt (fSt sa 0 (fun s => .ok (.lst (s.cells.map Da.int), s)))) (hName 5) (blendB sa) [.raw (.ref sa), .dat (.int p), .dat (.int t), .dat (.int f), .dat (.int (47911 * t + p / 97)), y] s = .nx [.raw (.ref sa), .dat (.int p), .dat (.int t), .dat (.int f), .dat (.int b'), y'] s := by
      rw [gFor]
      have it : fIt (fSt sa 0 (fun s => .ok (.lst (s.cells.map Da.int), s))) [.raw (.ref sa), .dat (.int p), .dat (.int t), .dat (.int f), .dat (.int (47911 * t + p / 97)), y] s = .ok (s.cells.map Da.int, s) := by
        simp [fIt, fSt, bnd, ret]
      rw [it]
      exact e
    have s3 : gSet 3 (fBin addF0 (fBin mulSF (fName 3) (fC (.int 2147483647))) (fBin modF (fApp intF (fCons (fBin powF (fName 4) (fC (.int 5))) (fNil))) (fName 1))) [.raw (.ref sa), .dat (.int p), .dat (.int t), .dat (.int f), .dat (.int b'), y'] s = .nx [.raw (.ref sa), .dat (.int p), .dat (.int t), .dat (.int (f * 2147483647 + Int.fmod (b' ^ 5) p)), .dat (.int b'), y'] s := by
      have pw : powF (.int b') (.int 5) = some (.int (b' ^ 5)) := by
        show (if CPow b' 5 then some (Da.int (b' ^ (5 : Int).toNat)) else none) = _
        exact if_pos hpw
      simp [gSet, fBin, fApp, fCons, fNil, fName, fC, bnd, ret, lift, mulS_int hf1, pw, intF, modF, hpne, addF0, addF]
    unfold primeB
    rw [gSeq, s1]
    simp only
    rw [gSeq, s2]
    simp only
    exact s3
theorem blended_ok (K : PySem.W.Frag) (sa : Addr) (s : Dr) (h : Roomy 1 s) : ∃ v : Int, F_law_blended K sa [] s = .ok (.int v, { s with turn := s.turn + 1 }) := by
  have h1 := h.1
  have h2 := h.2
  obtain ⟨x1, y1, f1, b1, e1⟩ := prime_step sa 2147481487 (s.turn + 1) 0 { s with turn := s.turn + 1 } .no .no 1 ⟨by decide, by decide⟩ ⟨by omega, by omega⟩ (by decide) (by decide)
  obtain ⟨x2, y2, f2, b2, e2⟩ := prime_step sa 2147481373 (s.turn + 1) f1 { s with turn := s.turn + 1 } x1 y1 34 ⟨by decide, by decide⟩ ⟨by omega, by omega⟩ (by decide) b1
  obtain ⟨x3, y3, f3, b3, e3⟩ := prime_step sa 2147481367 (s.turn + 1) f2 { s with turn := s.turn + 1 } x2 y2 67 ⟨by decide, by decide⟩ ⟨by omega, by omega⟩ (by decide) b2
  refine ⟨f3, ?_⟩
  have g1 : gPar 2 3 (fCons (fBin addF0 (fSt sa 0 (fun s => .ok (.int s.turn, s))) (fC (.int 1))) (fCons (fC (.int 0)) (fNil))) [.raw (.ref sa), .no, .no, .no, .no, .no] s = .nx [.raw (.ref sa), .no, .dat (.int (s.turn + 1)), .dat (.int 0), .no, .no] s := by
    simp [gPar, fCons, fNil, fBin, fSt, fC, bnd, ret, lift, addF0, addF]
  have g2 : gStSet sa 0 (fun s n => { s with turn := n }) (fName 2) [.raw (.ref sa), .no, .dat (.int (s.turn + 1)), .dat (.int 0), .no, .no] s = .nx [.raw (.ref sa), .no, .dat (.int (s.turn + 1)), .dat (.int 0), .no, .no] { s with turn := s.turn + 1 } := by
    simp [gStSet, fName, ret]
  have g3 : gFor (fIt (fLst (fCons (fC (.int 2147481487)) (fCons (fC (.int 2147481373)) (fCons (fC (.int 2147481367)) (fNil)))))) (hName 1) (primeB sa) [.raw (.ref sa), .no, .dat (.int (s.turn + 1)), .dat (.int 0), .no, .no] { s with turn := s.turn + 1 } = .nx [.raw (.ref sa), .dat (.int 2147481367), .dat (.int (s.turn + 1)), .dat (.int f3), x3, y3] { s with turn := s.turn + 1 } := by
    rw [gFor]
    have it : fIt (fLst (fCons (fC (.int 2147481487)) (fCons (fC (.int 2147481373)) (fCons (fC (.int 2147481367)) (fNil))))) [.raw (.ref sa), .no, .dat (.int (s.turn + 1)), .dat (.int 0), .no, .no] { s with turn := s.turn + 1 } = .ok ([.int 2147481487, .int 2147481373, .int 2147481367], { s with turn := s.turn + 1 }) := by
      simp [fIt, fLst, fCons, fNil, fC, bnd, ret]
    rw [it]
    simp only
    rw [forF]
    simp only [hName, List.set]
    rw [e1]
    simp only
    rw [forF]
    simp only [hName, List.set]
    rw [e2]
    simp only
    rw [forF]
    simp only [hName, List.set]
    rw [e3]
    rfl
  have g4 : g_law_blended K sa [.raw (.ref sa), .no, .no, .no, .no, .no] s = .rt (.int f3) { s with turn := s.turn + 1 } := by
    unfold g_law_blended
    rw [gSeq, g1]
    simp only
    rw [gSeq, g2]
    simp only
    have g3' := g3
    unfold primeB blendB at g3'
    rw [gSeq, g3']
    simp [gRet, fName, ret]
  rw [E_law_blended, g4]
  rfl
/-- a draw -/
theorem draw_ok (K : PySem.W.Frag) (sa : Addr) (n : Int) (s : Dr) (b : Nat) (hn : 0 < n ∧ n ≤ 1000000000) (h : Roomy (b + 1) s) : ∃ (v : Int) (s' : Dr), F_law_draw K sa [.int n] s = .ok (.int v, s') ∧ 0 ≤ v ∧ v < n ∧ Roomy b s' := by
  have key : ∃ (l : Int) (s1 : Dr), Roomy b s1 ∧ s1.left = l ∧ gIf (fTest (fBin eqF (fSt sa 0 (fun s => .ok (.int s.left, s))) (fC (.int 0)))) (gStSet sa 0 (fun s n => { s with left := n }) (fIf (fStT sa 0 (fun s => !s.great.isEmpty)) (fSt sa 0 popF) (fCallI sa 0 (F_law_blended K sa) (fNil)))) (gNx) [.raw (.ref sa), .dat (.int n), .no] s = .nx [.raw (.ref sa), .dat (.int n), .no] s1 := by
    by_cases h0 : s.left = 0
    · have e1 : eqF (.int s.left) (.int 0) = some (.bl true) := by rw [h0] <;> rfl
      cases hg : s.great with
      | cons g r =>
        refine ⟨g, { s with great := r, left := g }, ⟨h.1, by have := h.2; simp only; omega⟩, rfl, ?_⟩
        simp [gIf, gStSet, fTest, fBin, fSt, fStT, fIf, fC, bnd, ret, lift, e1, popF, hg]
      | nil =>
        obtain ⟨v, e⟩ := blended_ok K sa s (h.le (by omega))
        refine ⟨v, { s with turn := s.turn + 1, left := v }, ⟨by have := h.1; simp only; omega, by have := h.2; simp only; omega⟩, rfl, ?_⟩
        simp [gIf, gStSet, fTest, fBin, fSt, fStT, fIf, fC, fCallI, fNil, bnd, ret, lift, e1, hg, e]
    · have e1 : eqF (.int s.left) (.int 0) = some (.bl false) := by
        show Option.map Da.bl (if scal (.int s.left) (.int 0) = true then some (decide (V.int s.left = V.int 0)) else eqvF (.int s.left) (.int 0)) = _
        rw [if_pos (by rfl)]
        simp [h0]
      exact ⟨s.left, s, h.le (by omega), rfl, by simp [gIf, fTest, fBin, fSt, fC, bnd, ret, lift, e1, gNx]⟩
  obtain ⟨l, s1, r1, hl, e⟩ := key
  have r := fmod_rng (a := l) hn.1
  have hne : n ≠ 0 := by omega
  have hd : CDivW l n := ⟨hn.1, by have := log_small (n := n.natAbs) (by omega); omega⟩
  refine ⟨Int.fmod l n, { s1 with left := l / n }, ?_, r.1, r.2, ⟨r1.1, r1.2⟩⟩
  have g2 : gSet 2 (fBin modF (fApp intF (fCons (fSt sa 0 (fun s => .ok (.int s.left, s))) (fNil))) (fName 1)) [.raw (.ref sa), .dat (.int n), .no] s1 = .nx [.raw (.ref sa), .dat (.int n), .dat (.int (Int.fmod l n))] s1 := by
    simp [gSet, fBin, fApp, fCons, fNil, fSt, fName, bnd, ret, lift, intF, modF, hne, hl]
  have g3 : gStSet sa 0 (fun s n => { s with left := n }) (fBin divF (fSt sa 0 (fun s => .ok (.int s.left, s))) (fName 1)) [.raw (.ref sa), .dat (.int n), .dat (.int (Int.fmod l n))] s1 = .nx [.raw (.ref sa), .dat (.int n), .dat (.int (Int.fmod l n))] { s1 with left := l / n } := by
    have dv : divF (.int l) (.int n) = some (.int (l / n)) := by
      show (if CDivW l n then some (Da.int (l / n)) else none) = _
      exact if_pos hd
    simp [gStSet, fBin, fSt, fName, bnd, ret, lift, hl, dv]
  have g4 : g_law_draw K sa [.raw (.ref sa), .dat (.int n), .no] s = .rt (.int (Int.fmod l n)) { s1 with left := l / n } := by
    unfold g_law_draw
    rw [gSeq, e]
    simp only
    rw [gSeq, g2]
    simp only
    rw [gSeq, g3]
    simp [gRet, fName, ret]
  rw [E_law_draw, g4]
  rfl
end Sw

set_option Elab.async false
set_option linter.all false
set_option maxRecDepth 100000
set_option maxHeartbeats 1000000
set_option exponentiation.threshold 5000
/-! SwPi: what is drawn: numbers, rows, places. -/
namespace Sw
open PySem PySem.Spec PyProof.Rows L2
section
variable {S : Type} {ρ : Ev} {s : S}
def callIR (sa : Addr) (o : Option Sl) (m : Fx Dr Da) (s : Dr) : Rp (Da × Dr) := match o with
  | some (.raw v) => if v = .ref sa then m s else .no
  | _ => .no
@[simp] theorem callIR_r (sa : Addr) (m : Fx Dr Da) (s : Dr) : callIR sa (some (.raw (.ref sa))) m s = m s := if_pos rfl
@[simp] theorem ap_callI (sa : Addr) (i : Nat) (F : List Da → Fx Dr Da) (h : Ev → Fx Dr (List Da)) (s : Dr) : fCallI sa i F h ρ s = callIR sa ρ[i]? (bnd (h ρ) F) s := by
  unfold fCallI callIR
  generalize ρ[i]? = o
  cases o with
  | none => rfl
  | some sl => cases sl with
    | raw v => by_cases hv : v = .ref sa <;> simp [hv]
    | _ => rfl
theorem rng_ap (f : Ev → Fx S (List Da)) (j : Int) (s' : S) (h : f ρ s = .ok ([.int j], s')) (hj : -(2 ^ 62) ≤ j ∧ j < 2 ^ 62) : fRng1 f ρ s = .ok (rngD 0 j.toNat, s') := by
  have e : smallR j = true := by
    unfold smallR
    rw [decide_eq_true hj.1, decide_eq_true hj.2]
    rfl
  unfold fRng1
  rw [ap_bnd, h]
  simp only [e, if_true, ap_ret]
theorem rng_nat (f : Ev → Fx S (List Da)) (n : Nat) (s' : S) (h : f ρ s = .ok ([.int (n : Nat)], s')) (hn : n ≤ 1000000) : fRng1 f ρ s = .ok (rngD 0 n, s') := by
  have e := rng_ap f (n : Nat) s' h (by omega)
  rw [Int.toNat_natCast] at e
  exact e
end
def vecD (w : List Rat) : Da := .tup (w.map fr)
def rowD (r : List Rat × Rat) : Da := .tup [vecD r.1, fr r.2]
theorem compF_dw {α : Type} {h : Ev → Da → Option Ev} {f : Ev → Fx Dr Da} {ρ : Ev} (enc : α → Da) (P : α → Prop) (k : Nat) : ∀ (ds : List Da) (s : Dr) (b : Nat),
    (∀ d ∈ ds, ∀ s b, Roomy (b + k) s → ∃ a s' ρ1, h ρ d = some ρ1 ∧ f ρ1 s = .ok (enc a, s') ∧ P a ∧ Roomy b s') → Roomy (b + k * ds.length) s →
    ∃ (as : List α) (s' : Dr), compF h fTrue f ρ ds s = .ok (as.map enc, s') ∧ as.length = ds.length ∧ (∀ a ∈ as, P a) ∧ Roomy b s'
  | [], s, b, _, hr => ⟨[], s, rfl, rfl, by simp, hr⟩
  | d :: ds, s, b, H, hr => by
    obtain ⟨a, s1, ρ1, e1, e2, pa, r1⟩ := H d (by simp) s (b + k * ds.length) (by rw [List.length_cons, Nat.mul_succ] at hr; exact hr.le (by omega))
    obtain ⟨as, s2, e3, l, pas, r2⟩ := compF_dw (α := α) (h := h) (f := f) (ρ := ρ) enc P k ds s1 b (fun d hd => H d (by simp [hd])) r1
    refine ⟨a :: as, s2, ?_, by simp [l], fun x hx => ?_, r2⟩
    · unfold compF
      rw [e1]
      simp [e2, e3]
    · rcases List.mem_cons.mp hx with rfl | hx
      · exact pa
      · exact pas x hx
theorem comp_dw {α : Type} {it : Ev → Fx Dr (List Da)} {h : Ev → Da → Option Ev} {f : Ev → Fx Dr Da} {vs : List Nat} {ρ : Ev} {s s0 : Dr} {ds : List Da} {b : Nat} (enc : α → Da) (P : α → Prop) (k : Nat) (hit : it ρ s0 = .ok (ds, s)) (hl : ds.length ≤ 1000)
    (H : ∀ d ∈ ds, ∀ s b, Roomy (b + k) s → ∃ a s' ρ1, h (wipeE ρ vs) d = some ρ1 ∧ f ρ1 s = .ok (enc a, s') ∧ P a ∧ Roomy b s') (hr : Roomy (b + k * ds.length) s) :
    ∃ (as : List α) (s' : Dr), fComp it h fTrue f vs ρ s0 = .ok (as.map enc, s') ∧ as.length = ds.length ∧ (∀ a ∈ as, P a) ∧ Roomy b s' := by
  obtain ⟨as, s', e, l, p, r⟩ := compF_dw enc P k ds s b H hr
  refine ⟨as, s', ?_, l, p, r⟩
  unfold fComp
  rw [ap_bnd, hit]
  simp only [if_pos (line_big _ (m_le hl)), noEr, e]
section
variable {K : PySem.W.Frag} {sa : Addr}
theorem qb_low {n d : Int} {M : Nat} (hn : n.natAbs ≤ M) (hd : d = 1 ∨ d = 2 ∨ d = 3) : QB 6 (6 * M) (Rat.divInt n d) := by
  rcases hd with rfl | rfl | rfl
  · exact ⟨by decide, n * 6, by rw [Rat.divInt_eq_divInt_iff (by decide) (by decide)]; simp, by omega⟩
  · exact ⟨by decide, n * 3, by rw [Rat.divInt_eq_divInt_iff (by decide) (by decide)]; omega, by omega⟩
  · exact ⟨by decide, n * 2, by rw [Rat.divInt_eq_divInt_iff (by decide) (by decide)]; omega, by omega⟩
theorem number_ok (m : Nat) (i : Int) (hi : i = (m : Nat)) (hm : m ≤ 10) (s : Dr) (b : Nat) (h : Roomy (b + 2) s) : ∃ q s', F_law_v_number K sa [.int i] s = .ok (fr q, s') ∧ QB 6 (6 * m) q ∧ Roomy b s' := by
  obtain ⟨v, s1, e1, v0, v1, r1⟩ := draw_ok K sa (2 * i + 1) s (b + 1) (by omega) h
  obtain ⟨u, s2, e2, u0, u1, r2⟩ := draw_ok K sa 3 s1 b (by omega) r1
  have mu : mulSF (.int 2) (.int i) = some (.int (2 * i)) := mulS_of (cmul (by decide) (by omega))
  have lw := r_law_v_low (K := K) (n := v - i) (d := 1 + u) (by omega) (sm_of (k := 64) (by omega) (by decide)) (Nat.lt_of_lt_of_le (m := 2 ^ 3) (by omega) (pow_le' (by decide)))
  refine ⟨Rat.divInt (v - i) (1 + u), s2, ?_, qb_low (by omega) (by omega), r2⟩
  rw [E_law_v_number]
  simp [g_law_v_number, gPar, mu, e1, e2, lw]
theorem number4 (s : Dr) (b : Nat) (h : Roomy (b + 2) s) : ∃ q s', F_law_v_number K sa [.int 4] s = .ok (fr q, s') ∧ QB 6 24 q ∧ Roomy b s' := number_ok 4 4 (by decide) (by decide) s b h
theorem number3 (s : Dr) (b : Nat) (h : Roomy (b + 2) s) : ∃ q s', F_law_v_number K sa [.int 3] s = .ok (fr q, s') ∧ QB 6 18 q ∧ Roomy b s' := number_ok 3 3 (by decide) (by decide) s b h
theorem mem_rng {n : Nat} {d : Da} (h : d ∈ rngD 0 n) : ∃ k : Nat, k < n ∧ d = .int (k : Nat) := by
  unfold rngD at h
  obtain ⟨k, hk, rfl⟩ := List.mem_map.mp h
  exact ⟨k, List.mem_range.mp hk, by rw [Int.zero_add]⟩
theorem lst_gen {ρ : Ev} {s s' : Dr} {ds : List Da} {f : Ev → Fx Dr (List Da)} (e : f ρ s = .ok (ds, s')) : fApp tupF (fCons (fLst f) (fNil)) ρ s = .ok (.tup ds, s') := by simp [e]
theorem in_b (n : Nat) (d : Da) (s : Dr) (b : Nat) (hr : Roomy (b + 2) s) : ∃ a s' ρ1, hName 2 (wipeE [.raw (.ref sa), .dat (.int (n : Nat)), .no] [2]) d = some ρ1 ∧ fCallI sa 0 (F_law_v_number K sa) (fCons (fC (.int 4)) (fNil)) ρ1 s = .ok (fr a, s') ∧ QB 6 24 a ∧ Roomy b s' := by
  obtain ⟨q, s', e, p, r⟩ := number4 (K := K) (sa := sa) s b hr
  refine ⟨q, s', [.raw (.ref sa), .dat (.int (n : Nat)), .dat d], rfl, ?_, p, r⟩
  simp [e]
theorem in_b3 (n : Nat) (d : Da) (s : Dr) (b : Nat) (hr : Roomy (b + 2) s) : ∃ a s' ρ1, hName 2 (wipeE [.raw (.ref sa), .dat (.int (n : Nat)), .no] [2]) d = some ρ1 ∧ fCallI sa 0 (F_law_v_number K sa) (fCons (fC (.int 3)) (fNil)) ρ1 s = .ok (fr a, s') ∧ QB 6 18 a ∧ Roomy b s' := by
  obtain ⟨q, s', e, p, r⟩ := number3 (K := K) (sa := sa) s b hr
  refine ⟨q, s', [.raw (.ref sa), .dat (.int (n : Nat)), .dat d], rfl, ?_, p, r⟩
  simp [e]
theorem ret_gen {ρ : Ev} {s s' : Dr} {d : Da} {f : Ev → Fx Dr Da} (e : f ρ s = .ok (d, s')) : finI (gRet f ρ s) = .ok (d, s') := by simp [e]
theorem input_ok (n : Nat) (hn : n ≤ 10) (s : Dr) (b : Nat) (h : Roomy (b + 2 * n) s) : ∃ w s', F_law_v_input K sa [.int (n : Nat)] s = .ok (vecD w, s') ∧ (w.length = n ∧ ∀ q ∈ w, QB 6 24 q) ∧ Roomy b s' := by
  obtain ⟨w, s1, e, l, p, r⟩ := comp_dw (it := fRng1 (fCons (fName 1) (fNil))) (vs := [2]) (ρ := [.raw (.ref sa), .dat (.int (n : Nat)), .no]) (s := s) (s0 := s) (ds := rngD 0 n) (b := b) fr (QB 6 24) 2
    (rng_nat _ n s (by simp) (by omega)) (by rw [rngD_len]; omega) (fun d hd s b hr => in_b (K := K) (sa := sa) n d s b hr) (by rw [rngD_len]; exact h)
  refine ⟨w, s1, ?_, ⟨by rw [l, rngD_len], p⟩, r⟩
  rw [E_law_v_input]
  exact ret_gen (lst_gen e)
theorem row_gen {ρ : Ev} {s s1 s2 : Dr} {ds : List Da} {d : Da} {f : Ev → Fx Dr (List Da)} {k : Ev → Fx Dr Da} (e : f ρ s = .ok (ds, s1)) (e2 : k ρ s1 = .ok (d, s2)) : fTup (fCons (fApp tupF (fCons (fLst f) (fNil))) (fCons k (fNil))) ρ s = .ok (.tup [.tup ds, d], s2) := by simp [e, e2]
theorem row_ok (n : Nat) (hn : n ≤ 10) (s : Dr) (b : Nat) (h : Roomy (b + (2 * n + 2)) s) : ∃ w s', F_law_v_row K sa [.int (n : Nat)] s = .ok (rowD w, s') ∧ (w.1.length = n ∧ (∀ q ∈ w.1, QB 6 18 q) ∧ QB 6 18 w.2) ∧ Roomy b s' := by
  obtain ⟨w, s1, e, l, p, r⟩ := comp_dw (it := fRng1 (fCons (fName 1) (fNil))) (vs := [2]) (ρ := [.raw (.ref sa), .dat (.int (n : Nat)), .no]) (s := s) (s0 := s) (ds := rngD 0 n) (b := b + 2) fr (QB 6 18) 2
    (rng_nat _ n s (by simp) (by omega)) (by rw [rngD_len]; omega) (fun d hd s b hr => in_b3 (K := K) (sa := sa) n d s b hr) (by rw [rngD_len]; exact h.le (by omega))
  obtain ⟨q, s2, e2, p2, r2⟩ := number3 (K := K) (sa := sa) s1 b r
  refine ⟨(w, q), s2, ?_, ⟨by rw [l, rngD_len], p, p2⟩, r2⟩
  have e3 : fCallI sa 0 (F_law_v_number K sa) (fCons (fC (.int 3)) (fNil)) [.raw (.ref sa), .dat (.int (n : Nat)), .no] s1 = .ok (fr q, s2) := by simp [e2]
  rw [E_law_v_row]
  exact ret_gen (row_gen e e3)
/-! ### mixed places -/
theorem ne_of_eq {d e : Da} {b : Bool} (h : eqF d e = some (.bl b)) : neF d e = some (.bl (!b)) := by
  unfold eqF at h
  unfold neF
  cases q : eqB d e with
  | none => rw [q] at h; cases h
  | some c => rw [q] at h; cases h; rfl
theorem map_erase {α β : Type} (f : α → β) : ∀ (xs : List α) (i : Nat), (xs.eraseIdx i).map f = (xs.map f).eraseIdx i
  | [], _ => rfl
  | _ :: _, 0 => rfl
  | x :: xs, i + 1 => congrArg (f x :: ·) (map_erase f xs i)
theorem erase_perm {α : Type} : ∀ (xs : List α) (i : Nat) (h : i < xs.length), (xs[i] :: xs.eraseIdx i).Perm xs
  | x :: xs, 0, _ => .refl _
  | x :: xs, i + 1, h => by
    have h' : i < xs.length := by simpa using h
    exact (List.Perm.swap x xs[i] (xs.eraseIdx i)).trans ((erase_perm xs i h').cons x)
theorem mixed_loop : ∀ (bs as : List Int) (d : Da) (s : Dr) (b n : Nat), bs.length < n → as.length + bs.length ≤ 1000 → Roomy (b + bs.length) s →
    ∃ (cs : List Int) (s' : Dr), whileF (fTest (fBin neF (fNameO 2) (fLst (fNil)))) (gAppPop 3 2 (fCallI sa 0 (F_law_draw K sa) (fCons (fApp lenF (fCons (fNameO 2) (fNil))) (fNil)))) n [.raw (.ref sa), .dat d, .own (bs.map Da.int), .own (as.map Da.int)] s = .nx [.raw (.ref sa), .dat d, .own [], .own (cs.map Da.int)] s' ∧ cs.Perm (as ++ bs) ∧ Roomy b s' := by
  intro bs
  generalize hk : bs.length = k
  induction k generalizing bs with
  | zero =>
    intro as d s b n hn hl hr
    obtain rfl := List.length_eq_zero_iff.mp hk
    match n, hn with
    | n + 1, _ =>
      refine ⟨as, s, ?_, by simp, hr⟩
      unfold whileF
      have e : neF (.lst []) (.lst []) = some (.bl false) := ne_of_eq (b := true) (by simpa using eq_ints [] [])
      simp [e]
  | succ k ih =>
    intro as d s b n hn hl hr
    match n, hn with
    | n + 1, hn =>
      obtain ⟨v, s1, e1, v0, v1, r1⟩ := draw_ok K sa (bs.length : Nat) s (b + k) (by omega) (by rw [Nat.add_assoc]; exact hr)
      have hv : v.toNat < bs.length := by omega
      have hx : (bs.eraseIdx v.toNat).length = k := by rw [List.length_eraseIdx, if_pos hv]; omega
      obtain ⟨cs, s2, e2, p2, r2⟩ := ih (bs.eraseIdx v.toNat) hx (as ++ [bs[v.toNat]]) d s1 b n (by omega) (by rw [List.length_append, List.length_singleton]; omega) r1
      refine ⟨cs, s2, ?_, p2.trans ?_, r2⟩
      · have e : neF (.lst (bs.map Da.int)) (.lst []) = some (.bl true) := by
          have ne : bs ≠ [] := by intro z; rw [z] at hk; simp at hk
          have z := eq_ints bs []
          rw [decide_eq_false ne] at z
          exact ne_of_eq (b := false) z
        have sx : seqIndex? v bs.length = some v.toNat := by
          unfold seqIndex?
          simp only [if_neg (show ¬ v < 0 by omega)]
          have z1 : decide (0 ≤ v) = true := decide_eq_true v0
          have z2 : decide (v < (bs.length : Int)) = true := decide_eq_true v1
          simp only [z1, z2, Bool.and_self, if_true]
        have gp : gAppPop 3 2 (fCallI sa 0 (F_law_draw K sa) (fCons (fApp lenF (fCons (fNameO 2) (fNil))) (fNil))) [.raw (.ref sa), .dat d, .own (bs.map Da.int), .own (as.map Da.int)] s = .nx [.raw (.ref sa), .dat d, .own ((bs.eraseIdx v.toNat).map Da.int), .own ((as ++ [bs[v.toNat]]).map Da.int)] s1 := by
          have la : as.length < 1000000 ∧ -(2 ^ 63) ≤ v ∧ v < 2 ^ 63 := ⟨by omega, by omega, by omega⟩
          have em : (bs.eraseIdx v.toNat).map Da.int = (bs.map Da.int).eraseIdx v.toNat := by rw [map_erase]
          have eg : (bs.map Da.int)[v.toNat]? = some (.int bs[v.toNat]) := by rw [List.getElem?_map, List.getElem?_eq_getElem hv]; rfl
          unfold gAppPop
          simp only [List.getElem?_cons_succ, List.getElem?_cons_zero, if_neg (show ¬ (3 = 2) by decide), ap_callI, callIR_r, ap_bnd, ap_cons, ap_app, ap_nameO, nameRO_o, ap_nil, ap_ret, len_lst, List.length_map, ap_lift_s, e1, sx, eg, if_pos la, em, List.map_append, List.map_cons, List.map_nil]
          rfl
        unfold whileF
        simp only [gp, ap_test, ap_bin, ap_bnd, ap_nameO, List.getElem?_cons_succ, List.getElem?_cons_zero, nameRO_o, ap_lst, ap_nil, ap_ret, e, ap_lift_s, ap_tstR]
        exact e2
      · rw [List.append_assoc]
        refine List.Perm.append_left as ?_
        rw [List.singleton_append]
        exact erase_perm bs _ hv
theorem gWhile_eq {S : Type} (n : Nat) (t : Ev → Fx S Bool) (g : Sx S) (ρ : Ev) (s : S) : gWhile (fun _ => n) t g ρ s = whileF t g n ρ s := rfl
theorem mixed_ok (ns : List Int) (hn : ns.length ≤ 900) (s : Dr) (b : Nat) (h : Roomy (b + ns.length) s) : ∃ (cs : List Int) (s' : Dr), F_law_mixed K sa [.lst (ns.map Da.int)] s = .ok (.lst (cs.map Da.int), s') ∧ cs.Perm ns ∧ Roomy b s' := by
  obtain ⟨cs, s', e, p, r⟩ := mixed_loop (K := K) (sa := sa) ns [] (.lst (ns.map Da.int)) s b 1000000 (by omega) (by simp; omega) h
  refine ⟨cs, s', ?_, by simpa using p, r⟩
  rw [E_law_mixed]
  unfold g_law_mixed
  have e1 : gParM 2 3 (mOwn (fAppN listF (fCons (fName 1) (fNil))) (mOwn (fNil) (mNil))) [.raw (.ref sa), .dat (.lst (ns.map Da.int)), .no, .no] s = .nx [.raw (.ref sa), .dat (.lst (ns.map Da.int)), .own (ns.map Da.int), .own ([].map Da.int)] s := by
    simp [gParM, mOwn, mNil]
  rw [ap_seq, e1]
  simp only
  rw [ap_seq, gWhile_eq, e]
  simp
/-- unlike places below n -/
def Pl (n : Nat) (ps : List Int) : Prop := ps.Nodup ∧ ∀ p ∈ ps, 0 ≤ p ∧ p < (n : Nat)
theorem rng_ints (n : Nat) : rngD 0 n = ((List.range n).map fun k => ((k : Nat) : Int)).map Da.int := by
  unfold rngD
  rw [List.map_map]
  refine List.map_congr_left fun k _ => ?_
  show Da.int (0 + (k : Nat)) = Da.int (k : Nat)
  rw [Int.zero_add]
theorem rng_nodup (n : Nat) : ((List.range n).map fun k => ((k : Nat) : Int)).Nodup := by
  refine List.Pairwise.map _ (fun a b h => ?_) List.nodup_range
  intro z
  exact h (by omega)
theorem some_ok (n : Nat) (hn : 1 ≤ n ∧ n ≤ 10) (s : Dr) (b : Nat) (h : Roomy (b + (n + 1)) s) : ∃ (ps : List Int) (s' : Dr), F_law_v_some K sa [.int (n : Nat)] s = .ok (.tup (ps.map Da.int), s') ∧ (Pl n ps ∧ 1 ≤ ps.length ∧ ps.length ≤ n) ∧ Roomy b s' := by
  obtain ⟨cs, s1, e1, p1, r1⟩ := mixed_ok (K := K) (sa := sa) ((List.range n).map fun k => ((k : Nat) : Int)) (by simp; omega) s (b + 1) (by rw [List.length_map, List.length_range]; exact h.le (by omega))
  obtain ⟨v, s2, e2, v0, v1, r2⟩ := draw_ok K sa (n : Nat) s1 b (by omega) r1
  have cl : cs.length = n := by rw [p1.length_eq]; simp
  have nd : cs.Nodup := (p1.nodup_iff).mpr (rng_nodup n)
  have rg : ∀ p ∈ cs, 0 ≤ p ∧ p < (n : Nat) := fun p hp => by
    have := p1.mem_iff.mp hp
    obtain ⟨k, hk, rfl⟩ := List.mem_map.mp this
    have := List.mem_range.mp hk
    omega
  refine ⟨cs.take (1 + v).toNat, s2, ?_, ⟨⟨nd.sublist (List.take_sublist ..), fun p hp => rg p (List.mem_of_mem_take hp)⟩, by rw [List.length_take]; omega, by rw [List.length_take]; omega⟩, r2⟩
  rw [E_law_v_some]
  have e0 : F_law_mixed K sa [.lst (rngD 0 n)] s = .ok (.lst (cs.map Da.int), s1) := by rw [rng_ints]; exact e1
  have er : rngL (.int (n : Nat)) = some (rngD 0 n) := by
    have hh : (0 : Int) ≤ (n : Nat) ∧ ((n : Nat) : Int) ≤ 1000000 := by omega
    exact (if_pos hh).trans (by rw [Int.toNat_natCast])
  have ec : slF (.lst (cs.map Da.int)) none (some (1 + v)) = some (.lst ((cs.take (1 + v).toNat).map Da.int)) := by
    have ek : (1 + v) = (((1 + v).toNat : Nat) : Int) := by omega
    show some (Da.lst (cutD _ _ _)) = _
    unfold cutD
    rw [ek, HT.sIx_nat, HT.sIx_none, Int.toNat_natCast, List.drop_zero, Nat.sub_zero, List.length_map, cl, Nat.min_eq_left (by omega), List.map_take]
  refine ret_gen ?_
  simp only [ap_app, ap_cons, ap_bnd, ap_sl, ap_callI, List.getElem?_cons_zero, callIR_r, ap_lst, ap_unN, ap_name, List.getElem?_cons_succ, nameR_d, er, ap_lift_s, ap_ret, ap_nil, e0, ap_part_n, ap_part_s, ap_bin, ap_C, e2, add_int, ap_partR, ec, tup_lst]
end
end Sw

set_option Elab.async false
set_option linter.all false
set_option maxRecDepth 100000
set_option maxHeartbeats 1000000
set_option exponentiation.threshold 5000
/-! SwPj: layers drawn. -/
namespace Sw
open PySem PySem.Spec PyProof.Rows L2
section
variable {S : Type} {ρ ρ' : Ev} {s s' : S} {g k : Sx S} {t : Ev → Fx S Bool} {f : Ev → Fx S Da} {d : Da}
theorem sq_nx (h : g ρ s = .nx ρ' s') : gSeq g k ρ s = k ρ' s' := by rw [ap_seq, h]
theorem sq_rt (h : g ρ s = .rt d s') : gSeq g k ρ s = .rt d s' := by rw [ap_seq, h]
theorem gi_t (h : t ρ s = .ok (true, s')) : gIf t g k ρ s = g ρ s' := by rw [ap_gif, h]; exact if_pos rfl
theorem gi_f (h : t ρ s = .ok (false, s')) : gIf t g k ρ s = k ρ s' := by rw [ap_gif, h]; exact if_neg (by decide)
theorem rt_of (h : f ρ s = .ok (d, s')) : gRet f ρ s = .rt d s' := by rw [ap_gret, h]
theorem set_of {i : Nat} (h : f ρ s = .ok (d, s')) : gSet i f ρ s = .nx (ρ.set i (.dat d)) s' := by rw [ap_set, h]
theorem tst_of {b : Bool} (h : f ρ s = .ok (.bl b, s')) : fTest f ρ s = .ok (b, s') := by rw [ap_test, ap_bnd, h]; rfl
theorem tup2_of {a b : Da} {s1 : S} {f k : Ev → Fx S Da} (h : f ρ s = .ok (a, s1)) (h2 : k ρ s1 = .ok (b, s')) : fTup (fCons f (fCons k (fNil))) ρ s = .ok (.tup [a, b], s') := by
  rw [ap_tup, ap_bnd, ap_cons, ap_bnd, h]
  simp only [ap_bnd, ap_cons, h2, ap_nil, ap_ret]
end
theorem compF_dz {α : Type} {h : Ev → Da → Option Ev} {f : Ev → Fx Dr Da} {ρ : Ev} (enc : α → Da) (P : Da → α → Prop) (k : Nat) : ∀ (ds : List Da) (s : Dr) (b : Nat),
    (∀ d ∈ ds, ∀ s b, Roomy (b + k) s → ∃ a s' ρ1, h ρ d = some ρ1 ∧ f ρ1 s = .ok (enc a, s') ∧ P d a ∧ Roomy b s') → Roomy (b + k * ds.length) s →
    ∃ (as : List α) (s' : Dr), compF h fTrue f ρ ds s = .ok (as.map enc, s') ∧ as.length = ds.length ∧ (∀ p ∈ ds.zip as, P p.1 p.2) ∧ Roomy b s'
  | [], s, b, _, hr => ⟨[], s, rfl, rfl, by simp, hr⟩
  | d :: ds, s, b, H, hr => by
    obtain ⟨a, s1, ρ1, e1, e2, pa, r1⟩ := H d (by simp) s (b + k * ds.length) (by rw [List.length_cons, Nat.mul_succ] at hr; exact hr.le (by omega))
    obtain ⟨as, s2, e3, l, pas, r2⟩ := compF_dz (α := α) (h := h) (f := f) (ρ := ρ) enc P k ds s1 b (fun d hd => H d (by simp [hd])) r1
    refine ⟨a :: as, s2, ?_, by simp [l], fun x hx => ?_, r2⟩
    · unfold compF
      rw [e1]
      simp [e2, e3]
    · rw [List.zip_cons_cons] at hx
      rcases List.mem_cons.mp hx with rfl | hx
      · exact pa
      · exact pas x hx
theorem comp_dz {α : Type} {it : Ev → Fx Dr (List Da)} {h : Ev → Da → Option Ev} {f : Ev → Fx Dr Da} {vs : List Nat} {ρ : Ev} {s s0 : Dr} {ds : List Da} {b : Nat} (enc : α → Da) (P : Da → α → Prop) (k : Nat) (hit : it ρ s0 = .ok (ds, s)) (hl : ds.length ≤ 1000)
    (H : ∀ d ∈ ds, ∀ s b, Roomy (b + k) s → ∃ a s' ρ1, h (wipeE ρ vs) d = some ρ1 ∧ f ρ1 s = .ok (enc a, s') ∧ P d a ∧ Roomy b s') (hr : Roomy (b + k * ds.length) s) :
    ∃ (as : List α) (s' : Dr), fComp it h fTrue f vs ρ s0 = .ok (as.map enc, s') ∧ as.length = ds.length ∧ (∀ p ∈ ds.zip as, P p.1 p.2) ∧ Roomy b s' := by
  obtain ⟨as, s', e, l, p, r⟩ := compF_dz enc P k ds s b H hr
  refine ⟨as, s', ?_, l, p, r⟩
  unfold fComp
  rw [ap_bnd, hit]
  simp only [if_pos (line_big _ (m_le hl)), noEr, e]
/-! ### layers -/
abbrev Rw := List Rat × Rat
def mixD (rows : List Rw) : Da := .tup [.str "mix", .tup (rows.map rowD)]
def intsT (ps : List Int) : Da := .tup (ps.map Da.int)
def restD (ps : List Int) : Da := .tup [.str "rest", intsT ps]
def poolD (gs : List (List Int)) : Da := .tup [.str "pool", .tup (gs.map intsT)]
def RowOk (n : Nat) (r : Rw) : Prop := r.1.length = n ∧ (∀ q ∈ r.1, QB 6 18 q) ∧ QB 6 18 r.2
def GrpOk (n : Nat) (g : List Int) : Prop := Pl n g ∧ 1 ≤ g.length ∧ g.length ≤ n
inductive Ly : Da → Nat → Nat → Nat → Prop
  | mix (rows : List Rw) (n : Nat) : 1 ≤ rows.length → rows.length ≤ 3 → (∀ r ∈ rows, RowOk n r) → Ly (mixD rows) n rows.length 0
  | rest (ps : List Int) (n : Nat) : Pl n ps → ps.length ≤ n → srtI ps = ps → Ly (restD ps) n n ps.length
  | pool (gs : List (List Int)) (n : Nat) : 1 ≤ gs.length → gs.length ≤ 3 → (∀ g ∈ gs, GrpOk n g) → Ly (poolD gs) n gs.length ((gs.map fun g => g.length - 1).sum)
section
variable {K : PySem.W.Frag} {sa : Addr}
/-- rows drawn, as a mix -/
theorem mixrows_ok (n : Nat) (hn : n ≤ 10) (ρ : Ev) (i j : Nat) (r0 : ∀ d, ((wipeE ρ [j]).set j (.dat d))[i]? = some (.raw (.ref sa))) (r1 : ρ[i]? = some (.raw (.ref sa))) (m : Nat) (rm : ∀ d, ((wipeE ρ [j]).set j (.dat d))[m]? = some (.dat (.int (n : Nat)))) (s : Dr) (b : Nat) (h : Roomy (b + (3 * (2 * n + 2) + 1)) s) :
    ∃ (rows : List Rw) (s' : Dr), fTup (fCons (fC (.str "mix")) (fCons (fApp tupF (fCons (fLst (fComp (fRng1 (fCons (fBin addF0 (fC (.int 1)) (fCallI sa i (F_law_draw K sa) (fCons (fC (.int 3)) (fNil)))) (fNil))) (hName j) (fTrue) (fCallI sa i (F_law_v_row K sa) (fCons (fName m) (fNil))) [j])) (fNil))) (fNil))) ρ s = .ok (mixD rows, s') ∧ (1 ≤ rows.length ∧ rows.length ≤ 3 ∧ ∀ r ∈ rows, RowOk n r) ∧ Roomy b s' := by
  obtain ⟨v, s1, e1, v0, v1, r1'⟩ := draw_ok K sa 3 s (b + 3 * (2 * n + 2)) (by omega) h
  obtain ⟨k, rfl⟩ : ∃ k : Nat, v = (k : Nat) := ⟨v.toNat, by omega⟩
  have hit : fRng1 (fCons (fBin addF0 (fC (.int 1)) (fCallI sa i (F_law_draw K sa) (fCons (fC (.int 3)) (fNil)))) (fNil)) ρ s = .ok (rngD 0 (1 + k), s1) := by
    refine rng_nat _ (1 + k) s1 ?_ (by omega)
    rw [ap_cons, ap_bnd, ap_bin, ap_bnd, ap_C]
    simp only [ap_bnd, ap_callI, r1, callIR_r, ap_cons, ap_C, ap_nil, ap_ret, e1, add_int, ap_lift_s]
    rfl
  obtain ⟨rows, s2, e, l, p, r⟩ := comp_dw (vs := [j]) (h := hName j) (f := fCallI sa i (F_law_v_row K sa) (fCons (fName m) (fNil))) (b := b) rowD (RowOk n) (2 * n + 2) hit (by rw [rngD_len]; omega)
    (fun d _ s b hr => by
      obtain ⟨w, s', e, q, r⟩ := row_ok (K := K) (sa := sa) n hn s b hr
      refine ⟨w, s', _, rfl, ?_, q, r⟩
      rw [ap_callI, r0 d, callIR_r, ap_bnd, ap_cons, ap_bnd, ap_name, rm d, nameR_d]
      simp only [ap_bnd, ap_nil, ap_ret]
      exact e) (by rw [rngD_len]; exact r1'.le (by
        have : (2 * n + 2) * (1 + k) ≤ (2 * n + 2) * 3 := Nat.mul_le_mul_left _ (by omega)
        omega))
  refine ⟨rows, s2, ?_, ⟨by rw [l, rngD_len]; omega, by rw [l, rngD_len]; omega, p⟩, r⟩
  exact tup2_of (ap_C _) (lst_gen e)
end
end Sw

set_option Elab.async false
set_option linter.all false
set_option maxRecDepth 100000
set_option maxHeartbeats 1000000
set_option exponentiation.threshold 5000
/-! SwPk: a layer drawn for a width and a room. -/
namespace Sw
open PySem PySem.Spec PyProof.Rows L2
section
variable {K : PySem.W.Frag} {sa : Addr}
theorem and_t {S : Type} {ρ : Ev} {s s' s2 : S} {f g : Ev → Fx S Bool} {c : Bool} (h : f ρ s = .ok (true, s')) (h2 : g ρ s' = .ok (c, s2)) : fAnd f g ρ s = .ok (c, s2) := by
  rw [ap_and, ap_bnd, h]
  exact h2
theorem and_f {S : Type} {ρ : Ev} {s s' : S} {f g : Ev → Fx S Bool} (h : f ρ s = .ok (false, s')) : fAnd f g ρ s = .ok (false, s') := by
  rw [ap_and, ap_bnd, h]
  rfl
theorem srt_idem (ps : List Int) : srtI (srtI ps) = srtI ps := srt_one (srtI_perm _) (srtI_srt _) (srtI_srt _)
theorem zip_two {α : Type} {P : Da → α → Prop} {n : Nat} {as : List α} (hn : n = 1 ∨ n = 2) (l : as.length = (rngD 0 n).length) (h : ∀ p ∈ (rngD 0 n).zip as, P p.1 p.2) : (∃ a, as = [a] ∧ P (.int 0) a) ∨ (∃ a c, as = [a, c] ∧ P (.int 0) a ∧ P (.int 1) c) := by
  rw [rngD_len] at l
  rcases hn with rfl | rfl
  · match as, l with
    | [a], _ => exact .inl ⟨a, rfl, h (.int 0, a) (by simp [rngD, List.range_succ])⟩
  · match as, l with
    | [a, c], _ => exact .inr ⟨a, c, rfl, h (.int 0, a) (by simp [rngD, List.range_succ]), h (.int 1, c) (by simp [rngD, List.range_succ])⟩
theorem cond_eq {S : Type} {ρ : Ev} {s : S} {i : Nat} {v c : Int} (h : ρ[i]? = some (.dat (.int v))) : fTest (fBin eqF (fName i) (fC (.int c))) ρ s = .ok (decide (v = c), s) := by simp [h]
theorem layer_for_ok (n : Nat) (hn : 1 ≤ n ∧ n ≤ 3) (room : Nat) (hr : room ≤ 4) (s : Dr) (b : Nat) (h : Roomy (b + 40) s) :
    ∃ (l : Da) (m c : Nat) (s' : Dr), F_law_v_layer_for K sa [.int (n : Nat), .int (room : Nat)] s = .ok (l, s') ∧ (Ly l n m c ∧ 1 ≤ m ∧ m ≤ 3 ∧ c ≤ room) ∧ Roomy b s' := by
  obtain ⟨v, s1, e1, v0, v1, r1⟩ := draw_ok K sa 5 s (b + 39) (by omega) h
  have q0 : gSet 3 (fCallI sa 0 (F_law_draw K sa) (fCons (fC (.int 5)) (fNil))) [.raw (.ref sa), .dat (.int (n : Nat)), .dat (.int (room : Nat)), .no, .no, .no] s = .nx [.raw (.ref sa), .dat (.int (n : Nat)), .dat (.int (room : Nat)), .dat (.int v), .no, .no] s1 := by
    refine set_of ?_
    rw [ap_callI]
    simp only [List.getElem?_cons_zero, callIR_r, ap_bnd, ap_cons, ap_C, ap_nil, ap_ret, e1]
  have t0 : fTest (fBin eqF (fName 3) (fC (.int 0))) [.raw (.ref sa), .dat (.int (n : Nat)), .dat (.int (room : Nat)), .dat (.int v), .no, .no] s1 = .ok (decide (v = 0), s1) := cond_eq rfl
  have t1 : fTest (fBin eqF (fName 3) (fC (.int 1))) [.raw (.ref sa), .dat (.int (n : Nat)), .dat (.int (room : Nat)), .dat (.int v), .no, .no] s1 = .ok (decide (v = 1), s1) := cond_eq rfl
  have t2 : fTest (fBin gtF (fName 2) (fC (.int 0))) [.raw (.ref sa), .dat (.int (n : Nat)), .dat (.int (room : Nat)), .dat (.int v), .no, .no] s1 = .ok (decide (0 < ((room : Nat) : Int)), s1) := by simp
  have t3 : fTest (fBin geF (fName 2) (fBin subF (fName 1) (fC (.int 1)))) [.raw (.ref sa), .dat (.int (n : Nat)), .dat (.int (room : Nat)), .dat (.int v), .no, .no] s1 = .ok (decide (((n : Nat) : Int) - 1 ≤ (room : Nat)), s1) := by simp
  rw [E_law_v_layer_for]
  unfold g_law_v_layer_for
  rw [sq_nx q0]
  by_cases c0 : v = 0 ∧ 0 < room
  · obtain ⟨ps, s2, e2, ⟨p1, p2, p3⟩, r2⟩ := some_ok (K := K) (sa := sa) (min n room) (by omega) s1 b (r1.le (by omega))
    refine ⟨restD (srtI ps), n, ps.length, s2, ?_, ⟨?_, hn.1, hn.2, by omega⟩, r2⟩
    · have c1 := and_t (by rw [decide_eq_true c0.1] at t0; exact t0) (by rw [decide_eq_true (show 0 < ((room : Nat) : Int) by omega)] at t2; exact t2)
      rw [sq_rt (d := restD (srtI ps)) (s' := s2)]
      · rfl
      · rw [gi_t c1]
        refine rt_of (tup2_of (ap_C _) ?_)
        have em : minF [.int (n : Nat), .int (room : Nat)] = some (.int ((min n room : Nat) : Int)) := by
          rw [min_int]
          congr 2
          split <;> omega
        have es : sortA [.tup (ps.map Da.int)] = some ((srtI ps).map Da.int) := by
          show (intsD _).map _ = _
          rw [intsD_map]
          rfl
        refine lst_gen ?_
        rw [ap_appN, ap_bnd, ap_cons, ap_bnd, ap_callI]
        simp only [List.getElem?_cons_zero, callIR_r, ap_bnd, ap_cons, ap_app, ap_name, List.getElem?_cons_succ, nameR_d, ap_nil, ap_ret, em, ap_lift_s, e2, es]
    · have hp := srtI_perm ps
      have hl : ps.length = (srtI ps).length := hp.length_eq.symm
      rw [hl]
      exact .rest _ _ ⟨hp.nodup_iff.mpr p1.1, fun p z => by
        have := p1.2 p (hp.mem_iff.mp z)
        omega⟩ (by rw [← hl]; omega) (srt_idem _)
  · have c1 : fAnd (fTest (fBin eqF (fName 3) (fC (.int 0)))) (fTest (fBin gtF (fName 2) (fC (.int 0)))) [.raw (.ref sa), .dat (.int (n : Nat)), .dat (.int (room : Nat)), .dat (.int v), .no, .no] s1 = .ok (false, s1) := by
      by_cases z : v = 0
      · refine and_t (by rw [decide_eq_true z] at t0; exact t0) ?_
        rw [decide_eq_false (by omega)] at t2
        exact t2
      · exact and_f (by rw [decide_eq_false z] at t0; exact t0)
    rw [sq_nx ((gi_f c1).trans ap_nx)]
    by_cases c2 : v = 1 ∧ n ≤ room + 1
    · have c3 := and_t (by rw [decide_eq_true c2.1] at t1; exact t1) (by rw [decide_eq_true (show ((n : Nat) : Int) - 1 ≤ (room : Nat) by omega)] at t3; exact t3)
      obtain ⟨v2, s2, e2, w0, w1, r2⟩ := draw_ok K sa 2 s1 (b + 38) (by omega) r1
      obtain ⟨k, rfl⟩ : ∃ k : Nat, v2 = (k : Nat) := ⟨v2.toNat, by omega⟩
      have hit : fRng1 (fCons (fBin addF0 (fC (.int 1)) (fCallI sa 0 (F_law_draw K sa) (fCons (fC (.int 2)) (fNil)))) (fNil)) [.raw (.ref sa), .dat (.int (n : Nat)), .dat (.int (room : Nat)), .dat (.int v), .no, .no] s1 = .ok (rngD 0 (1 + k), s2) := by
        refine rng_nat _ (1 + k) s2 ?_ (by omega)
        rw [ap_cons, ap_bnd, ap_bin, ap_bnd, ap_C]
        simp only [ap_bnd, ap_callI, List.getElem?_cons_zero, callIR_r, ap_cons, ap_C, ap_nil, ap_ret, e2, add_int, ap_lift_s]
        rfl
      obtain ⟨gs, s3, e, l, p, r⟩ := comp_dz (vs := [5]) (h := hName 5) (f := fIf (fTest (fBin eqF (fName 5) (fC (.int 0)))) (fCallI sa 0 (F_law_v_some K sa) (fCons (fName 1) (fNil))) (fTup (fCons (fCallI sa 0 (F_law_draw K sa) (fCons (fName 1) (fNil))) (fNil)))) (b := b) intsT (fun d g => GrpOk n g ∧ (d ≠ .int 0 → g.length = 1)) 6 hit (by rw [rngD_len]; omega)
        (fun d hd s b hr => by
          obtain ⟨j, _, rfl⟩ := mem_rng hd
          have t5 : ∀ s : Dr, fTest (fBin eqF (fName 5) (fC (.int 0))) [.raw (.ref sa), .dat (.int (n : Nat)), .dat (.int (room : Nat)), .dat (.int v), .no, .dat (.int (j : Nat))] s = .ok (decide (((j : Nat) : Int) = 0), s) := fun s => cond_eq rfl
          by_cases hj : j = 0
          · obtain ⟨ps, s', e, q, r⟩ := some_ok (K := K) (sa := sa) n (by omega) s b (hr.le (by omega))
            refine ⟨ps, s', [.raw (.ref sa), .dat (.int (n : Nat)), .dat (.int (room : Nat)), .dat (.int v), .no, .dat (.int (j : Nat))], rfl, ?_, ⟨q, fun z => absurd (by rw [hj]; rfl) z⟩, r⟩
            rw [ap_if, ap_bnd, t5 s, decide_eq_true (show ((j : Nat) : Int) = 0 by omega)]
            simp only [if_true, ap_callI, List.getElem?_cons_zero, callIR_r, ap_bnd, ap_cons, ap_name, List.getElem?_cons_succ, nameR_d, ap_nil, ap_ret, e]
            rfl
          · obtain ⟨u, s', e, u0, u1, r⟩ := draw_ok K sa (n : Nat) s b (by omega) (hr.le (by omega))
            refine ⟨[u], s', [.raw (.ref sa), .dat (.int (n : Nat)), .dat (.int (room : Nat)), .dat (.int v), .no, .dat (.int (j : Nat))], rfl, ?_, ⟨⟨⟨by simp, fun p hp => by rw [List.mem_singleton.mp hp]; exact ⟨u0, u1⟩⟩, by simp, by simp; omega⟩, fun _ => rfl⟩, r⟩
            rw [ap_if, ap_bnd, t5 s, decide_eq_false (show ¬ ((j : Nat) : Int) = 0 by omega)]
            simp only [Bool.false_eq_true, if_false, ap_tup, ap_callI, List.getElem?_cons_zero, callIR_r, ap_bnd, ap_cons, ap_name, List.getElem?_cons_succ, nameR_d, ap_nil, ap_ret, e]
            rfl) (by rw [rngD_len]; exact r2.le (by omega))
      have hk : 1 + k = 1 ∨ 1 + k = 2 := by omega
      refine ⟨poolD gs, gs.length, (gs.map fun g => g.length - 1).sum, s3, ?_, ?_, r⟩
      · rw [sq_rt (d := poolD gs) (s' := s3)]
        · rfl
        · rw [gi_t c3]
          exact rt_of (tup2_of (ap_C _) (lst_gen e))
      · rcases zip_two (P := fun d g => GrpOk n g ∧ (d ≠ .int 0 → g.length = 1)) hk l p with ⟨a, rfl, h1⟩ | ⟨a, c, rfl, h1, h2⟩
        · refine ⟨.pool _ _ (by simp) (by simp) (by simp [h1.1]), by simp, by simp, ?_⟩
          have := h1.1.2.2
          simp
          omega
        · have z := h2.2 (by simp)
          refine ⟨.pool _ _ (by simp) (by simp) (by simp [h1.1, h2.1]), by simp, by simp, ?_⟩
          have := h1.1.2.2
          simp [z]
          omega
    · have c3 : fAnd (fTest (fBin eqF (fName 3) (fC (.int 1)))) (fTest (fBin geF (fName 2) (fBin subF (fName 1) (fC (.int 1))))) [.raw (.ref sa), .dat (.int (n : Nat)), .dat (.int (room : Nat)), .dat (.int v), .no, .no] s1 = .ok (false, s1) := by
        by_cases z : v = 1
        · refine and_t (by rw [decide_eq_true z] at t1; exact t1) ?_
          rw [decide_eq_false (by omega)] at t3
          exact t3
        · exact and_f (by rw [decide_eq_false z] at t1; exact t1)
      rw [sq_nx ((gi_f c3).trans ap_nx)]
      obtain ⟨rows, s2, e, ⟨p1, p2, p3⟩, r⟩ := mixrows_ok (K := K) (sa := sa) n (by omega) [.raw (.ref sa), .dat (.int (n : Nat)), .dat (.int (room : Nat)), .dat (.int v), .no, .no] 0 4 (fun _ => rfl) rfl 1 (fun _ => rfl) s1 b (r1.le (by omega))
      refine ⟨mixD rows, rows.length, 0, s2, ?_, ⟨.mix _ _ p1 p2 p3, p1, p2, by omega⟩, r⟩
      rw [rt_of e]
      rfl
end
end Sw

set_option Elab.async false
set_option linter.all false
set_option maxRecDepth 100000
set_option maxHeartbeats 1000000
set_option exponentiation.threshold 5000
/-! SwPl: drawn layers are layers. -/
namespace Sw
open PySem PySem.Spec PyProof.Rows L2
theorem dt_int {i : Int} (h : Sm i) : Dt (.int i) := by unfold Dt; exact h
theorem dt_str (x : Str) : Dt (.str x) := by unfold Dt; trivial
theorem dt_fr {q : Rat} (h : Bq q) : Dt (fr q) := Dt.mk (by simp) fun d hd => by
  rcases List.mem_cons.mp hd with rfl | hd
  · exact dt_int (sm_of h.1 (by decide))
  · rcases List.mem_cons.mp hd with rfl | hd
    · exact dt_int (sm_of (k := 1900) (by rw [Int.natAbs_natCast]; exact h.2) (by decide))
    · cases hd
theorem bq_of {D M : Nat} {q : Rat} (h : QB D M q) (hD : D < 2 ^ 90) (hM : M < 2 ^ 90) : Bq q := (h.lq hD hM).bq
theorem dt_vec {w : List Rat} (hl : w.length ≤ 1000) (h : ∀ q ∈ w, Bq q) : Dt (vecD w) := Dt.mk (by simpa using hl) fun d hd => by
  obtain ⟨q, hq, rfl⟩ := List.mem_map.mp hd
  exact dt_fr (h q hq)
theorem dt_two {a b : Da} (ha : Dt a) (hb : Dt b) : Dt (.tup [a, b]) := Dt.mk (by simp) fun d hd => by
  rcases List.mem_cons.mp hd with rfl | hd
  · exact ha
  · rcases List.mem_cons.mp hd with rfl | hd
    · exact hb
    · cases hd
theorem dt_three {a b c : Da} (ha : Dt a) (hb : Dt b) (hc : Dt c) : Dt (.tup [a, b, c]) := Dt.mk (by simp) fun d hd => by
  rcases List.mem_cons.mp hd with rfl | hd
  · exact ha
  · rcases List.mem_cons.mp hd with rfl | hd
    · exact hb
    · rcases List.mem_cons.mp hd with rfl | hd
      · exact hc
      · cases hd
theorem dt_row {n : Nat} (hn : n ≤ 1000) {r : Rw} (h : RowOk n r) : Dt (rowD r) := dt_two (dt_vec (by rw [h.1]; exact hn) fun q hq => bq_of (h.2.1 q hq) (by decide) (by decide)) (dt_fr (bq_of h.2.2 (by decide) (by decide)))
theorem dt_ints {ps : List Int} (hl : ps.length ≤ 1000) (h : ∀ p ∈ ps, p.natAbs < 2 ^ 64) : Dt (intsT ps) := Dt.mk (by simpa using hl) fun d hd => by
  obtain ⟨q, hq, rfl⟩ := List.mem_map.mp hd
  exact dt_int (sm_of (h q hq) (by decide))
theorem siz_fr {D M : Nat} {q : Rat} (w : Int) (h : QB D M q) (hD : (D : Int) ≤ w) (hM : (M : Int) ≤ w) : sizB w (fr q) = true := by
  have h1 := h.num
  have h2 := h.den
  have e1 : decide ((q.num.natAbs : Int) ≤ w) = true := decide_eq_true (by omega)
  have e2 : decide (((q.den : Nat) : Int) ≤ w) = true := decide_eq_true (by omega)
  unfold sizB
  rw [fracB_fr]
  unfold fr
  simp only [e1, e2, Bool.and_self]
theorem pl_len {n : Nat} {ps : List Int} (h : Pl n ps) (hl : ps.length ≤ n) (hn : n ≤ 10) : ps.length ≤ 1000 ∧ ∀ p ∈ ps, p.natAbs < 2 ^ 64 := ⟨by omega, fun p hp => by have := h.2 p hp; omega⟩
theorem pl_places {n : Nat} {ps : List Int} (h : Pl n ps) : placesB (intsT ps) (n : Nat) = true := by
  unfold placesB intsT
  simp only [intsD_map, ddI_eq h.1, decide_true, Bool.and_true, List.all_eq_true]
  intro d hd
  obtain ⟨p, hp, rfl⟩ := List.mem_map.mp hd
  have := h.2 p hp
  have e1 : decide ((0 : Int) ≤ p) = true := decide_eq_true this.1
  have e2 : decide (p ≤ ((n : Nat) : Int) - 1) = true := decide_eq_true (by omega)
  unfold numB
  simp only [e1, e2, Bool.and_self]
theorem ly_all {l : Da} {n m c : Nat} (h : Ly l n m c) (hn : n ≤ 3) : Dt l ∧ layerB l (n : Nat) = true ∧ toldD l (n : Nat) = (m : Nat) ∧ bendsD l = (c : Nat) := by
  cases h with
  | mix rows _ h1 h2 h3 =>
    refine ⟨dt_two (dt_str _) (Dt.mk (by simp; omega) fun d hd => ?_), ?_, ?_, ?_⟩
    · obtain ⟨r, hr, rfl⟩ := List.mem_map.mp hd
      exact dt_row (by omega) (h3 r hr)
    · have hrow : ∀ r ∈ rows, rowB (rowD r) (n : Nat) = true := fun r hr => by
        obtain ⟨a1, a2, a3⟩ := h3 r hr
        have e1 : ∀ q ∈ r.1, sizB W60 (fr q) = true := fun q hq => siz_fr W60 (a2 q hq) (by decide) (by decide)
        simp [rowB, rowD, vecD, a1, siz_fr W60 a3 (by decide) (by decide)]
        exact e1
      have e1 : decide (1 ≤ rows.length) = true := decide_eq_true h1
      have e2 : decide (rows.length ≤ 6) = true := decide_eq_true (by omega)
      have e3 : (rows.map rowD).all (fun d => rowB d (n : Nat)) = true := by
        rw [List.all_eq_true]
        intro d hd
        obtain ⟨r, hr, rfl⟩ := List.mem_map.mp hd
        exact hrow r hr
      simp only [mixD, layerB, s_mr, if_false, List.length_map, e1, e2, Bool.and_self, Bool.true_and, if_true, e3]
    · simp [mixD, toldD]
    · simp [mixD, bendsD]
  | rest ps _ h1 h2 h3 =>
    have hl := pl_len h1 h2 (by omega)
    refine ⟨dt_two (dt_str _) (dt_ints hl.1 hl.2), ?_, ?_, ?_⟩
    · have e := pl_places h1
      have e2 : riseB (ps.map Da.int) = true := by
        unfold riseB
        rw [intsD_map]
        exact decide_eq_true h3.symm
      unfold intsT at e
      simp [restD, layerB, intsT, e, e2]
    · simp [restD, toldD, intsT]
    · simp [restD, bendsD, intsT]
  | pool gs _ h1 h2 h3 =>
    refine ⟨dt_two (dt_str _) (Dt.mk (by simp; omega) fun d hd => ?_), ?_, ?_, ?_⟩
    · obtain ⟨g, hg, rfl⟩ := List.mem_map.mp hd
      have hl := pl_len (h3 g hg).1 (h3 g hg).2.2 (by omega)
      exact dt_ints hl.1 hl.2
    · have e3 : (gs.map intsT).all (groupB (n : Nat)) = true := by
        rw [List.all_eq_true]
        intro d hd
        obtain ⟨g, hg, rfl⟩ := List.mem_map.mp hd
        have e := pl_places (h3 g hg).1
        have ne := (h3 g hg).2.1
        cases g with
        | nil => simp at ne
        | cons a g =>
          unfold groupB
          rw [e]
          rfl
      have e1 : decide (1 ≤ gs.length) = true := decide_eq_true h1
      have e2 : decide (gs.length ≤ 6) = true := decide_eq_true (by omega)
      have e4 : decide (("pool" : Str) = "pool") = true := decide_eq_true rfl
      simp only [poolD, layerB, s_pr, s_pm, if_false, List.length_map, e1, e2, Bool.and_self, Bool.true_and, e3, e4]
      rfl
    · simp [poolD, toldD]
    · simp only [poolD, bendsD, s_pr, if_false, if_true, List.map_map]
      have : ∀ gs : List (List Int), (∀ g ∈ gs, 1 ≤ g.length) → (gs.map ((fun g => lenD g - 1) ∘ intsT)).sum = (((gs.map fun g => g.length - 1).sum : Nat) : Int) := by
        intro gs
        induction gs with
        | nil => intro _; rfl
        | cons g gs ih =>
          intro hg
          have h1 := hg g (by simp)
          rw [List.map_cons, List.map_cons, List.sum_cons, List.sum_cons, ih fun g h => hg g (by simp [h])]
          simp only [Function.comp, intsT, lenD, List.length_map]
          omega
      exact this gs fun g hg => (h3 g hg).2.1
/-- layer by layer -/
inductive Ch : List Da → Nat → Nat → Nat → Prop
  | nil (n : Nat) : Ch [] n n 0
  | cons {l : Da} {ls : List Da} {n m k c d : Nat} : Ly l n m c → n ≤ 3 → Ch ls m k d → Ch (l :: ls) n k (c + d)
theorem Ch.snoc {ls : List Da} {n m k c d : Nat} {l : Da} (h : Ch ls n m c) (hm : m ≤ 3) (hl : Ly l m k d) : Ch (ls ++ [l]) n k (c + d) := by
  induction h with
  | nil n => rw [Nat.zero_add]; exact .cons hl hm (.nil _)
  | cons a b _ ih => rw [Nat.add_assoc]; exact .cons a b (ih hm hl)
theorem Ch.unsnoc {ls : List Da} {n k c : Nat} (h : Ch ls n k c) (hn : n ≤ 3) (hk : k ≤ 3) (ne : ls ≠ []) : ∃ as l m c1 c2, ls = as ++ [l] ∧ Ch as n m c1 ∧ m ≤ 3 ∧ Ly l m k c2 ∧ c1 + c2 = c := by
  induction h with
  | nil => exact absurd rfl ne
  | @cons l ls n m k c d a b h ih =>
    cases ls with
    | nil =>
      cases h
      exact ⟨[], l, n, 0, c, rfl, .nil _, hn, a, by omega⟩
    | cons l2 ls =>
      have hm : m ≤ 3 := by cases h with | cons _ z _ => exact z
      obtain ⟨as, l', m', c1, c2, e, h1, h2, h3, h4⟩ := ih hm hk (by simp)
      exact ⟨l :: as, l', m', c + c1, c2, by rw [e]; rfl, .cons a b h1, h2, h3, by omega⟩
theorem Ch.chain {ls : List Da} {n k c : Nat} (h : Ch ls n k c) : ∀ b : Int, chainR ls (n : Nat) b = some (((k : Nat) : Int), b + (c : Nat)) := by
  induction h with
  | nil => intro b; simp [chainR]
  | @cons l ls n m k c d a hn h ih =>
    intro b
    obtain ⟨_, h2, h3, h4⟩ := ly_all a hn
    unfold chainR
    rw [if_pos h2, h3, h4, ih]
    congr 2
    omega
theorem Ch.dt {ls : List Da} {n k c : Nat} (h : Ch ls n k c) : ∀ l ∈ ls, Dt l := by
  induction h with
  | nil => simp
  | cons a hn _ ih =>
    intro l hl
    rcases List.mem_cons.mp hl with rfl | hl
    · exact (ly_all a hn).1
    · exact ih l hl
def netD (i : Nat) (ls : List Da) : Da := .tup [.int (i : Nat), .tup ls]
theorem Ch.net {ls : List Da} {i k c : Nat} (h : Ch ls i k c) (hi : 1 ≤ i ∧ i ≤ 3) (hl : ls.length ≤ 8) (hc : c ≤ 10) : Dt (netD i ls) ∧ netB (netD i ls) = true ∧ chainR ls ((i : Nat) : Int) 0 = some (((k : Nat) : Int), ((c : Nat) : Int)) := by
  have e := h.chain 0
  rw [Int.zero_add] at e
  refine ⟨dt_two (dt_int (sm_of (k := 64) (by omega) (by decide))) (Dt.mk (by omega) h.dt), ?_, e⟩
  have e1 : decide ((1 : Int) ≤ (i : Nat)) = true := decide_eq_true (by omega)
  have e2 : decide (((i : Nat) : Int) ≤ 4) = true := decide_eq_true (by omega)
  have e3 : decide (ls.length ≤ 8) = true := decide_eq_true hl
  have e4 : decide (((c : Nat) : Int) ≤ 10) = true := decide_eq_true (by omega)
  simp only [netD, netB, e1, e2, e3, e, e4, Bool.and_self]
end Sw

set_option Elab.async false
set_option linter.all false
set_option maxRecDepth 100000
set_option maxHeartbeats 1000000
set_option exponentiation.threshold 5000
/-! SwPm: nets drawn. -/
namespace Sw
open PySem PySem.Spec PyProof.Rows L2
theorem for_of {S : Type} {it : Ev → Fx S (List Da)} {h : Ev → Da → Option Ev} {g : Sx S} {ρ : Ev} {s s1 : S} {ds : List Da} (e : it ρ s = .ok (ds, s1)) : gFor it h g ρ s = forF h g ds ρ s1 := by
  unfold gFor
  rw [e]
theorem for_cons {S : Type} {h : Ev → Da → Option Ev} {g : Sx S} {ρ ρ1 ρ2 : Ev} {s s2 : S} {d : Da} {ds : List Da} (e : h ρ d = some ρ1) (e2 : g ρ1 s = .nx ρ2 s2) : forF h g (d :: ds) ρ s = forF h g ds ρ2 s2 := by
  rw [forF, e]
  simp only [e2]
theorem for_ct {S : Type} {h : Ev → Da → Option Ev} {g : Sx S} {ρ ρ1 ρ2 : Ev} {s s2 : S} {d : Da} {ds : List Da} (e : h ρ d = some ρ1) (e2 : g ρ1 s = .ct ρ2 s2) : forF h g (d :: ds) ρ s = forF h g ds ρ2 s2 := by
  rw [forF, e]
  simp only [e2]
section
variable {K : PySem.W.Frag} {sa : Addr}
theorem bends_ok {l : Da} {n m c : Nat} (h : Ly l n m c) (hn : n ≤ 3) : F_law_v_bends K [l] = .ok (.int (c : Nat)) := by
  have hb := (ly_all h hn).2.2.2
  have hd := (ly_all h hn).1
  rw [E_law_v_bends]
  cases h with
  | mix rows _ h1 h2 h3 => simp [g_law_v_bends, mixD, ix0, ix1]
  | rest ps _ h1 h2 h3 => simp [g_law_v_bends, restD, ix0, ix1, intsT]
  | pool gs _ h1 h2 h3 =>
    have hc := comp_ints (S := Unit) (it := fIt (fBin ixF (fName 0) (fC (.int 1)))) (h := hName 1) (f := fBin subF (fApp lenF (fCons (fName 1) (fNil))) (fC (.int 1))) (vs := [1]) (ρ := [.dat (poolD gs), .no]) (s := ()) (ds := gs.map intsT) (fun g => lenD g - 1) (by simp [poolD, ix1]) (by simp; omega)
      fun g hg' => ⟨_, rfl, by
        obtain ⟨g, _, rfl⟩ := List.mem_map.mp hg'
        simp [hName, wipeE, lenD, intsT]⟩
    have e : bendsD (poolD gs) = ((gs.map intsT).map fun g => lenD g - 1).sum := by simp [poolD, bendsD]
    rw [e] at hb
    have ei : ixF (poolD gs) (.int 0) = some (.str "pool") := ix0 _ _
    simp [-List.map_map, g_law_v_bends, hc, ei, hb]
def netLoopB (K : PySem.W.Frag) (sa : Addr) : Sx Dr := gSeq (gSet 8 (fCallI sa 0 (F_law_v_layer_for K sa) (fCons (fName 6) (fCons (fName 7) (fNil))))) (gSeq (gApp 5 (fName 8)) (gSeq (gSet 7 (fBin subF (fName 7) (fCall (F_law_v_bends K) (fCons (fName 8) (fNil))))) (gSet 6 (fIf (fTest (fBin eqF (fBin ixF (fName 8) (fC (.int 0))) (fC (.str "rest")))) (fName 6) (fApp lenF (fCons (fBin ixF (fName 8) (fC (.int 1))) (fNil)))))))
theorem wid_ok {l : Da} {n m c : Nat} (h : Ly l n m c) {ρ : Ev} {s : Dr} (e6 : ρ[6]? = some (.dat (.int (n : Nat)))) (e8 : ρ[8]? = some (.dat l)) : fIf (fTest (fBin eqF (fBin ixF (fName 8) (fC (.int 0))) (fC (.str "rest")))) (fName 6) (fApp lenF (fCons (fBin ixF (fName 8) (fC (.int 1))) (fNil))) ρ s = .ok (.int (m : Nat), s) := by
  cases h with
  | mix rows _ h1 h2 h3 => simp [e6, e8, mixD, ix0, ix1]
  | rest ps _ h1 h2 h3 => simp [e6, e8, restD, ix0, ix1]
  | pool gs _ h1 h2 h3 => simp [e6, e8, poolD, ix0, ix1]
theorem net_lp (i : Da) (x1 x2 x3 : Sl) (n0 room0 : Nat) (hr0 : room0 ≤ 4) : ∀ (ds : List Da) (ls : List Da) (n c : Nat) (x4 x8 : Sl) (s : Dr) (b : Nat), Ch ls n0 n c → 1 ≤ n → n ≤ 3 → c ≤ room0 → ls.length + ds.length ≤ 8 → Roomy (b + 40 * ds.length) s →
    ∃ (ls' : List Da) (n' c' : Nat) (x4' x8' : Sl) (s' : Dr), forF (hName 4) (netLoopB K sa) ds [.raw (.ref sa), x1, x2, x3, x4, .own ls, .dat (.int (n : Nat)), .dat (.int ((room0 - c : Nat) : Int)), x8] s = .nx [.raw (.ref sa), x1, x2, x3, x4', .own ls', .dat (.int (n' : Nat)), .dat (.int ((room0 - c' : Nat) : Int)), x8'] s' ∧ Ch ls' n0 n' c' ∧ 1 ≤ n' ∧ n' ≤ 3 ∧ c' ≤ room0 ∧ ls'.length = ls.length + ds.length ∧ Roomy b s'
  | [], ls, n, c, x4, x8, s, b, h, h1, h2, h3, h4, hr => ⟨ls, n, c, x4, x8, s, rfl, h, h1, h2, h3, rfl, hr⟩
  | d :: ds, ls, n, c, x4, x8, s, b, h, h1, h2, h3, h4, hr => by
    rw [List.length_cons] at h4 hr
    obtain ⟨l, m, k, s1, e1, ⟨p1, p2, p3, p4⟩, r1⟩ := layer_for_ok (K := K) (sa := sa) n ⟨h1, h2⟩ (room0 - c) (by omega) s (b + 40 * ds.length) (hr.le (by omega))
    obtain ⟨ls', n', c', x4', x8', s', e2, q1, q2, q3, q4, q5, r2⟩ := net_lp i x1 x2 x3 n0 room0 hr0 ds (ls ++ [l]) m (c + k) (.dat d) (.dat l) s1 b (h.snoc h2 p1) p2 p3 (by omega) (by rw [List.length_append, List.length_singleton]; omega) r1
    refine ⟨ls', n', c', x4', x8', s', ?_, q1, q2, q3, q4, by rw [q5, List.length_append, List.length_singleton, List.length_cons]; omega, r2⟩
    have step : netLoopB K sa [.raw (.ref sa), x1, x2, x3, .dat d, .own ls, .dat (.int (n : Nat)), .dat (.int ((room0 - c : Nat) : Int)), x8] s = .nx [.raw (.ref sa), x1, x2, x3, .dat d, .own (ls ++ [l]), .dat (.int (m : Nat)), .dat (.int ((room0 - (c + k) : Nat) : Int)), .dat l] s1 := by
      have a1 : gSet 8 (fCallI sa 0 (F_law_v_layer_for K sa) (fCons (fName 6) (fCons (fName 7) (fNil)))) [.raw (.ref sa), x1, x2, x3, .dat d, .own ls, .dat (.int (n : Nat)), .dat (.int ((room0 - c : Nat) : Int)), x8] s = .nx [.raw (.ref sa), x1, x2, x3, .dat d, .own ls, .dat (.int (n : Nat)), .dat (.int ((room0 - c : Nat) : Int)), .dat l] s1 := by
        refine set_of ?_
        rw [ap_callI]
        simp only [List.getElem?_cons_zero, callIR_r, ap_bnd, ap_cons, ap_name, List.getElem?_cons_succ, nameR_d, ap_nil, ap_ret, e1]
      have a2 : gApp 5 (fName 8) [.raw (.ref sa), x1, x2, x3, .dat d, .own ls, .dat (.int (n : Nat)), .dat (.int ((room0 - c : Nat) : Int)), .dat l] s1 = .nx [.raw (.ref sa), x1, x2, x3, .dat d, .own (ls ++ [l]), .dat (.int (n : Nat)), .dat (.int ((room0 - c : Nat) : Int)), .dat l] s1 := by
        have la : ls.length < 1000000 := by omega
        simp [gApp, la]
      have a3 : gSet 7 (fBin subF (fName 7) (fCall (F_law_v_bends K) (fCons (fName 8) (fNil)))) [.raw (.ref sa), x1, x2, x3, .dat d, .own (ls ++ [l]), .dat (.int (n : Nat)), .dat (.int ((room0 - c : Nat) : Int)), .dat l] s1 = .nx [.raw (.ref sa), x1, x2, x3, .dat d, .own (ls ++ [l]), .dat (.int (n : Nat)), .dat (.int ((room0 - (c + k) : Nat) : Int)), .dat l] s1 := by
        have bo := bends_ok (K := K) p1 h2
        have ee : ((room0 - c : Nat) : Int) - (k : Nat) = ((room0 - (c + k) : Nat) : Int) := by omega
        simp [bo, ee]
      unfold netLoopB
      rw [sq_nx a1, sq_nx a2, sq_nx a3]
      exact set_of (wid_ok p1 rfl rfl)
    unfold forF
    simp only [hName, List.set_cons_succ, List.set_cons_zero, step]
    exact e2
theorem net_ok (i : Nat) (hi : 1 ≤ i ∧ i ≤ 3) (m : Nat) (hm : 1 ≤ m ∧ m ≤ 3) (s : Dr) (b : Nat) (h : Roomy (b + 40 * m) s) :
    ∃ (ls : List Da) (n c : Nat) (s' : Dr), F_law_v_net K sa [.int (i : Nat), .int (m : Nat), .int 4] s = .ok (netD i ls, s') ∧ (Ch ls i n c ∧ 1 ≤ n ∧ n ≤ 3 ∧ c ≤ 4 ∧ ls.length = m) ∧ Roomy b s' := by
  obtain ⟨ls, n, c, x4, x8, s', e, q1, q2, q3, q4, q5, r⟩ := net_lp (K := K) (sa := sa) .non (.dat (.int (i : Nat))) (.dat (.int (m : Nat))) (.dat (.int 4)) i 4 (by decide) (rngD 0 m) [] i 0 .no .no s b (.nil _) hi.1 hi.2 (by decide) (by rw [rngD_len]; simp; omega) (by rw [rngD_len]; exact h)
  refine ⟨ls, n, c, s', ?_, ⟨q1, q2, q3, q4, by rw [q5, rngD_len]; simp⟩, r⟩
  rw [E_law_v_net]
  unfold g_law_v_net
  have g1 : gParM3 5 6 7 (mOwn (fNil) (mDat (fName 1) (mDat (fName 3) (mNil)))) [.raw (.ref sa), .dat (.int (i : Nat)), .dat (.int (m : Nat)), .dat (.int 4), .no, .no, .no, .no, .no] s = .nx [.raw (.ref sa), .dat (.int (i : Nat)), .dat (.int (m : Nat)), .dat (.int 4), .no, .own [], .dat (.int (i : Nat)), .dat (.int ((4 - 0 : Nat) : Int)), .no] s := by
    simp [gParM3, mOwn, mDat, mNil]
  rw [sq_nx g1]
  have g2 : gFor (fRng1 (fCons (fName 2) (fNil))) (hName 4) (netLoopB K sa) [.raw (.ref sa), .dat (.int (i : Nat)), .dat (.int (m : Nat)), .dat (.int 4), .no, .own [], .dat (.int (i : Nat)), .dat (.int ((4 - 0 : Nat) : Int)), .no] s = .nx [.raw (.ref sa), .dat (.int (i : Nat)), .dat (.int (m : Nat)), .dat (.int 4), x4, .own ls, .dat (.int (n : Nat)), .dat (.int ((4 - c : Nat) : Int)), x8] s' := by
    have hit : fRng1 (fCons (fName 2) (fNil)) [.raw (.ref sa), .dat (.int (i : Nat)), .dat (.int (m : Nat)), .dat (.int 4), .no, .own [], .dat (.int (i : Nat)), .dat (.int ((4 - 0 : Nat) : Int)), .no] s = .ok (rngD 0 m, s) := rng_nat _ m s (by simp) (by omega)
    exact (for_of hit).trans e
  unfold netLoopB at g2
  rw [sq_nx g2]
  have g3 : fTup (fCons (fName 1) (fCons (fApp tupF (fCons (fNameO 5) (fNil))) (fNil))) [.raw (.ref sa), .dat (.int (i : Nat)), .dat (.int (m : Nat)), .dat (.int 4), x4, .own ls, .dat (.int (n : Nat)), .dat (.int ((4 - c : Nat) : Int)), x8] s' = .ok (netD i ls, s') := by simp [netD]
  rw [rt_of g3, ap_finI_r]
end
end Sw

set_option Elab.async false
set_option linter.all false
set_option maxRecDepth 100000
set_option maxHeartbeats 1000000
set_option exponentiation.threshold 5000
/-! SwPn: sums of products; what layers tell. -/
namespace Sw
open PySem PySem.Spec PyProof.Rows L2
def dot : List Rat → List Rat → Rat
  | w :: ws, x :: xs => w * x + dot ws xs
  | _, _ => 0
theorem qb_dot {D E M N : Nat} (hD : 0 < D) (hE : 0 < E) : ∀ (ws xs : List Rat), (∀ w ∈ ws, QB D M w) → (∀ x ∈ xs, QB E N x) → QB (D * E) (ws.length * (M * N)) (dot ws xs)
  | [], xs, _, _ => by simpa [dot] using QB.zero (Nat.mul_pos hD hE)
  | w :: ws, [], _, _ => by
    unfold dot
    exact QB.zero (Nat.mul_pos hD hE)
  | w :: ws, x :: xs, hw, hx => by
    have ih := qb_dot hD hE ws xs (fun w h => hw w (by simp [h])) (fun x h => hx x (by simp [h]))
    have := ((hw w (by simp)).mul (hx x (by simp))).add ih
    unfold dot
    rw [List.length_cons, Nat.succ_mul, Nat.add_comm]
    exact this
def zipH : Ev → Da → Option Ev := hTup (hCons (hName 4) (hCons (hName 5) (hNil)))
theorem zipH_ap (a b c d x y : Sl) (p q : Da) : zipH [a, b, c, d, x, y] (.tup [p, q]) = some [a, b, c, d, .dat p, .dat q] := rfl
section
variable {K : PySem.W.Frag}
def vsumB (K : PySem.W.Frag) : Sx Unit := gSet 3 (fCall (F_law_v_plus K) (fCons (fName 3) (fCons (fCall (F_law_v_by K) (fCons (fName 4) (fCons (fName 5) (fNil)))) (fNil))))
theorem vsum_loop (a b c : Sl) {D E M N : Nat} (hD : 0 < D) (hE : 0 < E) (hm : M < 2 ^ 90 ∧ N < 2 ^ 90 ∧ D * E < 2 ^ 90) : ∀ (ws xs : List Rat) (acc : Rat) (L : Nat) (x4 x5 : Sl), (∀ w ∈ ws, QB D M w) → (∀ x ∈ xs, QB E N x) → QB (D * E) L acc → L + ws.length * (M * N) < 2 ^ 90 → M * N < 2 ^ 90 →
    ∃ x4' x5', forF zipH (vsumB K) (zipD (ws.map fr) (xs.map fr)) [a, b, c, .dat (fr acc), x4, x5] () = .nx [a, b, c, .dat (fr (acc + dot ws xs)), x4', x5'] ()
  | [], xs, acc, L, x4, x5, _, _, _, _, _ => ⟨x4, x5, by rw [show dot [] xs = 0 from rfl, Rat.add_zero]; rfl⟩
  | w :: ws, [], acc, L, x4, x5, _, _, _, _, _ => ⟨x4, x5, by rw [show dot (w :: ws) [] = 0 from rfl, Rat.add_zero]; rfl⟩
  | w :: ws, x :: xs, acc, L, x4, x5, hw, hx, ha, hl, hp => by
    rw [List.length_cons, Nat.succ_mul] at hl
    have qw := hw w (by simp)
    have qx := hx x (by simp)
    have hDl : D < 2 ^ 90 := Nat.lt_of_le_of_lt (Nat.le_mul_of_pos_right D hE) hm.2.2
    have hEl : E < 2 ^ 90 := Nat.lt_of_le_of_lt (Nat.le_mul_of_pos_left E hD) hm.2.2
    have q1 := qw.mul qx
    have q2 := ha.add q1
    have e1 := r_law_v_by (K := K) (qw.lq hDl hm.1) (qx.lq hEl hm.2.1)
    have e2 := r_law_v_plus (K := K) (ha.lq hm.2.2 (by omega)) (q1.lq hm.2.2 hp)
    obtain ⟨x4', x5', ih⟩ := vsum_loop a b c hD hE hm ws xs (acc + w * x) (L + M * N) (.dat (fr w)) (.dat (fr x)) (fun w h => hw w (by simp [h])) (fun x h => hx x (by simp [h])) q2 (by omega) hp
    refine ⟨x4', x5', ?_⟩
    have step : vsumB K [a, b, c, .dat (fr acc), .dat (fr w), .dat (fr x)] () = .nx [a, b, c, .dat (fr (acc + w * x)), .dat (fr w), .dat (fr x)] () := by
      refine set_of ?_
      simp [e1, e2]
    have ez : zipD ((w :: ws).map fr) ((x :: xs).map fr) = .tup [fr w, fr x] :: zipD (ws.map fr) (xs.map fr) := rfl
    rw [ez, for_cons (zipH_ap a b c _ x4 x5 (fr w) (fr x)) step, ih]
    rw [show dot (w :: ws) (x :: xs) = w * x + dot ws xs from rfl, Rat.add_assoc]
theorem zip_ap {S : Type} {ρ : Ev} {s : S} {d e : Da} {xs ys : List Da} {f g : Ev → Fx S Da} (h : f ρ s = .ok (d, s)) (h2 : g ρ s = .ok (e, s)) (i1 : itemsD d = some xs) (i2 : itemsD e = some ys) : fZip (fCons f (fCons g (fNil))) ρ s = .ok (zipD xs ys, s) := by
  unfold fZip
  rw [ap_bnd, ap_cons, ap_bnd, h]
  simp only [ap_bnd, ap_cons, h2, ap_nil, ap_ret, i1, i2]
theorem r_law_v_sum {D E M N L : Nat} (hD : 0 < D) (hE : 0 < E) {ws xs : List Rat} {acc : Rat} (hw : ∀ w ∈ ws, QB D M w) (hx : ∀ x ∈ xs, QB E N x) (ha : QB (D * E) L acc) (hm : M < 2 ^ 90 ∧ N < 2 ^ 90 ∧ D * E < 2 ^ 90) (hl : L + ws.length * (M * N) < 2 ^ 90) (hp : M * N < 2 ^ 90) :
    F_law_v_sum K [vecD ws, vecD xs, fr acc] = .ok (fr (acc + dot ws xs)) := by
  obtain ⟨x4', x5', e⟩ := vsum_loop (K := K) (.dat (vecD ws)) (.dat (vecD xs)) (.dat (fr acc)) hD hE hm ws xs acc L .no .no hw hx ha hl hp
  rw [E_law_v_sum]
  unfold g_law_v_sum
  have g1 : gSet (S := Unit) 3 (fName 2) [.dat (vecD ws), .dat (vecD xs), .dat (fr acc), .no, .no, .no] () = .nx [.dat (vecD ws), .dat (vecD xs), .dat (fr acc), .dat (fr acc), .no, .no] () := set_of (by simp)
  have hz : fZip (S := Unit) (fCons (fName 0) (fCons (fName 1) (fNil))) [.dat (vecD ws), .dat (vecD xs), .dat (fr acc), .dat (fr acc), .no, .no] () = .ok (zipD (ws.map fr) (xs.map fr), ()) := zip_ap (by simp; rfl) (by simp; rfl) rfl rfl
  have g2 := (for_of (h := zipH) (g := vsumB K) hz).trans e
  unfold zipH vsumB at g2
  rw [sq_nx g1, sq_nx g2, rt_of (d := fr (acc + dot ws xs)) (s' := ()) (by simp), ap_finD_r]
def psumB (K : PySem.W.Frag) : Sx Unit := gIf (fAnd (fTest (fBin neF (fBin ixF (fName 4) (fC (.int 0))) (fC (.int 0)))) (fTest (fBin neF (fBin ixF (fName 5) (fC (.int 0))) (fC (.int 0))))) (gSet 3 (fCall (F_plus K) (fCons (fName 3) (fCons (fCall (F_by K) (fCons (fName 4) (fCons (fName 5) (fNil)))) (fNil))))) (gNx)
theorem psum_loop (a b c : Sl) {D E M N : Nat} (hD : 0 < D) (hE : 0 < E) (hm : M < 2 ^ 90 ∧ N < 2 ^ 90 ∧ D * E < 2 ^ 90) : ∀ (ws xs : List Rat) (acc : Rat) (L : Nat) (x4 x5 : Sl), (∀ w ∈ ws, QB D M w) → (∀ x ∈ xs, QB E N x) → QB (D * E) L acc → L + ws.length * (M * N) < 2 ^ 90 → M * N < 2 ^ 90 →
    ∃ x4' x5', forF zipH (psumB K) (zipD (ws.map fr) (xs.map fr)) [a, b, c, .dat (fr acc), x4, x5] () = .nx [a, b, c, .dat (fr (acc + dot ws xs)), x4', x5'] ()
  | [], xs, acc, L, x4, x5, _, _, _, _, _ => ⟨x4, x5, by rw [show dot [] xs = 0 from rfl, Rat.add_zero]; rfl⟩
  | w :: ws, [], acc, L, x4, x5, _, _, _, _, _ => ⟨x4, x5, by rw [show dot (w :: ws) [] = 0 from rfl, Rat.add_zero]; rfl⟩
  | w :: ws, x :: xs, acc, L, x4, x5, hw, hx, ha, hl, hp => by
    rw [List.length_cons, Nat.succ_mul] at hl
    have qw := hw w (by simp)
    have qx := hx x (by simp)
    have hDl : D < 2 ^ 90 := Nat.lt_of_le_of_lt (Nat.le_mul_of_pos_right D hE) hm.2.2
    have hEl : E < 2 ^ 90 := Nat.lt_of_le_of_lt (Nat.le_mul_of_pos_left E hD) hm.2.2
    have q1 := qw.mul qx
    have q2 := ha.add q1
    have e1 := r_by (K := K) (qw.lq hDl hm.1).bq (qx.lq hEl hm.2.1).bq
    have e2 := r_plus (K := K) (ha.lq hm.2.2 (by omega)).bq (q1.lq hm.2.2 hp).bq
    obtain ⟨x4', x5', ih⟩ := psum_loop a b c hD hE hm ws xs (acc + w * x) (L + M * N) (.dat (fr w)) (.dat (fr x)) (fun w h => hw w (by simp [h])) (fun x h => hx x (by simp [h])) q2 (by omega) hp
    refine ⟨x4', x5', ?_⟩
    have step : psumB K [a, b, c, .dat (fr acc), .dat (fr w), .dat (fr x)] () = .nx [a, b, c, .dat (fr (acc + w * x)), .dat (fr w), .dat (fr x)] () := by
      by_cases z1 : w.num = 0
      · have w0 : w = 0 := Rat.num_eq_zero.mp z1
        have ez : acc + w * x = acc := by rw [w0, Rat.zero_mul, Rat.add_zero]
        rw [ez]
        simp [psumB, fr0, z1]
      · by_cases z2 : x.num = 0
        · have w0 : x = 0 := Rat.num_eq_zero.mp z2
          have ez : acc + w * x = acc := by rw [w0, Rat.mul_zero, Rat.add_zero]
          rw [ez]
          simp [psumB, fr0, z1, z2]
        · simp [psumB, fr0, z1, z2, e1, e2]
    have ez : zipD ((w :: ws).map fr) ((x :: xs).map fr) = .tup [fr w, fr x] :: zipD (ws.map fr) (xs.map fr) := rfl
    rw [ez, for_cons (zipH_ap a b c _ x4 x5 (fr w) (fr x)) step, ih]
    rw [show dot (w :: ws) (x :: xs) = w * x + dot ws xs from rfl, Rat.add_assoc]
theorem r_sum_of {D E M N L : Nat} (hD : 0 < D) (hE : 0 < E) {ws xs : List Rat} {acc : Rat} (hw : ∀ w ∈ ws, QB D M w) (hx : ∀ x ∈ xs, QB E N x) (ha : QB (D * E) L acc) (hm : M < 2 ^ 90 ∧ N < 2 ^ 90 ∧ D * E < 2 ^ 90) (hl : L + ws.length * (M * N) < 2 ^ 90) (hp : M * N < 2 ^ 90) :
    F_sum_of K [vecD ws, .lst (xs.map fr), fr acc] = .ok (fr (acc + dot ws xs)) := by
  obtain ⟨x4', x5', e⟩ := psum_loop (K := K) (.dat (vecD ws)) (.dat (.lst (xs.map fr))) (.dat (fr acc)) hD hE hm ws xs acc L .no .no hw hx ha hl hp
  rw [E_sum_of]
  unfold g_sum_of
  have g1 : gSet (S := Unit) 3 (fName 2) [.dat (vecD ws), .dat (.lst (xs.map fr)), .dat (fr acc), .no, .no, .no] () = .nx [.dat (vecD ws), .dat (.lst (xs.map fr)), .dat (fr acc), .dat (fr acc), .no, .no] () := set_of (by simp)
  have hz : fZip (S := Unit) (fCons (fName 0) (fCons (fName 1) (fNil))) [.dat (vecD ws), .dat (.lst (xs.map fr)), .dat (fr acc), .dat (fr acc), .no, .no] () = .ok (zipD (ws.map fr) (xs.map fr), ()) := zip_ap (by simp; rfl) (by simp; rfl) rfl rfl
  have g2 := (for_of (h := zipH) (g := psumB K) hz).trans e
  unfold zipH psumB at g2
  rw [sq_nx g1, sq_nx g2, rt_of (d := fr (acc + dot ws xs)) (s' := ()) (by simp), ap_finD_r]
end
end Sw

set_option Elab.async false
set_option linter.all false
set_option maxRecDepth 100000
set_option maxHeartbeats 1000000
set_option exponentiation.threshold 5000
/-! SwPo: what layers and nets tell. -/
namespace Sw
open PySem PySem.Spec PyProof.Rows L2
theorem compF_enc {S α : Type} {h : Ev → Da → Option Ev} {f : Ev → Fx S Da} {ρ : Ev} {s : S} (enc : α → Da) (res : α → Da) : ∀ (as : List α), (∀ a ∈ as, ∃ ρ1, h ρ (enc a) = some ρ1 ∧ f ρ1 s = .ok (res a, s)) → compF h fTrue f ρ (as.map enc) s = .ok (as.map res, s)
  | [], _ => rfl
  | a :: as, H => by
    obtain ⟨ρ1, e1, e2⟩ := H a (by simp)
    have ih := compF_enc (h := h) (f := f) (ρ := ρ) (s := s) enc res as fun a ha => H a (by simp [ha])
    rw [List.map_cons]
    unfold compF
    rw [e1]
    simp [e2, ih]
theorem comp_enc {S α : Type} {it : Ev → Fx S (List Da)} {h : Ev → Da → Option Ev} {f : Ev → Fx S Da} {vs : List Nat} {ρ : Ev} {s s0 : S} (enc : α → Da) (res : α → Da) (as : List α) (hit : it ρ s0 = .ok (as.map enc, s)) (hl : as.length ≤ 1000)
    (H : ∀ a ∈ as, ∃ ρ1, h (wipeE ρ vs) (enc a) = some ρ1 ∧ f ρ1 s = .ok (res a, s)) : fComp it h fTrue f vs ρ s0 = .ok (as.map res, s) := by
  unfold fComp
  rw [ap_bnd, hit]
  simp only [List.length_map, if_pos (line_big _ (m_le hl)), noEr, compF_enc enc res as H]
theorem compF_ex {S α : Type} {h : Ev → Da → Option Ev} {f : Ev → Fx S Da} {ρ : Ev} {s : S} (enc : α → Da) (P : α → Prop) : ∀ (ds : List Da), (∀ d ∈ ds, ∃ ρ1 a, h ρ d = some ρ1 ∧ f ρ1 s = .ok (enc a, s) ∧ P a) → ∃ as : List α, compF h fTrue f ρ ds s = .ok (as.map enc, s) ∧ as.length = ds.length ∧ ∀ a ∈ as, P a
  | [], _ => ⟨[], rfl, rfl, by simp⟩
  | d :: ds, H => by
    obtain ⟨ρ1, a, e1, e2, p⟩ := H d (by simp)
    obtain ⟨as, e3, l, ps⟩ := compF_ex (h := h) (f := f) (ρ := ρ) (s := s) enc P ds fun d hd => H d (by simp [hd])
    refine ⟨a :: as, ?_, by simp [l], fun x hx => ?_⟩
    · unfold compF
      rw [e1]
      simp [e2, e3]
    · rcases List.mem_cons.mp hx with rfl | hx
      · exact p
      · exact ps x hx
theorem comp_ex {S α : Type} {it : Ev → Fx S (List Da)} {h : Ev → Da → Option Ev} {f : Ev → Fx S Da} {vs : List Nat} {ρ : Ev} {s s0 : S} {ds : List Da} (enc : α → Da) (P : α → Prop) (hit : it ρ s0 = .ok (ds, s)) (hl : ds.length ≤ 1000)
    (H : ∀ d ∈ ds, ∃ ρ1 a, h (wipeE ρ vs) d = some ρ1 ∧ f ρ1 s = .ok (enc a, s) ∧ P a) : ∃ as : List α, fComp it h fTrue f vs ρ s0 = .ok (as.map enc, s) ∧ as.length = ds.length ∧ ∀ a ∈ as, P a := by
  obtain ⟨as, e, l, p⟩ := compF_ex enc P ds H
  refine ⟨as, ?_, l, p⟩
  unfold fComp
  rw [ap_bnd, hit]
  simp only [if_pos (line_big _ (m_le hl)), noEr, e]
theorem lst_gen' {S : Type} {ρ : Ev} {s s' : S} {ds : List Da} {f : Ev → Fx S (List Da)} (e : f ρ s = .ok (ds, s')) : fApp tupF (fCons (fLst f) (fNil)) ρ s = .ok (.tup ds, s') := by simp [e]
theorem flat_ints : ∀ ps : List Int, flatDs (ps.map Da.int) = some (ps.map V.int)
  | [] => rfl
  | p :: ps => by
    show (match scaV (.int p), flatDs (ps.map Da.int) with
      | some v, some vs => some (v :: vs)
      | _, _ => none) = _
    rw [flat_ints ps]
    rfl
theorem in_ints (k : Int) (ps : List Int) : ∃ b, inF (.int k) (intsT ps) = some (.bl b) := by
  refine ⟨inV (.int k) (ps.map V.int), ?_⟩
  show (inB _ _).map _ = _
  have e : inB (.int k) (intsT ps) = some (inV (.int k) (ps.map V.int)) := by
    show (match scaV (.int k), flatDs (ps.map Da.int) with
      | some x, some xs => some (inV x xs)
      | _, _ => none) = _
    rw [flat_ints]
    rfl
  rw [e]
  rfl
theorem ix_vec {x : List Rat} {p : Int} (h : 0 ≤ p ∧ p < (x.length : Nat)) : ∃ q, ixF (vecD x) (.int p) = some (fr q) ∧ q ∈ x := by
  have hk : p.toNat < x.length := by omega
  refine ⟨x[p.toNat], ?_, List.getElem_mem _⟩
  show atI (x.map fr) p = _
  have e : p = ((p.toNat : Nat) : Int) := by omega
  have e2 : atI (x.map fr) p = (x.map fr)[p.toNat]? := (congrArg (atI (x.map fr)) e).trans (atI_k _ _)
  rw [e2, List.getElem?_map, List.getElem?_eq_getElem hk]
  rfl
theorem enum_mem : ∀ (x : List Rat) (k : Nat) (d : Da), d ∈ enumD k (x.map fr) → ∃ (j : Nat) (q : Rat), d = .tup [.int (j : Nat), fr q] ∧ q ∈ x
  | [], _, _, h => by cases h
  | q :: x, k, d, h => by
    unfold enumD at h
    rcases List.mem_cons.mp h with rfl | h
    · exact ⟨k, q, rfl, by simp⟩
    · obtain ⟨j, q', e, m⟩ := enum_mem x (k + 1) d h
      exact ⟨j, q', e, by simp [m]⟩
theorem cut1 (a : Da) (ds : List Da) : slF (.tup (a :: ds)) (some 1) none = some (.tup ds) := by
  show some (Da.tup (cutD _ _ _)) = _
  unfold cutD
  have e : HT.sIx (a :: ds).length 0 (some 1) = 1 := by
    have := HT.sIx_nat (a :: ds).length 0 1
    rw [show ((1 : Nat) : Int) = 1 from rfl] at this
    rw [this, List.length_cons]
    omega
  rw [e, HT.sIx_none]
  simp
section
variable {K : PySem.W.Frag}
theorem mix_val {n : Nat} {rows : List Rw} {x : List Rat} {D M : Nat} (hr : ∀ r ∈ rows, RowOk n r) (hl : rows.length ≤ 3) (hn : n ≤ 3) (hx : ∀ q ∈ x, QB D M q) (hD : 0 < D) (hb : 6 * D < 2 ^ 80 ∧ M < 2 ^ 80) :
    F_law_v_layer K [mixD rows, vecD x] = .ok (vecD (rows.map fun r => r.2 + dot r.1 x)) := by
  have hit : fIt (S := Unit) (fBin ixF (fName 0) (fC (.int 1))) [.dat (mixD rows), .dat (vecD x), .no, .no, .no, .no, .no, .no, .no, .no] () = .ok (rows.map rowD, ()) := by
    have : ixF (mixD rows) (.int 1) = some (.tup (rows.map rowD)) := ix1 _ _ _
    simp [this]
  have hc := comp_enc (S := Unit) (h := hTup (hCons (hName 6) (hCons (hName 7) (hNil)))) (f := fCall (F_law_v_sum K) (fCons (fName 6) (fCons (fName 1) (fCons (fName 7) (fNil))))) (vs := [6, 7]) rowD (fun r => fr (r.2 + dot r.1 x)) rows hit (by omega) fun r hr' => by
    obtain ⟨a1, a2, a3⟩ := hr r hr'
    refine ⟨[.dat (mixD rows), .dat (vecD x), .no, .no, .no, .no, .dat (vecD r.1), .dat (fr r.2), .no, .no], rfl, ?_⟩
    have l1 : r.1.length * (18 * M) ≤ 3 * (18 * M) := Nat.mul_le_mul_right _ (by omega)
    have e := r_law_v_sum (K := K) (ws := r.1) (xs := x) (acc := r.2) (D := 6) (E := D) (M := 18) (N := M) (L := 18 * D) (by decide) hD a2 hx (a3.raise D hD) ⟨by decide, by omega, by omega⟩ (by omega) (by omega)
    simp [e]
  have t0 : fTest (S := Unit) (fBin eqF (fBin ixF (fName 0) (fC (.int 0))) (fC (.str "mix"))) [.dat (mixD rows), .dat (vecD x), .no, .no, .no, .no, .no, .no, .no, .no] () = .ok (true, ()) := by
    have : ixF (mixD rows) (.int 0) = some (.str "mix") := ix0 _ _
    simp [this]
  rw [E_law_v_layer]
  unfold g_law_v_layer
  rw [sq_rt (d := vecD (rows.map fun r => r.2 + dot r.1 x)) (s' := ()), ap_finD_r]
  rw [gi_t t0]
  refine rt_of ((lst_gen' hc).trans ?_)
  unfold vecD
  rw [List.map_map]
  rfl
theorem rest_val {ps : List Int} {x : List Rat} {D M : Nat} (hl : x.length ≤ 3) (hx : ∀ q ∈ x, QB D M q) (hD : 0 < D) : ∃ y, F_law_v_layer K [restD ps, vecD x] = .ok (vecD y) ∧ y.length = x.length ∧ ∀ q ∈ y, QB D M q := by
  have hit : fEnum (S := Unit) (fCons (fName 1) (fNil)) [.dat (restD ps), .dat (vecD x), .no, .no, .no, .no, .no, .no, .no, .no] () = .ok (enumD 0 (x.map fr), ()) := by
    unfold fEnum
    simp [vecD]
  have i0 : ixF (restD ps) (.int 0) = some (.str "rest") := ix0 _ _
  have i1 : ixF (restD ps) (.int 1) = some (intsT ps) := ix1 _ _ _
  obtain ⟨y, e, l, p⟩ := comp_ex (S := Unit) (h := hTup (hCons (hName 8) (hCons (hName 9) (hNil)))) (f := fIf (fAnd (fTest (fBin inF (fName 8) (fBin ixF (fName 0) (fC (.int 1))))) (fTest (fBin ltF (fBin ixF (fName 9) (fC (.int 0))) (fC (.int 0))))) (fTup (fCons (fC (.int 0)) (fCons (fC (.int 1)) (fNil)))) (fName 9)) (vs := [8, 9]) fr (QB D M) hit (by rw [enumD_len, List.length_map]; omega) fun d hd => by
    obtain ⟨j, q, rfl, hq⟩ := enum_mem x 0 d hd
    obtain ⟨b, eb⟩ := in_ints (j : Nat) ps
    by_cases z : b = true ∧ q.num < 0
    · refine ⟨[.dat (restD ps), .dat (vecD x), .no, .no, .no, .no, .no, .no, .dat (.int (j : Nat)), .dat (fr q)], 0, rfl, ?_, QB.zero hD⟩
      simp [i1, eb, fr0, z.1, z.2]
      rfl
    · refine ⟨[.dat (restD ps), .dat (vecD x), .no, .no, .no, .no, .no, .no, .dat (.int (j : Nat)), .dat (fr q)], q, rfl, ?_, hx q hq⟩
      cases b with
      | false => simp [i1, eb]
      | true =>
        have z' : ¬ q.num < 0 := fun h => z ⟨rfl, h⟩
        simp [i1, eb, fr0, z']
  refine ⟨y, ?_, by rw [l, enumD_len, List.length_map], p⟩
  have t0 : fTest (S := Unit) (fBin eqF (fBin ixF (fName 0) (fC (.int 0))) (fC (.str "mix"))) [.dat (restD ps), .dat (vecD x), .no, .no, .no, .no, .no, .no, .no, .no] () = .ok (false, ()) := by simp [i0]
  have t1 : fTest (S := Unit) (fBin eqF (fBin ixF (fName 0) (fC (.int 0))) (fC (.str "rest"))) [.dat (restD ps), .dat (vecD x), .no, .no, .no, .no, .no, .no, .no, .no] () = .ok (true, ()) := by simp [i0]
  rw [E_law_v_layer]
  unfold g_law_v_layer
  rw [sq_nx ((gi_f t0).trans ap_nx), sq_rt (d := vecD y) (s' := ()), ap_finD_r]
  rw [gi_t t1]
  exact rt_of (lst_gen' e)
def poolIn (K : PySem.W.Frag) : Sx Unit := gSet 4 (fIf (fTest (fCall (F_law_v_above K) (fCons (fBin ixF (fName 1) (fName 5)) (fCons (fName 4) (fNil))))) (fBin ixF (fName 1) (fName 5)) (fName 4))
theorem pool_in {x : List Rat} {D M : Nat} (hx : ∀ q ∈ x, QB D M q) (hb : D < 2 ^ 90 ∧ M < 2 ^ 90) (a b c : Sl) (r6 r7 r8 r9 : Sl) : ∀ (ps : List Int) (q : Rat) (x5 : Sl), q ∈ x → (∀ p ∈ ps, 0 ≤ p ∧ p < (x.length : Nat)) →
    ∃ q' x5', forF (hName 5) (poolIn K) (ps.map Da.int) [a, .dat (vecD x), b, c, .dat (fr q), x5, r6, r7, r8, r9] () = .nx [a, .dat (vecD x), b, c, .dat (fr q'), x5', r6, r7, r8, r9] () ∧ q' ∈ x
  | [], q, x5, h, _ => ⟨q, x5, rfl, h⟩
  | p :: ps, q, x5, h, hp => by
    obtain ⟨v, e1, m1⟩ := ix_vec (hp p (by simp))
    have ab := r_law_v_above (K := K) ((hx v m1).lq hb.1 hb.2) ((hx q h).lq hb.1 hb.2)
    by_cases z : q < v
    · obtain ⟨q', x5', e, m⟩ := pool_in hx hb a b c r6 r7 r8 r9 ps v (.dat (.int p)) m1 fun p h => hp p (by simp [h])
      refine ⟨q', x5', ?_, m⟩
      rw [decide_eq_true z] at ab
      rw [List.map_cons, for_cons (ρ1 := [a, .dat (vecD x), b, c, .dat (fr q), .dat (.int p), r6, r7, r8, r9]) (ρ2 := [a, .dat (vecD x), b, c, .dat (fr v), .dat (.int p), r6, r7, r8, r9]) (s2 := ()) rfl, e]
      exact set_of (by simp [e1, ab])
    · obtain ⟨q', x5', e, m⟩ := pool_in hx hb a b c r6 r7 r8 r9 ps q (.dat (.int p)) h fun p h => hp p (by simp [h])
      refine ⟨q', x5', ?_, m⟩
      rw [decide_eq_false z] at ab
      rw [List.map_cons, for_cons (ρ1 := [a, .dat (vecD x), b, c, .dat (fr q), .dat (.int p), r6, r7, r8, r9]) (ρ2 := [a, .dat (vecD x), b, c, .dat (fr q), .dat (.int p), r6, r7, r8, r9]) (s2 := ()) rfl, e]
      exact set_of (by simp [e1, ab])
def poolOut (K : PySem.W.Frag) : Sx Unit := gSeq (gSet 4 (fBin ixF (fName 1) (fBin ixF (fName 3) (fC (.int 0))))) (gSeq (gFor (fIt (fSl (fName 3) (fPart (some (fC (.int 1)))) (fPart none))) (hName 5) (poolIn K)) (gApp 2 (fName 4)))
theorem pool_out {x : List Rat} {D M : Nat} (hx : ∀ q ∈ x, QB D M q) (hb : D < 2 ^ 90 ∧ M < 2 ^ 90) (a : Sl) (r6 r7 r8 r9 : Sl) : ∀ (gs : List (List Int)) (ys : List Rat) (x3 x4 x5 : Sl), (∀ g ∈ gs, GrpOk x.length g) → (∀ q ∈ ys, q ∈ x) → ys.length + gs.length ≤ 1000 →
    ∃ (ys' : List Rat) (x3' x4' x5' : Sl), forF (hName 3) (poolOut K) (gs.map intsT) [a, .dat (vecD x), .own (ys.map fr), x3, x4, x5, r6, r7, r8, r9] () = .nx [a, .dat (vecD x), .own (ys'.map fr), x3', x4', x5', r6, r7, r8, r9] () ∧ ys'.length = ys.length + gs.length ∧ ∀ q ∈ ys', q ∈ x
  | [], ys, x3, x4, x5, _, h, _ => ⟨ys, x3, x4, x5, rfl, rfl, h⟩
  | g :: gs, ys, x3, x4, x5, hg, h, hl => by
    obtain ⟨h1, h2, h3⟩ := hg g (by simp)
    rw [List.length_cons] at hl
    match g, h1, h2 with
    | p :: ps, h1, _ =>
      obtain ⟨v, e1, m1⟩ := ix_vec (h1.2 p (by simp))
      obtain ⟨q, x5', e2, m2⟩ := pool_in (K := K) hx hb a (.own (ys.map fr)) (.dat (intsT (p :: ps))) r6 r7 r8 r9 ps v x5 m1 fun p h => h1.2 p (by simp [h])
      obtain ⟨ys', x3', x4', x5'', e3, l3, m3⟩ := pool_out hx hb a r6 r7 r8 r9 gs (ys ++ [q]) (.dat (intsT (p :: ps))) (.dat (fr q)) x5' (fun g h => hg g (by simp [h])) (fun q' hq => by
        rcases List.mem_append.mp hq with hq | hq
        · exact h q' hq
        · rw [List.mem_singleton.mp hq]; exact m2) (by rw [List.length_append, List.length_singleton]; omega)
      refine ⟨ys', x3', x4', x5'', ?_, by rw [l3, List.length_append, List.length_singleton, List.length_cons]; omega, m3⟩
      rw [List.map_cons, for_cons (ρ1 := [a, .dat (vecD x), .own (ys.map fr), .dat (intsT (p :: ps)), x4, x5, r6, r7, r8, r9]) (ρ2 := [a, .dat (vecD x), .own ((ys ++ [q]).map fr), .dat (intsT (p :: ps)), .dat (fr q), x5', r6, r7, r8, r9]) (s2 := ()) rfl, e3]
      have i0 : ixF (intsT (p :: ps)) (.int 0) = some (.int p) := ix0 _ _
      have s1 : gSet (S := Unit) 4 (fBin ixF (fName 1) (fBin ixF (fName 3) (fC (.int 0)))) [a, .dat (vecD x), .own (ys.map fr), .dat (intsT (p :: ps)), x4, x5, r6, r7, r8, r9] () = .nx [a, .dat (vecD x), .own (ys.map fr), .dat (intsT (p :: ps)), .dat (fr v), x5, r6, r7, r8, r9] () := set_of (by simp [i0, e1])
      have hit : fIt (S := Unit) (fSl (fName 3) (fPart (some (fC (.int 1)))) (fPart none)) [a, .dat (vecD x), .own (ys.map fr), .dat (intsT (p :: ps)), .dat (fr v), x5, r6, r7, r8, r9] () = .ok (ps.map Da.int, ()) := by
        have c1 : slF (intsT (p :: ps)) (some 1) none = some (.tup (ps.map Da.int)) := cut1 _ _
        simp [c1]
      have s3 : gApp (S := Unit) 2 (fName 4) [a, .dat (vecD x), .own (ys.map fr), .dat (intsT (p :: ps)), .dat (fr q), x5', r6, r7, r8, r9] () = .nx [a, .dat (vecD x), .own ((ys ++ [q]).map fr), .dat (intsT (p :: ps)), .dat (fr q), x5', r6, r7, r8, r9] () := by
        have la : ys.length < 1000000 := by omega
        simp [gApp, la]
      unfold poolOut
      rw [sq_nx s1, sq_nx ((for_of hit).trans e2), s3]
theorem pool_val {gs : List (List Int)} {x : List Rat} {D M : Nat} (hg : ∀ g ∈ gs, GrpOk x.length g) (hl : gs.length ≤ 3) (hx : ∀ q ∈ x, QB D M q) (hb : D < 2 ^ 90 ∧ M < 2 ^ 90) : ∃ y, F_law_v_layer K [poolD gs, vecD x] = .ok (vecD y) ∧ y.length = gs.length ∧ ∀ q ∈ y, QB D M q := by
  have i0 : ixF (poolD gs) (.int 0) = some (.str "pool") := ix0 _ _
  have i1 : ixF (poolD gs) (.int 1) = some (.tup (gs.map intsT)) := ix1 _ _ _
  obtain ⟨y, x3, x4, x5, e, l, m⟩ := pool_out (K := K) hx hb (.dat (poolD gs)) .no .no .no .no gs [] .no .no .no hg (by simp) (by simp; omega)
  refine ⟨y, ?_, by simpa using l, fun q hq => hx q (m q hq)⟩
  have t0 : fTest (S := Unit) (fBin eqF (fBin ixF (fName 0) (fC (.int 0))) (fC (.str "mix"))) [.dat (poolD gs), .dat (vecD x), .no, .no, .no, .no, .no, .no, .no, .no] () = .ok (false, ()) := by simp [i0]
  have t1 : fTest (S := Unit) (fBin eqF (fBin ixF (fName 0) (fC (.int 0))) (fC (.str "rest"))) [.dat (poolD gs), .dat (vecD x), .no, .no, .no, .no, .no, .no, .no, .no] () = .ok (false, ()) := by simp [i0]
  have s0 : gSetO (S := Unit) 2 (fNil) [.dat (poolD gs), .dat (vecD x), .no, .no, .no, .no, .no, .no, .no, .no] () = .nx [.dat (poolD gs), .dat (vecD x), .own [], .no, .no, .no, .no, .no, .no, .no] () := by simp
  have hit : fIt (S := Unit) (fBin ixF (fName 0) (fC (.int 1))) [.dat (poolD gs), .dat (vecD x), .own [], .no, .no, .no, .no, .no, .no, .no] () = .ok (gs.map intsT, ()) := by simp [i1]
  have g2 := (for_of hit).trans e
  unfold poolOut poolIn at g2
  rw [E_law_v_layer]
  unfold g_law_v_layer
  rw [sq_nx ((gi_f t0).trans ap_nx), sq_nx ((gi_f t1).trans ap_nx), sq_nx s0, sq_nx g2, rt_of (d := vecD y) (s' := ()) (by simp [vecD]), ap_finD_r]
/-- what any layer tells -/
theorem ly_val {l : Da} {n m c : Nat} (h : Ly l n m c) (hn : n ≤ 3) {x : List Rat} (lx : x.length = n) {D M : Nat} (hx : ∀ q ∈ x, QB D M q) (hD : 0 < D) (hDM : D ≤ M) (hb : 6 * D < 2 ^ 80 ∧ M < 2 ^ 80) :
    ∃ y, F_law_v_layer K [l, vecD x] = .ok (vecD y) ∧ y.length = m ∧ ∀ q ∈ y, QB (D * 6) (200 * M) q := by
  have up : ∀ q, QB D M q → QB (D * 6) (200 * M) q := fun q h => (h.raise 6 (by decide)).mono (by omega)
  cases h with
  | mix rows _ h1 h2 h3 =>
    refine ⟨_, mix_val h3 h2 hn hx hD hb, by simp, fun q hq => ?_⟩
    obtain ⟨r, hr, rfl⟩ := List.mem_map.mp hq
    obtain ⟨a1, a2, a3⟩ := h3 r hr
    have q1 := qb_dot (by decide) hD r.1 x a2 hx
    have q2 := (a3.raise D hD).add q1
    have l1 : r.1.length * (18 * M) ≤ 3 * (18 * M) := Nat.mul_le_mul_right _ (by omega)
    rw [Nat.mul_comm D 6]
    exact q2.mono (by omega)
  | rest ps _ h1 h2 h3 =>
    obtain ⟨y, e, l, p⟩ := rest_val (K := K) (ps := ps) (by omega) hx hD
    exact ⟨y, e, by omega, fun q hq => up q (p q hq)⟩
  | pool gs _ h1 h2 h3 =>
    obtain ⟨y, e, l, p⟩ := pool_val (K := K) (gs := gs) (by rw [lx]; exact h3) h2 hx ⟨by omega, by omega⟩
    exact ⟨y, e, l, fun q hq => up q (p q hq)⟩
def toldB (K : PySem.W.Frag) : Sx Unit := gSet 1 (fCall (F_law_v_layer K) (fCons (fName 2) (fCons (fName 1) (fNil))))
theorem told_loop {ls : List Da} {n k c : Nat} (h : Ch ls n k c) : ∀ (x : List Rat) (t : Nat), x.length = n → t + ls.length ≤ 8 → (∀ q ∈ x, QB (6 ^ (t + 1)) (24 * 200 ^ t) q) →
    ∃ y, (∀ d x2 : Sl, ∃ x2', forF (hName 2) (toldB K) ls [d, .dat (vecD x), x2] () = .nx [d, .dat (vecD y), x2'] ()) ∧ y.length = k ∧ ∀ q ∈ y, QB (6 ^ (t + ls.length + 1)) (24 * 200 ^ (t + ls.length)) q := by
  induction h with
  | nil n => intro x t lx _ hx; exact ⟨x, fun d x2 => ⟨x2, rfl⟩, lx, hx⟩
  | @cons l ls n m k c d' a hn h ih =>
    intro x t lx ht hx
    rw [List.length_cons] at ht
    have b1 : (6 : Nat) ^ (t + 1) ≤ 6 ^ 9 := Nat.pow_le_pow_right (by decide) (by omega)
    have b2 : (200 : Nat) ^ t ≤ 200 ^ 8 := Nat.pow_le_pow_right (by decide) (by omega)
    have b3 : (6 : Nat) ^ t ≤ 200 ^ t := Nat.pow_le_pow_left (by decide) t
    have b4 : (6 : Nat) ^ 9 = 10077696 := by decide
    have b5 : (200 : Nat) ^ 8 = 2560000000000000000 := by decide
    have b6 : (6 : Nat) ^ (t + 1) = 6 ^ t * 6 := Nat.pow_succ ..
    obtain ⟨y, e1, l1, q1⟩ := ly_val (K := K) a hn lx hx (Nat.pow_pos (by decide)) (by omega) ⟨by omega, by omega⟩
    have q1' : ∀ q ∈ y, QB (6 ^ (t + 1 + 1)) (24 * 200 ^ (t + 1)) q := fun q hq => by
      have z := q1 q hq
      rw [Nat.pow_succ 6 (t + 1), Nat.pow_succ 200 t]
      exact z.mono (by omega)
    obtain ⟨y', e2, l2, q2⟩ := ih y (t + 1) l1 (by omega) q1'
    refine ⟨y', fun d x2 => ?_, l2, fun q hq => ?_⟩
    · obtain ⟨x2', e2⟩ := e2 d (.dat l)
      refine ⟨x2', ?_⟩
      rw [for_cons (ρ1 := [d, .dat (vecD x), .dat l]) (ρ2 := [d, .dat (vecD y), .dat l]) (s2 := ()) rfl, e2]
      exact set_of (by simp [e1])
    · have z := q2 q hq
      rw [List.length_cons, show t + (ls.length + 1) = t + 1 + ls.length by omega]
      exact z
end
end Sw

set_option Elab.async false
set_option linter.all false
set_option maxRecDepth 100000
set_option maxHeartbeats 1000000
set_option exponentiation.threshold 5000
/-! SwPp: kinds of errors; values told. -/
namespace Sw
open PySem PySem.Spec PyProof.Rows L2
section
variable {K : PySem.W.Frag} {mg : Str → Option Value}
theorem isi_exc (c : Fc K mg) (x d : Str) (hx : x ∈ exL) (hd : d ∈ askL) : isiF K exL (.ref (He.ga K d)) (.exc x) = some (.bl (decide (x = d))) := by
  have t : tyD K exL (.exc x) = some (.ref (He.ga K x)) := if_pos hx
  unfold isiF
  rw [t, Option.bind_some, c.kit x hx d hd]
  rfl
theorem add_str {a b z : Str} (h : a.length + b.length ≤ 1000) (e : a ++ b = z) : addF0 (.str a) (.str b) = some (.str z) := by
  have hs : (1000 : Nat) < sizeLine := line_big 1000 (by decide)
  have hh : a.length + b.length ≤ sizeLine := by omega
  show (if a.length + b.length ≤ sizeLine then some (Da.str (a ++ b)) else none) = _
  rw [if_pos hh, e]
theorem kind_BadNet (c : Fc K mg) : F_law_v_kind K [.exc "BadNet"] = .ok (.str "net ") := by
  have a0 : addF0 (.str "") (.str "") = some (.str "") := add_str (by decide +kernel) (by decide +kernel)
  have a1 : addF0 (.str "") (.str "net ") = some (.str "net ") := add_str (by decide +kernel) (by decide +kernel)
  have a2 : addF0 (.str "net ") (.str "") = some (.str "net ") := add_str (by decide +kernel) (by decide +kernel)
  have i0 : isiF K exL (.ref (He.ga K "BadNet")) (.exc "BadNet") = some (.bl true) := (isi_exc c "BadNet" "BadNet" (by decide +kernel) (by decide +kernel)).trans (congrArg (fun z => some (Da.bl z)) (by decide +kernel))
  have i1 : isiF K exL (.ref (He.ga K "BadNets")) (.exc "BadNet") = some (.bl false) := (isi_exc c "BadNet" "BadNets" (by decide +kernel) (by decide +kernel)).trans (congrArg (fun z => some (Da.bl z)) (by decide +kernel))
  have i2 : isiF K exL (.ref (He.ga K "BadFraction")) (.exc "BadNet") = some (.bl false) := (isi_exc c "BadNet" "BadFraction" (by decide +kernel) (by decide +kernel)).trans (congrArg (fun z => some (Da.bl z)) (by decide +kernel))
  have i3 : isiF K exL (.ref (He.ga K "BadClaim")) (.exc "BadNet") = some (.bl false) := (isi_exc c "BadNet" "BadClaim" (by decide +kernel) (by decide +kernel)).trans (congrArg (fun z => some (Da.bl z)) (by decide +kernel))
  have i4 : isiF K exL (.ref (He.ga K "BadPlace")) (.exc "BadNet") = some (.bl false) := (isi_exc c "BadNet" "BadPlace" (by decide +kernel) (by decide +kernel)).trans (congrArg (fun z => some (Da.bl z)) (by decide +kernel))
  have i5 : isiF K exL (.ref (He.ga K "TooGreat")) (.exc "BadNet") = some (.bl false) := (isi_exc c "BadNet" "TooGreat" (by decide +kernel) (by decide +kernel)).trans (congrArg (fun z => some (Da.bl z)) (by decide +kernel))
  have i6 : isiF K exL (.ref (He.ga K "BadEdit")) (.exc "BadNet") = some (.bl false) := (isi_exc c "BadNet" "BadEdit" (by decide +kernel) (by decide +kernel)).trans (congrArg (fun z => some (Da.bl z)) (by decide +kernel))
  have i7 : isiF K exL (.ref (He.ga K "Uneditable")) (.exc "BadNet") = some (.bl false) := (isi_exc c "BadNet" "Uneditable" (by decide +kernel) (by decide +kernel)).trans (congrArg (fun z => some (Da.bl z)) (by decide +kernel))
  rw [E_law_v_kind]
  simp [g_law_v_kind, a0, a1, a2, i0, i1, i2, i3, i4, i5, i6, i7]
theorem kind_BadNets (c : Fc K mg) : F_law_v_kind K [.exc "BadNets"] = .ok (.str "nets ") := by
  have a0 : addF0 (.str "") (.str "") = some (.str "") := add_str (by decide +kernel) (by decide +kernel)
  have a1 : addF0 (.str "") (.str "nets ") = some (.str "nets ") := add_str (by decide +kernel) (by decide +kernel)
  have a2 : addF0 (.str "nets ") (.str "") = some (.str "nets ") := add_str (by decide +kernel) (by decide +kernel)
  have i0 : isiF K exL (.ref (He.ga K "BadNet")) (.exc "BadNets") = some (.bl false) := (isi_exc c "BadNets" "BadNet" (by decide +kernel) (by decide +kernel)).trans (congrArg (fun z => some (Da.bl z)) (by decide +kernel))
  have i1 : isiF K exL (.ref (He.ga K "BadNets")) (.exc "BadNets") = some (.bl true) := (isi_exc c "BadNets" "BadNets" (by decide +kernel) (by decide +kernel)).trans (congrArg (fun z => some (Da.bl z)) (by decide +kernel))
  have i2 : isiF K exL (.ref (He.ga K "BadFraction")) (.exc "BadNets") = some (.bl false) := (isi_exc c "BadNets" "BadFraction" (by decide +kernel) (by decide +kernel)).trans (congrArg (fun z => some (Da.bl z)) (by decide +kernel))
  have i3 : isiF K exL (.ref (He.ga K "BadClaim")) (.exc "BadNets") = some (.bl false) := (isi_exc c "BadNets" "BadClaim" (by decide +kernel) (by decide +kernel)).trans (congrArg (fun z => some (Da.bl z)) (by decide +kernel))
  have i4 : isiF K exL (.ref (He.ga K "BadPlace")) (.exc "BadNets") = some (.bl false) := (isi_exc c "BadNets" "BadPlace" (by decide +kernel) (by decide +kernel)).trans (congrArg (fun z => some (Da.bl z)) (by decide +kernel))
  have i5 : isiF K exL (.ref (He.ga K "TooGreat")) (.exc "BadNets") = some (.bl false) := (isi_exc c "BadNets" "TooGreat" (by decide +kernel) (by decide +kernel)).trans (congrArg (fun z => some (Da.bl z)) (by decide +kernel))
  have i6 : isiF K exL (.ref (He.ga K "BadEdit")) (.exc "BadNets") = some (.bl false) := (isi_exc c "BadNets" "BadEdit" (by decide +kernel) (by decide +kernel)).trans (congrArg (fun z => some (Da.bl z)) (by decide +kernel))
  have i7 : isiF K exL (.ref (He.ga K "Uneditable")) (.exc "BadNets") = some (.bl false) := (isi_exc c "BadNets" "Uneditable" (by decide +kernel) (by decide +kernel)).trans (congrArg (fun z => some (Da.bl z)) (by decide +kernel))
  rw [E_law_v_kind]
  simp [g_law_v_kind, a0, a1, a2, i0, i1, i2, i3, i4, i5, i6, i7]
theorem kind_BadFraction (c : Fc K mg) : F_law_v_kind K [.exc "BadFraction"] = .ok (.str "fraction ") := by
  have a0 : addF0 (.str "") (.str "") = some (.str "") := add_str (by decide +kernel) (by decide +kernel)
  have a1 : addF0 (.str "") (.str "fraction ") = some (.str "fraction ") := add_str (by decide +kernel) (by decide +kernel)
  have a2 : addF0 (.str "fraction ") (.str "") = some (.str "fraction ") := add_str (by decide +kernel) (by decide +kernel)
  have i0 : isiF K exL (.ref (He.ga K "BadNet")) (.exc "BadFraction") = some (.bl false) := (isi_exc c "BadFraction" "BadNet" (by decide +kernel) (by decide +kernel)).trans (congrArg (fun z => some (Da.bl z)) (by decide +kernel))
  have i1 : isiF K exL (.ref (He.ga K "BadNets")) (.exc "BadFraction") = some (.bl false) := (isi_exc c "BadFraction" "BadNets" (by decide +kernel) (by decide +kernel)).trans (congrArg (fun z => some (Da.bl z)) (by decide +kernel))
  have i2 : isiF K exL (.ref (He.ga K "BadFraction")) (.exc "BadFraction") = some (.bl true) := (isi_exc c "BadFraction" "BadFraction" (by decide +kernel) (by decide +kernel)).trans (congrArg (fun z => some (Da.bl z)) (by decide +kernel))
  have i3 : isiF K exL (.ref (He.ga K "BadClaim")) (.exc "BadFraction") = some (.bl false) := (isi_exc c "BadFraction" "BadClaim" (by decide +kernel) (by decide +kernel)).trans (congrArg (fun z => some (Da.bl z)) (by decide +kernel))
  have i4 : isiF K exL (.ref (He.ga K "BadPlace")) (.exc "BadFraction") = some (.bl false) := (isi_exc c "BadFraction" "BadPlace" (by decide +kernel) (by decide +kernel)).trans (congrArg (fun z => some (Da.bl z)) (by decide +kernel))
  have i5 : isiF K exL (.ref (He.ga K "TooGreat")) (.exc "BadFraction") = some (.bl false) := (isi_exc c "BadFraction" "TooGreat" (by decide +kernel) (by decide +kernel)).trans (congrArg (fun z => some (Da.bl z)) (by decide +kernel))
  have i6 : isiF K exL (.ref (He.ga K "BadEdit")) (.exc "BadFraction") = some (.bl false) := (isi_exc c "BadFraction" "BadEdit" (by decide +kernel) (by decide +kernel)).trans (congrArg (fun z => some (Da.bl z)) (by decide +kernel))
  have i7 : isiF K exL (.ref (He.ga K "Uneditable")) (.exc "BadFraction") = some (.bl false) := (isi_exc c "BadFraction" "Uneditable" (by decide +kernel) (by decide +kernel)).trans (congrArg (fun z => some (Da.bl z)) (by decide +kernel))
  rw [E_law_v_kind]
  simp [g_law_v_kind, a0, a1, a2, i0, i1, i2, i3, i4, i5, i6, i7]
theorem kind_BadClaim (c : Fc K mg) : F_law_v_kind K [.exc "BadClaim"] = .ok (.str "claim ") := by
  have a0 : addF0 (.str "") (.str "") = some (.str "") := add_str (by decide +kernel) (by decide +kernel)
  have a1 : addF0 (.str "") (.str "claim ") = some (.str "claim ") := add_str (by decide +kernel) (by decide +kernel)
  have a2 : addF0 (.str "claim ") (.str "") = some (.str "claim ") := add_str (by decide +kernel) (by decide +kernel)
  have i0 : isiF K exL (.ref (He.ga K "BadNet")) (.exc "BadClaim") = some (.bl false) := (isi_exc c "BadClaim" "BadNet" (by decide +kernel) (by decide +kernel)).trans (congrArg (fun z => some (Da.bl z)) (by decide +kernel))
  have i1 : isiF K exL (.ref (He.ga K "BadNets")) (.exc "BadClaim") = some (.bl false) := (isi_exc c "BadClaim" "BadNets" (by decide +kernel) (by decide +kernel)).trans (congrArg (fun z => some (Da.bl z)) (by decide +kernel))
  have i2 : isiF K exL (.ref (He.ga K "BadFraction")) (.exc "BadClaim") = some (.bl false) := (isi_exc c "BadClaim" "BadFraction" (by decide +kernel) (by decide +kernel)).trans (congrArg (fun z => some (Da.bl z)) (by decide +kernel))
  have i3 : isiF K exL (.ref (He.ga K "BadClaim")) (.exc "BadClaim") = some (.bl true) := (isi_exc c "BadClaim" "BadClaim" (by decide +kernel) (by decide +kernel)).trans (congrArg (fun z => some (Da.bl z)) (by decide +kernel))
  have i4 : isiF K exL (.ref (He.ga K "BadPlace")) (.exc "BadClaim") = some (.bl false) := (isi_exc c "BadClaim" "BadPlace" (by decide +kernel) (by decide +kernel)).trans (congrArg (fun z => some (Da.bl z)) (by decide +kernel))
  have i5 : isiF K exL (.ref (He.ga K "TooGreat")) (.exc "BadClaim") = some (.bl false) := (isi_exc c "BadClaim" "TooGreat" (by decide +kernel) (by decide +kernel)).trans (congrArg (fun z => some (Da.bl z)) (by decide +kernel))
  have i6 : isiF K exL (.ref (He.ga K "BadEdit")) (.exc "BadClaim") = some (.bl false) := (isi_exc c "BadClaim" "BadEdit" (by decide +kernel) (by decide +kernel)).trans (congrArg (fun z => some (Da.bl z)) (by decide +kernel))
  have i7 : isiF K exL (.ref (He.ga K "Uneditable")) (.exc "BadClaim") = some (.bl false) := (isi_exc c "BadClaim" "Uneditable" (by decide +kernel) (by decide +kernel)).trans (congrArg (fun z => some (Da.bl z)) (by decide +kernel))
  rw [E_law_v_kind]
  simp [g_law_v_kind, a0, a1, a2, i0, i1, i2, i3, i4, i5, i6, i7]
theorem kind_BadPlace (c : Fc K mg) : F_law_v_kind K [.exc "BadPlace"] = .ok (.str "place ") := by
  have a0 : addF0 (.str "") (.str "") = some (.str "") := add_str (by decide +kernel) (by decide +kernel)
  have a1 : addF0 (.str "") (.str "place ") = some (.str "place ") := add_str (by decide +kernel) (by decide +kernel)
  have a2 : addF0 (.str "place ") (.str "") = some (.str "place ") := add_str (by decide +kernel) (by decide +kernel)
  have i0 : isiF K exL (.ref (He.ga K "BadNet")) (.exc "BadPlace") = some (.bl false) := (isi_exc c "BadPlace" "BadNet" (by decide +kernel) (by decide +kernel)).trans (congrArg (fun z => some (Da.bl z)) (by decide +kernel))
  have i1 : isiF K exL (.ref (He.ga K "BadNets")) (.exc "BadPlace") = some (.bl false) := (isi_exc c "BadPlace" "BadNets" (by decide +kernel) (by decide +kernel)).trans (congrArg (fun z => some (Da.bl z)) (by decide +kernel))
  have i2 : isiF K exL (.ref (He.ga K "BadFraction")) (.exc "BadPlace") = some (.bl false) := (isi_exc c "BadPlace" "BadFraction" (by decide +kernel) (by decide +kernel)).trans (congrArg (fun z => some (Da.bl z)) (by decide +kernel))
  have i3 : isiF K exL (.ref (He.ga K "BadClaim")) (.exc "BadPlace") = some (.bl false) := (isi_exc c "BadPlace" "BadClaim" (by decide +kernel) (by decide +kernel)).trans (congrArg (fun z => some (Da.bl z)) (by decide +kernel))
  have i4 : isiF K exL (.ref (He.ga K "BadPlace")) (.exc "BadPlace") = some (.bl true) := (isi_exc c "BadPlace" "BadPlace" (by decide +kernel) (by decide +kernel)).trans (congrArg (fun z => some (Da.bl z)) (by decide +kernel))
  have i5 : isiF K exL (.ref (He.ga K "TooGreat")) (.exc "BadPlace") = some (.bl false) := (isi_exc c "BadPlace" "TooGreat" (by decide +kernel) (by decide +kernel)).trans (congrArg (fun z => some (Da.bl z)) (by decide +kernel))
  have i6 : isiF K exL (.ref (He.ga K "BadEdit")) (.exc "BadPlace") = some (.bl false) := (isi_exc c "BadPlace" "BadEdit" (by decide +kernel) (by decide +kernel)).trans (congrArg (fun z => some (Da.bl z)) (by decide +kernel))
  have i7 : isiF K exL (.ref (He.ga K "Uneditable")) (.exc "BadPlace") = some (.bl false) := (isi_exc c "BadPlace" "Uneditable" (by decide +kernel) (by decide +kernel)).trans (congrArg (fun z => some (Da.bl z)) (by decide +kernel))
  rw [E_law_v_kind]
  simp [g_law_v_kind, a0, a1, a2, i0, i1, i2, i3, i4, i5, i6, i7]
theorem kind_TooGreat (c : Fc K mg) : F_law_v_kind K [.exc "TooGreat"] = .ok (.str "great ") := by
  have a0 : addF0 (.str "") (.str "") = some (.str "") := add_str (by decide +kernel) (by decide +kernel)
  have a1 : addF0 (.str "") (.str "great ") = some (.str "great ") := add_str (by decide +kernel) (by decide +kernel)
  have a2 : addF0 (.str "great ") (.str "") = some (.str "great ") := add_str (by decide +kernel) (by decide +kernel)
  have i0 : isiF K exL (.ref (He.ga K "BadNet")) (.exc "TooGreat") = some (.bl false) := (isi_exc c "TooGreat" "BadNet" (by decide +kernel) (by decide +kernel)).trans (congrArg (fun z => some (Da.bl z)) (by decide +kernel))
  have i1 : isiF K exL (.ref (He.ga K "BadNets")) (.exc "TooGreat") = some (.bl false) := (isi_exc c "TooGreat" "BadNets" (by decide +kernel) (by decide +kernel)).trans (congrArg (fun z => some (Da.bl z)) (by decide +kernel))
  have i2 : isiF K exL (.ref (He.ga K "BadFraction")) (.exc "TooGreat") = some (.bl false) := (isi_exc c "TooGreat" "BadFraction" (by decide +kernel) (by decide +kernel)).trans (congrArg (fun z => some (Da.bl z)) (by decide +kernel))
  have i3 : isiF K exL (.ref (He.ga K "BadClaim")) (.exc "TooGreat") = some (.bl false) := (isi_exc c "TooGreat" "BadClaim" (by decide +kernel) (by decide +kernel)).trans (congrArg (fun z => some (Da.bl z)) (by decide +kernel))
  have i4 : isiF K exL (.ref (He.ga K "BadPlace")) (.exc "TooGreat") = some (.bl false) := (isi_exc c "TooGreat" "BadPlace" (by decide +kernel) (by decide +kernel)).trans (congrArg (fun z => some (Da.bl z)) (by decide +kernel))
  have i5 : isiF K exL (.ref (He.ga K "TooGreat")) (.exc "TooGreat") = some (.bl true) := (isi_exc c "TooGreat" "TooGreat" (by decide +kernel) (by decide +kernel)).trans (congrArg (fun z => some (Da.bl z)) (by decide +kernel))
  have i6 : isiF K exL (.ref (He.ga K "BadEdit")) (.exc "TooGreat") = some (.bl false) := (isi_exc c "TooGreat" "BadEdit" (by decide +kernel) (by decide +kernel)).trans (congrArg (fun z => some (Da.bl z)) (by decide +kernel))
  have i7 : isiF K exL (.ref (He.ga K "Uneditable")) (.exc "TooGreat") = some (.bl false) := (isi_exc c "TooGreat" "Uneditable" (by decide +kernel) (by decide +kernel)).trans (congrArg (fun z => some (Da.bl z)) (by decide +kernel))
  rw [E_law_v_kind]
  simp [g_law_v_kind, a0, a1, a2, i0, i1, i2, i3, i4, i5, i6, i7]
theorem kind_BadEdit (c : Fc K mg) : F_law_v_kind K [.exc "BadEdit"] = .ok (.str "edit ") := by
  have a0 : addF0 (.str "") (.str "") = some (.str "") := add_str (by decide +kernel) (by decide +kernel)
  have a1 : addF0 (.str "") (.str "edit ") = some (.str "edit ") := add_str (by decide +kernel) (by decide +kernel)
  have a2 : addF0 (.str "edit ") (.str "") = some (.str "edit ") := add_str (by decide +kernel) (by decide +kernel)
  have i0 : isiF K exL (.ref (He.ga K "BadNet")) (.exc "BadEdit") = some (.bl false) := (isi_exc c "BadEdit" "BadNet" (by decide +kernel) (by decide +kernel)).trans (congrArg (fun z => some (Da.bl z)) (by decide +kernel))
  have i1 : isiF K exL (.ref (He.ga K "BadNets")) (.exc "BadEdit") = some (.bl false) := (isi_exc c "BadEdit" "BadNets" (by decide +kernel) (by decide +kernel)).trans (congrArg (fun z => some (Da.bl z)) (by decide +kernel))
  have i2 : isiF K exL (.ref (He.ga K "BadFraction")) (.exc "BadEdit") = some (.bl false) := (isi_exc c "BadEdit" "BadFraction" (by decide +kernel) (by decide +kernel)).trans (congrArg (fun z => some (Da.bl z)) (by decide +kernel))
  have i3 : isiF K exL (.ref (He.ga K "BadClaim")) (.exc "BadEdit") = some (.bl false) := (isi_exc c "BadEdit" "BadClaim" (by decide +kernel) (by decide +kernel)).trans (congrArg (fun z => some (Da.bl z)) (by decide +kernel))
  have i4 : isiF K exL (.ref (He.ga K "BadPlace")) (.exc "BadEdit") = some (.bl false) := (isi_exc c "BadEdit" "BadPlace" (by decide +kernel) (by decide +kernel)).trans (congrArg (fun z => some (Da.bl z)) (by decide +kernel))
  have i5 : isiF K exL (.ref (He.ga K "TooGreat")) (.exc "BadEdit") = some (.bl false) := (isi_exc c "BadEdit" "TooGreat" (by decide +kernel) (by decide +kernel)).trans (congrArg (fun z => some (Da.bl z)) (by decide +kernel))
  have i6 : isiF K exL (.ref (He.ga K "BadEdit")) (.exc "BadEdit") = some (.bl true) := (isi_exc c "BadEdit" "BadEdit" (by decide +kernel) (by decide +kernel)).trans (congrArg (fun z => some (Da.bl z)) (by decide +kernel))
  have i7 : isiF K exL (.ref (He.ga K "Uneditable")) (.exc "BadEdit") = some (.bl false) := (isi_exc c "BadEdit" "Uneditable" (by decide +kernel) (by decide +kernel)).trans (congrArg (fun z => some (Da.bl z)) (by decide +kernel))
  rw [E_law_v_kind]
  simp [g_law_v_kind, a0, a1, a2, i0, i1, i2, i3, i4, i5, i6, i7]
theorem kind_Uneditable (c : Fc K mg) : F_law_v_kind K [.exc "Uneditable"] = .ok (.str "uneditable ") := by
  have a0 : addF0 (.str "") (.str "") = some (.str "") := add_str (by decide +kernel) (by decide +kernel)
  have a1 : addF0 (.str "") (.str "uneditable ") = some (.str "uneditable ") := add_str (by decide +kernel) (by decide +kernel)
  have a2 : addF0 (.str "uneditable ") (.str "") = some (.str "uneditable ") := add_str (by decide +kernel) (by decide +kernel)
  have i0 : isiF K exL (.ref (He.ga K "BadNet")) (.exc "Uneditable") = some (.bl false) := (isi_exc c "Uneditable" "BadNet" (by decide +kernel) (by decide +kernel)).trans (congrArg (fun z => some (Da.bl z)) (by decide +kernel))
  have i1 : isiF K exL (.ref (He.ga K "BadNets")) (.exc "Uneditable") = some (.bl false) := (isi_exc c "Uneditable" "BadNets" (by decide +kernel) (by decide +kernel)).trans (congrArg (fun z => some (Da.bl z)) (by decide +kernel))
  have i2 : isiF K exL (.ref (He.ga K "BadFraction")) (.exc "Uneditable") = some (.bl false) := (isi_exc c "Uneditable" "BadFraction" (by decide +kernel) (by decide +kernel)).trans (congrArg (fun z => some (Da.bl z)) (by decide +kernel))
  have i3 : isiF K exL (.ref (He.ga K "BadClaim")) (.exc "Uneditable") = some (.bl false) := (isi_exc c "Uneditable" "BadClaim" (by decide +kernel) (by decide +kernel)).trans (congrArg (fun z => some (Da.bl z)) (by decide +kernel))
  have i4 : isiF K exL (.ref (He.ga K "BadPlace")) (.exc "Uneditable") = some (.bl false) := (isi_exc c "Uneditable" "BadPlace" (by decide +kernel) (by decide +kernel)).trans (congrArg (fun z => some (Da.bl z)) (by decide +kernel))
  have i5 : isiF K exL (.ref (He.ga K "TooGreat")) (.exc "Uneditable") = some (.bl false) := (isi_exc c "Uneditable" "TooGreat" (by decide +kernel) (by decide +kernel)).trans (congrArg (fun z => some (Da.bl z)) (by decide +kernel))
  have i6 : isiF K exL (.ref (He.ga K "BadEdit")) (.exc "Uneditable") = some (.bl false) := (isi_exc c "Uneditable" "BadEdit" (by decide +kernel) (by decide +kernel)).trans (congrArg (fun z => some (Da.bl z)) (by decide +kernel))
  have i7 : isiF K exL (.ref (He.ga K "Uneditable")) (.exc "Uneditable") = some (.bl true) := (isi_exc c "Uneditable" "Uneditable" (by decide +kernel) (by decide +kernel)).trans (congrArg (fun z => some (Da.bl z)) (by decide +kernel))
  rw [E_law_v_kind]
  simp [g_law_v_kind, a0, a1, a2, i0, i1, i2, i3, i4, i5, i6, i7]
end
end Sw

set_option Elab.async false
set_option linter.all false
set_option maxRecDepth 100000
set_option maxHeartbeats 1000000
set_option exponentiation.threshold 5000
/-! SwPq: values, and a layer carried back, plainly. -/
namespace Sw
open PySem PySem.Spec PyProof.Rows L2
/-! ### the plain identity -/
theorem dot_nil_r : ∀ xs : List Rat, dot xs [] = 0
  | [] => rfl
  | _ :: _ => rfl
theorem dot_lin (c : Rat) : ∀ (m : Nat) (p y : List Rat) (g : Nat → Rat), p.length = m → y.length = m → dot ((List.range m).map fun k => c * p.getD k 0 + g k) y = c * dot p y + dot ((List.range m).map g) y
  | 0, p, y, g, hp, hy => by
    obtain rfl := List.length_eq_zero_iff.mp hp
    obtain rfl := List.length_eq_zero_iff.mp hy
    show (0 : Rat) = c * 0 + 0
    grind
  | m + 1, p, y, g, hp, hy => by
    match p, y, hp, hy with
    | a :: p, b :: y, hp, hy =>
      have ih := dot_lin c m p y (fun k => g (k + 1)) (by simpa using hp) (by simpa using hy)
      rw [List.range_succ_eq_map, List.map_cons, List.map_cons, List.map_map, List.map_map]
      have e1 : ((fun k => c * (a :: p).getD k 0 + g k) ∘ Nat.succ) = fun k => c * p.getD k 0 + g (k + 1) := by
        funext k
        simp [Function.comp]
      have e2 : (g ∘ Nat.succ) = fun k => g (k + 1) := rfl
      rw [e1, e2]
      show (c * a + g 0) * b + dot _ y = c * (a * b + dot p y) + (g 0 * b + dot _ y)
      rw [ih]
      grind
theorem dot_zero : ∀ (m : Nat) (y : List Rat), dot ((List.range m).map fun _ => (0 : Rat)) y = 0 := by
  intro m y
  generalize List.range m = l
  induction l generalizing y with
  | nil => rfl
  | cons a l ih =>
    cases y with
    | nil => rfl
    | cons b y =>
      show (0 : Rat) * b + dot _ y = 0
      rw [ih]
      grind
/-- the column of a place -/
def colR (rows : List Rw) (k : Nat) : List Rat := rows.map fun r => r.1.getD k 0
theorem carry_eq {m : Nat} {y : List Rat} (hy : y.length = m) : ∀ (c : List Rat) (rows : List Rw), (∀ r ∈ rows, r.1.length = m) → dot ((List.range m).map fun k => dot c (colR rows k)) y + dot c (rows.map (·.2)) = dot c (rows.map fun r => r.2 + dot r.1 y)
  | [], rows, _ => by
    have e : (fun k => dot [] (colR rows k)) = fun _ : Nat => (0 : Rat) := rfl
    rw [e, dot_zero]
    show (0 : Rat) + 0 = 0
    grind
  | a :: c, [], _ => by
    have e : (fun k => dot (a :: c) (colR [] k)) = fun _ : Nat => (0 : Rat) := rfl
    rw [e, dot_zero]
    show (0 : Rat) + 0 = 0
    grind
  | a :: c, r :: rows, h => by
    have ih := carry_eq hy c rows fun r hr => h r (by simp [hr])
    have e : (fun k => dot (a :: c) (colR (r :: rows) k)) = fun k => a * r.1.getD k 0 + dot c (colR rows k) := rfl
    rw [e, dot_lin a m r.1 y _ (h r (by simp)) hy]
    show a * dot r.1 y + dot _ y + (a * r.2 + dot c _) = a * (r.2 + dot r.1 y) + dot c _
    rw [← ih]
    grind
/-! ### values -/
theorem for_app_set {S : Type} {h : Ev → Da → Option Ev} {i : Nat} {f : Ev → Fx S Da} : ∀ (as bs : List Da) (ρ ρ' : Ev) (s s' : S), forF h (gSet i f) as ρ s = .nx ρ' s' → forF h (gSet i f) (as ++ bs) ρ s = forF h (gSet i f) bs ρ' s'
  | [], bs, ρ, ρ', s, s', e => by
    have e' : Out.nx ρ s = .nx ρ' s' := e
    cases e'
    rfl
  | a :: as, bs, ρ, ρ', s, s', e => by
    rw [List.cons_append]
    rw [forF] at e ⊢
    cases q : h ρ a with
    | none => rw [q] at e; cases e
    | some ρ1 =>
      rw [q] at e
      simp only [ap_set] at e ⊢
      cases q2 : f ρ1 s with
      | ok z =>
        obtain ⟨d, s1⟩ := z
        rw [q2] at e
        exact for_app_set as bs _ ρ' s1 s' e
      | er c => rw [q2] at e; cases e
      | no => rw [q2] at e; cases e
section
variable {K : PySem.W.Frag}
theorem told_of {i : Nat} {ls : List Da} {x y : List Rat} {x2 : Sl} (e : forF (hName 2) (toldB K) ls [.dat (netD i ls), .dat (vecD x), .no] () = .nx [.dat (netD i ls), .dat (vecD y), x2] ()) : F_law_v_told K [netD i ls, vecD x] = .ok (vecD y) := by
  have i1 : ixF (netD i ls) (.int 1) = some (.tup ls) := ix1 _ _ _
  have hit : fIt (S := Unit) (fBin ixF (fName 0) (fC (.int 1))) [.dat (netD i ls), .dat (vecD x), .no] () = .ok (ls, ()) := by simp [i1]
  have g2 := (for_of hit).trans e
  unfold toldB at g2
  rw [E_law_v_told]
  unfold g_law_v_told
  rw [sq_nx g2, rt_of (d := vecD y) (s' := ()) (by simp), ap_finD_r]
def clD (c0 c1 : List Rat) (c2 : Rat) : Da := .tup [vecD c0, vecD c1, fr c2]
theorem val_of {net : Da} {c0 c1 v y : List Rat} {c2 : Rat} {D M : Nat} (ht : F_law_v_told K [net, vecD v] = .ok (vecD y)) (h0 : ∀ q ∈ c0, QB 6 24 q) (l0 : c0.length ≤ 3) (hv : ∀ q ∈ v, QB 6 24 q) (h1 : ∀ q ∈ c1, QB 36 1296 q) (l1 : c1.length ≤ 3) (h2 : QB 36 1440 c2) (hy : ∀ q ∈ y, QB D M q) (hD : 0 < D ∧ D ≤ 10000 ∧ M ≤ 10 ^ 12) :
    F_law_k82_value K [net, clD c0 c1 c2, vecD v] = .ok (fr ((c2 + dot c0 v) + (0 + dot c1 y))) := by
  have i0 : ixF (clD c0 c1 c2) (.int 0) = some (vecD c0) := ix0 _ _
  have i1 : ixF (clD c0 c1 c2) (.int 1) = some (vecD c1) := ix1 _ _ _
  have i2 : ixF (clD c0 c1 c2) (.int 2) = some (fr c2) := ix2 _ _ _ _
  have ll0 : c0.length * (24 * 24) ≤ 3 * (24 * 24) := Nat.mul_le_mul_right _ l0
  have ll1 : c1.length * (1296 * M) ≤ 3 * (1296 * M) := Nat.mul_le_mul_right _ l1
  have s1 := r_law_v_sum (K := K) (ws := c0) (xs := v) (acc := c2) (D := 6) (E := 6) (M := 24) (N := 24) (L := 1440) (by decide) (by decide) h0 hv h2 (by decide) (by omega) (by decide)
  have hz : QB (36 * D) 0 0 := QB.zero (by omega)
  have s2 := r_law_v_sum (K := K) (ws := c1) (xs := y) (acc := 0) (D := 36) (E := D) (M := 1296) (N := M) (L := 0) (by decide) hD.1 h1 hy hz ⟨by decide, by omega, by omega⟩ (by omega) (by omega)
  have q1 := h2.add (qb_dot (by decide) (by decide) c0 v h0 hv)
  have q2 := hz.add (qb_dot (by decide) hD.1 c1 y h1 hy)
  have pl := r_law_v_plus (K := K) (q1.lq (by decide) (by omega)) (q2.lq (by omega) (by omega))
  have z0 : fr 0 = .tup [.int 0, .int 1] := rfl
  rw [z0] at s2
  rw [E_law_k82_value]
  unfold g_law_k82_value
  simp [i0, i1, i2, s1, ht, s2, pl]
end
end Sw

set_option Elab.async false
set_option linter.all false
set_option maxRecDepth 100000
set_option maxHeartbeats 1000000
set_option exponentiation.threshold 5000
/-! SwPr: a claim carried back. -/
namespace Sw
open PySem PySem.Spec PyProof.Rows L2
section
variable {S : Type} {ρ ρ' : Ev} {s s' : S} {g k : Sx S} {t : Ev → Fx S Bool} {f : Ev → Fx S Da} {d : Da} {c : Str}
theorem sq_er (h : g ρ s = .er c) : gSeq g k ρ s = .er c := by rw [ap_seq, h]
theorem drop_of (h : f ρ s = .ok (d, s')) : gDrop f ρ s = .nx ρ s' := by rw [ap_gdrop, h]
theorem drop_er (h : f ρ s = .er c) : gDrop f ρ s = .er c := by rw [ap_gdrop, h]
theorem setD_of {i : Nat} {ds : List Da} {f : Ev → Fx S (List Da)} (h : f ρ s = .ok (ds, s')) : gSetD i f ρ s = .nx (ρ.set i (.dat (.lst ds))) s' := by rw [ap_setD, h]
theorem unp_of {h : Ev → Da → Option Ev} (e : f ρ s = .ok (d, s')) (e2 : h ρ d = some ρ') : gUnp f h ρ s = .nx ρ' s' := by
  unfold gUnp
  rw [e]
  simp only [e2]
theorem not_of {b : Bool} (h : t ρ s = .ok (b, s')) : fNot t ρ s = .ok (!b, s') := by rw [ap_not, ap_bnd, h]; rfl
end
theorem getD_get {α : Type} (l : List α) (d : α) {k : Nat} (h : k < l.length) : l.getD k d = l[k] := by
  rw [List.getD_eq_getElem?_getD, List.getElem?_eq_getElem h]
  rfl
theorem chain_snoc : ∀ (a : List Da) (l : Da) (n b : Int) (p : Int × Int), chainR a n b = some p → layerB l p.1 = true → chainR (a ++ [l]) n b = some (toldD l p.1, p.2 + bendsD l)
  | [], l, n, b, p, h, hl => by
    unfold chainR at h
    cases h
    show chainR [l] n b = _
    unfold chainR
    rw [if_pos hl]
    rfl
  | x :: a, l, n, b, p, h, hl => by
    rw [List.cons_append]
    unfold chainR at h ⊢
    split at h
    · rename_i z
      rw [if_pos z]
      exact chain_snoc a l _ _ p h hl
    · cases h
theorem widths_snoc : ∀ (a : List Da) (l : Da) (n b : Int) (p : Int × Int), chainR a n b = some p → widthsD (a ++ [l]) n = widthsD a n ++ [toldD l p.1]
  | [], l, n, b, p, h => by
    unfold chainR at h
    cases h
    rfl
  | x :: a, l, n, b, p, h => by
    unfold chainR at h
    split at h
    · have ih := widths_snoc a l _ _ p h
      rw [List.cons_append]
      show n :: widthsD (a ++ [l]) _ = _
      rw [ih]
      rfl
    · cases h
theorem ix_m1 (a : List Da) (l : Da) : ixF (.tup (a ++ [l])) (.int (-1)) = some l := by
  show atI (a ++ [l]) (-((1 : Nat) : Int)) = _
  rw [atI_neg _ 1 (by decide) (by simp)]
  simp
theorem ix_m2 (a : List Int) (k m : Int) (h : a.getLast? = some m) : ixF (.lst ((a ++ [k]).map Da.int)) (.int (-2)) = some (.int m) := by
  show atI _ (-((2 : Nat) : Int)) = _
  have la : 1 ≤ a.length := by
    cases a with
    | nil => cases h
    | cons _ _ => simp
  rw [atI_neg _ 2 (by decide) (by simp; omega), List.length_map, List.length_append, List.length_singleton, List.getElem?_map, List.getElem?_append_left (by omega), show a.length + 1 - 2 = a.length - 1 by omega, ← List.getLast?_eq_getElem?, h]
  rfl
section
variable {K : PySem.W.Frag}
theorem cb_net {d x : Da} (hd : Dt d) (h : netB d = false) : F_carried_back K [d, x] = .er "BadNet" := by
  have e : gDrop (S := Unit) (fCall (F_need_net K) (fCons (fName 0) (fNil))) [.dat d, .dat x, .no, .no, .no, .no, .no, .no] () = .er "BadNet" := by
    refine drop_er ?_
    simp [r_need_net hd, h]
  rw [E_carried_back]
  unfold g_carried_back
  rw [sq_er e]
  rfl
/-- a net all right, told by its parts -/
structure NetOk (i : Nat) (ls : List Da) (k : Int) : Prop where
  dt : Dt (netD i ls)
  ok : netB (netD i ls) = true
  len : ls.length ≤ 8
  ch : ∃ c, chainR ls ((i : Nat) : Int) 0 = some (k, c)
theorem cb_open {i : Nat} {ls : List Da} {k : Int} (N : NetOk i ls k) {x : Da} (hx : Dt x) {b : Bool} (h : claimB x (i : Nat) k = b) :
    gDrop (S := Unit) (fCall (F_need_net K) (fCons (fName 0) (fNil))) [.dat (netD i ls), .dat x, .no, .no, .no, .no, .no, .no] () = .nx [.dat (netD i ls), .dat x, .no, .no, .no, .no, .no, .no] () ∧
    fNot (S := Unit) (fTest (fCall (F_is_claim K) (fCons (fName 1) (fCons (fBin ixF (fName 0) (fC (.int 0))) (fCons (fCall (F_outputs_of K) (fCons (fName 0) (fNil))) (fNil)))))) [.dat (netD i ls), .dat x, .no, .no, .no, .no, .no, .no] () = .ok (!b, ()) := by
  obtain ⟨c, hc⟩ := N.ch
  have o := r_outputs_of (K := K) N.dt rfl N.ok hc N.len
  have i0 : ixF (netD i ls) (.int 0) = some (.int (i : Nat)) := ix0 _ _
  have cl := r_is_claim (K := K) (i := (i : Nat)) (o := k) hx
  have o' : F_outputs_of K [netD i ls] = .ok (.int k) := o
  refine ⟨drop_of (d := .non) ?_, ?_⟩
  · simp [r_need_net N.dt, N.ok]
  · simp [i0, o', cl, h]
theorem cb_claim {i : Nat} {ls : List Da} {k : Int} (N : NetOk i ls k) {x : Da} (hx : Dt x) (h : claimB x (i : Nat) k = false) : F_carried_back K [netD i ls, x] = .er "BadClaim" := by
  obtain ⟨e1, e2⟩ := cb_open (K := K) N hx h
  rw [E_carried_back]
  unfold g_carried_back
  rw [sq_nx e1, sq_er ((gi_t e2).trans (ap_raise _))]
  rfl
theorem cb_nets {i : Nat} {ls : List Da} {k : Int} (N : NetOk i ls k) {x : Da} (hx : Dt x) (h : claimB x (i : Nat) k = true) (hl : ls = [] ∨ ∃ (a : List Da) (y : Str) (ds : Da), ls = a ++ [.tup [.str y, ds]] ∧ (y = "mix") = False) : F_carried_back K [netD i ls, x] = .er "BadNets" := by
  obtain ⟨e1, e2⟩ := cb_open (K := K) N hx h
  have i1 : ixF (netD i ls) (.int 1) = some (.tup ls) := ix1 _ _ _
  have e3 : fOr (S := Unit) (fTest (fBin eqF (fBin ixF (fName 0) (fC (.int 1))) (fTup (fNil)))) (fTest (fBin neF (fBin ixF (fBin ixF (fBin ixF (fName 0) (fC (.int 1))) (fUn negF (fC (.int 1)))) (fC (.int 0))) (fC (.str "mix")))) [.dat (netD i ls), .dat x, .no, .no, .no, .no, .no, .no] () = .ok (true, ()) := by
    rcases hl with rfl | ⟨a, y, ds, rfl, hy⟩
    · simp [i1]
    · have ne : (a ++ [Da.tup [.str y, ds]]).isEmpty = false := by cases a <;> rfl
      have im := ix_m1 a (.tup [.str y, ds])
      have i00 : ixF (.tup [.str y, ds]) (.int 0) = some (.str y) := ix0 _ _
      simp [i1, ne, im, i00, hy]
  rw [E_carried_back]
  unfold g_carried_back
  rw [sq_nx e1, sq_nx ((gi_f e2).trans ap_nx), sq_er ((gi_t e3).trans (ap_raise _))]
  rfl
def wgtR (c1 : List Rat) (rows : List Rw) (m : Nat) : List Rat := (List.range m).map fun k => 0 + dot c1 (colR rows k)
def laterD (c0 c1 : List Rat) (c2 : Rat) (rows : List Rw) (m : Nat) : Da := clD c0 (wgtR c1 rows m) (c2 + dot c1 (rows.map (·.2)))
theorem cb_main {i : Nat} {a : List Da} {rows : List Rw} {m : Nat} {k ca : Int} (N : NetOk i (a ++ [mixD rows]) k) (ha : chainR a ((i : Nat) : Int) 0 = some (((m : Nat) : Int), ca)) (hm : m ≤ 1000) (hrl : rows.length ≤ 1000) (hrw : ∀ r ∈ rows, r.1.length = m)
    {c0 c1 : List Rat} {c2 : Rat} (hx : Dt (clD c0 c1 c2)) (h : claimB (clD c0 c1 c2) (i : Nat) k = true) {D E M N' L : Nat} (hD : 0 < D) (hE : 0 < E) (h1 : ∀ q ∈ c1, QB D M q) (hq : ∀ r ∈ rows, (∀ q ∈ r.1, QB E N' q) ∧ QB E N' r.2) (h2 : QB (D * E) L c2)
    (hb : M < 2 ^ 90 ∧ N' < 2 ^ 90 ∧ D * E < 2 ^ 90) (hl : L + c1.length * (M * N') < 2 ^ 90) (hp : M * N' < 2 ^ 90) (hdl : Dt (laterD c0 c1 c2 rows m)) :
    F_carried_back K [netD i (a ++ [mixD rows]), clD c0 c1 c2] = if claimB (laterD c0 c1 c2 rows m) (i : Nat) (m : Nat) = true then .ok (laterD c0 c1 c2 rows m) else .er "TooGreat" := by
  obtain ⟨e1, e2⟩ := cb_open (K := K) N hx h
  have i1 : ixF (netD i (a ++ [mixD rows])) (.int 1) = some (.tup (a ++ [mixD rows])) := ix1 _ _ _
  have i0 : ixF (netD i (a ++ [mixD rows])) (.int 0) = some (.int (i : Nat)) := ix0 _ _
  have im := ix_m1 a (mixD rows)
  have x0 : ixF (mixD rows) (.int 0) = some (.str "mix") := ix0 _ _
  have x1 : ixF (mixD rows) (.int 1) = some (.tup (rows.map rowD)) := ix1 _ _ _
  have j0 : ixF (clD c0 c1 c2) (.int 0) = some (vecD c0) := ix0 _ _
  have j1 : ixF (clD c0 c1 c2) (.int 1) = some (vecD c1) := ix1 _ _ _
  have j2 : ixF (clD c0 c1 c2) (.int 2) = some (fr c2) := ix2 _ _ _ _
  have ne : (a ++ [mixD rows]).isEmpty = false := by cases a <;> rfl
  have e3 : fOr (S := Unit) (fTest (fBin eqF (fBin ixF (fName 0) (fC (.int 1))) (fTup (fNil)))) (fTest (fBin neF (fBin ixF (fBin ixF (fBin ixF (fName 0) (fC (.int 1))) (fUn negF (fC (.int 1)))) (fC (.int 0))) (fC (.str "mix")))) [.dat (netD i (a ++ [mixD rows])), .dat (clD c0 c1 c2), .no, .no, .no, .no, .no, .no] () = .ok (false, ()) := by
    simp [i1, ne, im, x0]
  obtain ⟨cc, hc⟩ := N.ch
  have w := r_widths_in (K := K) hc N.len
  have wl := widths_last a ((i : Nat) : Int) 0 _ ha
  have wi : F_widths_in K [netD i (a ++ [mixD rows])] = .ok (.lst ((widthsD a (i : Nat) ++ [toldD (mixD rows) (m : Nat)]).map Da.int)) := by
    rw [← widths_snoc a (mixD rows) (i : Nat) 0 _ ha]
    exact w
  have wx := ix_m2 (widthsD a (i : Nat)) (toldD (mixD rows) (m : Nat)) (m : Nat) wl
  have e4 : gUnp (S := Unit) (fTup (fCons (fBin ixF (fBin ixF (fBin ixF (fName 0) (fC (.int 1))) (fUn negF (fC (.int 1)))) (fC (.int 1))) (fCons (fBin ixF (fCall (F_widths_in K) (fCons (fName 0) (fNil))) (fUn negF (fC (.int 2)))) (fNil)))) (hTup (hCons (hName 4) (hCons (hName 5) (hNil)))) [.dat (netD i (a ++ [mixD rows])), .dat (clD c0 c1 c2), .no, .no, .no, .no, .no, .no] () =
      .nx [.dat (netD i (a ++ [mixD rows])), .dat (clD c0 c1 c2), .no, .no, .dat (.tup (rows.map rowD)), .dat (.int (m : Nat)), .no, .no] () := by
    refine unp_of (d := .tup [.tup (rows.map rowD), .int (m : Nat)]) ?_ rfl
    refine tup2_of (s1 := ()) ?_ ?_
    · simp [i1, im, x1]
    · simp only [ap_bin, ap_bnd, ap_call, ap_cons, ap_name, List.getElem?_cons_zero, nameR_d, ap_nil, ap_ret, wi, ap_liftR_o, ap_un, ap_C, neg_int, ap_lift_s, wx]
  have z0 : fr 0 = .tup [.int 0, .int 1] := rfl
  have hcol : ∀ (k : Nat), k < m → ∀ q ∈ colR rows k, QB E N' q := fun k hk q hq' => by
    obtain ⟨r, hr, rfl⟩ := List.mem_map.mp hq'
    have hl := hrw r hr
    rw [getD_get _ _ (by omega)]
    exact (hq r hr).1 _ (List.getElem_mem _)
  have e5 : fComp (S := Unit) (fRng1 (fCons (fName 5) (fNil))) (hName 6) (fTrue) (fCall (F_sum_of K) (fCons (fBin ixF (fName 1) (fC (.int 1))) (fCons (fLst (fComp (fIt (fName 4)) (hName 7) (fTrue) (fBin ixF (fBin ixF (fName 7) (fC (.int 0))) (fName 6)) [7])) (fCons (fC (.tup [(.int 0), (.int 1)])) (fNil))))) [6] [.dat (netD i (a ++ [mixD rows])), .dat (clD c0 c1 c2), .no, .no, .dat (.tup (rows.map rowD)), .dat (.int (m : Nat)), .no, .no] () = .ok ((wgtR c1 rows m).map fr, ()) := by
    have hit : fRng1 (S := Unit) (fCons (fName 5) (fNil)) [.dat (netD i (a ++ [mixD rows])), .dat (clD c0 c1 c2), .no, .no, .dat (.tup (rows.map rowD)), .dat (.int (m : Nat)), .no, .no] () = .ok ((List.range m).map fun k => Da.int (k : Nat), ()) := by
      have z := rng_nat (S := Unit) (ρ := [.dat (netD i (a ++ [mixD rows])), .dat (clD c0 c1 c2), .no, .no, .dat (.tup (rows.map rowD)), .dat (.int (m : Nat)), .no, .no]) (s := ()) (fCons (fName 5) (fNil)) m () (by simp) (by omega)
      rw [rng_ints, List.map_map] at z
      exact z
    have z := comp_enc (S := Unit) (h := hName 6) (f := fCall (F_sum_of K) (fCons (fBin ixF (fName 1) (fC (.int 1))) (fCons (fLst (fComp (fIt (fName 4)) (hName 7) (fTrue) (fBin ixF (fBin ixF (fName 7) (fC (.int 0))) (fName 6)) [7])) (fCons (fC (.tup [(.int 0), (.int 1)])) (fNil))))) (vs := [6]) (fun k : Nat => Da.int (k : Nat)) (fun k => fr (0 + dot c1 (colR rows k))) (List.range m) hit (by rw [List.length_range]; exact hm) fun k hk => by
      have hk' := List.mem_range.mp hk
      refine ⟨[.dat (netD i (a ++ [mixD rows])), .dat (clD c0 c1 c2), .no, .no, .dat (.tup (rows.map rowD)), .dat (.int (m : Nat)), .dat (.int (k : Nat)), .no], rfl, ?_⟩
      have inner := comp_enc (S := Unit) (it := fIt (fName 4)) (h := hName 7) (f := fBin ixF (fBin ixF (fName 7) (fC (.int 0))) (fName 6)) (vs := [7]) (ρ := [.dat (netD i (a ++ [mixD rows])), .dat (clD c0 c1 c2), .no, .no, .dat (.tup (rows.map rowD)), .dat (.int (m : Nat)), .dat (.int (k : Nat)), .no]) (s := ()) (s0 := ()) rowD (fun r => fr (r.1.getD k 0)) rows (by simp) hrl fun r hr => by
        refine ⟨[.dat (netD i (a ++ [mixD rows])), .dat (clD c0 c1 c2), .no, .no, .dat (.tup (rows.map rowD)), .dat (.int (m : Nat)), .dat (.int (k : Nat)), .dat (rowD r)], rfl, ?_⟩
        have y0 : ixF (rowD r) (.int 0) = some (vecD r.1) := ix0 _ _
        have y1 : ixF (vecD r.1) (.int (k : Nat)) = some (fr (r.1.getD k 0)) := by
          have hl := hrw r hr
          show atI _ _ = _
          rw [atI_k, List.getElem?_map, getD_get _ _ (by omega), List.getElem?_eq_getElem (by omega)]
          rfl
        simp [y0, y1]
      have so := r_sum_of (K := K) (ws := c1) (xs := colR rows k) (acc := 0) (L := 0) hD hE h1 (hcol k hk') (QB.zero (Nat.mul_pos hD hE)) hb (by omega) hp
      have ce : (colR rows k).map fr = rows.map fun r => fr (r.1.getD k 0) := by
        unfold colR
        rw [List.map_map]
        rfl
      rw [ce, z0] at so
      simp only [ap_call, ap_bnd, ap_cons, ap_bin, ap_name, List.getElem?_cons_succ, List.getElem?_cons_zero, nameR_d, ap_C, j1, ap_lift_s, ap_lst, inner, ap_ret, ap_nil, so, ap_liftR_o]
    unfold wgtR
    rw [List.map_map]
    exact z
  have e6 : fTup (S := Unit) (fCons (fBin ixF (fName 1) (fC (.int 0))) (fCons (fApp tupF (fCons (fName 2) (fNil))) (fCons (fCall (F_sum_of K) (fCons (fBin ixF (fName 1) (fC (.int 1))) (fCons (fLst (fComp (fIt (fName 4)) (hName 7) (fTrue) (fBin ixF (fName 7) (fC (.int 1))) [7])) (fCons (fBin ixF (fName 1) (fC (.int 2))) (fNil))))) (fNil)))) [.dat (netD i (a ++ [mixD rows])), .dat (clD c0 c1 c2), .dat (.lst ((wgtR c1 rows m).map fr)), .no, .dat (.tup (rows.map rowD)), .dat (.int (m : Nat)), .no, .no] () = .ok (laterD c0 c1 c2 rows m, ()) := by
    have inner := comp_enc (S := Unit) (it := fIt (fName 4)) (h := hName 7) (f := fBin ixF (fName 7) (fC (.int 1))) (vs := [7]) (ρ := [.dat (netD i (a ++ [mixD rows])), .dat (clD c0 c1 c2), .dat (.lst ((wgtR c1 rows m).map fr)), .no, .dat (.tup (rows.map rowD)), .dat (.int (m : Nat)), .no, .no]) (s := ()) (s0 := ()) rowD (fun r => fr r.2) rows (by simp) hrl fun r hr => by
      refine ⟨[.dat (netD i (a ++ [mixD rows])), .dat (clD c0 c1 c2), .dat (.lst ((wgtR c1 rows m).map fr)), .no, .dat (.tup (rows.map rowD)), .dat (.int (m : Nat)), .no, .dat (rowD r)], rfl, ?_⟩
      have y1 : ixF (rowD r) (.int 1) = some (fr r.2) := ix1 _ _ _
      simp [y1]
    have so := r_sum_of (K := K) (ws := c1) (xs := rows.map (·.2)) (acc := c2) (L := L) hD hE h1 (fun q hq' => by
      obtain ⟨r, hr, rfl⟩ := List.mem_map.mp hq'
      exact (hq r hr).2) h2 hb hl hp
    have ce : (rows.map (·.2)).map fr = rows.map fun r => fr r.2 := by
      rw [List.map_map]
      rfl
    rw [ce] at so
    simp only [ap_tup, ap_app, ap_call, ap_bnd, ap_cons, ap_bin, ap_name, List.getElem?_cons_succ, List.getElem?_cons_zero, nameR_d, ap_C, j0, j1, j2, ap_lift_s, ap_lst, inner, ap_ret, ap_nil, so, ap_liftR_o, tup_lst]
    rfl
  have cl := r_is_claim (K := K) (i := (i : Nat)) (o := (m : Nat)) hdl
  have e7 : fNot (S := Unit) (fTest (fCall (F_is_claim K) (fCons (fName 3) (fCons (fBin ixF (fName 0) (fC (.int 0))) (fCons (fName 5) (fNil)))))) [.dat (netD i (a ++ [mixD rows])), .dat (clD c0 c1 c2), .dat (.lst ((wgtR c1 rows m).map fr)), .dat (laterD c0 c1 c2 rows m), .dat (.tup (rows.map rowD)), .dat (.int (m : Nat)), .no, .no] () = .ok (!claimB (laterD c0 c1 c2 rows m) (i : Nat) (m : Nat), ()) := by
    simp [i0, cl]
  rw [E_carried_back]
  unfold g_carried_back
  have e5' := setD_of (i := 2) e5
  have e6' := set_of (i := 3) e6
  simp only [List.set_cons_succ, List.set_cons_zero] at e5' e6'
  rw [sq_nx e1, sq_nx ((gi_f e2).trans ap_nx), sq_nx ((gi_f e3).trans ap_nx), sq_nx e4, sq_nx e5', sq_nx e6']
  cases z : claimB (laterD c0 c1 c2 rows m) (i : Nat) (m : Nat) with
  | true =>
    rw [z] at e7
    have e8 := (gi_f (g := gRaise "TooGreat") (k := gNx) e7).trans ap_nx
    have e9 := sq_nx (k := gRet (fName 3)) e8
    rw [if_pos rfl]
    refine (congrArg finD e9).trans ?_
    rw [rt_of (d := laterD c0 c1 c2 rows m) (s' := ()) (by simp), ap_finD_r]
  | false =>
    rw [z] at e7
    have e8 := (gi_t (g := gRaise "TooGreat") (k := gNx) e7).trans (ap_raise _)
    have e9 := sq_er (k := gRet (fName 3)) e8
    rw [if_neg (by decide)]
    refine (congrArg finD e9).trans ?_
    rw [ap_finD_e]
end
end Sw

set_option Elab.async false
set_option linter.all false
set_option maxRecDepth 100000
set_option maxHeartbeats 1000000
set_option exponentiation.threshold 5000
/-! SwPs: claims; what is shown of them. -/
namespace Sw
open PySem PySem.Spec PyProof.Rows L2
/-! ### shown -/
def frP (q : Rat) : PyData := .tuple [.int q.num, .int (q.den : Nat)]
theorem fr_py (q : Rat) : (fr q).py = some (frP q) := by
  unfold fr frP Da.py
  rfl
theorem pyL_fr : ∀ w : List Rat, pyL (w.map fr) = some (w.map frP)
  | [] => rfl
  | q :: w => by
    rw [List.map_cons]
    unfold pyL
    rw [fr_py, pyL_fr w]
    rfl
/-- small enough to be shown -/
def Shq (q : Rat) : Prop := q.num.natAbs < 10 ^ 12 ∧ q.den < 10 ^ 12
theorem QB.shq {D M : Nat} {q : Rat} (h : QB D M q) (hD : D < 10 ^ 12) (hM : M < 10 ^ 12) : Shq q := ⟨Nat.lt_of_le_of_lt h.num hM, Nat.lt_of_le_of_lt h.den hD⟩
theorem sh_int {i : Int} (h : i.natAbs < 10 ^ 12) : (PyData.int i).leavesShort 13 = true ∧ (PyData.int i).showable = true := by
  refine ⟨?_, ?_⟩
  · unfold PyData.leavesShort
    exact decide_eq_true (PyData.shown_int_le h)
  · unfold PyData.showable
    refine decide_eq_true ?_
    have := log_lt (n := i.natAbs) (k := 64) (by omega) (by decide)
    omega
theorem sh_fr {q : Rat} (h : Shq q) : (frP q).leavesShort 13 = true ∧ (frP q).showable = true ∧ (frP q).hasDict = false ∧ (frP q).depth = 1 ∧ (frP q).bulk ≤ 100 := by
  obtain ⟨a1, a2⟩ := sh_int h.1
  obtain ⟨b1, b2⟩ := sh_int (i := (q.den : Nat)) (by rw [Int.natAbs_natCast]; exact h.2)
  refine ⟨?_, ?_, rfl, rfl, ?_⟩
  · simp only [frP, PyData.leavesShort, PyData.leavesShortAll] at a1 b1 ⊢
    simp only [a1, b1, Bool.and_self]
  · simp only [frP, PyData.showable, PyData.showableAll] at a2 b2 ⊢
    simp only [a2, b2, Bool.and_self]
  · simp [frP, PyData.bulk, PyData.bulkAll]
theorem sh_vec : ∀ {w : List Rat}, (∀ q ∈ w, Shq q) → PyData.leavesShortAll 13 (w.map frP) = true ∧ PyData.showableAll (w.map frP) = true ∧ PyData.hasDictAll (w.map frP) = false ∧ PyData.depthAll (w.map frP) ≤ 1 ∧ PyData.bulkAll (w.map frP) ≤ 101 * w.length
  | [], _ => ⟨rfl, rfl, rfl, by decide, by decide⟩
  | q :: w, h => by
    obtain ⟨a1, a2, a3, a4, a5⟩ := sh_fr (h q (by simp))
    obtain ⟨b1, b2, b3, b4, b5⟩ := sh_vec (w := w) fun q hq => h q (by simp [hq])
    rw [List.map_cons]
    refine ⟨?_, ?_, ?_, ?_, ?_⟩
    · unfold PyData.leavesShortAll; rw [a1, b1]; rfl
    · unfold PyData.showableAll; rw [a2, b2]; rfl
    · unfold PyData.hasDictAll; rw [a3, b3]; rfl
    · unfold PyData.depthAll; rw [a4]; omega
    · unfold PyData.bulkAll; rw [List.length_cons]; omega
theorem repr_cl {c0 c1 : List Rat} {c2 : Rat} (h0 : ∀ q ∈ c0, Shq q) (h1 : ∀ q ∈ c1, Shq q) (h2 : Shq c2) (l0 : c0.length ≤ 100) (l1 : c1.length ≤ 100) : ∃ x, reprF [clD c0 c1 c2] = some (.str x) := by
  obtain ⟨a1, a2, a3, a4, a5⟩ := sh_vec h0
  obtain ⟨b1, b2, b3, b4, b5⟩ := sh_vec h1
  obtain ⟨d1, d2, d3, d4, d5⟩ := sh_fr h2
  have e : pyL [vecD c0, vecD c1, fr c2] = some [.tuple (c0.map frP), .tuple (c1.map frP), frP c2] := by
    have v : ∀ w : List Rat, (vecD w).py = some (.tuple (w.map frP)) := fun w => by
      unfold vecD Da.py
      rw [pyL_fr]
      rfl
    unfold pyL pyL pyL pyL
    rw [v, v, fr_py]
  have ok : reprOk (.tuple [.tuple (c0.map frP), .tuple (c1.map frP), frP c2]) = true := by
    have k1 : (PyData.tuple [.tuple (c0.map frP), .tuple (c1.map frP), frP c2]).leavesShort 13 = true := by
      simp only [PyData.leavesShort, PyData.leavesShortAll, a1, b1, d1, Bool.and_self]
    have k2 : (PyData.tuple [.tuple (c0.map frP), .tuple (c1.map frP), frP c2]).showable = true := by
      simp only [PyData.showable, PyData.showableAll, a2, b2, d2, Bool.and_self]
    have k3 : (PyData.tuple [.tuple (c0.map frP), .tuple (c1.map frP), frP c2]).hasDict = false := by
      simp only [PyData.hasDict, PyData.hasDictAll, a3, b3, d3, Bool.or_self]
    have k4 : (PyData.tuple [.tuple (c0.map frP), .tuple (c1.map frP), frP c2]).depth ≤ 60 := by
      simp only [PyData.depth, PyData.depthAll]
      omega
    have k5 : (PyData.tuple [.tuple (c0.map frP), .tuple (c1.map frP), frP c2]).bulk ≤ 30000 := by
      simp only [PyData.bulk, PyData.bulkAll]
      omega
    have k6 := PyData.shown_le_bulk 13 (by decide) _ k1
    unfold reprOk
    rw [k2, k3, decide_eq_true k4, decide_eq_true (show (PyData.shown _).length ≤ 16000000 by omega)]
    rfl
  refine ⟨(PyData.tuple [.tuple (c0.map frP), .tuple (c1.map frP), frP c2]).shown, ?_⟩
  show (pyL [vecD c0, vecD c1, fr c2]).bind (fun ps => if reprOk (.tuple ps) = true then some (Da.str (PyData.tuple ps).shown) else none) = _
  rw [e]
  exact if_pos ok
/-! ### claims -/
theorem given_vec {w : List Rat} {n : Nat} (l : w.length = n) {D M : Nat} (h : ∀ q ∈ w, QB D M q) (hD : D ≤ 999999999) (hM : M ≤ 999999999) : givenB (vecD w) (n : Nat) = true := by
  have e : (w.map fr).all (sizB 999999999) = true := by
    rw [List.all_eq_true]
    intro d hd
    obtain ⟨q, hq, rfl⟩ := List.mem_map.mp hd
    exact siz_fr 999999999 (h q hq) (by omega) (by omega)
  simp only [givenB, vecD, List.length_map, l, e, decide_true, Bool.and_self]
theorem claim_of {c0 c1 : List Rat} {c2 : Rat} {i k : Nat} (l0 : c0.length = i) (l1 : c1.length = k) {D M : Nat} (h0 : ∀ q ∈ c0, QB 6 24 q) (h1 : ∀ q ∈ c1, QB D M q) (h2 : QB D M c2) (hD : D ≤ 999999999) (hM : M ≤ 999999999) : claimB (clD c0 c1 c2) (i : Nat) (k : Nat) = true := by
  simp only [claimB, clD, given_vec l0 h0 (by decide) (by decide), given_vec l1 h1 hD hM, siz_fr 999999999 h2 (by omega) (by omega), Bool.and_self]
theorem dt_cl {c0 c1 : List Rat} {c2 : Rat} (l0 : c0.length ≤ 1000) (l1 : c1.length ≤ 1000) (h0 : ∀ q ∈ c0, Bq q) (h1 : ∀ q ∈ c1, Bq q) (h2 : Bq c2) : Dt (clD c0 c1 c2) := dt_three (dt_vec l0 h0) (dt_vec l1 h1) (dt_fr h2)
theorem wrong_short (c0 c1 : List Rat) (i k : Int) : claimB (.tup [vecD c0, vecD c1]) i k = false := rfl
theorem wrong_non (i k : Int) : claimB .non i k = false := rfl
theorem wrong_long {c0 c1 : List Rat} {c2 : Rat} {i : Int} {k : Nat} (l1 : c1.length = k) : claimB (clD c0 (c1 ++ [0]) c2) i (k : Nat) = false := by
  have e : givenB (vecD (c1 ++ [0])) (k : Nat) = false := by
    have n : ¬ (((c1 ++ [(0 : Rat)]).map fr).length : Int) = (k : Nat) := by
      rw [List.length_map, List.length_append, List.length_singleton]
      omega
    simp only [givenB, vecD, decide_eq_false n, Bool.false_and]
  simp only [claimB, clD, e, Bool.false_and, Bool.and_false]
theorem wrong_frac (c0 c1 : List Rat) (i k : Int) : claimB (.tup [vecD c0, vecD c1, .tup [.int 1, .int 0]]) i k = false := by
  have e : sizB 999999999 (.tup [.int 1, .int 0]) = false := by decide +kernel
  simp only [claimB, e, Bool.and_false]
end Sw

set_option Elab.async false
set_option linter.all false
set_option maxRecDepth 100000
set_option maxHeartbeats 2000000
set_option exponentiation.threshold 5000
namespace Sw
open PySem PySem.Spec PyProof.Rows L2
/-! SwPt (k82, printed by k82law.py): one lap, what is drawn. -/
section
variable {K : PySem.W.Frag} {sa : Addr}
/-- a drawn net, all right -/
structure DNet (i : Nat) (ls : List Da) (k : Nat) : Prop where
  hi : 1 ≤ i ∧ i ≤ 3
  hk : 1 ≤ k ∧ k ≤ 3
  hl : 1 ≤ ls.length ∧ ls.length ≤ 4
  ch : ∃ c, Ch ls i k c ∧ c ≤ 4
theorem DNet.ok {i k : Nat} {ls : List Da} (N : DNet i ls k) : NetOk i ls (k : Nat) := by
  obtain ⟨c, h, hc⟩ := N.ch
  obtain ⟨h1, h2, h3⟩ := h.net N.hi (by have := N.hl; omega) (by omega)
  exact ⟨h1, h2, by have := N.hl; omega, ⟨(c : Nat), h3⟩⟩
theorem widths_ap {i : Nat} {ls : List Da} {k : Nat} (N : NetOk i ls (k : Nat)) {ρ : Ev} {s : Dr} {j : Nat} (e : ρ[j]? = some (.dat (netD i ls))) : fBin ixF (fCall (F_widths_of K) (fCons (fName j) (fNil))) (fUn negF (fC (.int 1))) ρ s = .ok (.int (k : Nat), s) := by
  obtain ⟨c, hc⟩ := N.ch
  have w : F_widths_of K [netD i ls] = .ok (.tup ((widthsD ls ((i : Nat) : Int)).map Da.int)) := r_widths_of (K := K) N.dt rfl N.ok hc N.len
  have l := (ix_last (widths_last ls _ 0 _ hc)).2
  simp only [ap_bin, ap_bnd, ap_call, ap_cons, ap_name, e, nameR_d, ap_nil, ap_ret, w, ap_liftR_o, ap_un, ap_C, neg_int, ap_lift_s, l]
theorem tup3_of {S : Type} {ρ : Ev} {s s1 s2 s' : S} {a b c : Da} {f g k : Ev → Fx S Da} (h : f ρ s = .ok (a, s1)) (h2 : g ρ s1 = .ok (b, s2)) (h3 : k ρ s2 = .ok (c, s')) : fTup (fCons f (fCons g (fCons k (fNil)))) ρ s = .ok (.tup [a, b, c], s') := by
  simp [h, h2, h3]
theorem callI_of {sa : Addr} {i : Nat} {F : List Da → Fx Dr Da} {h : Ev → Fx Dr (List Da)} {ρ : Ev} {s s' : Dr} {ds : List Da} {d : Da} (h0 : ρ[i]? = some (.raw (.ref sa))) (h1 : h ρ s = .ok (ds, s)) (h2 : F ds s = .ok (d, s')) : fCallI sa i F h ρ s = .ok (d, s') := by
  simp [h0, h1, h2]
theorem arg1 {S : Type} {ρ : Ev} {s : S} {j : Nat} {d : Da} (h : ρ[j]? = some (.dat d)) : fCons (fName j) (fNil) ρ s = .ok ([d], s) := by simp [h]
theorem argc {S : Type} {ρ : Ev} {s : S} {d : Da} : fCons (fC d) (fNil) ρ s = .ok ([d], s) := by simp
theorem mixset_gen {sa : Addr} (D : Da) (x2 x3 x4 x5 x6 x7 x8 x9 x10 x11 x12 x13 : Sl) {s s' : Dr} {i n : Nat} {ls : List Da} {l : Da} {f : Ev → Fx Dr Da} (hl : ls.length ≤ 900) (e : f [.dat D, .raw (.ref sa), x2, x3, .dat (.int (i : Nat)), .dat (netD i ls), .dat (.int (n : Nat)), x7, x8, x9, x10, x11, x12, x13] s = .ok (l, s')) : gSet 5 (fTup (fCons (fName 4) (fCons (fBin addF0 (fBin ixF (fName 5) (fC (.int 1))) (fTup (fCons f (fNil)))) (fNil)))) [.dat D, .raw (.ref sa), x2, x3, .dat (.int (i : Nat)), .dat (netD i ls), .dat (.int (n : Nat)), x7, x8, x9, x10, x11, x12, x13] s = .nx [.dat D, .raw (.ref sa), x2, x3, .dat (.int (i : Nat)), .dat (netD i (ls ++ [l])), .dat (.int (n : Nat)), x7, x8, x9, x10, x11, x12, x13] s' := by
  have i1 : ixF (netD i ls) (.int 1) = some (.tup ls) := ix1 _ _ _
  have ad : addF0 (.tup ls) (.tup [l]) = some (.tup (ls ++ [l])) := by
    have hs := line_big 1000 (by decide)
    exact if_pos (by simp; omega)
  simp [i1, e, ad]
  rfl
theorem lawA (K : PySem.W.Frag) (sa : Addr) (D : Da) (x2 x3 x4 x5 x6 x7 x8 x9 x10 x11 x12 x13 : Sl) (kk : Sx Dr) (s : Dr) (b : Nat) (h : Roomy (b + 200) s) :
    ∃ (i : Nat) (ls : List Da) (k : Nat) (c0 c1 : List Rat) (c2 : Rat) (s' : Dr), gSeq (gSet 4 (fBin addF0 (fC (.int 1)) (fCallI sa 1 (F_law_draw K sa) (fCons (fC (.int 3)) (fNil))))) (gSeq (gSet 5 (fCallI sa 1 (F_law_v_net K sa) (fCons (fName 4) (fCons (fBin addF0 (fC (.int 1)) (fCallI sa 1 (F_law_draw K sa) (fCons (fC (.int 3)) (fNil)))) (fCons (fC (.int 4)) (fNil)))))) (gSeq (gSet 6 (fBin ixF (fCall (F_widths_of K) (fCons (fName 5) (fNil))) (fUn negF (fC (.int 1))))) (gSeq (gIf (fTest (fBin gtF (fCallI sa 1 (F_law_draw K sa) (fCons (fC (.int 4)) (fNil))) (fC (.int 0)))) (gSet 5 (fTup (fCons (fName 4) (fCons (fBin addF0 (fBin ixF (fName 5) (fC (.int 1))) (fTup (fCons (fTup (fCons (fC (.str "mix")) (fCons (fApp tupF (fCons (fLst (fComp (fRng1 (fCons (fBin addF0 (fC (.int 1)) (fCallI sa 1 (F_law_draw K sa) (fCons (fC (.int 3)) (fNil)))) (fNil))) (hName 11) (fTrue) (fCallI sa 1 (F_law_v_row K sa) (fCons (fName 6) (fNil))) [11])) (fNil))) (fNil)))) (fNil)))) (fNil))))) (gNx)) (gSeq (gSet 6 (fBin ixF (fCall (F_widths_of K) (fCons (fName 5) (fNil))) (fUn negF (fC (.int 1))))) (gSeq (gSet 7 (fTup (fCons (fCallI sa 1 (F_law_v_input K sa) (fCons (fName 4) (fNil))) (fCons (fCallI sa 1 (F_law_v_input K sa) (fCons (fName 6) (fNil))) (fCons (fCallI sa 1 (F_law_v_number K sa) (fCons (fC (.int 4)) (fNil))) (fNil)))))) kk))))) [.dat D, .raw (.ref sa), x2, x3, x4, x5, x6, x7, x8, x9, x10, x11, x12, x13] s = kk [.dat D, .raw (.ref sa), x2, x3, .dat (.int (i : Nat)), .dat (netD i ls), .dat (.int (k : Nat)), .dat (clD c0 c1 c2), x8, x9, x10, x11, x12, x13] s' ∧
      DNet i ls k ∧ (c0.length = i ∧ ∀ q ∈ c0, QB 6 24 q) ∧ (c1.length = k ∧ ∀ q ∈ c1, QB 6 24 q) ∧ QB 6 24 c2 ∧ Roomy b s' := by
  obtain ⟨v, s1, d1, v0, v1, r1⟩ := draw_ok K sa 3 s (b + 199) (by omega) h
  obtain ⟨i, hi⟩ : ∃ i : Nat, 1 + v = (i : Nat) := ⟨(1 + v).toNat, by omega⟩
  have a1 : gSet 4 (fBin addF0 (fC (.int 1)) (fCallI sa 1 (F_law_draw K sa) (fCons (fC (.int 3)) (fNil)))) [.dat D, .raw (.ref sa), x2, x3, x4, x5, x6, x7, x8, x9, x10, x11, x12, x13] s = .nx [.dat D, .raw (.ref sa), x2, x3, .dat (.int (i : Nat)), x5, x6, x7, x8, x9, x10, x11, x12, x13] s1 := by
    refine set_of ?_
    simp only [ap_bin, ap_bnd, ap_C, ap_callI, List.getElem?_cons_succ, List.getElem?_cons_zero, callIR_r, ap_cons, ap_nil, ap_ret, d1, add_int, ap_lift_s, hi]
  obtain ⟨u, s2, d2, u0, u1, r2⟩ := draw_ok K sa 3 s1 (b + 198) (by omega) r1
  obtain ⟨m, hm⟩ : ∃ m : Nat, 1 + u = (m : Nat) := ⟨(1 + u).toNat, by omega⟩
  obtain ⟨ls, n, c, s3, d3, ⟨p1, p2, p3, p4, p5⟩, r3⟩ := net_ok (K := K) (sa := sa) i (by omega) m (by omega) s2 (b + 60) (r2.le (by omega))
  have a2 : gSet 5 (fCallI sa 1 (F_law_v_net K sa) (fCons (fName 4) (fCons (fBin addF0 (fC (.int 1)) (fCallI sa 1 (F_law_draw K sa) (fCons (fC (.int 3)) (fNil)))) (fCons (fC (.int 4)) (fNil))))) [.dat D, .raw (.ref sa), x2, x3, .dat (.int (i : Nat)), x5, x6, x7, x8, x9, x10, x11, x12, x13] s1 = .nx [.dat D, .raw (.ref sa), x2, x3, .dat (.int (i : Nat)), .dat (netD i ls), x6, x7, x8, x9, x10, x11, x12, x13] s3 := by
    refine set_of ?_
    rw [ap_callI]
    simp only [List.getElem?_cons_succ, List.getElem?_cons_zero, callIR_r, ap_bnd, ap_cons, ap_name, nameR_d, ap_bin, ap_C, ap_callI, ap_nil, ap_ret, d2, add_int, ap_lift_s, hm, d3]
  have N0 : DNet i ls n := ⟨by omega, ⟨p2, p3⟩, by omega, c, p1, p4⟩
  have a3 : gSet 6 (fBin ixF (fCall (F_widths_of K) (fCons (fName 5) (fNil))) (fUn negF (fC (.int 1)))) [.dat D, .raw (.ref sa), x2, x3, .dat (.int (i : Nat)), .dat (netD i ls), x6, x7, x8, x9, x10, x11, x12, x13] s3 = .nx [.dat D, .raw (.ref sa), x2, x3, .dat (.int (i : Nat)), .dat (netD i ls), .dat (.int (n : Nat)), x7, x8, x9, x10, x11, x12, x13] s3 := set_of (widths_ap N0.ok rfl)
  obtain ⟨w, s4, d4, w0, w1, r4⟩ := draw_ok K sa 4 s3 (b + 59) (by omega) r3
  have c4 : fTest (fBin gtF (fCallI sa 1 (F_law_draw K sa) (fCons (fC (.int 4)) (fNil))) (fC (.int 0))) [.dat D, .raw (.ref sa), x2, x3, .dat (.int (i : Nat)), .dat (netD i ls), .dat (.int (n : Nat)), x7, x8, x9, x10, x11, x12, x13] s3 = .ok (decide (0 < w), s4) := by
    simp only [ap_test, ap_bin, ap_bnd, ap_C, ap_callI, List.getElem?_cons_succ, List.getElem?_cons_zero, callIR_r, ap_cons, ap_nil, ap_ret, d4, gt_int, ap_lift_s, ap_tstR]
  have tail : ∃ (ls' : List Da) (k : Nat) (s5 : Dr), gIf (fTest (fBin gtF (fCallI sa 1 (F_law_draw K sa) (fCons (fC (.int 4)) (fNil))) (fC (.int 0)))) (gSet 5 (fTup (fCons (fName 4) (fCons (fBin addF0 (fBin ixF (fName 5) (fC (.int 1))) (fTup (fCons (fTup (fCons (fC (.str "mix")) (fCons (fApp tupF (fCons (fLst (fComp (fRng1 (fCons (fBin addF0 (fC (.int 1)) (fCallI sa 1 (F_law_draw K sa) (fCons (fC (.int 3)) (fNil)))) (fNil))) (hName 11) (fTrue) (fCallI sa 1 (F_law_v_row K sa) (fCons (fName 6) (fNil))) [11])) (fNil))) (fNil)))) (fNil)))) (fNil))))) (gNx) [.dat D, .raw (.ref sa), x2, x3, .dat (.int (i : Nat)), .dat (netD i ls), .dat (.int (n : Nat)), x7, x8, x9, x10, x11, x12, x13] s3 = .nx [.dat D, .raw (.ref sa), x2, x3, .dat (.int (i : Nat)), (.dat (netD i ls')), .dat (.int (n : Nat)), x7, x8, x9, x10, x11, x12, x13] s5 ∧ DNet i ls' k ∧ Roomy (b + 20) s5 := by
    by_cases hw : 0 < w
    · obtain ⟨rows, s5, d5, ⟨q1, q2, q3⟩, r5⟩ := mixrows_ok (K := K) (sa := sa) n (by omega) [.dat D, .raw (.ref sa), x2, x3, .dat (.int (i : Nat)), .dat (netD i ls), .dat (.int (n : Nat)), x7, x8, x9, x10, x11, x12, x13] 1 11 (fun _ => rfl) rfl 6 (fun _ => rfl) s4 (b + 20) (r4.le (by omega))
      have ly : Ly (mixD rows) n rows.length 0 := .mix rows n q1 q2 q3
      refine ⟨ls ++ [mixD rows], rows.length, s5, ?_, ⟨N0.hi, ⟨q1, q2⟩, by simp; omega, ⟨c + 0, p1.snoc p3 ly, by omega⟩⟩, r5⟩
      rw [decide_eq_true hw] at c4
      rw [gi_t c4]
      exact mixset_gen D x2 x3 x4 x5 x6 x7 x8 x9 x10 x11 x12 x13 (by omega) d5
    · refine ⟨ls, n, s4, ?_, N0, r4.le (by omega)⟩
      rw [decide_eq_false hw] at c4
      exact (gi_f c4).trans ap_nx
  obtain ⟨ls', k, s5, a4, N, r5⟩ := tail
  have a5 : gSet 6 (fBin ixF (fCall (F_widths_of K) (fCons (fName 5) (fNil))) (fUn negF (fC (.int 1)))) [.dat D, .raw (.ref sa), x2, x3, .dat (.int (i : Nat)), (.dat (netD i ls')), .dat (.int (n : Nat)), x7, x8, x9, x10, x11, x12, x13] s5 = .nx [.dat D, .raw (.ref sa), x2, x3, .dat (.int (i : Nat)), (.dat (netD i ls')), .dat (.int (k : Nat)), x7, x8, x9, x10, x11, x12, x13] s5 := set_of (widths_ap N.ok rfl)
  obtain ⟨c0, s6, d6, g0, r6⟩ := input_ok (K := K) (sa := sa) i (by omega) s5 (b + 14) (r5.le (by have := N.hi; omega))
  obtain ⟨c1, s7, d7, g1, r7⟩ := input_ok (K := K) (sa := sa) k (by have := N.hk; omega) s6 (b + 2) (r6.le (by have := N.hk; omega))
  obtain ⟨c2, s8, d8, g2, r8⟩ := number4 (K := K) (sa := sa) s7 b r7
  have a6 : gSet 7 (fTup (fCons (fCallI sa 1 (F_law_v_input K sa) (fCons (fName 4) (fNil))) (fCons (fCallI sa 1 (F_law_v_input K sa) (fCons (fName 6) (fNil))) (fCons (fCallI sa 1 (F_law_v_number K sa) (fCons (fC (.int 4)) (fNil))) (fNil))))) [.dat D, .raw (.ref sa), x2, x3, .dat (.int (i : Nat)), (.dat (netD i ls')), .dat (.int (k : Nat)), x7, x8, x9, x10, x11, x12, x13] s5 = .nx [.dat D, .raw (.ref sa), x2, x3, .dat (.int (i : Nat)), (.dat (netD i ls')), .dat (.int (k : Nat)), .dat (clD c0 c1 c2), x8, x9, x10, x11, x12, x13] s8 := by
    exact set_of (tup3_of (callI_of rfl (arg1 rfl) d6) (callI_of rfl (arg1 rfl) d7) (callI_of rfl argc d8))
  refine ⟨i, ls', k, c0, c1, c2, s8, ?_, N, g0, g1, g2, r8⟩
  rw [sq_nx a1, sq_nx a2, sq_nx a3, sq_nx a4, sq_nx a5, sq_nx a6]
end
end Sw

set_option Elab.async false
set_option linter.all false
set_option maxRecDepth 100000
set_option maxHeartbeats 2000000
set_option exponentiation.threshold 5000
namespace Sw
open PySem PySem.Spec PyProof.Rows L2
/-! SwPu (k82, printed by k82law.py): one lap, what is asked. -/
section
variable {K : PySem.W.Frag} {sa : Addr} {mg : Str → Option Value}
theorem kept_er {S : Type} {L : List Str} {f : Ev → Fx pureW.S Da} {ρ : Ev} {s : S} {x : Str} (h : f ρ () = .er x) (hx : x ∈ L) : fKept L f ρ s = .ok (.exc x, s) := by
  unfold fKept
  rw [h]
  exact if_pos hx
theorem kept_ok {S : Type} {L : List Str} {f : Ev → Fx pureW.S Da} {ρ : Ev} {s : S} {d : Da} (h : f ρ () = .ok (d, ())) : fKept L f ρ s = .ok (.non, s) := by
  unfold fKept
  rw [h]
theorem call2_ok {S : Type} {F : List Da → Rp Da} {ρ : Ev} {s : S} {f g : Ev → Fx S Da} {a b d : Da} (h1 : f ρ s = .ok (a, s)) (h2 : g ρ s = .ok (b, s)) (h : F [a, b] = .ok d) : fCall F (fCons f (fCons g (fNil))) ρ s = .ok (d, s) := by simp [h1, h2, h]
theorem call2_er {S : Type} {F : List Da → Rp Da} {ρ : Ev} {s : S} {f g : Ev → Fx S Da} {a b : Da} {c : Str} (h1 : f ρ s = .ok (a, s)) (h2 : g ρ s = .ok (b, s)) (h : F [a, b] = .er c) : fCall F (fCons f (fCons g (fNil))) ρ s = .er c := by simp [h1, h2, h]
theorem name_of {S : Type} {ρ : Ev} {s : S} {j : Nat} {d : Da} (h : ρ[j]? = some (.dat d)) : fName j ρ s = .ok (d, s) := by simp [h]
theorem kind_t {S : Type} {ρ : Ev} {s s' : S} {f : Ev → Fx S Da} {x w : Str} (hf : f ρ s = .ok (.exc x, s')) (hk : F_law_v_kind K [.exc x] = .ok (.str w)) : fTest (fBin neF (fCall (F_law_v_kind K) (fCons f (fNil))) (fC (.str w))) ρ s = .ok (false, s') := by simp [hf, hk]
theorem ne_fr (q : Rat) : neF (fr q) (fr q) = some (.bl false) := by
  have e : eqB (fr q) (fr q) = some (PyData.eqv (frP q) (frP q)) := by
    show eqvF (fr q) (fr q) = _
    unfold eqvF
    rw [fr_py]
    exact if_pos ⟨by simp [SeqAt.shaped, frP, PyData.canLay0, PyData.canLayAll0, PyData.depth, PyData.depthAll], by simp [SeqAt.shaped, frP, PyData.canLay0, PyData.canLayAll0, PyData.depth, PyData.depthAll]⟩
  have e2 : PyData.eqv (frP q) (frP q) = true := by simp [frP, PyData.eqv, PyData.eqvAll]
  unfold neF
  rw [e, e2]
  rfl
theorem cut_m1 (a : List Da) (l : Da) : slF (.tup (a ++ [l])) none (some (-1)) = some (.tup a) := by
  show some (Da.tup (cutD _ _ _)) = _
  unfold cutD
  have e : HT.sIx (a ++ [l]).length (a ++ [l]).length (some (-1)) = a.length := by
    show (if (-1 : Int) < 0 then ((-1 : Int) + ((a ++ [l]).length : Nat)).toNat else min (-1 : Int).toNat (a ++ [l]).length) = _
    rw [if_pos (by decide), List.length_append, List.length_singleton]
    omega
  rw [e, HT.sIx_none, List.drop_zero, Nat.sub_zero, List.take_left]
/-- where the last layer is no mix -/
theorem lawB0 (c : Fc K mg) (D : Da) (x2 x3 x4 x5 x6 x7 x8 x9 x10 x11 x12 x13 : Sl) (kk : Sx Dr) {i k : Nat} {ls : List Da} {c0 c1 : List Rat} {c2 : Rat} (s : Dr) (N : NetOk i ls (k : Nat)) (hx : Dt (clD c0 c1 c2)) (hc : claimB (clD c0 c1 c2) (i : Nat) (k : Nat) = true) (hl : ∃ (a : List Da) (y : Str) (ds : Da), ls = a ++ [.tup [.str y, ds]] ∧ (y = "mix") = False) :
    gSeq (gSet 8 (fKept exL (fCall (F_carried_back K) (fCons (fName 5) (fCons (fName 7) (fNil)))))) (gSeq (gIf (fTest (fBin neF (fBin ixF (fBin ixF (fBin ixF (fName 5) (fC (.int 1))) (fUn negF (fC (.int 1)))) (fC (.int 0))) (fC (.str "mix")))) (gSeq (gIf (fTest (fBin neF (fCall (F_law_v_kind K) (fCons (fName 8) (fNil))) (fC (.str "nets ")))) (gRet (fC (.bl false))) (gNx)) (gCt)) (gNx)) kk) [.dat D, .raw (.ref sa), x2, x3, .dat (.int (i : Nat)), .dat (netD i ls), .dat (.int (k : Nat)), .dat (clD c0 c1 c2), x8, x9, x10, x11, x12, x13] s = .ct [.dat D, .raw (.ref sa), x2, x3, .dat (.int (i : Nat)), .dat (netD i ls), .dat (.int (k : Nat)), .dat (clD c0 c1 c2), .dat (.exc "BadNets"), x9, x10, x11, x12, x13] s := by
  have hb := cb_nets (K := K) N hx hc (.inr hl)
  obtain ⟨a, y, ds, rfl, hy⟩ := hl
  have a1 : gSet 8 (fKept exL (fCall (F_carried_back K) (fCons (fName 5) (fCons (fName 7) (fNil))))) [.dat D, .raw (.ref sa), x2, x3, .dat (.int (i : Nat)), .dat (netD i (a ++ [.tup [.str y, ds]])), .dat (.int (k : Nat)), .dat (clD c0 c1 c2), x8, x9, x10, x11, x12, x13] s = .nx [.dat D, .raw (.ref sa), x2, x3, .dat (.int (i : Nat)), .dat (netD i (a ++ [.tup [.str y, ds]])), .dat (.int (k : Nat)), .dat (clD c0 c1 c2), .dat (.exc "BadNets"), x9, x10, x11, x12, x13] s := set_of (kept_er (call2_er (name_of rfl) (name_of rfl) hb) (by decide +kernel))
  have i1 : ixF (netD i (a ++ [.tup [.str y, ds]])) (.int 1) = some (.tup (a ++ [.tup [.str y, ds]])) := ix1 _ _ _
  have im := ix_m1 a (.tup [.str y, ds])
  have i00 : ixF (.tup [.str y, ds]) (.int 0) = some (.str y) := ix0 _ _
  have t : fTest (fBin neF (fBin ixF (fBin ixF (fBin ixF (fName 5) (fC (.int 1))) (fUn negF (fC (.int 1)))) (fC (.int 0))) (fC (.str "mix"))) [.dat D, .raw (.ref sa), x2, x3, .dat (.int (i : Nat)), .dat (netD i (a ++ [.tup [.str y, ds]])), .dat (.int (k : Nat)), .dat (clD c0 c1 c2), .dat (.exc "BadNets"), x9, x10, x11, x12, x13] s = .ok (true, s) := by simp [i1, im, i00, hy]
  have k1 : fTest (fBin neF (fCall (F_law_v_kind K) (fCons (fName 8) (fNil))) (fC (.str "nets "))) [.dat D, .raw (.ref sa), x2, x3, .dat (.int (i : Nat)), .dat (netD i (a ++ [.tup [.str y, ds]])), .dat (.int (k : Nat)), .dat (clD c0 c1 c2), .dat (.exc "BadNets"), x9, x10, x11, x12, x13] s = .ok (false, s) := kind_t (name_of rfl) (kind_BadNets c)
  rw [sq_nx a1]
  rw [ap_seq, gi_t t, sq_nx ((gi_f k1).trans ap_nx), ap_ct]
theorem later_bounds {n m : Nat} {c1 : List Rat} {c2 : Rat} {rows : List Rw} (h1 : ∀ q ∈ c1, QB 6 24 q) (l1 : c1.length ≤ 3) (h2 : QB 6 24 c2) (hr : ∀ r ∈ rows, RowOk m r) : (∀ q ∈ wgtR c1 rows m, QB 36 1296 q) ∧ QB 36 1440 (c2 + dot c1 (rows.map (·.2))) := by
  have l2 : c1.length * (24 * 18) ≤ 3 * (24 * 18) := Nat.mul_le_mul_right _ l1
  refine ⟨fun q hq => ?_, ?_⟩
  · obtain ⟨k, hk, rfl⟩ := List.mem_map.mp hq
    have hk' := List.mem_range.mp hk
    have hcol : ∀ q ∈ colR rows k, QB 6 18 q := fun q hq => by
      obtain ⟨r, hr', rfl⟩ := List.mem_map.mp hq
      obtain ⟨a1, a2, a3⟩ := hr r hr'
      rw [getD_get _ _ (by omega)]
      exact a2 _ (List.getElem_mem _)
    have z : QB 36 0 0 := QB.zero (by decide)
    exact (z.add (qb_dot (by decide) (by decide) c1 _ h1 hcol)).mono (by omega)
  · have z := h2.raise 6 (by decide)
    exact (z.add (qb_dot (D := 6) (E := 6) (N := 18) (by decide) (by decide) c1 _ h1 fun q hq => by
      obtain ⟨r, hr', rfl⟩ := List.mem_map.mp hq
      exact (hr r hr').2.2)).mono (by omega)
theorem wgt_len (c1 : List Rat) (rows : List Rw) (m : Nat) : (wgtR c1 rows m).length = m := by simp [wgtR]
theorem vals_eq {i m ca : Nat} {a : List Da} {rows : List Rw} (ha : Ch a i m ca) (la : a.length ≤ 3) (hm : m ≤ 3) (hrl : rows.length ≤ 3) (hr : ∀ r ∈ rows, RowOk m r) {c0 c1 : List Rat} {c2 : Rat} (h0 : ∀ q ∈ c0, QB 6 24 q) (l0 : c0.length ≤ 3) (h1 : ∀ q ∈ c1, QB 6 24 q) (l1 : c1.length ≤ 3) (h2 : QB 6 24 c2) {v : List Rat} (lv : v.length = i) (hv : ∀ q ∈ v, QB 6 24 q) :
    ∃ q, F_law_k82_value K [netD i a, laterD c0 c1 c2 rows m, vecD v] = .ok (fr q) ∧ F_law_k82_value K [netD i (a ++ [mixD rows]), clD c0 c1 c2, vecD v] = .ok (fr q) := by
  obtain ⟨y, e1, ly, qy⟩ := told_loop (K := K) ha v 0 lv (by omega) hv
  rw [Nat.zero_add] at qy
  obtain ⟨z1, e2⟩ := e1 (.dat (netD i a)) .no
  obtain ⟨z2, e3⟩ := e1 (.dat (netD i (a ++ [mixD rows]))) .no
  have b1 : (6 : Nat) ^ (a.length + 1) ≤ 6 ^ 4 := Nat.pow_le_pow_right (by decide) (by omega)
  have b2 : (200 : Nat) ^ a.length ≤ 200 ^ 3 := Nat.pow_le_pow_right (by decide) la
  have b3 : (6 : Nat) ^ 4 = 1296 := by decide
  have b4 : (200 : Nat) ^ 3 = 8000000 := by decide
  have b5 : 0 < (6 : Nat) ^ (a.length + 1) := Nat.pow_pos (by decide)
  have b6 : (10 : Nat) ^ 12 = 1000000000000 := by decide
  have b7 : (2 : Nat) ^ 80 = 1208925819614629174706176 := by decide
  have t1 := told_of e2
  have mv := mix_val (K := K) hr hrl hm qy b5 ⟨by omega, by omega⟩
  have e4 : forF (hName 2) (toldB K) (a ++ [mixD rows]) [.dat (netD i (a ++ [mixD rows])), .dat (vecD v), .no] () = .nx [.dat (netD i (a ++ [mixD rows])), .dat (vecD (rows.map fun r => r.2 + dot r.1 y)), .dat (mixD rows)] () := by
    refine (for_app_set a [mixD rows] _ _ () () e3).trans ?_
    refine (for_cons (ρ1 := [.dat (netD i (a ++ [mixD rows])), .dat (vecD y), .dat (mixD rows)]) (ρ2 := [.dat (netD i (a ++ [mixD rows])), .dat (vecD (rows.map fun r => r.2 + dot r.1 y)), .dat (mixD rows)]) (s2 := ()) rfl ?_).trans rfl
    exact set_of (call2_ok (name_of rfl) (name_of rfl) mv)
  have t2 := told_of e4
  obtain ⟨g1, g2⟩ := later_bounds (n := i) h1 l1 h2 hr
  have v1 := val_of (K := K) (c0 := c0) (c1 := wgtR c1 rows m) (c2 := c2 + dot c1 (rows.map (·.2))) t1 h0 l0 hv g1 (by rw [wgt_len]; exact hm) g2 qy ⟨b5, by omega, by omega⟩
  have qy2 : ∀ q ∈ rows.map (fun r => r.2 + dot r.1 y), QB (6 * 6 ^ (a.length + 1)) (18 * 6 ^ (a.length + 1) + 3 * (18 * (24 * 200 ^ a.length))) q := fun q hq => by
    obtain ⟨r, hr', rfl⟩ := List.mem_map.mp hq
    obtain ⟨a1, a2, a3⟩ := hr r hr'
    have l2 : r.1.length * (18 * (24 * 200 ^ a.length)) ≤ 3 * (18 * (24 * 200 ^ a.length)) := Nat.mul_le_mul_right _ (by omega)
    exact ((a3.raise _ b5).add (qb_dot (by decide) b5 r.1 y a2 qy)).mono (by omega)
  have v2 := val_of (K := K) (c0 := c0) (c1 := c1) (c2 := c2) t2 h0 l0 hv (fun q hq => ((h1 q hq).raise 6 (by decide)).mono (by omega)) l1 ((h2.raise 6 (by decide)).mono (by omega)) qy2 ⟨by omega, by omega, by omega⟩
  refine ⟨_, v1, v2.trans ?_⟩
  have ce := carry_eq ly c1 rows fun r hr' => (hr r hr').1
  have we : wgtR c1 rows m = (List.range m).map fun k => dot c1 (colR rows k) := by
    unfold wgtR
    refine List.map_congr_left fun k _ => ?_
    exact Rat.zero_add _
  rw [we, ← ce]
  congr 2
  grind
theorem val_loop (D : Da) (x2 x3 x4 x5 x6 x7 x8 x9 x10 x11 x12 x13 : Sl) {i m ca : Nat} {a : List Da} {rows : List Rw} (hi : i ≤ 3) (ha : Ch a i m ca) (la : a.length ≤ 3) (hm : m ≤ 3) (hrl : rows.length ≤ 3) (hr : ∀ r ∈ rows, RowOk m r) {c0 c1 : List Rat} {c2 : Rat} (h0 : ∀ q ∈ c0, QB 6 24 q) (l0 : c0.length ≤ 3) (h1 : ∀ q ∈ c1, QB 6 24 q) (l1 : c1.length ≤ 3) (h2 : QB 6 24 c2) :
    ∀ (ds : List Da) (x11 x13 : Sl) (s : Dr) (b : Nat), Roomy (b + 6 * ds.length) s → ∃ (x11' x13' : Sl) (s' : Dr), forF (hName 11) (gSeq (gSet 13 (fCallI sa 1 (F_law_v_input K sa) (fCons (fName 4) (fNil)))) (gIf (fTest (fBin neF (fCall (F_law_k82_value K) (fCons (fName 10) (fCons (fName 9) (fCons (fName 13) (fNil))))) (fCall (F_law_k82_value K) (fCons (fName 5) (fCons (fName 7) (fCons (fName 13) (fNil))))))) (gRet (fC (.bl false))) (gNx))) ds [.dat D, .raw (.ref sa), x2, x3, .dat (.int (i : Nat)), .dat (netD i (a ++ [mixD rows])), .dat (.int (rows.length : Nat)), .dat (clD c0 c1 c2), .dat .non, .dat (laterD c0 c1 c2 rows m), .dat (netD i a), x11, x12, x13] s = .nx [.dat D, .raw (.ref sa), x2, x3, .dat (.int (i : Nat)), .dat (netD i (a ++ [mixD rows])), .dat (.int (rows.length : Nat)), .dat (clD c0 c1 c2), .dat .non, .dat (laterD c0 c1 c2 rows m), .dat (netD i a), x11', x12, x13'] s' ∧ Roomy b s'
  | [], x11, x13, s, b, h => ⟨x11, x13, s, rfl, h⟩
  | d :: ds, x11, x13, s, b, h => by
    rw [List.length_cons] at h
    obtain ⟨v, s1, d1, ⟨lv, hv⟩, r1⟩ := input_ok (K := K) (sa := sa) i (by omega) s (b + 6 * ds.length) (h.le (by omega))
    obtain ⟨q, q1, q2⟩ := vals_eq (K := K) ha la hm hrl hr h0 l0 h1 l1 h2 lv hv
    obtain ⟨x11', x13', s', e, r⟩ := val_loop D x2 x3 x4 x5 x6 x7 x8 x9 x10 x11 x12 x13 hi ha la hm hrl hr h0 l0 h1 l1 h2 ds (.dat d) (.dat (vecD v)) s1 b r1
    refine ⟨x11', x13', s', ?_, r⟩
    have a1 : gSet 13 (fCallI sa 1 (F_law_v_input K sa) (fCons (fName 4) (fNil))) [.dat D, .raw (.ref sa), x2, x3, .dat (.int (i : Nat)), .dat (netD i (a ++ [mixD rows])), .dat (.int (rows.length : Nat)), .dat (clD c0 c1 c2), .dat .non, .dat (laterD c0 c1 c2 rows m), .dat (netD i a), .dat d, x12, x13] s = .nx [.dat D, .raw (.ref sa), x2, x3, .dat (.int (i : Nat)), .dat (netD i (a ++ [mixD rows])), .dat (.int (rows.length : Nat)), .dat (clD c0 c1 c2), .dat .non, .dat (laterD c0 c1 c2 rows m), .dat (netD i a), .dat d, x12, .dat (vecD v)] s1 := set_of (callI_of rfl (arg1 rfl) d1)
    have t1 : fTest (fBin neF (fCall (F_law_k82_value K) (fCons (fName 10) (fCons (fName 9) (fCons (fName 13) (fNil))))) (fCall (F_law_k82_value K) (fCons (fName 5) (fCons (fName 7) (fCons (fName 13) (fNil)))))) [.dat D, .raw (.ref sa), x2, x3, .dat (.int (i : Nat)), .dat (netD i (a ++ [mixD rows])), .dat (.int (rows.length : Nat)), .dat (clD c0 c1 c2), .dat .non, .dat (laterD c0 c1 c2 rows m), .dat (netD i a), .dat d, x12, .dat (vecD v)] s1 = .ok (false, s1) := by
      have n := ne_fr q
      simp [q1, q2, n]
    have step := (sq_nx (k := gIf (fTest (fBin neF (fCall (F_law_k82_value K) (fCons (fName 10) (fCons (fName 9) (fCons (fName 13) (fNil))))) (fCall (F_law_k82_value K) (fCons (fName 5) (fCons (fName 7) (fCons (fName 13) (fNil))))))) (gRet (fC (.bl false))) (gNx)) a1).trans ((gi_f t1).trans ap_nx)
    exact (for_cons rfl step).trans e
theorem wrong_loop (c : Fc K mg) (D : Da) (x2 x3 x4 x5 x6 x7 x8 x9 x10 x11 x12 x13 : Sl) {i k : Nat} {ls : List Da} {z7 : Sl} (N : NetOk i ls (k : Nat)) : ∀ (ws : List Da) (x12 : Sl) (s : Dr), (∀ w ∈ ws, Dt w ∧ claimB w (i : Nat) (k : Nat) = false) →
    ∃ x12', forF (hName 12) (gIf (fTest (fBin neF (fCall (F_law_v_kind K) (fCons (fKept exL (fCall (F_carried_back K) (fCons (fName 5) (fCons (fName 12) (fNil))))) (fNil))) (fC (.str "claim ")))) (gRet (fC (.bl false))) (gNx)) ws [.dat D, .raw (.ref sa), x2, x3, x4, .dat (netD i ls), x6, x7, x8, x9, x10, x11, x12, x13] s = .nx [.dat D, .raw (.ref sa), x2, x3, x4, .dat (netD i ls), x6, x7, x8, x9, x10, x11, x12', x13] s
  | [], x12, s, _ => ⟨x12, rfl⟩
  | w :: ws, x12, s, h => by
    obtain ⟨x12', e⟩ := wrong_loop c D x2 x3 x4 x5 x6 x7 x8 x9 x10 x11 x12 x13 (z7 := z7) N ws (.dat w) s fun w hw => h w (by simp [hw])
    refine ⟨x12', ?_⟩
    have hb := cb_claim (K := K) N (h w (by simp)).1 (h w (by simp)).2
    have k1 : fTest (fBin neF (fCall (F_law_v_kind K) (fCons (fKept exL (fCall (F_carried_back K) (fCons (fName 5) (fCons (fName 12) (fNil))))) (fNil))) (fC (.str "claim "))) [.dat D, .raw (.ref sa), x2, x3, x4, .dat (netD i ls), x6, x7, x8, x9, x10, x11, .dat w, x13] s = .ok (false, s) := kind_t (kept_er (call2_er (name_of rfl) (name_of rfl) hb) (by decide +kernel)) (kind_BadClaim c)
    exact (for_cons rfl ((gi_f k1).trans ap_nx)).trans e
end
end Sw

set_option Elab.async false
set_option linter.all false
set_option maxRecDepth 100000
set_option maxHeartbeats 2000000
set_option exponentiation.threshold 5000
namespace Sw
open PySem PySem.Spec PyProof.Rows L2
/-! SwPv (k82, printed by k82law.py): a lap, whole. -/
section
variable {K : PySem.W.Frag} {sa : Addr} {mg : Str → Option Value}
theorem cut_2 (a b c : Da) : slF (.tup [a, b, c]) none (some 2) = some (.tup [a, b]) := by
  show some (Da.tup (cutD _ _ _)) = _
  unfold cutD
  have e : HT.sIx [a, b, c].length [a, b, c].length (some 2) = 2 := by
    have := HT.sIx_nat [a, b, c].length [a, b, c].length 2
    rw [show ((2 : Nat) : Int) = 2 from rfl] at this
    rw [this]
    rfl
  rw [e, HT.sIx_none]
  rfl
theorem lawB1 (c : Fc K mg) (D : Da) (x2 x3 x4 x5 x6 x7 x8 x9 x10 x11 x12 x13 : Sl) {i m ca : Nat} {a : List Da} {rows : List Rw} (hi : 1 ≤ i ∧ i ≤ 3) (ha : Ch a i m ca) (hca : ca ≤ 4) (la : a.length ≤ 3) (hm : m ≤ 3) (hrl : 1 ≤ rows.length ∧ rows.length ≤ 3) (hr : ∀ r ∈ rows, RowOk m r) (N : NetOk i (a ++ [mixD rows]) (rows.length : Nat)) {c0 c1 : List Rat} {c2 : Rat} (h0 : ∀ q ∈ c0, QB 6 24 q) (l0 : c0.length = i) (h1 : ∀ q ∈ c1, QB 6 24 q) (l1 : c1.length = rows.length) (h2 : QB 6 24 c2) (s : Dr) (b : Nat) (h : Roomy (b + 18) s) :
    ∃ (x11' x12' x13' : Sl) (s' : Dr), gSeq (gSet 8 (fKept exL (fCall (F_carried_back K) (fCons (fName 5) (fCons (fName 7) (fNil)))))) (gSeq (gIf (fTest (fBin neF (fBin ixF (fBin ixF (fBin ixF (fName 5) (fC (.int 1))) (fUn negF (fC (.int 1)))) (fC (.int 0))) (fC (.str "mix")))) (gSeq (gIf (fTest (fBin neF (fCall (F_law_v_kind K) (fCons (fName 8) (fNil))) (fC (.str "nets ")))) (gRet (fC (.bl false))) (gNx)) (gCt)) (gNx)) (gSeq (gIf (fTest (fBin notNF (fName 8) (fC .non))) (gRet (fC (.bl false))) (gNx)) (gSeq (gSet 9 (fCall (F_carried_back K) (fPick [1, 0] (fNil) (fCons (fName 7) (fCons (fName 5) (fNil)))))) (gSeq (gSet 10 (fTup (fCons (fName 4) (fCons (fSl (fBin ixF (fName 5) (fC (.int 1))) (fPart none) (fPart (some (fUn negF (fC (.int 1)))))) (fNil))))) (gSeq (gIf (fOr (fNot (fTest (fCall (F_is_claim K) (fCons (fName 9) (fCons (fName 4) (fCons (fBin ixF (fCall (F_widths_of K) (fCons (fName 10) (fNil))) (fUn negF (fC (.int 1)))) (fNil))))))) (fTest (fBin neF (fApp reprF (fCons (fCall (F_carried_back K) (fCons (fName 5) (fCons (fName 7) (fNil)))) (fNil))) (fApp reprF (fCons (fName 9) (fNil)))))) (gRet (fC (.bl false))) (gNx)) (gSeq (gFor (fRng1 (fCons (fC (.int 3)) (fNil))) (hName 11) (gSeq (gSet 13 (fCallI sa 1 (F_law_v_input K sa) (fCons (fName 4) (fNil)))) (gIf (fTest (fBin neF (fCall (F_law_k82_value K) (fCons (fName 10) (fCons (fName 9) (fCons (fName 13) (fNil))))) (fCall (F_law_k82_value K) (fCons (fName 5) (fCons (fName 7) (fCons (fName 13) (fNil))))))) (gRet (fC (.bl false))) (gNx)))) (gSeq (gFor (fIt (fLst (fCons (fC .non) (fCons (fSl (fName 7) (fPart none) (fPart (some (fC (.int 2))))) (fCons (fTup (fCons (fBin ixF (fName 7) (fC (.int 0))) (fCons (fBin addF0 (fBin ixF (fName 7) (fC (.int 1))) (fTup (fCons (fTup (fCons (fC (.int 0)) (fCons (fC (.int 1)) (fNil)))) (fNil)))) (fCons (fBin ixF (fName 7) (fC (.int 2))) (fNil))))) (fCons (fTup (fCons (fBin ixF (fName 7) (fC (.int 0))) (fCons (fBin ixF (fName 7) (fC (.int 1))) (fCons (fTup (fCons (fC (.int 1)) (fCons (fC (.int 0)) (fNil)))) (fNil))))) (fNil))))))) (hName 12) (gIf (fTest (fBin neF (fCall (F_law_v_kind K) (fCons (fKept exL (fCall (F_carried_back K) (fCons (fName 5) (fCons (fName 12) (fNil))))) (fNil))) (fC (.str "claim ")))) (gRet (fC (.bl false))) (gNx))) (gIf (fTest (fBin neF (fCall (F_law_v_kind K) (fCons (fKept exL (fCall (F_carried_back K) (fCons (fC .non) (fCons (fName 7) (fNil))))) (fNil))) (fC (.str "net ")))) (gRet (fC (.bl false))) (gNx))))))))) [.dat D, .raw (.ref sa), x2, x3, .dat (.int (i : Nat)), .dat (netD i (a ++ [mixD rows])), .dat (.int (rows.length : Nat)), .dat (clD c0 c1 c2), x8, x9, x10, x11, x12, x13] s = .nx [.dat D, .raw (.ref sa), x2, x3, .dat (.int (i : Nat)), .dat (netD i (a ++ [mixD rows])), .dat (.int (rows.length : Nat)), .dat (clD c0 c1 c2), .dat .non, .dat (laterD c0 c1 c2 rows m), .dat (netD i a), x11', x12', x13'] s' ∧ Roomy b s' := by
  have hx : Dt (clD c0 c1 c2) := dt_cl (by omega) (by omega) (fun q hq => bq_of (h0 q hq) (by decide) (by decide)) (fun q hq => bq_of (h1 q hq) (by decide) (by decide)) (bq_of h2 (by decide) (by decide))
  have hc : claimB (clD c0 c1 c2) (i : Nat) (rows.length : Nat) = true := claim_of l0 l1 h0 h1 h2 (by decide) (by decide)
  obtain ⟨g1, g2⟩ := later_bounds (n := i) h1 (by omega) h2 hr
  have wl := wgt_len c1 rows m
  have hdl : Dt (laterD c0 c1 c2 rows m) := dt_cl (by omega) (by omega) (fun q hq => bq_of (h0 q hq) (by decide) (by decide)) (fun q hq => bq_of (g1 q hq) (by decide) (by decide)) (bq_of g2 (by decide) (by decide))
  have hlc : claimB (laterD c0 c1 c2 rows m) (i : Nat) (m : Nat) = true := claim_of l0 wl h0 (fun q hq => (g1 q hq).mono (by decide)) g2 (by decide) (by decide)
  obtain ⟨n1, n2, n3⟩ := ha.net hi (by omega) (by omega)
  have Na : NetOk i a (m : Nat) := ⟨n1, n2, by omega, ⟨(ca : Nat), n3⟩⟩
  have l2 : c1.length * (24 * 18) ≤ 3 * (24 * 18) := Nat.mul_le_mul_right _ (by omega)
  have hcb : F_carried_back K [netD i (a ++ [mixD rows]), clD c0 c1 c2] = .ok (laterD c0 c1 c2 rows m) := by
    have z := cb_main (K := K) N n3 (by omega) (by omega) (fun r hr' => (hr r hr').1) hx hc (D := 6) (E := 6) (M := 24) (N' := 18) (L := 144) (by decide) (by decide) h1 (fun r hr' => ⟨(hr r hr').2.1, (hr r hr').2.2⟩) (h2.raise 6 (by decide)) (by decide) (by omega) (by decide) hdl
    rw [if_pos hlc] at z
    exact z
  have i1 : ixF (netD i (a ++ [mixD rows])) (.int 1) = some (.tup (a ++ [mixD rows])) := ix1 _ _ _
  have im := ix_m1 a (mixD rows)
  have i00 : ixF (mixD rows) (.int 0) = some (.str "mix") := ix0 _ _
  have a6 : gSet 8 (fKept exL (fCall (F_carried_back K) (fCons (fName 5) (fCons (fName 7) (fNil))))) [.dat D, .raw (.ref sa), x2, x3, .dat (.int (i : Nat)), .dat (netD i (a ++ [mixD rows])), .dat (.int (rows.length : Nat)), .dat (clD c0 c1 c2), x8, x9, x10, x11, x12, x13] s = .nx [.dat D, .raw (.ref sa), x2, x3, .dat (.int (i : Nat)), .dat (netD i (a ++ [mixD rows])), .dat (.int (rows.length : Nat)), .dat (clD c0 c1 c2), .dat .non, x9, x10, x11, x12, x13] s := set_of (kept_ok (call2_ok (name_of rfl) (name_of rfl) hcb))
  have t7 : fTest (fBin neF (fBin ixF (fBin ixF (fBin ixF (fName 5) (fC (.int 1))) (fUn negF (fC (.int 1)))) (fC (.int 0))) (fC (.str "mix"))) [.dat D, .raw (.ref sa), x2, x3, .dat (.int (i : Nat)), .dat (netD i (a ++ [mixD rows])), .dat (.int (rows.length : Nat)), .dat (clD c0 c1 c2), .dat .non, x9, x10, x11, x12, x13] s = .ok (false, s) := by simp [i1, im, i00]
  have t8 : fTest (fBin notNF (fName 8) (fC .non)) [.dat D, .raw (.ref sa), x2, x3, .dat (.int (i : Nat)), .dat (netD i (a ++ [mixD rows])), .dat (.int (rows.length : Nat)), .dat (clD c0 c1 c2), .dat .non, x9, x10, x11, x12, x13] s = .ok (false, s) := by simp
  have a9 : gSet 9 (fCall (F_carried_back K) (fPick [1, 0] (fNil) (fCons (fName 7) (fCons (fName 5) (fNil))))) [.dat D, .raw (.ref sa), x2, x3, .dat (.int (i : Nat)), .dat (netD i (a ++ [mixD rows])), .dat (.int (rows.length : Nat)), .dat (clD c0 c1 c2), .dat .non, x9, x10, x11, x12, x13] s = .nx [.dat D, .raw (.ref sa), x2, x3, .dat (.int (i : Nat)), .dat (netD i (a ++ [mixD rows])), .dat (.int (rows.length : Nat)), .dat (clD c0 c1 c2), .dat .non, .dat (laterD c0 c1 c2 rows m), x10, x11, x12, x13] s := by
    refine set_of ?_
    have p : fPick (S := Dr) [1, 0] (fNil) (fCons (fName 7) (fCons (fName 5) (fNil))) [.dat D, .raw (.ref sa), x2, x3, .dat (.int (i : Nat)), .dat (netD i (a ++ [mixD rows])), .dat (.int (rows.length : Nat)), .dat (clD c0 c1 c2), .dat .non, x9, x10, x11, x12, x13] s = .ok ([netD i (a ++ [mixD rows]), clD c0 c1 c2], s) := by
      unfold fPick
      simp
      rfl
    rw [ap_call, ap_bnd, p]
    simp only [hcb, ap_liftR_o]
  have a10 : gSet 10 (fTup (fCons (fName 4) (fCons (fSl (fBin ixF (fName 5) (fC (.int 1))) (fPart none) (fPart (some (fUn negF (fC (.int 1)))))) (fNil)))) [.dat D, .raw (.ref sa), x2, x3, .dat (.int (i : Nat)), .dat (netD i (a ++ [mixD rows])), .dat (.int (rows.length : Nat)), .dat (clD c0 c1 c2), .dat .non, .dat (laterD c0 c1 c2 rows m), x10, x11, x12, x13] s = .nx [.dat D, .raw (.ref sa), x2, x3, .dat (.int (i : Nat)), .dat (netD i (a ++ [mixD rows])), .dat (.int (rows.length : Nat)), .dat (clD c0 c1 c2), .dat .non, .dat (laterD c0 c1 c2 rows m), .dat (netD i a), x11, x12, x13] s := by
    have cm := cut_m1 a (mixD rows)
    refine set_of (tup2_of (s1 := s) (name_of rfl) ?_)
    simp [i1, cm]
  have w := widths_ap (K := K) Na (ρ := [.dat D, .raw (.ref sa), x2, x3, .dat (.int (i : Nat)), .dat (netD i (a ++ [mixD rows])), .dat (.int (rows.length : Nat)), .dat (clD c0 c1 c2), .dat .non, .dat (laterD c0 c1 c2 rows m), .dat (netD i a), x11, x12, x13]) (s := s) (j := 10) rfl
  have icl := r_is_claim (K := K) (i := (i : Nat)) (o := (m : Nat)) hdl
  obtain ⟨xr, hxr⟩ := repr_cl (c0 := c0) (c1 := wgtR c1 rows m) (c2 := c2 + dot c1 (rows.map (·.2))) (fun q hq => (h0 q hq).shq (by decide) (by decide)) (fun q hq => (g1 q hq).shq (by decide) (by decide)) (g2.shq (by decide) (by decide)) (by omega) (by omega)
  have hxr' : reprF [laterD c0 c1 c2 rows m] = some (.str xr) := hxr
  have t11 : fOr (fNot (fTest (fCall (F_is_claim K) (fCons (fName 9) (fCons (fName 4) (fCons (fBin ixF (fCall (F_widths_of K) (fCons (fName 10) (fNil))) (fUn negF (fC (.int 1)))) (fNil))))))) (fTest (fBin neF (fApp reprF (fCons (fCall (F_carried_back K) (fCons (fName 5) (fCons (fName 7) (fNil)))) (fNil))) (fApp reprF (fCons (fName 9) (fNil))))) [.dat D, .raw (.ref sa), x2, x3, .dat (.int (i : Nat)), .dat (netD i (a ++ [mixD rows])), .dat (.int (rows.length : Nat)), .dat (clD c0 c1 c2), .dat .non, .dat (laterD c0 c1 c2 rows m), .dat (netD i a), x11, x12, x13] s = .ok (false, s) := by
    have ta : fNot (fTest (fCall (F_is_claim K) (fCons (fName 9) (fCons (fName 4) (fCons (fBin ixF (fCall (F_widths_of K) (fCons (fName 10) (fNil))) (fUn negF (fC (.int 1)))) (fNil)))))) [.dat D, .raw (.ref sa), x2, x3, .dat (.int (i : Nat)), .dat (netD i (a ++ [mixD rows])), .dat (.int (rows.length : Nat)), .dat (clD c0 c1 c2), .dat .non, .dat (laterD c0 c1 c2 rows m), .dat (netD i a), x11, x12, x13] s = .ok (false, s) := by
      have e : fCall (F_is_claim K) (fCons (fName 9) (fCons (fName 4) (fCons (fBin ixF (fCall (F_widths_of K) (fCons (fName 10) (fNil))) (fUn negF (fC (.int 1)))) (fNil)))) [.dat D, .raw (.ref sa), x2, x3, .dat (.int (i : Nat)), .dat (netD i (a ++ [mixD rows])), .dat (.int (rows.length : Nat)), .dat (clD c0 c1 c2), .dat .non, .dat (laterD c0 c1 c2 rows m), .dat (netD i a), x11, x12, x13] s = .ok (.bl true, s) := by
        rw [ap_call, ap_bnd, ap_cons, ap_bnd, name_of (d := laterD c0 c1 c2 rows m) rfl]
        simp only [ap_cons, ap_bnd, name_of (S := Dr) (ρ := [.dat D, .raw (.ref sa), x2, x3, .dat (.int (i : Nat)), .dat (netD i (a ++ [mixD rows])), .dat (.int (rows.length : Nat)), .dat (clD c0 c1 c2), .dat .non, .dat (laterD c0 c1 c2 rows m), .dat (netD i a), x11, x12, x13]) (s := s) (j := 4) (d := .int (i : Nat)) rfl, w, ap_nil, ap_ret, icl, hlc, ap_liftR_o]
      exact not_of (tst_of e)
    have tb : fTest (fBin neF (fApp reprF (fCons (fCall (F_carried_back K) (fCons (fName 5) (fCons (fName 7) (fNil)))) (fNil))) (fApp reprF (fCons (fName 9) (fNil)))) [.dat D, .raw (.ref sa), x2, x3, .dat (.int (i : Nat)), .dat (netD i (a ++ [mixD rows])), .dat (.int (rows.length : Nat)), .dat (clD c0 c1 c2), .dat .non, .dat (laterD c0 c1 c2 rows m), .dat (netD i a), x11, x12, x13] s = .ok (false, s) := by simp [hcb, hxr']
    rw [ap_or, ap_bnd, ta]
    exact tb
  obtain ⟨x11', x13', s1, e12, r12⟩ := val_loop (K := K) (sa := sa) D x2 x3 x4 x5 x6 x7 x8 x9 x10 x11 x12 x13 hi.2 ha la hm hrl.2 hr h0 (by omega) h1 (by omega) h2 [.int 0, .int 1, .int 2] x11 x13 s b h
  have hit : (fRng1 (fCons (fC (.int 3)) (fNil))) [.dat D, .raw (.ref sa), x2, x3, .dat (.int (i : Nat)), .dat (netD i (a ++ [mixD rows])), .dat (.int (rows.length : Nat)), .dat (clD c0 c1 c2), .dat .non, .dat (laterD c0 c1 c2 rows m), .dat (netD i a), x11, x12, x13] s = .ok ([.int 0, .int 1, .int 2], s) := by
    refine (rng_nat _ 3 s (by simp) (by decide)).trans ?_
    rfl
  have a12 := (for_of (h := hName 11) (g := gSeq (gSet 13 (fCallI sa 1 (F_law_v_input K sa) (fCons (fName 4) (fNil)))) (gIf (fTest (fBin neF (fCall (F_law_k82_value K) (fCons (fName 10) (fCons (fName 9) (fCons (fName 13) (fNil))))) (fCall (F_law_k82_value K) (fCons (fName 5) (fCons (fName 7) (fCons (fName 13) (fNil))))))) (gRet (fC (.bl false))) (gNx))) hit).trans e12
  have hws : ∀ w ∈ [Da.non, .tup [vecD c0, vecD c1], clD c0 (c1 ++ [0]) c2, .tup [vecD c0, vecD c1, .tup [.int 1, .int 0]]], Dt w ∧ claimB w (i : Nat) (rows.length : Nat) = false := by
    have d0 := dt_vec (w := c0) (by omega) (fun q hq => bq_of (h0 q hq) (by decide) (by decide))
    have d1 := dt_vec (w := c1) (by omega) (fun q hq => bq_of (h1 q hq) (by decide) (by decide))
    intro w hw
    rcases List.mem_cons.mp hw with rfl | hw
    · exact ⟨by unfold Dt; trivial, wrong_non _ _⟩
    rcases List.mem_cons.mp hw with rfl | hw
    · exact ⟨dt_two d0 d1, wrong_short _ _ _ _⟩
    rcases List.mem_cons.mp hw with rfl | hw
    · refine ⟨dt_cl (by omega) (by rw [List.length_append, List.length_singleton]; omega) (fun q hq => bq_of (h0 q hq) (by decide) (by decide)) (fun q hq => ?_) (bq_of h2 (by decide) (by decide)), wrong_long l1⟩
      rcases List.mem_append.mp hq with hq | hq
      · exact bq_of (h1 q hq) (by decide) (by decide)
      · rw [List.mem_singleton.mp hq]
        exact bq_of (D := 1) (M := 0) (QB.zero (by decide)) (by decide) (by decide)
    rcases List.mem_cons.mp hw with rfl | hw
    · exact ⟨dt_three d0 d1 (dt_two (dt_int (by unfold Sm; decide)) (dt_int (by unfold Sm; decide))), wrong_frac _ _ _ _⟩
    · cases hw
  obtain ⟨x12', e13⟩ := wrong_loop c D x2 x3 (.dat (.int (i : Nat))) x5 (.dat (.int (rows.length : Nat))) (.dat (clD c0 c1 c2)) (.dat .non) (.dat (laterD c0 c1 c2 rows m)) (.dat (netD i a)) x11' x12 x13' (z7 := .no) N [Da.non, .tup [vecD c0, vecD c1], clD c0 (c1 ++ [0]) c2, .tup [vecD c0, vecD c1, .tup [.int 1, .int 0]]] x12 s1 hws
  have hit13 : fIt (fLst (fCons (fC .non) (fCons (fSl (fName 7) (fPart none) (fPart (some (fC (.int 2))))) (fCons (fTup (fCons (fBin ixF (fName 7) (fC (.int 0))) (fCons (fBin addF0 (fBin ixF (fName 7) (fC (.int 1))) (fTup (fCons (fTup (fCons (fC (.int 0)) (fCons (fC (.int 1)) (fNil)))) (fNil)))) (fCons (fBin ixF (fName 7) (fC (.int 2))) (fNil))))) (fCons (fTup (fCons (fBin ixF (fName 7) (fC (.int 0))) (fCons (fBin ixF (fName 7) (fC (.int 1))) (fCons (fTup (fCons (fC (.int 1)) (fCons (fC (.int 0)) (fNil)))) (fNil))))) (fNil)))))) [.dat D, .raw (.ref sa), x2, x3, .dat (.int (i : Nat)), .dat (netD i (a ++ [mixD rows])), .dat (.int (rows.length : Nat)), .dat (clD c0 c1 c2), .dat .non, .dat (laterD c0 c1 c2 rows m), .dat (netD i a), x11', x12, x13'] s1 = .ok ([Da.non, .tup [vecD c0, vecD c1], clD c0 (c1 ++ [0]) c2, .tup [vecD c0, vecD c1, .tup [.int 1, .int 0]]], s1) := by
    have j0 : ixF (clD c0 c1 c2) (.int 0) = some (vecD c0) := ix0 _ _
    have j1 : ixF (clD c0 c1 c2) (.int 1) = some (vecD c1) := ix1 _ _ _
    have j2 : ixF (clD c0 c1 c2) (.int 2) = some (fr c2) := ix2 _ _ _ _
    have k2 : slF (clD c0 c1 c2) none (some 2) = some (.tup [vecD c0, vecD c1]) := cut_2 _ _ _
    have ad : addF0 (vecD c1) (.tup [.tup [.int 0, .int 1]]) = some (vecD (c1 ++ [0])) := by
      have hs := line_big 1000 (by decide)
      have e : vecD (c1 ++ [0]) = .tup (c1.map fr ++ [.tup [.int 0, .int 1]]) := by
        unfold vecD
        rw [List.map_append]
        rfl
      rw [e]
      exact if_pos (by simp; omega)
    simp [j0, j1, j2, k2, ad]
    rfl
  have a13 := (for_of (h := hName 12) (g := gIf (fTest (fBin neF (fCall (F_law_v_kind K) (fCons (fKept exL (fCall (F_carried_back K) (fCons (fName 5) (fCons (fName 12) (fNil))))) (fNil))) (fC (.str "claim ")))) (gRet (fC (.bl false))) (gNx)) hit13).trans e13
  have t14 : fTest (fBin neF (fCall (F_law_v_kind K) (fCons (fKept exL (fCall (F_carried_back K) (fCons (fC .non) (fCons (fName 7) (fNil))))) (fNil))) (fC (.str "net "))) [.dat D, .raw (.ref sa), x2, x3, .dat (.int (i : Nat)), .dat (netD i (a ++ [mixD rows])), .dat (.int (rows.length : Nat)), .dat (clD c0 c1 c2), .dat .non, .dat (laterD c0 c1 c2 rows m), .dat (netD i a), x11', x12', x13'] s1 = .ok (false, s1) := kind_t (kept_er (call2_er (a := .non) (ap_C _) (name_of rfl) (cb_net (K := K) (by unfold Dt; trivial) rfl)) (by decide +kernel)) (kind_BadNet c)
  refine ⟨x11', x12', x13', s1, ?_, r12⟩
  rw [sq_nx a6, sq_nx ((gi_f t7).trans ap_nx), sq_nx ((gi_f t8).trans ap_nx), sq_nx a9, sq_nx a10, sq_nx ((gi_f t11).trans ap_nx), sq_nx a12, sq_nx a13]
  exact (gi_f t14).trans ap_nx
end
end Sw

set_option Elab.async false
set_option linter.all false
set_option maxRecDepth 100000
set_option maxHeartbeats 2000000
set_option exponentiation.threshold 5000
namespace Sw
open PySem PySem.Spec PyProof.Rows L2
/-! SwLaw (k82, printed by k82law.py): the law, plainly. -/
section
variable {K : PySem.W.Frag} {sa : Addr} {mg : Str → Option Value}
def Inv (D : Da) (sa : Addr) (ρ : Ev) : Prop := ∃ x2 x3 x4 x5 x6 x7 x8 x9 x10 x11 x12 x13 : Sl, ρ = [.dat D, .raw (.ref sa), x2, x3, x4, x5, x6, x7, x8, x9, x10, x11, x12, x13]
theorem lap_ok (c : Fc K mg) (D : Da) (x2 x3 x4 x5 x6 x7 x8 x9 x10 x11 x12 x13 : Sl) (s : Dr) (b : Nat) (h : Roomy (b + 250) s) : ∃ (ρ' : Ev) (s' : Dr), (gSeq (gSet 4 (fBin addF0 (fC (.int 1)) (fCallI sa 1 (F_law_draw K sa) (fCons (fC (.int 3)) (fNil))))) (gSeq (gSet 5 (fCallI sa 1 (F_law_v_net K sa) (fCons (fName 4) (fCons (fBin addF0 (fC (.int 1)) (fCallI sa 1 (F_law_draw K sa) (fCons (fC (.int 3)) (fNil)))) (fCons (fC (.int 4)) (fNil)))))) (gSeq (gSet 6 (fBin ixF (fCall (F_widths_of K) (fCons (fName 5) (fNil))) (fUn negF (fC (.int 1))))) (gSeq (gIf (fTest (fBin gtF (fCallI sa 1 (F_law_draw K sa) (fCons (fC (.int 4)) (fNil))) (fC (.int 0)))) (gSet 5 (fTup (fCons (fName 4) (fCons (fBin addF0 (fBin ixF (fName 5) (fC (.int 1))) (fTup (fCons (fTup (fCons (fC (.str "mix")) (fCons (fApp tupF (fCons (fLst (fComp (fRng1 (fCons (fBin addF0 (fC (.int 1)) (fCallI sa 1 (F_law_draw K sa) (fCons (fC (.int 3)) (fNil)))) (fNil))) (hName 11) (fTrue) (fCallI sa 1 (F_law_v_row K sa) (fCons (fName 6) (fNil))) [11])) (fNil))) (fNil)))) (fNil)))) (fNil))))) (gNx)) (gSeq (gSet 6 (fBin ixF (fCall (F_widths_of K) (fCons (fName 5) (fNil))) (fUn negF (fC (.int 1))))) (gSeq (gSet 7 (fTup (fCons (fCallI sa 1 (F_law_v_input K sa) (fCons (fName 4) (fNil))) (fCons (fCallI sa 1 (F_law_v_input K sa) (fCons (fName 6) (fNil))) (fCons (fCallI sa 1 (F_law_v_number K sa) (fCons (fC (.int 4)) (fNil))) (fNil)))))) (gSeq (gSet 8 (fKept exL (fCall (F_carried_back K) (fCons (fName 5) (fCons (fName 7) (fNil)))))) (gSeq (gIf (fTest (fBin neF (fBin ixF (fBin ixF (fBin ixF (fName 5) (fC (.int 1))) (fUn negF (fC (.int 1)))) (fC (.int 0))) (fC (.str "mix")))) (gSeq (gIf (fTest (fBin neF (fCall (F_law_v_kind K) (fCons (fName 8) (fNil))) (fC (.str "nets ")))) (gRet (fC (.bl false))) (gNx)) (gCt)) (gNx)) (gSeq (gIf (fTest (fBin notNF (fName 8) (fC .non))) (gRet (fC (.bl false))) (gNx)) (gSeq (gSet 9 (fCall (F_carried_back K) (fPick [1, 0] (fNil) (fCons (fName 7) (fCons (fName 5) (fNil)))))) (gSeq (gSet 10 (fTup (fCons (fName 4) (fCons (fSl (fBin ixF (fName 5) (fC (.int 1))) (fPart none) (fPart (some (fUn negF (fC (.int 1)))))) (fNil))))) (gSeq (gIf (fOr (fNot (fTest (fCall (F_is_claim K) (fCons (fName 9) (fCons (fName 4) (fCons (fBin ixF (fCall (F_widths_of K) (fCons (fName 10) (fNil))) (fUn negF (fC (.int 1)))) (fNil))))))) (fTest (fBin neF (fApp reprF (fCons (fCall (F_carried_back K) (fCons (fName 5) (fCons (fName 7) (fNil)))) (fNil))) (fApp reprF (fCons (fName 9) (fNil)))))) (gRet (fC (.bl false))) (gNx)) (gSeq (gFor (fRng1 (fCons (fC (.int 3)) (fNil))) (hName 11) (gSeq (gSet 13 (fCallI sa 1 (F_law_v_input K sa) (fCons (fName 4) (fNil)))) (gIf (fTest (fBin neF (fCall (F_law_k82_value K) (fCons (fName 10) (fCons (fName 9) (fCons (fName 13) (fNil))))) (fCall (F_law_k82_value K) (fCons (fName 5) (fCons (fName 7) (fCons (fName 13) (fNil))))))) (gRet (fC (.bl false))) (gNx)))) (gSeq (gFor (fIt (fLst (fCons (fC .non) (fCons (fSl (fName 7) (fPart none) (fPart (some (fC (.int 2))))) (fCons (fTup (fCons (fBin ixF (fName 7) (fC (.int 0))) (fCons (fBin addF0 (fBin ixF (fName 7) (fC (.int 1))) (fTup (fCons (fTup (fCons (fC (.int 0)) (fCons (fC (.int 1)) (fNil)))) (fNil)))) (fCons (fBin ixF (fName 7) (fC (.int 2))) (fNil))))) (fCons (fTup (fCons (fBin ixF (fName 7) (fC (.int 0))) (fCons (fBin ixF (fName 7) (fC (.int 1))) (fCons (fTup (fCons (fC (.int 1)) (fCons (fC (.int 0)) (fNil)))) (fNil))))) (fNil))))))) (hName 12) (gIf (fTest (fBin neF (fCall (F_law_v_kind K) (fCons (fKept exL (fCall (F_carried_back K) (fCons (fName 5) (fCons (fName 12) (fNil))))) (fNil))) (fC (.str "claim ")))) (gRet (fC (.bl false))) (gNx))) (gIf (fTest (fBin neF (fCall (F_law_v_kind K) (fCons (fKept exL (fCall (F_carried_back K) (fCons (fC .non) (fCons (fName 7) (fNil))))) (fNil))) (fC (.str "net ")))) (gRet (fC (.bl false))) (gNx))))))))))))))) [.dat D, .raw (.ref sa), x2, x3, x4, x5, x6, x7, x8, x9, x10, x11, x12, x13] s = .nx ρ' s' ∨ gSeq (gSet 4 (fBin addF0 (fC (.int 1)) (fCallI sa 1 (F_law_draw K sa) (fCons (fC (.int 3)) (fNil))))) (gSeq (gSet 5 (fCallI sa 1 (F_law_v_net K sa) (fCons (fName 4) (fCons (fBin addF0 (fC (.int 1)) (fCallI sa 1 (F_law_draw K sa) (fCons (fC (.int 3)) (fNil)))) (fCons (fC (.int 4)) (fNil)))))) (gSeq (gSet 6 (fBin ixF (fCall (F_widths_of K) (fCons (fName 5) (fNil))) (fUn negF (fC (.int 1))))) (gSeq (gIf (fTest (fBin gtF (fCallI sa 1 (F_law_draw K sa) (fCons (fC (.int 4)) (fNil))) (fC (.int 0)))) (gSet 5 (fTup (fCons (fName 4) (fCons (fBin addF0 (fBin ixF (fName 5) (fC (.int 1))) (fTup (fCons (fTup (fCons (fC (.str "mix")) (fCons (fApp tupF (fCons (fLst (fComp (fRng1 (fCons (fBin addF0 (fC (.int 1)) (fCallI sa 1 (F_law_draw K sa) (fCons (fC (.int 3)) (fNil)))) (fNil))) (hName 11) (fTrue) (fCallI sa 1 (F_law_v_row K sa) (fCons (fName 6) (fNil))) [11])) (fNil))) (fNil)))) (fNil)))) (fNil))))) (gNx)) (gSeq (gSet 6 (fBin ixF (fCall (F_widths_of K) (fCons (fName 5) (fNil))) (fUn negF (fC (.int 1))))) (gSeq (gSet 7 (fTup (fCons (fCallI sa 1 (F_law_v_input K sa) (fCons (fName 4) (fNil))) (fCons (fCallI sa 1 (F_law_v_input K sa) (fCons (fName 6) (fNil))) (fCons (fCallI sa 1 (F_law_v_number K sa) (fCons (fC (.int 4)) (fNil))) (fNil)))))) (gSeq (gSet 8 (fKept exL (fCall (F_carried_back K) (fCons (fName 5) (fCons (fName 7) (fNil)))))) (gSeq (gIf (fTest (fBin neF (fBin ixF (fBin ixF (fBin ixF (fName 5) (fC (.int 1))) (fUn negF (fC (.int 1)))) (fC (.int 0))) (fC (.str "mix")))) (gSeq (gIf (fTest (fBin neF (fCall (F_law_v_kind K) (fCons (fName 8) (fNil))) (fC (.str "nets ")))) (gRet (fC (.bl false))) (gNx)) (gCt)) (gNx)) (gSeq (gIf (fTest (fBin notNF (fName 8) (fC .non))) (gRet (fC (.bl false))) (gNx)) (gSeq (gSet 9 (fCall (F_carried_back K) (fPick [1, 0] (fNil) (fCons (fName 7) (fCons (fName 5) (fNil)))))) (gSeq (gSet 10 (fTup (fCons (fName 4) (fCons (fSl (fBin ixF (fName 5) (fC (.int 1))) (fPart none) (fPart (some (fUn negF (fC (.int 1)))))) (fNil))))) (gSeq (gIf (fOr (fNot (fTest (fCall (F_is_claim K) (fCons (fName 9) (fCons (fName 4) (fCons (fBin ixF (fCall (F_widths_of K) (fCons (fName 10) (fNil))) (fUn negF (fC (.int 1)))) (fNil))))))) (fTest (fBin neF (fApp reprF (fCons (fCall (F_carried_back K) (fCons (fName 5) (fCons (fName 7) (fNil)))) (fNil))) (fApp reprF (fCons (fName 9) (fNil)))))) (gRet (fC (.bl false))) (gNx)) (gSeq (gFor (fRng1 (fCons (fC (.int 3)) (fNil))) (hName 11) (gSeq (gSet 13 (fCallI sa 1 (F_law_v_input K sa) (fCons (fName 4) (fNil)))) (gIf (fTest (fBin neF (fCall (F_law_k82_value K) (fCons (fName 10) (fCons (fName 9) (fCons (fName 13) (fNil))))) (fCall (F_law_k82_value K) (fCons (fName 5) (fCons (fName 7) (fCons (fName 13) (fNil))))))) (gRet (fC (.bl false))) (gNx)))) (gSeq (gFor (fIt (fLst (fCons (fC .non) (fCons (fSl (fName 7) (fPart none) (fPart (some (fC (.int 2))))) (fCons (fTup (fCons (fBin ixF (fName 7) (fC (.int 0))) (fCons (fBin addF0 (fBin ixF (fName 7) (fC (.int 1))) (fTup (fCons (fTup (fCons (fC (.int 0)) (fCons (fC (.int 1)) (fNil)))) (fNil)))) (fCons (fBin ixF (fName 7) (fC (.int 2))) (fNil))))) (fCons (fTup (fCons (fBin ixF (fName 7) (fC (.int 0))) (fCons (fBin ixF (fName 7) (fC (.int 1))) (fCons (fTup (fCons (fC (.int 1)) (fCons (fC (.int 0)) (fNil)))) (fNil))))) (fNil))))))) (hName 12) (gIf (fTest (fBin neF (fCall (F_law_v_kind K) (fCons (fKept exL (fCall (F_carried_back K) (fCons (fName 5) (fCons (fName 12) (fNil))))) (fNil))) (fC (.str "claim ")))) (gRet (fC (.bl false))) (gNx))) (gIf (fTest (fBin neF (fCall (F_law_v_kind K) (fCons (fKept exL (fCall (F_carried_back K) (fCons (fC .non) (fCons (fName 7) (fNil))))) (fNil))) (fC (.str "net ")))) (gRet (fC (.bl false))) (gNx))))))))))))))) [.dat D, .raw (.ref sa), x2, x3, x4, x5, x6, x7, x8, x9, x10, x11, x12, x13] s = .ct ρ' s') ∧ Inv D sa ρ' ∧ Roomy b s' := by
  obtain ⟨i, ls, k, c0, c1, c2, s1, e, N, ⟨l0, h0⟩, ⟨l1, h1⟩, h2, r1⟩ := lawA K sa D x2 x3 x4 x5 x6 x7 x8 x9 x10 x11 x12 x13 (gSeq (gSet 8 (fKept exL (fCall (F_carried_back K) (fCons (fName 5) (fCons (fName 7) (fNil)))))) (gSeq (gIf (fTest (fBin neF (fBin ixF (fBin ixF (fBin ixF (fName 5) (fC (.int 1))) (fUn negF (fC (.int 1)))) (fC (.int 0))) (fC (.str "mix")))) (gSeq (gIf (fTest (fBin neF (fCall (F_law_v_kind K) (fCons (fName 8) (fNil))) (fC (.str "nets ")))) (gRet (fC (.bl false))) (gNx)) (gCt)) (gNx)) (gSeq (gIf (fTest (fBin notNF (fName 8) (fC .non))) (gRet (fC (.bl false))) (gNx)) (gSeq (gSet 9 (fCall (F_carried_back K) (fPick [1, 0] (fNil) (fCons (fName 7) (fCons (fName 5) (fNil)))))) (gSeq (gSet 10 (fTup (fCons (fName 4) (fCons (fSl (fBin ixF (fName 5) (fC (.int 1))) (fPart none) (fPart (some (fUn negF (fC (.int 1)))))) (fNil))))) (gSeq (gIf (fOr (fNot (fTest (fCall (F_is_claim K) (fCons (fName 9) (fCons (fName 4) (fCons (fBin ixF (fCall (F_widths_of K) (fCons (fName 10) (fNil))) (fUn negF (fC (.int 1)))) (fNil))))))) (fTest (fBin neF (fApp reprF (fCons (fCall (F_carried_back K) (fCons (fName 5) (fCons (fName 7) (fNil)))) (fNil))) (fApp reprF (fCons (fName 9) (fNil)))))) (gRet (fC (.bl false))) (gNx)) (gSeq (gFor (fRng1 (fCons (fC (.int 3)) (fNil))) (hName 11) (gSeq (gSet 13 (fCallI sa 1 (F_law_v_input K sa) (fCons (fName 4) (fNil)))) (gIf (fTest (fBin neF (fCall (F_law_k82_value K) (fCons (fName 10) (fCons (fName 9) (fCons (fName 13) (fNil))))) (fCall (F_law_k82_value K) (fCons (fName 5) (fCons (fName 7) (fCons (fName 13) (fNil))))))) (gRet (fC (.bl false))) (gNx)))) (gSeq (gFor (fIt (fLst (fCons (fC .non) (fCons (fSl (fName 7) (fPart none) (fPart (some (fC (.int 2))))) (fCons (fTup (fCons (fBin ixF (fName 7) (fC (.int 0))) (fCons (fBin addF0 (fBin ixF (fName 7) (fC (.int 1))) (fTup (fCons (fTup (fCons (fC (.int 0)) (fCons (fC (.int 1)) (fNil)))) (fNil)))) (fCons (fBin ixF (fName 7) (fC (.int 2))) (fNil))))) (fCons (fTup (fCons (fBin ixF (fName 7) (fC (.int 0))) (fCons (fBin ixF (fName 7) (fC (.int 1))) (fCons (fTup (fCons (fC (.int 1)) (fCons (fC (.int 0)) (fNil)))) (fNil))))) (fNil))))))) (hName 12) (gIf (fTest (fBin neF (fCall (F_law_v_kind K) (fCons (fKept exL (fCall (F_carried_back K) (fCons (fName 5) (fCons (fName 12) (fNil))))) (fNil))) (fC (.str "claim ")))) (gRet (fC (.bl false))) (gNx))) (gIf (fTest (fBin neF (fCall (F_law_v_kind K) (fCons (fKept exL (fCall (F_carried_back K) (fCons (fC .non) (fCons (fName 7) (fNil))))) (fNil))) (fC (.str "net ")))) (gRet (fC (.bl false))) (gNx)))))))))) s (b + 50) (h.le (by omega))
  obtain ⟨cc, ch, hcc⟩ := N.ch
  have hk := N.hk
  have hi := N.hi
  have hln := N.hl
  obtain ⟨a, l, m, n1, n2, rfl, q1, q2, q3, q4⟩ := ch.unsnoc hi.2 hk.2 (by intro z; rw [z] at hln; simp at hln)
  rw [List.length_append, List.length_singleton] at hln
  have hx : Dt (clD c0 c1 c2) := dt_cl (by omega) (by omega) (fun q hq => bq_of (h0 q hq) (by decide) (by decide)) (fun q hq => bq_of (h1 q hq) (by decide) (by decide)) (bq_of h2 (by decide) (by decide))
  have hc : claimB (clD c0 c1 c2) (i : Nat) (k : Nat) = true := claim_of l0 l1 h0 h1 h2 (by decide) (by decide)
  have hN := N.ok
  have other : (∃ (a' : List Da) (y : Str) (ds : Da), a ++ [l] = a' ++ [.tup [.str y, ds]] ∧ (y = "mix") = False) → ∃ (ρ' : Ev) (s' : Dr), (gSeq (gSet 4 (fBin addF0 (fC (.int 1)) (fCallI sa 1 (F_law_draw K sa) (fCons (fC (.int 3)) (fNil))))) (gSeq (gSet 5 (fCallI sa 1 (F_law_v_net K sa) (fCons (fName 4) (fCons (fBin addF0 (fC (.int 1)) (fCallI sa 1 (F_law_draw K sa) (fCons (fC (.int 3)) (fNil)))) (fCons (fC (.int 4)) (fNil)))))) (gSeq (gSet 6 (fBin ixF (fCall (F_widths_of K) (fCons (fName 5) (fNil))) (fUn negF (fC (.int 1))))) (gSeq (gIf (fTest (fBin gtF (fCallI sa 1 (F_law_draw K sa) (fCons (fC (.int 4)) (fNil))) (fC (.int 0)))) (gSet 5 (fTup (fCons (fName 4) (fCons (fBin addF0 (fBin ixF (fName 5) (fC (.int 1))) (fTup (fCons (fTup (fCons (fC (.str "mix")) (fCons (fApp tupF (fCons (fLst (fComp (fRng1 (fCons (fBin addF0 (fC (.int 1)) (fCallI sa 1 (F_law_draw K sa) (fCons (fC (.int 3)) (fNil)))) (fNil))) (hName 11) (fTrue) (fCallI sa 1 (F_law_v_row K sa) (fCons (fName 6) (fNil))) [11])) (fNil))) (fNil)))) (fNil)))) (fNil))))) (gNx)) (gSeq (gSet 6 (fBin ixF (fCall (F_widths_of K) (fCons (fName 5) (fNil))) (fUn negF (fC (.int 1))))) (gSeq (gSet 7 (fTup (fCons (fCallI sa 1 (F_law_v_input K sa) (fCons (fName 4) (fNil))) (fCons (fCallI sa 1 (F_law_v_input K sa) (fCons (fName 6) (fNil))) (fCons (fCallI sa 1 (F_law_v_number K sa) (fCons (fC (.int 4)) (fNil))) (fNil)))))) (gSeq (gSet 8 (fKept exL (fCall (F_carried_back K) (fCons (fName 5) (fCons (fName 7) (fNil)))))) (gSeq (gIf (fTest (fBin neF (fBin ixF (fBin ixF (fBin ixF (fName 5) (fC (.int 1))) (fUn negF (fC (.int 1)))) (fC (.int 0))) (fC (.str "mix")))) (gSeq (gIf (fTest (fBin neF (fCall (F_law_v_kind K) (fCons (fName 8) (fNil))) (fC (.str "nets ")))) (gRet (fC (.bl false))) (gNx)) (gCt)) (gNx)) (gSeq (gIf (fTest (fBin notNF (fName 8) (fC .non))) (gRet (fC (.bl false))) (gNx)) (gSeq (gSet 9 (fCall (F_carried_back K) (fPick [1, 0] (fNil) (fCons (fName 7) (fCons (fName 5) (fNil)))))) (gSeq (gSet 10 (fTup (fCons (fName 4) (fCons (fSl (fBin ixF (fName 5) (fC (.int 1))) (fPart none) (fPart (some (fUn negF (fC (.int 1)))))) (fNil))))) (gSeq (gIf (fOr (fNot (fTest (fCall (F_is_claim K) (fCons (fName 9) (fCons (fName 4) (fCons (fBin ixF (fCall (F_widths_of K) (fCons (fName 10) (fNil))) (fUn negF (fC (.int 1)))) (fNil))))))) (fTest (fBin neF (fApp reprF (fCons (fCall (F_carried_back K) (fCons (fName 5) (fCons (fName 7) (fNil)))) (fNil))) (fApp reprF (fCons (fName 9) (fNil)))))) (gRet (fC (.bl false))) (gNx)) (gSeq (gFor (fRng1 (fCons (fC (.int 3)) (fNil))) (hName 11) (gSeq (gSet 13 (fCallI sa 1 (F_law_v_input K sa) (fCons (fName 4) (fNil)))) (gIf (fTest (fBin neF (fCall (F_law_k82_value K) (fCons (fName 10) (fCons (fName 9) (fCons (fName 13) (fNil))))) (fCall (F_law_k82_value K) (fCons (fName 5) (fCons (fName 7) (fCons (fName 13) (fNil))))))) (gRet (fC (.bl false))) (gNx)))) (gSeq (gFor (fIt (fLst (fCons (fC .non) (fCons (fSl (fName 7) (fPart none) (fPart (some (fC (.int 2))))) (fCons (fTup (fCons (fBin ixF (fName 7) (fC (.int 0))) (fCons (fBin addF0 (fBin ixF (fName 7) (fC (.int 1))) (fTup (fCons (fTup (fCons (fC (.int 0)) (fCons (fC (.int 1)) (fNil)))) (fNil)))) (fCons (fBin ixF (fName 7) (fC (.int 2))) (fNil))))) (fCons (fTup (fCons (fBin ixF (fName 7) (fC (.int 0))) (fCons (fBin ixF (fName 7) (fC (.int 1))) (fCons (fTup (fCons (fC (.int 1)) (fCons (fC (.int 0)) (fNil)))) (fNil))))) (fNil))))))) (hName 12) (gIf (fTest (fBin neF (fCall (F_law_v_kind K) (fCons (fKept exL (fCall (F_carried_back K) (fCons (fName 5) (fCons (fName 12) (fNil))))) (fNil))) (fC (.str "claim ")))) (gRet (fC (.bl false))) (gNx))) (gIf (fTest (fBin neF (fCall (F_law_v_kind K) (fCons (fKept exL (fCall (F_carried_back K) (fCons (fC .non) (fCons (fName 7) (fNil))))) (fNil))) (fC (.str "net ")))) (gRet (fC (.bl false))) (gNx))))))))))))))) [.dat D, .raw (.ref sa), x2, x3, x4, x5, x6, x7, x8, x9, x10, x11, x12, x13] s = .nx ρ' s' ∨ gSeq (gSet 4 (fBin addF0 (fC (.int 1)) (fCallI sa 1 (F_law_draw K sa) (fCons (fC (.int 3)) (fNil))))) (gSeq (gSet 5 (fCallI sa 1 (F_law_v_net K sa) (fCons (fName 4) (fCons (fBin addF0 (fC (.int 1)) (fCallI sa 1 (F_law_draw K sa) (fCons (fC (.int 3)) (fNil)))) (fCons (fC (.int 4)) (fNil)))))) (gSeq (gSet 6 (fBin ixF (fCall (F_widths_of K) (fCons (fName 5) (fNil))) (fUn negF (fC (.int 1))))) (gSeq (gIf (fTest (fBin gtF (fCallI sa 1 (F_law_draw K sa) (fCons (fC (.int 4)) (fNil))) (fC (.int 0)))) (gSet 5 (fTup (fCons (fName 4) (fCons (fBin addF0 (fBin ixF (fName 5) (fC (.int 1))) (fTup (fCons (fTup (fCons (fC (.str "mix")) (fCons (fApp tupF (fCons (fLst (fComp (fRng1 (fCons (fBin addF0 (fC (.int 1)) (fCallI sa 1 (F_law_draw K sa) (fCons (fC (.int 3)) (fNil)))) (fNil))) (hName 11) (fTrue) (fCallI sa 1 (F_law_v_row K sa) (fCons (fName 6) (fNil))) [11])) (fNil))) (fNil)))) (fNil)))) (fNil))))) (gNx)) (gSeq (gSet 6 (fBin ixF (fCall (F_widths_of K) (fCons (fName 5) (fNil))) (fUn negF (fC (.int 1))))) (gSeq (gSet 7 (fTup (fCons (fCallI sa 1 (F_law_v_input K sa) (fCons (fName 4) (fNil))) (fCons (fCallI sa 1 (F_law_v_input K sa) (fCons (fName 6) (fNil))) (fCons (fCallI sa 1 (F_law_v_number K sa) (fCons (fC (.int 4)) (fNil))) (fNil)))))) (gSeq (gSet 8 (fKept exL (fCall (F_carried_back K) (fCons (fName 5) (fCons (fName 7) (fNil)))))) (gSeq (gIf (fTest (fBin neF (fBin ixF (fBin ixF (fBin ixF (fName 5) (fC (.int 1))) (fUn negF (fC (.int 1)))) (fC (.int 0))) (fC (.str "mix")))) (gSeq (gIf (fTest (fBin neF (fCall (F_law_v_kind K) (fCons (fName 8) (fNil))) (fC (.str "nets ")))) (gRet (fC (.bl false))) (gNx)) (gCt)) (gNx)) (gSeq (gIf (fTest (fBin notNF (fName 8) (fC .non))) (gRet (fC (.bl false))) (gNx)) (gSeq (gSet 9 (fCall (F_carried_back K) (fPick [1, 0] (fNil) (fCons (fName 7) (fCons (fName 5) (fNil)))))) (gSeq (gSet 10 (fTup (fCons (fName 4) (fCons (fSl (fBin ixF (fName 5) (fC (.int 1))) (fPart none) (fPart (some (fUn negF (fC (.int 1)))))) (fNil))))) (gSeq (gIf (fOr (fNot (fTest (fCall (F_is_claim K) (fCons (fName 9) (fCons (fName 4) (fCons (fBin ixF (fCall (F_widths_of K) (fCons (fName 10) (fNil))) (fUn negF (fC (.int 1)))) (fNil))))))) (fTest (fBin neF (fApp reprF (fCons (fCall (F_carried_back K) (fCons (fName 5) (fCons (fName 7) (fNil)))) (fNil))) (fApp reprF (fCons (fName 9) (fNil)))))) (gRet (fC (.bl false))) (gNx)) (gSeq (gFor (fRng1 (fCons (fC (.int 3)) (fNil))) (hName 11) (gSeq (gSet 13 (fCallI sa 1 (F_law_v_input K sa) (fCons (fName 4) (fNil)))) (gIf (fTest (fBin neF (fCall (F_law_k82_value K) (fCons (fName 10) (fCons (fName 9) (fCons (fName 13) (fNil))))) (fCall (F_law_k82_value K) (fCons (fName 5) (fCons (fName 7) (fCons (fName 13) (fNil))))))) (gRet (fC (.bl false))) (gNx)))) (gSeq (gFor (fIt (fLst (fCons (fC .non) (fCons (fSl (fName 7) (fPart none) (fPart (some (fC (.int 2))))) (fCons (fTup (fCons (fBin ixF (fName 7) (fC (.int 0))) (fCons (fBin addF0 (fBin ixF (fName 7) (fC (.int 1))) (fTup (fCons (fTup (fCons (fC (.int 0)) (fCons (fC (.int 1)) (fNil)))) (fNil)))) (fCons (fBin ixF (fName 7) (fC (.int 2))) (fNil))))) (fCons (fTup (fCons (fBin ixF (fName 7) (fC (.int 0))) (fCons (fBin ixF (fName 7) (fC (.int 1))) (fCons (fTup (fCons (fC (.int 1)) (fCons (fC (.int 0)) (fNil)))) (fNil))))) (fNil))))))) (hName 12) (gIf (fTest (fBin neF (fCall (F_law_v_kind K) (fCons (fKept exL (fCall (F_carried_back K) (fCons (fName 5) (fCons (fName 12) (fNil))))) (fNil))) (fC (.str "claim ")))) (gRet (fC (.bl false))) (gNx))) (gIf (fTest (fBin neF (fCall (F_law_v_kind K) (fCons (fKept exL (fCall (F_carried_back K) (fCons (fC .non) (fCons (fName 7) (fNil))))) (fNil))) (fC (.str "net ")))) (gRet (fC (.bl false))) (gNx))))))))))))))) [.dat D, .raw (.ref sa), x2, x3, x4, x5, x6, x7, x8, x9, x10, x11, x12, x13] s = .ct ρ' s') ∧ Inv D sa ρ' ∧ Roomy b s' := fun hl =>
    ⟨_, s1, .inr (e.trans (lawB0 c D x2 x3 x4 x5 x6 x7 x8 x9 x10 x11 x12 x13 _ s1 hN hx hc hl)), ⟨_, _, _, _, _, _, _, _, _, _, _, _, rfl⟩, r1.le (by omega)⟩
  cases q3 with
  | mix rows _ g1 g2 g3 =>
    obtain ⟨x11', x12', x13', s2, e2, r2⟩ := lawB1 (sa := sa) c D x2 x3 x4 x5 x6 x7 x8 x9 x10 x11 x12 x13 hi q1 (by omega) (by omega) q2 ⟨g1, g2⟩ g3 hN h0 l0 h1 l1 h2 s1 b (r1.le (by omega))
    exact ⟨_, s2, .inl (e.trans e2), ⟨_, _, _, _, _, _, _, _, _, _, _, _, rfl⟩, r2⟩
  | rest ps _ g1 g2 g3 => exact other ⟨a, "rest", intsT ps, rfl, s_rm⟩
  | pool gs _ g1 g2 g3 => exact other ⟨a, "pool", .tup (gs.map intsT), rfl, s_pm⟩
theorem laps_ok (c : Fc K mg) (D : Da) : ∀ (ds : List Da) (ρ : Ev) (s : Dr) (b : Nat), Inv D sa ρ → Roomy (b + 250 * ds.length) s → ∃ (ρ' : Ev) (s' : Dr), forF (hName 2) (gSeq (gSet 4 (fBin addF0 (fC (.int 1)) (fCallI sa 1 (F_law_draw K sa) (fCons (fC (.int 3)) (fNil))))) (gSeq (gSet 5 (fCallI sa 1 (F_law_v_net K sa) (fCons (fName 4) (fCons (fBin addF0 (fC (.int 1)) (fCallI sa 1 (F_law_draw K sa) (fCons (fC (.int 3)) (fNil)))) (fCons (fC (.int 4)) (fNil)))))) (gSeq (gSet 6 (fBin ixF (fCall (F_widths_of K) (fCons (fName 5) (fNil))) (fUn negF (fC (.int 1))))) (gSeq (gIf (fTest (fBin gtF (fCallI sa 1 (F_law_draw K sa) (fCons (fC (.int 4)) (fNil))) (fC (.int 0)))) (gSet 5 (fTup (fCons (fName 4) (fCons (fBin addF0 (fBin ixF (fName 5) (fC (.int 1))) (fTup (fCons (fTup (fCons (fC (.str "mix")) (fCons (fApp tupF (fCons (fLst (fComp (fRng1 (fCons (fBin addF0 (fC (.int 1)) (fCallI sa 1 (F_law_draw K sa) (fCons (fC (.int 3)) (fNil)))) (fNil))) (hName 11) (fTrue) (fCallI sa 1 (F_law_v_row K sa) (fCons (fName 6) (fNil))) [11])) (fNil))) (fNil)))) (fNil)))) (fNil))))) (gNx)) (gSeq (gSet 6 (fBin ixF (fCall (F_widths_of K) (fCons (fName 5) (fNil))) (fUn negF (fC (.int 1))))) (gSeq (gSet 7 (fTup (fCons (fCallI sa 1 (F_law_v_input K sa) (fCons (fName 4) (fNil))) (fCons (fCallI sa 1 (F_law_v_input K sa) (fCons (fName 6) (fNil))) (fCons (fCallI sa 1 (F_law_v_number K sa) (fCons (fC (.int 4)) (fNil))) (fNil)))))) (gSeq (gSet 8 (fKept exL (fCall (F_carried_back K) (fCons (fName 5) (fCons (fName 7) (fNil)))))) (gSeq (gIf (fTest (fBin neF (fBin ixF (fBin ixF (fBin ixF (fName 5) (fC (.int 1))) (fUn negF (fC (.int 1)))) (fC (.int 0))) (fC (.str "mix")))) (gSeq (gIf (fTest (fBin neF (fCall (F_law_v_kind K) (fCons (fName 8) (fNil))) (fC (.str "nets ")))) (gRet (fC (.bl false))) (gNx)) (gCt)) (gNx)) (gSeq (gIf (fTest (fBin notNF (fName 8) (fC .non))) (gRet (fC (.bl false))) (gNx)) (gSeq (gSet 9 (fCall (F_carried_back K) (fPick [1, 0] (fNil) (fCons (fName 7) (fCons (fName 5) (fNil)))))) (gSeq (gSet 10 (fTup (fCons (fName 4) (fCons (fSl (fBin ixF (fName 5) (fC (.int 1))) (fPart none) (fPart (some (fUn negF (fC (.int 1)))))) (fNil))))) (gSeq (gIf (fOr (fNot (fTest (fCall (F_is_claim K) (fCons (fName 9) (fCons (fName 4) (fCons (fBin ixF (fCall (F_widths_of K) (fCons (fName 10) (fNil))) (fUn negF (fC (.int 1)))) (fNil))))))) (fTest (fBin neF (fApp reprF (fCons (fCall (F_carried_back K) (fCons (fName 5) (fCons (fName 7) (fNil)))) (fNil))) (fApp reprF (fCons (fName 9) (fNil)))))) (gRet (fC (.bl false))) (gNx)) (gSeq (gFor (fRng1 (fCons (fC (.int 3)) (fNil))) (hName 11) (gSeq (gSet 13 (fCallI sa 1 (F_law_v_input K sa) (fCons (fName 4) (fNil)))) (gIf (fTest (fBin neF (fCall (F_law_k82_value K) (fCons (fName 10) (fCons (fName 9) (fCons (fName 13) (fNil))))) (fCall (F_law_k82_value K) (fCons (fName 5) (fCons (fName 7) (fCons (fName 13) (fNil))))))) (gRet (fC (.bl false))) (gNx)))) (gSeq (gFor (fIt (fLst (fCons (fC .non) (fCons (fSl (fName 7) (fPart none) (fPart (some (fC (.int 2))))) (fCons (fTup (fCons (fBin ixF (fName 7) (fC (.int 0))) (fCons (fBin addF0 (fBin ixF (fName 7) (fC (.int 1))) (fTup (fCons (fTup (fCons (fC (.int 0)) (fCons (fC (.int 1)) (fNil)))) (fNil)))) (fCons (fBin ixF (fName 7) (fC (.int 2))) (fNil))))) (fCons (fTup (fCons (fBin ixF (fName 7) (fC (.int 0))) (fCons (fBin ixF (fName 7) (fC (.int 1))) (fCons (fTup (fCons (fC (.int 1)) (fCons (fC (.int 0)) (fNil)))) (fNil))))) (fNil))))))) (hName 12) (gIf (fTest (fBin neF (fCall (F_law_v_kind K) (fCons (fKept exL (fCall (F_carried_back K) (fCons (fName 5) (fCons (fName 12) (fNil))))) (fNil))) (fC (.str "claim ")))) (gRet (fC (.bl false))) (gNx))) (gIf (fTest (fBin neF (fCall (F_law_v_kind K) (fCons (fKept exL (fCall (F_carried_back K) (fCons (fC .non) (fCons (fName 7) (fNil))))) (fNil))) (fC (.str "net ")))) (gRet (fC (.bl false))) (gNx)))))))))))))))) ds ρ s = .nx ρ' s' ∧ Inv D sa ρ' ∧ Roomy b s'
  | [], ρ, s, b, i, h => ⟨ρ, s, rfl, i, h⟩
  | d :: ds, ρ, s, b, i, h => by
    rw [List.length_cons] at h
    obtain ⟨x2, x3, x4, x5, x6, x7, x8, x9, x10, x11, x12, x13, rfl⟩ := i
    obtain ⟨ρ1, s1, e, i1, r1⟩ := lap_ok (sa := sa) c D (.dat d) x3 x4 x5 x6 x7 x8 x9 x10 x11 x12 x13 s (b + 250 * ds.length) (h.le (by omega))
    obtain ⟨ρ2, s2, e2, i2, r2⟩ := laps_ok c D ds ρ1 s1 b i1 r1
    refine ⟨ρ2, s2, ?_, i2, r2⟩
    rcases e with e | e
    · exact (for_cons rfl e).trans e2
    · exact (for_ct rfl e).trans e2
def q8 : Rat := ⟨100000000, 1, by decide, by decide⟩
def q11 : Rat := ⟨11, 1, by decide, by decide⟩
def q1' : Rat := ⟨1, 1, by decide, by decide⟩
def gRows : List Rw := [([q8], 0)]
theorem qb8 : QB 1 100000000 q8 := ⟨by decide, 100000000, by decide +kernel, by decide⟩
theorem qb11 : QB 1 11 q11 := ⟨by decide, 11, by decide +kernel, by decide⟩
theorem qb1 : QB 1 1 q1' := ⟨by decide, 1, by decide +kernel, by decide⟩
theorem qbz (D M : Nat) (h : 0 < D) : QB D M 0 := QB.zero h
theorem mem1 {q p : Rat} {P : Rat → Prop} (h : P p) (hq : q ∈ [p]) : P q := by rw [List.mem_singleton.mp hq]; exact h
theorem gNet : NetOk 1 ([] ++ [mixD gRows]) ((1 : Nat) : Int) := by
  refine ⟨?_, by decide +kernel, by decide, ⟨0, by decide +kernel⟩⟩
  have dr : Dt (rowD ([q8], 0)) := dt_two (dt_vec (by decide) fun q hq => mem1 (P := Bq) (bq_of qb8 (by decide) (by decide)) hq) (dt_fr (bq_of (qbz 1 1 (by decide)) (by decide) (by decide)))
  have dm : Dt (mixD gRows) := dt_two (dt_str _) (Dt.mk (by decide) fun d hd => by
    rw [show gRows.map rowD = [rowD ([q8], 0)] from rfl] at hd
    rw [List.mem_singleton.mp hd]
    exact dr)
  exact dt_two (dt_int (by unfold Sm; decide)) (Dt.mk (by decide) fun d hd => by
    rw [List.nil_append] at hd
    rw [List.mem_singleton.mp hd]
    exact dm)
theorem gClaim : Dt (clD [0] [q11] 0) ∧ claimB (clD [0] [q11] 0) ((1 : Nat) : Int) ((1 : Nat) : Int) = true := by
  refine ⟨dt_cl (by decide) (by decide) (fun q hq => mem1 (P := Bq) (bq_of (qbz 1 1 (by decide)) (by decide) (by decide)) hq) (fun q hq => mem1 (P := Bq) (bq_of qb11 (by decide) (by decide)) hq) (bq_of (qbz 1 1 (by decide)) (by decide) (by decide)), ?_⟩
  exact claim_of (D := 1) (M := 11) rfl rfl (fun q hq => mem1 (P := QB 6 24) (qbz 6 24 (by decide)) hq) (fun q hq => mem1 (P := QB 1 11) qb11 hq) (qbz 1 11 (by decide)) (by decide) (by decide)
theorem g_great : F_carried_back K [netD 1 ([] ++ [mixD gRows]), clD [0] [q11] 0] = .er "TooGreat" := by
  have wd : ∀ q ∈ wgtR [q11] gRows 1, QB 1 1100000000 q := fun q hq => by
    obtain ⟨k, hk, rfl⟩ := List.mem_map.mp hq
    have hk' : k < 1 := List.mem_range.mp hk
    have k0 : k = 0 := by omega
    subst k0
    have z : QB 1 0 0 := QB.zero (by decide)
    have hcol : ∀ q ∈ colR gRows 0, QB 1 100000000 q := fun q hq => by
      rw [show colR gRows 0 = [q8] from rfl] at hq
      exact mem1 (P := QB 1 100000000) qb8 hq
    exact (z.add (qb_dot (D := 1) (E := 1) (by decide) (by decide) [q11] _ (fun q hq => mem1 (P := QB 1 11) qb11 hq) hcol)).mono (by decide)
  have w2 : QB 1 0 (0 + dot [q11] (gRows.map (·.2))) := by
    have z : QB 1 0 0 := QB.zero (by decide)
    have hcol : ∀ q ∈ gRows.map (·.2), QB 1 0 q := fun q hq => by
      rw [show gRows.map (·.2) = [0] from rfl] at hq
      exact mem1 (P := QB 1 0) (qbz 1 0 (by decide)) hq
    exact (z.add (qb_dot (D := 1) (E := 1) (by decide) (by decide) [q11] _ (fun q hq => mem1 (P := QB 1 11) qb11 hq) hcol)).mono (by decide)
  have hdl : Dt (laterD [0] [q11] 0 gRows 1) := dt_cl (by decide) (by decide) (fun q hq => mem1 (P := Bq) (bq_of (qbz 1 1 (by decide)) (by decide) (by decide)) hq) (fun q hq => bq_of (wd q hq) (by decide) (by decide)) (bq_of w2 (by decide) (by decide))
  have z := cb_main (K := K) (i := 1) (a := []) (rows := gRows) (m := 1) (k := ((1 : Nat) : Int)) (ca := 0) gNet rfl (by decide) (by decide) (fun r hr => by
    rw [show gRows = [([q8], 0)] from rfl] at hr
    rw [List.mem_singleton.mp hr]
    rfl) gClaim.1 gClaim.2 (D := 1) (E := 1) (M := 11) (N' := 100000000) (L := 0) (by decide) (by decide) (fun q hq => mem1 (P := QB 1 11) qb11 hq) (fun r hr => by
    rw [show gRows = [([q8], 0)] from rfl] at hr
    rw [List.mem_singleton.mp hr]
    exact ⟨fun q hq => mem1 (P := QB 1 100000000) qb8 hq, qbz 1 _ (by decide)⟩) (qbz 1 0 (by decide)) (by decide) (by decide) (by decide) hdl
  have f : claimB (laterD [0] [q11] 0 gRows 1) ((1 : Nat) : Int) ((1 : Nat) : Int) = false := by decide +kernel
  rw [f] at z
  exact z
theorem g_empty : F_carried_back K [netD 1 [], clD [0] [q1'] 0] = .er "BadNets" := by
  have hd : Dt (clD [0] [q1'] 0) := dt_cl (by decide) (by decide) (fun q hq => mem1 (P := Bq) (bq_of (qbz 1 1 (by decide)) (by decide) (by decide)) hq) (fun q hq => mem1 (P := Bq) (bq_of qb1 (by decide) (by decide)) hq) (bq_of (qbz 1 1 (by decide)) (by decide) (by decide))
  have hc : claimB (clD [0] [q1'] 0) ((1 : Nat) : Int) ((1 : Nat) : Int) = true := claim_of (D := 1) (M := 1) rfl rfl (fun q hq => mem1 (P := QB 6 24) (qbz 6 24 (by decide)) hq) (fun q hq => mem1 (P := QB 1 1) qb1 hq) (qbz 1 1 (by decide)) (by decide) (by decide)
  have N : NetOk 1 [] ((1 : Nat) : Int) := ⟨dt_two (dt_int (by unfold Sm; decide)) (Dt.mk (by decide) (by simp)), by decide +kernel, by decide, ⟨0, rfl⟩⟩
  exact cb_nets N hd hc (.inl rfl)
theorem kind_eq {S : Type} {ρ : Ev} {s s' : S} {f : Ev → Fx S Da} {x w : Str} (hf : f ρ s = .ok (.exc x, s')) (hk : F_law_v_kind K [.exc x] = .ok (.str w)) : fBin eqF (fCall (F_law_v_kind K) (fCons f (fNil))) (fC (.str w)) ρ s = .ok (.bl true, s') := by simp [hf, hk]
theorem law_pure (c : Fc K mg) (sa : Addr) (ns : List Int) (hl : ns.length ≤ 63) : ∃ s', g_law K sa (envL ns sa) (begun ns) = .rt (.bl true) s' := by
  have hR : Roomy (0 + 250 * 15) (begun ns) := by
    show (0 : Int) ≤ 0 ∧ (0 : Int) + ((0 + 250 * 15 : Nat) : Int) ≤ 1099511627776
    decide
  have hit : (fRng1 (fCons (fBin addF0 (fC (.int 5)) (fApp minF (fCons (fApp lenF (fCons (fName 0) (fNil))) (fCons (fC (.int 10)) (fNil))))) (fNil))) (envL ns sa) (begun ns) = .ok (rngD 0 (5 + min ns.length 10), begun ns) := by
    refine rng_nat _ (5 + min ns.length 10) (begun ns) ?_ (by omega)
    have e : (5 : Int) + (if (10 : Int) < (ns.length : Nat) then 10 else ((ns.length : Nat) : Int)) = ((5 + min ns.length 10 : Nat) : Int) := by
      split <;> omega
    simp [envL, e]
  obtain ⟨ρ1, s1, e1, ⟨x2, x3, x4, x5, x6, x7, x8, x9, x10, x11, x12, x13, rfl⟩, r1⟩ := laps_ok (sa := sa) c (.lst (ns.map Da.int)) (rngD 0 (5 + min ns.length 10)) (envL ns sa) (begun ns) 0 ⟨_, _, _, _, _, _, _, _, _, _, _, _, rfl⟩ (by rw [rngD_len]; exact hR.le (by omega))
  have a0 := (for_of (h := hName 2) (g := (gSeq (gSet 4 (fBin addF0 (fC (.int 1)) (fCallI sa 1 (F_law_draw K sa) (fCons (fC (.int 3)) (fNil))))) (gSeq (gSet 5 (fCallI sa 1 (F_law_v_net K sa) (fCons (fName 4) (fCons (fBin addF0 (fC (.int 1)) (fCallI sa 1 (F_law_draw K sa) (fCons (fC (.int 3)) (fNil)))) (fCons (fC (.int 4)) (fNil)))))) (gSeq (gSet 6 (fBin ixF (fCall (F_widths_of K) (fCons (fName 5) (fNil))) (fUn negF (fC (.int 1))))) (gSeq (gIf (fTest (fBin gtF (fCallI sa 1 (F_law_draw K sa) (fCons (fC (.int 4)) (fNil))) (fC (.int 0)))) (gSet 5 (fTup (fCons (fName 4) (fCons (fBin addF0 (fBin ixF (fName 5) (fC (.int 1))) (fTup (fCons (fTup (fCons (fC (.str "mix")) (fCons (fApp tupF (fCons (fLst (fComp (fRng1 (fCons (fBin addF0 (fC (.int 1)) (fCallI sa 1 (F_law_draw K sa) (fCons (fC (.int 3)) (fNil)))) (fNil))) (hName 11) (fTrue) (fCallI sa 1 (F_law_v_row K sa) (fCons (fName 6) (fNil))) [11])) (fNil))) (fNil)))) (fNil)))) (fNil))))) (gNx)) (gSeq (gSet 6 (fBin ixF (fCall (F_widths_of K) (fCons (fName 5) (fNil))) (fUn negF (fC (.int 1))))) (gSeq (gSet 7 (fTup (fCons (fCallI sa 1 (F_law_v_input K sa) (fCons (fName 4) (fNil))) (fCons (fCallI sa 1 (F_law_v_input K sa) (fCons (fName 6) (fNil))) (fCons (fCallI sa 1 (F_law_v_number K sa) (fCons (fC (.int 4)) (fNil))) (fNil)))))) (gSeq (gSet 8 (fKept exL (fCall (F_carried_back K) (fCons (fName 5) (fCons (fName 7) (fNil)))))) (gSeq (gIf (fTest (fBin neF (fBin ixF (fBin ixF (fBin ixF (fName 5) (fC (.int 1))) (fUn negF (fC (.int 1)))) (fC (.int 0))) (fC (.str "mix")))) (gSeq (gIf (fTest (fBin neF (fCall (F_law_v_kind K) (fCons (fName 8) (fNil))) (fC (.str "nets ")))) (gRet (fC (.bl false))) (gNx)) (gCt)) (gNx)) (gSeq (gIf (fTest (fBin notNF (fName 8) (fC .non))) (gRet (fC (.bl false))) (gNx)) (gSeq (gSet 9 (fCall (F_carried_back K) (fPick [1, 0] (fNil) (fCons (fName 7) (fCons (fName 5) (fNil)))))) (gSeq (gSet 10 (fTup (fCons (fName 4) (fCons (fSl (fBin ixF (fName 5) (fC (.int 1))) (fPart none) (fPart (some (fUn negF (fC (.int 1)))))) (fNil))))) (gSeq (gIf (fOr (fNot (fTest (fCall (F_is_claim K) (fCons (fName 9) (fCons (fName 4) (fCons (fBin ixF (fCall (F_widths_of K) (fCons (fName 10) (fNil))) (fUn negF (fC (.int 1)))) (fNil))))))) (fTest (fBin neF (fApp reprF (fCons (fCall (F_carried_back K) (fCons (fName 5) (fCons (fName 7) (fNil)))) (fNil))) (fApp reprF (fCons (fName 9) (fNil)))))) (gRet (fC (.bl false))) (gNx)) (gSeq (gFor (fRng1 (fCons (fC (.int 3)) (fNil))) (hName 11) (gSeq (gSet 13 (fCallI sa 1 (F_law_v_input K sa) (fCons (fName 4) (fNil)))) (gIf (fTest (fBin neF (fCall (F_law_k82_value K) (fCons (fName 10) (fCons (fName 9) (fCons (fName 13) (fNil))))) (fCall (F_law_k82_value K) (fCons (fName 5) (fCons (fName 7) (fCons (fName 13) (fNil))))))) (gRet (fC (.bl false))) (gNx)))) (gSeq (gFor (fIt (fLst (fCons (fC .non) (fCons (fSl (fName 7) (fPart none) (fPart (some (fC (.int 2))))) (fCons (fTup (fCons (fBin ixF (fName 7) (fC (.int 0))) (fCons (fBin addF0 (fBin ixF (fName 7) (fC (.int 1))) (fTup (fCons (fTup (fCons (fC (.int 0)) (fCons (fC (.int 1)) (fNil)))) (fNil)))) (fCons (fBin ixF (fName 7) (fC (.int 2))) (fNil))))) (fCons (fTup (fCons (fBin ixF (fName 7) (fC (.int 0))) (fCons (fBin ixF (fName 7) (fC (.int 1))) (fCons (fTup (fCons (fC (.int 1)) (fCons (fC (.int 0)) (fNil)))) (fNil))))) (fNil))))))) (hName 12) (gIf (fTest (fBin neF (fCall (F_law_v_kind K) (fCons (fKept exL (fCall (F_carried_back K) (fCons (fName 5) (fCons (fName 12) (fNil))))) (fNil))) (fC (.str "claim ")))) (gRet (fC (.bl false))) (gNx))) (gIf (fTest (fBin neF (fCall (F_law_v_kind K) (fCons (fKept exL (fCall (F_carried_back K) (fCons (fC .non) (fCons (fName 7) (fNil))))) (fNil))) (fC (.str "net ")))) (gRet (fC (.bl false))) (gNx))))))))))))))))) hit).trans e1
  have pw : powF (.int 10) (.int 8) = some (.int 100000000) := by
    have hp : CPow 10 8 := ⟨by decide, by decide, by decide⟩
    show (if CPow 10 8 then some (Da.int (10 ^ (8 : Int).toNat)) else none) = _
    rw [if_pos hp]
    rfl
  have a1 : gSet (S := Dr) 3 (fTup (fCons (fC (.int 1)) (fCons (fTup (fCons (fTup (fCons (fC (.str "mix")) (fCons (fTup (fCons (fTup (fCons (fTup (fCons (fTup (fCons (fBin powF (fC (.int 10)) (fC (.int 8))) (fCons (fC (.int 1)) (fNil)))) (fNil))) (fCons (fTup (fCons (fC (.int 0)) (fCons (fC (.int 1)) (fNil)))) (fNil)))) (fNil))) (fNil)))) (fNil))) (fNil)))) [.dat (.lst (ns.map Da.int)), .raw (.ref sa), x2, x3, x4, x5, x6, x7, x8, x9, x10, x11, x12, x13] s1 = .nx [.dat (.lst (ns.map Da.int)), .raw (.ref sa), x2, .dat (netD 1 ([] ++ [mixD gRows])), x4, x5, x6, x7, x8, x9, x10, x11, x12, x13] s1 := by
    refine set_of ?_
    simp [pw]
    rfl
  have k1 : fTest (fBin neF (fCall (F_law_v_kind K) (fCons (fKept exL (fCall (F_carried_back K) (fCons (fName 3) (fCons (fTup (fCons (fTup (fCons (fTup (fCons (fC (.int 0)) (fCons (fC (.int 1)) (fNil)))) (fNil))) (fCons (fTup (fCons (fTup (fCons (fC (.int 11)) (fCons (fC (.int 1)) (fNil)))) (fNil))) (fCons (fTup (fCons (fC (.int 0)) (fCons (fC (.int 1)) (fNil)))) (fNil))))) (fNil))))) (fNil))) (fC (.str "great "))) [.dat (.lst (ns.map Da.int)), .raw (.ref sa), x2, .dat (netD 1 ([] ++ [mixD gRows])), x4, x5, x6, x7, x8, x9, x10, x11, x12, x13] s1 = .ok (false, s1) := kind_t (kept_er (call2_er (name_of rfl) (show (fTup (fCons (fTup (fCons (fTup (fCons (fC (.int 0)) (fCons (fC (.int 1)) (fNil)))) (fNil))) (fCons (fTup (fCons (fTup (fCons (fC (.int 11)) (fCons (fC (.int 1)) (fNil)))) (fNil))) (fCons (fTup (fCons (fC (.int 0)) (fCons (fC (.int 1)) (fNil)))) (fNil))))) _ () = .ok (clD [0] [q11] 0, ()) from rfl) g_great) (by decide +kernel)) (kind_TooGreat c)
  have k2 : fKept exL (fCall (F_carried_back K) (fCons (fTup (fCons (fC (.int 1)) (fCons (fTup (fNil)) (fNil)))) (fCons (fTup (fCons (fTup (fCons (fTup (fCons (fC (.int 0)) (fCons (fC (.int 1)) (fNil)))) (fNil))) (fCons (fTup (fCons (fTup (fCons (fC (.int 1)) (fCons (fC (.int 1)) (fNil)))) (fNil))) (fCons (fTup (fCons (fC (.int 0)) (fCons (fC (.int 1)) (fNil)))) (fNil))))) (fNil)))) [.dat (.lst (ns.map Da.int)), .raw (.ref sa), x2, .dat (netD 1 ([] ++ [mixD gRows])), x4, x5, x6, x7, x8, x9, x10, x11, x12, x13] s1 = .ok (.exc "BadNets", s1) := kept_er (call2_er (a := netD 1 []) (b := clD [0] [q1'] 0) rfl rfl g_empty) (by decide +kernel)
  refine ⟨s1, ?_⟩
  unfold g_law
  rw [sq_nx a0, sq_nx a1, sq_nx ((gi_f k1).trans ap_nx)]
  refine rt_of ?_
  exact kind_eq k2 (kind_BadNets c)
end
end Sw

set_option Elab.async false
set_option linter.all false
set_option maxRecDepth 100000
set_option maxHeartbeats 4000000
/-! SwAll: the whole of k82; printed. -/
namespace Sw
open PySem PySem.Spec PyProof.Rows L2 LamX

abbrev Says (w : World) (h : Heap) (K : PySem.W.Frag) : Prop := He.SaysX faL fnL [] tfL exB w h K
section
variable {w : World} {h : Heap} {K : PySem.W.Frag} {mg : Str → Option Value}
theorem exF_of {x : Str} (X : K.In h) (G : h.Ns mainGlobals mg) (d : He.SaysD faL fnL K) (h1 : He.Fa.glo x ∈ faL) (h2 : He.Fa.exc x ∈ faL) : ExF K mg x := by
  obtain ⟨a, b, e, t⟩ := He.exc_ok (d.facts h2)
  exact ⟨He.glo_ok X G (d.facts h1), a, b, e, t⟩
theorem exm_of (d : He.SaysD faL fnL K) : ∀ c ∈ exL, PySem.W.exmOne K (.ref (He.ga K c)) (.ref (He.ga K "NetError")) = some true := by
  intro c hc
  have h : He.Fa.exm c "NetError" true ∈ faL := by
    simp only [exL, List.mem_cons, List.not_mem_nil, or_false] at hc
    rcases hc with rfl | rfl | rfl | rfl | rfl | rfl | rfl | rfl <;> simp [faL]
  exact of_decide_eq_true (d.facts h)
theorem fc_of (c : Says w h K) (X : K.In h) (G : h.Ns mainGlobals mg) : Fc K mg := by
  have d : He.SaysD faL fnL K := c.t.d
  have m := c.more
  unfold exB at m
  obtain ⟨q0, m⟩ := He.ba m
  obtain ⟨m1, m⟩ := He.ba m
  obtain ⟨m2, m3⟩ := He.ba m
  exact ⟨He.free_ok X G (d.facts (by simp [faL])), He.free_ok X G (d.facts (by simp [faL])), He.free_ok X G (d.facts (by simp [faL])), He.free_ok X G (d.facts (by simp [faL])), He.free_ok X G (d.facts (by simp [faL])), He.free_ok X G (d.facts (by simp [faL])), He.free_ok X G (d.facts (by simp [faL])), He.free_ok X G (d.facts (by simp [faL])), He.free_ok X G (d.facts (by simp [faL])), He.free_ok X G (d.facts (by simp [faL])), He.free_ok X G (d.facts (by simp [faL])), He.free_ok X G (d.facts (by simp [faL])), He.free_ok X G (d.facts (by simp [faL])), He.free_ok X G (d.facts (by simp [faL])), He.free_ok X G (d.facts (by simp [faL])), He.free_ok X G (d.facts (by simp [faL])), He.free_ok X G (d.facts (by simp [faL])), He.int_ok X G (d.facts (by simp [faL])), He.int_ok X G (d.facts (by simp [faL])), He.int_ok X G (d.facts (by simp [faL])), He.int_ok X G (d.facts (by simp [faL])), He.int_ok X G (d.facts (by simp [faL])), He.int_ok X G (d.facts (by simp [faL])), glB_ok X G q0, exF_of X G d (by simp [faL]) (by simp [faL]), exF_of X G d (by simp [faL]) (by simp [faL]), exF_of X G d (by simp [faL]) (by simp [faL]), exF_of X G d (by simp [faL]) (by simp [faL]), exF_of X G d (by simp [faL]) (by simp [faL]), exF_of X G d (by simp [faL]) (by simp [faL]), exF_of X G d (by simp [faL]) (by simp [faL]), exF_of X G d (by simp [faL]) (by simp [faL]), He.glo_ok X G (d.facts (by simp [faL])), fun x hx => excC_of (He.ba (List.all_eq_true.mp m1 x hx)).1, exm_of d, fun x hx y hy => of_decide_eq_true (List.all_eq_true.mp (He.ba (List.all_eq_true.mp m1 x hx)).2 y hy), fun y hy => of_decide_eq_true (List.all_eq_true.mp m2 y hy)⟩
def tabL (K : PySem.W.Frag) : List (Addr × Str) := [((He.cT K ("law", none)).2, "law.<locals>.<lambda>")]
def csL (K : PySem.W.Frag) : List (Addr × Addr) := [He.cT K ("law", none)]
def spLaw (K : PySem.W.Frag) : Sp := fun vs H Q E => ∃ (a : Addr) (ns : List Int), vs = [.ref a] ∧ ns.length ≤ 63 ∧ (∀ p ∈ tabL K, H p.1 = some (.tbl #[])) ∧ SqX K H a (ns.map V.int) ∧ ∀ v H', v = .bl true → Q v H'
theorem law_start {K : PySem.W.Frag} {H : Hp} {a : Addr} {ns : List Int} (hT : ∀ p ∈ tabL K, H p.1 = some (.tbl #[])) (hS : SqX K H a (ns.map V.int)) : ∃ G : Hp, Same G H ∧ (∀ p ∈ tabL K, G p.1 = none) ∧ Re K G (.ref a) (.lst (ns.map Da.int)) := by
  refine ⟨fun b => unT (H b), fun b o e => unT_some e, fun p hp => ?_, .lst ?_ (ReL.of_ints ns)⟩
  · show unT (H p.1) = none
    rw [hT p hp]
    rfl
  · rcases hS with (h | ⟨o, h⟩) | h
    · refine .inl (.inl ?_)
      show unT (H a) = _
      rw [h]
      rfl
    · refine .inl (.inr ⟨o, ?_⟩)
      show unT (H a) = _
      rw [h]
      rfl
    · exact .inr h
theorem run_law {P : Program} {base : Heap} (A : Around) (hrA : Room 12 A) {fdB fd : FuncData} {fB : Addr} (hB : FnOk P w K mg base (L2.CX P w) 1 fB fdB ["script"] (spB K)) (hmB : mg "_law_begun" = some (.ref fB)) (kpB : PySem.W.keepIn K (.ref fB) = true) (bB : Binds K fdB ["script"] [])
    (Fd : FunD K "law" "law" (defArgs s_law) (defBody s_law) (defScope s_law) [] [] (He.fAd K ("law", none)) fd)
    (rest : ∀ (sa ga ca : Addr) (outer : List Env) (s : Shared) (H : Hp) (E : XK), Room 11 (A.deeper (envOfC "law" (defScope s_law) s.heap.objs.size (He.fAd K ("law", none)) (.ref (He.cT K ("law", none)).1))) →
      PSs (cxOf (L2.CX P w) P w K mg base ["script", "state", "turn", "great", "inputs", "net", "many", "claim", "error", "later", "ahead", "lap", "wrong", "vector"] "law" (defScope s_law) (He.fAd K ("law", none)) (.ref (He.cT K ("law", none)).1) A outer s H E) ((defBody s_law).drop 1) (tS K (WD K (tabL K) sa ga ca) (wk K E) (g_law K sa)))
    (pure : ∀ (sa : Addr) (ns : List Int), ns.length ≤ 63 → ∃ s', g_law K sa (envL ns sa) (begun ns) = .rt (.bl true) s') :
    RunAt P w K mg base (L2.CX P w) A (He.fAd K ("law", none)) fd ["script"] (spLaw K) := by
  have S : FnScope ["script", "state", "turn", "great", "inputs", "net", "many", "claim", "error", "later", "ahead", "lap", "wrong", "vector"] ["script"] (defScope s_law) := C8.fnScope_by (by decide +kernel)
  refine FunD.runC Fd S (fun vs H Q E h => ?_) hrA fun outer s H vs Q E hr h => ?_
  · obtain ⟨a, ns, rfl, _⟩ := h
    rfl
  · obtain ⟨a, ns, rfl, hl, hT, hS, q⟩ := h
    have st0 : PS (cxOf (L2.CX P w) P w K mg base ["script", "state", "turn", "great", "inputs", "net", "many", "claim", "error", "later", "ahead", "lap", "wrong", "vector"] "law" (defScope s_law) (He.fAd K ("law", none)) (.ref (He.cT K ("law", none)).1) A outer s H E) ((defBody s_law).getD 0 (.Pass ⟨0, 0, 0, 0⟩)) (tAsg (tCall (spB K) [] E (tCons (tVar 0) tNil)) (gName 1)) :=
      ps_set (i := 1) S.nd (by rfl) (by first | exact .inl rfl | exact .inr rfl) (pe_call hB (hr.mono (by decide)) (by rfl) hmB kpB bB .nil passC (pa_cons (pe_var (i := 0) (by rfl) (by first | exact .inl rfl | exact .inr (.inl rfl) | exact .inr (.inr rfl))) pa_nil))
    refine ⟨_, pss_cons st0 (pss_ex (ι := Addr × Addr × Addr) fun i => rest i.1 i.2.1 i.2.2 outer s H E hr), ?_⟩
    obtain ⟨G, in0, gT, ra⟩ := law_start hT hS
    refine ⟨.ref a, rfl, G, .ref a, ns, rfl, in0, ra, by omega, fun sa ga ca G' H' x nsa nga gsa gga hsa hga hca => ?_⟩
    have tabs : Tabs (tabL K) H' := fun p hp => TabS.nil (x.same p.1 _ (hT p hp))
    have mu : ∀ b ∈ (WD K (tabL K) sa ga ca).mu, G' b = none ∧ H' b ≠ none := fun b hb => by
      have hb' : b = sa ∨ b = ga ∨ b ∈ (tabL K).map (·.1) := by
        have z : b ∈ sa :: ga :: (tabL K).map (·.1) := hb
        rcases List.mem_cons.mp z with z | z
        · exact .inl z
        · exact .inr (List.mem_cons.mp z)
      rcases hb' with z | z | z
      · rw [z]; exact ⟨gsa, by rw [hsa]; simp⟩
      · rw [z]; exact ⟨gga, by rw [hga]; simp⟩
      · obtain ⟨p, hp, rfl⟩ := List.mem_map.mp z
        exact ⟨x.new p.1 (gT p hp) (by rw [hT p hp]; simp), by rw [x.same p.1 _ (hT p hp)]; simp⟩
    have gl : (begun ns).great.length < sizeLine := by
      have h1 : (begun ns).great.length ≤ ns.length := by
        show ((ns.filter _).map _).length ≤ _
        rw [List.length_map]
        exact List.length_filter_le ..
      have : (63 : Nat) < sizeLine := by decide
      omega
    obtain ⟨s', hp⟩ := pure sa ns hl
    refine ⟨(sa, ga, ca), H', G', G', envL ns sa, begun ns, ⟨⟨x.in_, mu, rfl, fun i sl e => ?_, fun i j p ds es e => ?_, ⟨hsa, hga, hca, tabs, gl⟩⟩, .refl x.in_, fun i ds p e => ?_⟩, ?_⟩
    · rcases i with _ | _ | i
      · cases e
        exact ⟨_, rfl, _, rfl, ra.mono x.sub⟩
      · cases e
        exact ⟨_, rfl, rfl⟩
      · have en : sl = .no := by
          have e' : (List.replicate 12 Sl.no)[i]? = some sl := e
          rw [List.getElem?_replicate] at e'
          split at e'
          · exact (Option.some.inj e').symm
          · cases e'
        subst en
        have hi : i < 12 := by
          have := (List.getElem?_eq_some_iff.mp e).1
          simp [envL] at this
          omega
        refine ⟨_, List.getElem?_eq_getElem (by show i + 2 < 14; omega), trivial⟩
    · exfalso
      rcases i with _ | _ | i
      · cases e
      · cases e
      · have e' : (List.replicate 12 Sl.no)[i]? = some (.own ds) := e
        rw [List.getElem?_replicate] at e'
        split at e' <;> cases e'
    · exfalso
      rcases i with _ | _ | i
      · cases e
      · cases e
      · have e' : (List.replicate 12 Sl.no)[i]? = some (.own ds) := e
        rw [List.getElem?_replicate] at e'
        split at e' <;> cases e'
    · rw [hp]
      intro v G2 H2 _ _ y
      cases y
      exact q _ H2 rfl

theorem uni_law {K : PySem.W.Frag} (m : (true) = true) : ∀ p ∈ tabL K, p.1 = (He.cT K ("law", none)).2 → p.2 = ("law.<locals>.<lambda>" : Str) := fun p hp hq => by
  have z : p = ((He.cT K ("law", none)).2, ("law.<locals>.<lambda>" : Str)) := by simpa [tabL] using hp
  subst z
  rfl
theorem facts {P : Program} {fa : Addr} (c : Says w h K) (X : K.In h) (G : h.Ns mainGlobals mg) (hfa : mg ("law" : Str) = some (.ref fa)) :
    ∃ fd : FuncData, (∀ (s : Shared) (u : Value), BindsTo s fd ⟨[u], []⟩ [("script", u)]) ∧ ∀ base : Heap, K.In base → base.Ns mainGlobals mg → (∀ p ∈ csL K, TabB base mg p.1 p.2) → ∀ A : Around, A.guards = some [] → Room 12 A → RunAt P w K mg base (L2.CX P w) A fa fd ["script"] (spLaw K) := by
  have d : He.SaysD faL fnL K := c.t.d
  have fc := fc_of c X G
  have gl : ∀ x : Str, He.Fa.glo x ∈ faL → mg x = some (.ref (He.ga K x)) := fun x hx => He.glo_ok X G (d.facts hx)
  have e := hfa.symm.trans (gl "law" (by simp [faL]))
  cases e
  obtain ⟨fd_is_whole, D_is_whole⟩ : ∃ fd, FunD K "is_whole" "is_whole" (defArgs s_is_whole) (defBody s_is_whole) (defScope s_is_whole) [] [] (He.fAd K ("is_whole", none)) fd := d.def_ 0 (d := d_is_whole) rfl
  obtain ⟨fd_is_number, D_is_number⟩ : ∃ fd, FunD K "is_number" "is_number" (defArgs s_is_number) (defBody s_is_number) (defScope s_is_number) [] [] (He.fAd K ("is_number", none)) fd := d.def_ 1 (d := d_is_number) rfl
  obtain ⟨fd_is_tuple_of, D_is_tuple_of⟩ : ∃ fd, FunD K "is_tuple_of" "is_tuple_of" (defArgs s_is_tuple_of) (defBody s_is_tuple_of) (defScope s_is_tuple_of) [] [] (He.fAd K ("is_tuple_of", none)) fd := d.def_ 2 (d := d_is_tuple_of) rfl
  obtain ⟨fd_is_headed, D_is_headed⟩ : ∃ fd, FunD K "is_headed" "is_headed" (defArgs s_is_headed) (defBody s_is_headed) (defScope s_is_headed) [] [] (He.fAd K ("is_headed", none)) fd := d.def_ 3 (d := d_is_headed) rfl
  obtain ⟨fd_are_unlike, D_are_unlike⟩ : ∃ fd, FunD K "are_unlike" "are_unlike" (defArgs s_are_unlike) (defBody s_are_unlike) (defScope s_are_unlike) [] [] (He.fAd K ("are_unlike", none)) fd := d.def_ 4 (d := d_are_unlike) rfl
  obtain ⟨fd_common_divisor, D_common_divisor⟩ : ∃ fd, FunD K "common_divisor" "common_divisor" (defArgs s_common_divisor) (defBody s_common_divisor) (defScope s_common_divisor) [] [] (He.fAd K ("common_divisor", none)) fd := d.def_ 5 (d := d_common_divisor) rfl
  obtain ⟨fd_reduced, D_reduced⟩ : ∃ fd, FunD K "reduced" "reduced" (defArgs s_reduced) (defBody s_reduced) (defScope s_reduced) [] [] (He.fAd K ("reduced", none)) fd := d.def_ 6 (d := d_reduced) rfl
  obtain ⟨fd_is_fraction, D_is_fraction⟩ : ∃ fd, FunD K "is_fraction" "is_fraction" (defArgs s_is_fraction) (defBody s_is_fraction) (defScope s_is_fraction) [] [] (He.fAd K ("is_fraction", none)) fd := d.def_ 7 (d := d_is_fraction) rfl
  obtain ⟨fd_is_given, D_is_given⟩ : ∃ fd, FunD K "is_given" "is_given" (defArgs s_is_given) (defBody s_is_given) (defScope s_is_given) [] [] (He.fAd K ("is_given", none)) fd := d.def_ 8 (d := d_is_given) rfl
  obtain ⟨fd_is_weight, D_is_weight⟩ : ∃ fd, FunD K "is_weight" "is_weight" (defArgs s_is_weight) (defBody s_is_weight) (defScope s_is_weight) [] [] (He.fAd K ("is_weight", none)) fd := d.def_ 9 (d := d_is_weight) rfl
  obtain ⟨fd_plus, D_plus⟩ : ∃ fd, FunD K "plus" "plus" (defArgs s_plus) (defBody s_plus) (defScope s_plus) [] [] (He.fAd K ("plus", none)) fd := d.def_ 10 (d := d_plus) rfl
  obtain ⟨fd_by, D_by⟩ : ∃ fd, FunD K "by" "by" (defArgs s_by) (defBody s_by) (defScope s_by) [] [] (He.fAd K ("by", none)) fd := d.def_ 11 (d := d_by) rfl
  obtain ⟨fd_sum_of, D_sum_of⟩ : ∃ fd, FunD K "sum_of" "sum_of" (defArgs s_sum_of) (defBody s_sum_of) (defScope s_sum_of) [] [] (He.fAd K ("sum_of", none)) fd := d.def_ 12 (d := d_sum_of) rfl
  obtain ⟨fd_are_given, D_are_given⟩ : ∃ fd, FunD K "are_given" "are_given" (defArgs s_are_given) (defBody s_are_given) (defScope s_are_given) [] [] (He.fAd K ("are_given", none)) fd := d.def_ 13 (d := d_are_given) rfl
  obtain ⟨fd_is_places, D_is_places⟩ : ∃ fd, FunD K "is_places" "is_places" (defArgs s_is_places) (defBody s_is_places) (defScope s_is_places) [] [] (He.fAd K ("is_places", none)) fd := d.def_ 14 (d := d_is_places) rfl
  obtain ⟨fd_is_row, D_is_row⟩ : ∃ fd, FunD K "is_row" "is_row" (defArgs s_is_row) (defBody s_is_row) (defScope s_is_row) [] [] (He.fAd K ("is_row", none)) fd := d.def_ 15 (d := d_is_row) rfl
  obtain ⟨fd_is_layer, D_is_layer⟩ : ∃ fd, FunD K "is_layer" "is_layer" (defArgs s_is_layer) (defBody s_is_layer) (defScope s_is_layer) [] [] (He.fAd K ("is_layer", none)) fd := d.def_ 16 (d := d_is_layer) rfl
  obtain ⟨fd_told_by, D_told_by⟩ : ∃ fd, FunD K "told_by" "told_by" (defArgs s_told_by) (defBody s_told_by) (defScope s_told_by) [] [] (He.fAd K ("told_by", none)) fd := d.def_ 17 (d := d_told_by) rfl
  obtain ⟨fd_bends_in, D_bends_in⟩ : ∃ fd, FunD K "bends_in" "bends_in" (defArgs s_bends_in) (defBody s_bends_in) (defScope s_bends_in) [] [] (He.fAd K ("bends_in", none)) fd := d.def_ 18 (d := d_bends_in) rfl
  obtain ⟨fd_is_net, D_is_net⟩ : ∃ fd, FunD K "is_net" "is_net" (defArgs s_is_net) (defBody s_is_net) (defScope s_is_net) [] [] (He.fAd K ("is_net", none)) fd := d.def_ 19 (d := d_is_net) rfl
  obtain ⟨fd_need_net, D_need_net⟩ : ∃ fd, FunD K "need_net" "need_net" (defArgs s_need_net) (defBody s_need_net) (defScope s_need_net) [] [] (He.fAd K ("need_net", none)) fd := d.def_ 20 (d := d_need_net) rfl
  obtain ⟨fd_widths_in, D_widths_in⟩ : ∃ fd, FunD K "widths_in" "widths_in" (defArgs s_widths_in) (defBody s_widths_in) (defScope s_widths_in) [] [] (He.fAd K ("widths_in", none)) fd := d.def_ 21 (d := d_widths_in) rfl
  obtain ⟨fd_widths_of, D_widths_of⟩ : ∃ fd, FunD K "widths_of" "widths_of" (defArgs s_widths_of) (defBody s_widths_of) (defScope s_widths_of) [] [] (He.fAd K ("widths_of", none)) fd := d.def_ 22 (d := d_widths_of) rfl
  obtain ⟨fd_outputs_of, D_outputs_of⟩ : ∃ fd, FunD K "outputs_of" "outputs_of" (defArgs s_outputs_of) (defBody s_outputs_of) (defScope s_outputs_of) [] [] (He.fAd K ("outputs_of", none)) fd := d.def_ 23 (d := d_outputs_of) rfl
  obtain ⟨fd_is_claim, D_is_claim⟩ : ∃ fd, FunD K "is_claim" "is_claim" (defArgs s_is_claim) (defBody s_is_claim) (defScope s_is_claim) [] [] (He.fAd K ("is_claim", none)) fd := d.def_ 24 (d := d_is_claim) rfl
  obtain ⟨fd_carried_back, D_carried_back⟩ : ∃ fd, FunD K "carried_back" "carried_back" (defArgs s_carried_back) (defBody s_carried_back) (defScope s_carried_back) [] [] (He.fAd K ("carried_back", none)) fd := d.def_ 25 (d := d_carried_back) rfl
  obtain ⟨fd_law_begun, D_law_begun⟩ : ∃ fd, FunD K "_law_begun" "_law_begun" (defArgs s_law_begun) (defBody s_law_begun) (defScope s_law_begun) [] [] (He.fAd K ("_law_begun", none)) fd := d.def_ 26 (d := d_law_begun) rfl
  obtain ⟨fd_law_blended, D_law_blended⟩ : ∃ fd, FunD K "_law_blended" "_law_blended" (defArgs s_law_blended) (defBody s_law_blended) (defScope s_law_blended) [] [] (He.fAd K ("_law_blended", none)) fd := d.def_ 27 (d := d_law_blended) rfl
  obtain ⟨fd_law_draw, D_law_draw⟩ : ∃ fd, FunD K "_law_draw" "_law_draw" (defArgs s_law_draw) (defBody s_law_draw) (defScope s_law_draw) [] [] (He.fAd K ("_law_draw", none)) fd := d.def_ 28 (d := d_law_draw) rfl
  obtain ⟨fd_law_mixed, D_law_mixed⟩ : ∃ fd, FunD K "_law_mixed" "_law_mixed" (defArgs s_law_mixed) (defBody s_law_mixed) (defScope s_law_mixed) [] [] (He.fAd K ("_law_mixed", none)) fd := d.def_ 29 (d := d_law_mixed) rfl
  obtain ⟨fd_law_caught, D_law_caught⟩ : ∃ fd, FunD K "_law_caught" "_law_caught" (defArgs s_law_caught) (defBody s_law_caught) (defScope s_law_caught) [] [] (He.fAd K ("_law_caught", none)) fd := d.def_ 30 (d := d_law_caught) rfl
  obtain ⟨fd_law_v_number, D_law_v_number⟩ : ∃ fd, FunD K "_law_v_number" "_law_v_number" (defArgs s_law_v_number) (defBody s_law_v_number) (defScope s_law_v_number) [] [] (He.fAd K ("_law_v_number", none)) fd := d.def_ 31 (d := d_law_v_number) rfl
  obtain ⟨fd_law_v_low, D_law_v_low⟩ : ∃ fd, FunD K "_law_v_low" "_law_v_low" (defArgs s_law_v_low) (defBody s_law_v_low) (defScope s_law_v_low) [] [] (He.fAd K ("_law_v_low", none)) fd := d.def_ 32 (d := d_law_v_low) rfl
  obtain ⟨fd_law_v_plus, D_law_v_plus⟩ : ∃ fd, FunD K "_law_v_plus" "_law_v_plus" (defArgs s_law_v_plus) (defBody s_law_v_plus) (defScope s_law_v_plus) [] [] (He.fAd K ("_law_v_plus", none)) fd := d.def_ 33 (d := d_law_v_plus) rfl
  obtain ⟨fd_law_v_by, D_law_v_by⟩ : ∃ fd, FunD K "_law_v_by" "_law_v_by" (defArgs s_law_v_by) (defBody s_law_v_by) (defScope s_law_v_by) [] [] (He.fAd K ("_law_v_by", none)) fd := d.def_ 34 (d := d_law_v_by) rfl
  obtain ⟨fd_law_v_above, D_law_v_above⟩ : ∃ fd, FunD K "_law_v_above" "_law_v_above" (defArgs s_law_v_above) (defBody s_law_v_above) (defScope s_law_v_above) [] [] (He.fAd K ("_law_v_above", none)) fd := d.def_ 35 (d := d_law_v_above) rfl
  obtain ⟨fd_law_v_sum, D_law_v_sum⟩ : ∃ fd, FunD K "_law_v_sum" "_law_v_sum" (defArgs s_law_v_sum) (defBody s_law_v_sum) (defScope s_law_v_sum) [] [] (He.fAd K ("_law_v_sum", none)) fd := d.def_ 36 (d := d_law_v_sum) rfl
  obtain ⟨fd_law_v_layer, D_law_v_layer⟩ : ∃ fd, FunD K "_law_v_layer" "_law_v_layer" (defArgs s_law_v_layer) (defBody s_law_v_layer) (defScope s_law_v_layer) [] [] (He.fAd K ("_law_v_layer", none)) fd := d.def_ 37 (d := d_law_v_layer) rfl
  obtain ⟨fd_law_v_told, D_law_v_told⟩ : ∃ fd, FunD K "_law_v_told" "_law_v_told" (defArgs s_law_v_told) (defBody s_law_v_told) (defScope s_law_v_told) [] [] (He.fAd K ("_law_v_told", none)) fd := d.def_ 38 (d := d_law_v_told) rfl
  obtain ⟨fd_law_v_row, D_law_v_row⟩ : ∃ fd, FunD K "_law_v_row" "_law_v_row" (defArgs s_law_v_row) (defBody s_law_v_row) (defScope s_law_v_row) [] [] (He.fAd K ("_law_v_row", none)) fd := d.def_ 39 (d := d_law_v_row) rfl
  obtain ⟨fd_law_v_some, D_law_v_some⟩ : ∃ fd, FunD K "_law_v_some" "_law_v_some" (defArgs s_law_v_some) (defBody s_law_v_some) (defScope s_law_v_some) [] [] (He.fAd K ("_law_v_some", none)) fd := d.def_ 40 (d := d_law_v_some) rfl
  obtain ⟨fd_law_v_layer_for, D_law_v_layer_for⟩ : ∃ fd, FunD K "_law_v_layer_for" "_law_v_layer_for" (defArgs s_law_v_layer_for) (defBody s_law_v_layer_for) (defScope s_law_v_layer_for) [] [] (He.fAd K ("_law_v_layer_for", none)) fd := d.def_ 41 (d := d_law_v_layer_for) rfl
  obtain ⟨fd_law_v_net, D_law_v_net⟩ : ∃ fd, FunD K "_law_v_net" "_law_v_net" (defArgs s_law_v_net) (defBody s_law_v_net) (defScope s_law_v_net) [] [] (He.fAd K ("_law_v_net", none)) fd := d.def_ 42 (d := d_law_v_net) rfl
  obtain ⟨fd_law_v_bends, D_law_v_bends⟩ : ∃ fd, FunD K "_law_v_bends" "_law_v_bends" (defArgs s_law_v_bends) (defBody s_law_v_bends) (defScope s_law_v_bends) [] [] (He.fAd K ("_law_v_bends", none)) fd := d.def_ 43 (d := d_law_v_bends) rfl
  obtain ⟨fd_law_v_input, D_law_v_input⟩ : ∃ fd, FunD K "_law_v_input" "_law_v_input" (defArgs s_law_v_input) (defBody s_law_v_input) (defScope s_law_v_input) [] [] (He.fAd K ("_law_v_input", none)) fd := d.def_ 44 (d := d_law_v_input) rfl
  obtain ⟨fd_law_v_kind, D_law_v_kind⟩ : ∃ fd, FunD K "_law_v_kind" "_law_v_kind" (defArgs s_law_v_kind) (defBody s_law_v_kind) (defScope s_law_v_kind) [] [] (He.fAd K ("_law_v_kind", none)) fd := d.def_ 45 (d := d_law_v_kind) rfl
  obtain ⟨fd_law_k82_value, D_law_k82_value⟩ : ∃ fd, FunD K "_law_k82_value" "_law_k82_value" (defArgs s_law_k82_value) (defBody s_law_k82_value) (defScope s_law_k82_value) [] [] (He.fAd K ("_law_k82_value", none)) fd := d.def_ 46 (d := d_law_k82_value) rfl
  obtain ⟨fd_law, D_law⟩ : ∃ fd, FunD K "law" "law" (defArgs s_law) (defBody s_law) (defScope s_law) [] [] (He.fAd K ("law", none)) fd := d.def_ 47 (d := d_law) rfl
  have b := FunD.bindsA (ps := ["script"]) D_law fun _ _ _ _ _ _ us hl => match us, hl with | [_], _ => rfl
  refine ⟨fd_law, fun s u => b s [u] rfl, fun base KX NS TB A hgd hrA => ?_⟩
  have m := c.more
  unfold exB at m
  obtain ⟨_, m⟩ := He.ba m
  obtain ⟨_, m⟩ := He.ba m
  obtain ⟨_, m3⟩ := He.ba m
  have hmC := gl "_law_caught" (by simp [faL])
  have b_is_whole : Binds K fd_is_whole ["value"] [] := D_is_whole.bindsN fun _ _ _ _ _ _ us hl => match us, hl with | [_], _ => rfl
  have o_is_whole := ok_is_whole (P := P) (w := w) (base := base) fc  D_is_whole
  have h_is_whole : FnP P w K mg base 1 "is_whole" ["value"] (F_is_whole K) := fnP_of D_is_whole (gl _ (by simp [faL])) b_is_whole o_is_whole
  have b_is_number : Binds K fd_is_number ["value", "least", "most"] [] := D_is_number.bindsN fun _ _ _ _ _ _ us hl => match us, hl with | [_, _, _], _ => rfl
  have o_is_number := ok_is_number (P := P) (w := w) (base := base) fc h_is_whole D_is_number
  have h_is_number : FnP P w K mg base 2 "is_number" ["value", "least", "most"] (F_is_number K) := fnP_of D_is_number (gl _ (by simp [faL])) b_is_number o_is_number
  have b_is_tuple_of : Binds K fd_is_tuple_of ["value", "size"] [] := D_is_tuple_of.bindsN fun _ _ _ _ _ _ us hl => match us, hl with | [_, _], _ => rfl
  have o_is_tuple_of := ok_is_tuple_of (P := P) (w := w) (base := base) fc  D_is_tuple_of
  have h_is_tuple_of : FnP P w K mg base 1 "is_tuple_of" ["value", "size"] (F_is_tuple_of K) := fnP_of D_is_tuple_of (gl _ (by simp [faL])) b_is_tuple_of o_is_tuple_of
  have b_is_headed : Binds K fd_is_headed ["value"] [] := D_is_headed.bindsN fun _ _ _ _ _ _ us hl => match us, hl with | [_], _ => rfl
  have o_is_headed := ok_is_headed (P := P) (w := w) (base := base) fc  D_is_headed
  have h_is_headed : FnP P w K mg base 1 "is_headed" ["value"] (F_is_headed K) := fnP_of D_is_headed (gl _ (by simp [faL])) b_is_headed o_is_headed
  have b_are_unlike : Binds K fd_are_unlike ["names"] [] := D_are_unlike.bindsN fun _ _ _ _ _ _ us hl => match us, hl with | [_], _ => rfl
  have o_are_unlike := ok_are_unlike (P := P) (w := w) (base := base) fc  D_are_unlike
  have h_are_unlike : FnP P w K mg base 1 "are_unlike" ["names"] (F_are_unlike K) := fnP_of D_are_unlike (gl _ (by simp [faL])) b_are_unlike o_are_unlike
  have b_common_divisor : Binds K fd_common_divisor ["one", "other"] [] := D_common_divisor.bindsN fun _ _ _ _ _ _ us hl => match us, hl with | [_, _], _ => rfl
  have o_common_divisor := ok_common_divisor (P := P) (w := w) (base := base) fc  D_common_divisor
  have h_common_divisor : FnP P w K mg base 1 "common_divisor" ["one", "other"] (F_common_divisor K) := fnP_of D_common_divisor (gl _ (by simp [faL])) b_common_divisor o_common_divisor
  have b_reduced : Binds K fd_reduced ["number", "divisor"] [] := D_reduced.bindsN fun _ _ _ _ _ _ us hl => match us, hl with | [_, _], _ => rfl
  have o_reduced := ok_reduced (P := P) (w := w) (base := base) fc h_common_divisor D_reduced
  have h_reduced : FnP P w K mg base 2 "reduced" ["number", "divisor"] (F_reduced K) := fnP_of D_reduced (gl _ (by simp [faL])) b_reduced o_reduced
  have b_is_fraction : Binds K fd_is_fraction ["value"] [] := D_is_fraction.bindsN fun _ _ _ _ _ _ us hl => match us, hl with | [_], _ => rfl
  have o_is_fraction := ok_is_fraction (P := P) (w := w) (base := base) fc h_common_divisor h_is_tuple_of h_is_whole D_is_fraction
  have h_is_fraction : FnP P w K mg base 2 "is_fraction" ["value"] (F_is_fraction K) := fnP_of D_is_fraction (gl _ (by simp [faL])) b_is_fraction o_is_fraction
  have b_is_given : Binds K fd_is_given ["value"] [] := D_is_given.bindsN fun _ _ _ _ _ _ us hl => match us, hl with | [_], _ => rfl
  have o_is_given := ok_is_given (P := P) (w := w) (base := base) fc h_is_fraction D_is_given
  have h_is_given : FnP P w K mg base 3 "is_given" ["value"] (F_is_given K) := fnP_of D_is_given (gl _ (by simp [faL])) b_is_given o_is_given
  have b_is_weight : Binds K fd_is_weight ["value"] [] := D_is_weight.bindsN fun _ _ _ _ _ _ us hl => match us, hl with | [_], _ => rfl
  have o_is_weight := ok_is_weight (P := P) (w := w) (base := base) fc h_is_fraction D_is_weight
  have h_is_weight : FnP P w K mg base 3 "is_weight" ["value"] (F_is_weight K) := fnP_of D_is_weight (gl _ (by simp [faL])) b_is_weight o_is_weight
  have b_plus : Binds K fd_plus ["one", "other"] [] := D_plus.bindsN fun _ _ _ _ _ _ us hl => match us, hl with | [_, _], _ => rfl
  have o_plus := ok_plus (P := P) (w := w) (base := base) fc h_reduced D_plus
  have h_plus : FnP P w K mg base 3 "plus" ["one", "other"] (F_plus K) := fnP_of D_plus (gl _ (by simp [faL])) b_plus o_plus
  have b_by : Binds K fd_by ["one", "other"] [] := D_by.bindsN fun _ _ _ _ _ _ us hl => match us, hl with | [_, _], _ => rfl
  have o_by := ok_by (P := P) (w := w) (base := base) fc h_reduced D_by
  have h_by : FnP P w K mg base 3 "by" ["one", "other"] (F_by K) := fnP_of D_by (gl _ (by simp [faL])) b_by o_by
  have b_sum_of : Binds K fd_sum_of ["weights", "vector", "bias"] [] := D_sum_of.bindsN fun _ _ _ _ _ _ us hl => match us, hl with | [_, _, _], _ => rfl
  have o_sum_of := ok_sum_of (P := P) (w := w) (base := base) fc h_plus h_by D_sum_of
  have h_sum_of : FnP P w K mg base 4 "sum_of" ["weights", "vector", "bias"] (F_sum_of K) := fnP_of D_sum_of (gl _ (by simp [faL])) b_sum_of o_sum_of
  have b_are_given : Binds K fd_are_given ["value", "many"] [] := D_are_given.bindsN fun _ _ _ _ _ _ us hl => match us, hl with | [_, _], _ => rfl
  have o_are_given := ok_are_given (P := P) (w := w) (base := base) fc h_is_tuple_of h_is_given D_are_given
  have h_are_given : FnP P w K mg base 4 "are_given" ["value", "many"] (F_are_given K) := fnP_of D_are_given (gl _ (by simp [faL])) b_are_given o_are_given
  have b_is_places : Binds K fd_is_places ["value", "most"] [] := D_is_places.bindsN fun _ _ _ _ _ _ us hl => match us, hl with | [_, _], _ => rfl
  have o_is_places := ok_is_places (P := P) (w := w) (base := base) fc h_are_unlike h_is_number D_is_places
  have h_is_places : FnP P w K mg base 3 "is_places" ["value", "most"] (F_is_places K) := fnP_of D_is_places (gl _ (by simp [faL])) b_is_places o_is_places
  have b_is_row : Binds K fd_is_row ["value", "many"] [] := D_is_row.bindsN fun _ _ _ _ _ _ us hl => match us, hl with | [_, _], _ => rfl
  have o_is_row := ok_is_row (P := P) (w := w) (base := base) fc h_is_weight h_is_tuple_of D_is_row
  have h_is_row : FnP P w K mg base 4 "is_row" ["value", "many"] (F_is_row K) := fnP_of D_is_row (gl _ (by simp [faL])) b_is_row o_is_row
  have b_is_layer : Binds K fd_is_layer ["value", "many"] [] := D_is_layer.bindsN fun _ _ _ _ _ _ us hl => match us, hl with | [_, _], _ => rfl
  have o_is_layer := ok_is_layer (P := P) (w := w) (base := base) fc h_is_places h_is_row h_is_headed D_is_layer
  have h_is_layer : FnP P w K mg base 5 "is_layer" ["value", "many"] (F_is_layer K) := fnP_of D_is_layer (gl _ (by simp [faL])) b_is_layer o_is_layer
  have b_told_by : Binds K fd_told_by ["layer", "many"] [] := D_told_by.bindsN fun _ _ _ _ _ _ us hl => match us, hl with | [_, _], _ => rfl
  have o_told_by := ok_told_by (P := P) (w := w) (base := base) fc  D_told_by
  have h_told_by : FnP P w K mg base 1 "told_by" ["layer", "many"] (F_told_by K) := fnP_of D_told_by (gl _ (by simp [faL])) b_told_by o_told_by
  have b_bends_in : Binds K fd_bends_in ["layer"] [] := D_bends_in.bindsN fun _ _ _ _ _ _ us hl => match us, hl with | [_], _ => rfl
  have o_bends_in := ok_bends_in (P := P) (w := w) (base := base) fc  D_bends_in
  have h_bends_in : FnP P w K mg base 1 "bends_in" ["layer"] (F_bends_in K) := fnP_of D_bends_in (gl _ (by simp [faL])) b_bends_in o_bends_in
  have b_is_net : Binds K fd_is_net ["value"] [] := D_is_net.bindsN fun _ _ _ _ _ _ us hl => match us, hl with | [_], _ => rfl
  have o_is_net := ok_is_net (P := P) (w := w) (base := base) fc h_bends_in h_told_by h_is_layer h_is_tuple_of h_is_number D_is_net
  have h_is_net : FnP P w K mg base 6 "is_net" ["value"] (F_is_net K) := fnP_of D_is_net (gl _ (by simp [faL])) b_is_net o_is_net
  have b_need_net : Binds K fd_need_net ["net"] [] := D_need_net.bindsN fun _ _ _ _ _ _ us hl => match us, hl with | [_], _ => rfl
  have o_need_net := ok_need_net (P := P) (w := w) (base := base) fc h_is_net D_need_net
  have h_need_net : FnP P w K mg base 7 "need_net" ["net"] (F_need_net K) := fnP_of D_need_net (gl _ (by simp [faL])) b_need_net o_need_net
  have b_widths_in : Binds K fd_widths_in ["net"] [] := D_widths_in.bindsN fun _ _ _ _ _ _ us hl => match us, hl with | [_], _ => rfl
  have o_widths_in := ok_widths_in (P := P) (w := w) (base := base) fc h_told_by D_widths_in
  have h_widths_in : FnP P w K mg base 2 "widths_in" ["net"] (F_widths_in K) := fnP_of D_widths_in (gl _ (by simp [faL])) b_widths_in o_widths_in
  have b_widths_of : Binds K fd_widths_of ["net"] [] := D_widths_of.bindsN fun _ _ _ _ _ _ us hl => match us, hl with | [_], _ => rfl
  have o_widths_of := ok_widths_of (P := P) (w := w) (base := base) fc h_widths_in h_need_net D_widths_of
  have h_widths_of : FnP P w K mg base 8 "widths_of" ["net"] (F_widths_of K) := fnP_of D_widths_of (gl _ (by simp [faL])) b_widths_of o_widths_of
  have b_outputs_of : Binds K fd_outputs_of ["net"] [] := D_outputs_of.bindsN fun _ _ _ _ _ _ us hl => match us, hl with | [_], _ => rfl
  have o_outputs_of := ok_outputs_of (P := P) (w := w) (base := base) fc h_widths_in h_need_net D_outputs_of
  have h_outputs_of : FnP P w K mg base 8 "outputs_of" ["net"] (F_outputs_of K) := fnP_of D_outputs_of (gl _ (by simp [faL])) b_outputs_of o_outputs_of
  have b_is_claim : Binds K fd_is_claim ["value", "inputs", "outputs"] [] := D_is_claim.bindsN fun _ _ _ _ _ _ us hl => match us, hl with | [_, _, _], _ => rfl
  have o_is_claim := ok_is_claim (P := P) (w := w) (base := base) fc h_is_given h_is_tuple_of h_are_given D_is_claim
  have h_is_claim : FnP P w K mg base 5 "is_claim" ["value", "inputs", "outputs"] (F_is_claim K) := fnP_of D_is_claim (gl _ (by simp [faL])) b_is_claim o_is_claim
  have b_carried_back : Binds K fd_carried_back ["net", "claim"] [] := D_carried_back.bindsN fun _ _ _ _ _ _ us hl => match us, hl with | [_, _], _ => rfl
  have o_carried_back := ok_carried_back (P := P) (w := w) (base := base) fc h_is_claim h_sum_of h_widths_in h_outputs_of h_need_net D_carried_back
  have h_carried_back : FnP P w K mg base 9 "carried_back" ["net", "claim"] (F_carried_back K) := fnP_of D_carried_back (gl _ (by simp [faL])) b_carried_back o_carried_back
  have hk0_carried_back : FnK P w K mg base 9 "carried_back" 0 ["claim", "net"] [1, 0] (F_carried_back K) := fnK_of D_carried_back (gl _ (by simp [faL])) o_carried_back fun _ _ _ _ _ _ us ws hu hw => match us, ws, hu, hw with | [], [_, _], _, _ => by rfl
  have b_law_begun : Binds K fd_law_begun ["script"] [] := D_law_begun.bindsN fun _ _ _ _ _ _ us hl => match us, hl with | [_], _ => rfl
  have O_law_begun := ok_law_begun (P := P) (w := w) (base := base) fc D_law_begun
  have b_law_blended : Binds K fd_law_blended ["state"] [] := D_law_blended.bindsN fun _ _ _ _ _ _ us hl => match us, hl with | [_], _ => rfl
  have h_law_blended : FnI P w K mg base (tabL K) 1 "_law_blended" ["state"] (F_law_blended K) := fnI_of D_law_blended (gl _ (by simp [faL])) b_law_blended (ok_law_blended fc  D_law_blended)
  have b_law_draw : Binds K fd_law_draw ["state", "size_here"] [] := D_law_draw.bindsN fun _ _ _ _ _ _ us hl => match us, hl with | [_, _], _ => rfl
  have h_law_draw : FnI P w K mg base (tabL K) 2 "_law_draw" ["state", "size_here"] (F_law_draw K) := fnI_of D_law_draw (gl _ (by simp [faL])) b_law_draw (ok_law_draw fc h_law_blended D_law_draw)
  have b_law_mixed : Binds K fd_law_mixed ["state", "several"] [] := D_law_mixed.bindsN fun _ _ _ _ _ _ us hl => match us, hl with | [_, _], _ => rfl
  have h_law_mixed : FnI P w K mg base (tabL K) 3 "_law_mixed" ["state", "several"] (F_law_mixed K) := fnI_of D_law_mixed (gl _ (by simp [faL])) b_law_mixed (ok_law_mixed fc h_law_draw D_law_mixed)
  have b_law_v_low : Binds K fd_law_v_low ["number", "divisor"] [] := D_law_v_low.bindsN fun _ _ _ _ _ _ us hl => match us, hl with | [_, _], _ => rfl
  have o_law_v_low := ok_law_v_low (P := P) (w := w) (base := base) fc  D_law_v_low
  have h_law_v_low : FnP P w K mg base 1 "_law_v_low" ["number", "divisor"] (F_law_v_low K) := fnP_of D_law_v_low (gl _ (by simp [faL])) b_law_v_low o_law_v_low
  have b_law_v_number : Binds K fd_law_v_number ["state", "most"] [] := D_law_v_number.bindsN fun _ _ _ _ _ _ us hl => match us, hl with | [_, _], _ => rfl
  have h_law_v_number : FnI P w K mg base (tabL K) 3 "_law_v_number" ["state", "most"] (F_law_v_number K) := fnI_of D_law_v_number (gl _ (by simp [faL])) b_law_v_number (ok_law_v_number fc h_law_v_low h_law_draw D_law_v_number)
  have b_law_v_plus : Binds K fd_law_v_plus ["one", "other"] [] := D_law_v_plus.bindsN fun _ _ _ _ _ _ us hl => match us, hl with | [_, _], _ => rfl
  have o_law_v_plus := ok_law_v_plus (P := P) (w := w) (base := base) fc h_law_v_low D_law_v_plus
  have h_law_v_plus : FnP P w K mg base 2 "_law_v_plus" ["one", "other"] (F_law_v_plus K) := fnP_of D_law_v_plus (gl _ (by simp [faL])) b_law_v_plus o_law_v_plus
  have b_law_v_by : Binds K fd_law_v_by ["one", "other"] [] := D_law_v_by.bindsN fun _ _ _ _ _ _ us hl => match us, hl with | [_, _], _ => rfl
  have o_law_v_by := ok_law_v_by (P := P) (w := w) (base := base) fc h_law_v_low D_law_v_by
  have h_law_v_by : FnP P w K mg base 2 "_law_v_by" ["one", "other"] (F_law_v_by K) := fnP_of D_law_v_by (gl _ (by simp [faL])) b_law_v_by o_law_v_by
  have b_law_v_above : Binds K fd_law_v_above ["one", "other"] [] := D_law_v_above.bindsN fun _ _ _ _ _ _ us hl => match us, hl with | [_, _], _ => rfl
  have o_law_v_above := ok_law_v_above (P := P) (w := w) (base := base) fc  D_law_v_above
  have h_law_v_above : FnP P w K mg base 1 "_law_v_above" ["one", "other"] (F_law_v_above K) := fnP_of D_law_v_above (gl _ (by simp [faL])) b_law_v_above o_law_v_above
  have b_law_v_sum : Binds K fd_law_v_sum ["weights", "vector", "bias"] [] := D_law_v_sum.bindsN fun _ _ _ _ _ _ us hl => match us, hl with | [_, _, _], _ => rfl
  have o_law_v_sum := ok_law_v_sum (P := P) (w := w) (base := base) fc h_law_v_plus h_law_v_by D_law_v_sum
  have h_law_v_sum : FnP P w K mg base 3 "_law_v_sum" ["weights", "vector", "bias"] (F_law_v_sum K) := fnP_of D_law_v_sum (gl _ (by simp [faL])) b_law_v_sum o_law_v_sum
  have b_law_v_layer : Binds K fd_law_v_layer ["layer", "vector"] [] := D_law_v_layer.bindsN fun _ _ _ _ _ _ us hl => match us, hl with | [_, _], _ => rfl
  have o_law_v_layer := ok_law_v_layer (P := P) (w := w) (base := base) fc h_law_v_above h_law_v_sum D_law_v_layer
  have h_law_v_layer : FnP P w K mg base 4 "_law_v_layer" ["layer", "vector"] (F_law_v_layer K) := fnP_of D_law_v_layer (gl _ (by simp [faL])) b_law_v_layer o_law_v_layer
  have b_law_v_told : Binds K fd_law_v_told ["net", "vector"] [] := D_law_v_told.bindsN fun _ _ _ _ _ _ us hl => match us, hl with | [_, _], _ => rfl
  have o_law_v_told := ok_law_v_told (P := P) (w := w) (base := base) fc h_law_v_layer D_law_v_told
  have h_law_v_told : FnP P w K mg base 5 "_law_v_told" ["net", "vector"] (F_law_v_told K) := fnP_of D_law_v_told (gl _ (by simp [faL])) b_law_v_told o_law_v_told
  have b_law_v_row : Binds K fd_law_v_row ["state", "many"] [] := D_law_v_row.bindsN fun _ _ _ _ _ _ us hl => match us, hl with | [_, _], _ => rfl
  have h_law_v_row : FnI P w K mg base (tabL K) 4 "_law_v_row" ["state", "many"] (F_law_v_row K) := fnI_of D_law_v_row (gl _ (by simp [faL])) b_law_v_row (ok_law_v_row fc h_law_v_number D_law_v_row)
  have b_law_v_some : Binds K fd_law_v_some ["state", "many"] [] := D_law_v_some.bindsN fun _ _ _ _ _ _ us hl => match us, hl with | [_, _], _ => rfl
  have h_law_v_some : FnI P w K mg base (tabL K) 4 "_law_v_some" ["state", "many"] (F_law_v_some K) := fnI_of D_law_v_some (gl _ (by simp [faL])) b_law_v_some (ok_law_v_some fc h_law_mixed h_law_draw D_law_v_some)
  have b_law_v_layer_for : Binds K fd_law_v_layer_for ["state", "many", "room"] [] := D_law_v_layer_for.bindsN fun _ _ _ _ _ _ us hl => match us, hl with | [_, _, _], _ => rfl
  have h_law_v_layer_for : FnI P w K mg base (tabL K) 5 "_law_v_layer_for" ["state", "many", "room"] (F_law_v_layer_for K) := fnI_of D_law_v_layer_for (gl _ (by simp [faL])) b_law_v_layer_for (ok_law_v_layer_for fc h_law_draw h_law_v_row h_law_v_some D_law_v_layer_for)
  have b_law_v_bends : Binds K fd_law_v_bends ["layer"] [] := D_law_v_bends.bindsN fun _ _ _ _ _ _ us hl => match us, hl with | [_], _ => rfl
  have o_law_v_bends := ok_law_v_bends (P := P) (w := w) (base := base) fc  D_law_v_bends
  have h_law_v_bends : FnP P w K mg base 1 "_law_v_bends" ["layer"] (F_law_v_bends K) := fnP_of D_law_v_bends (gl _ (by simp [faL])) b_law_v_bends o_law_v_bends
  have b_law_v_net : Binds K fd_law_v_net ["state", "inputs", "layers", "bends"] [] := D_law_v_net.bindsN fun _ _ _ _ _ _ us hl => match us, hl with | [_, _, _, _], _ => rfl
  have h_law_v_net : FnI P w K mg base (tabL K) 6 "_law_v_net" ["state", "inputs", "layers", "bends"] (F_law_v_net K) := fnI_of D_law_v_net (gl _ (by simp [faL])) b_law_v_net (ok_law_v_net fc h_law_v_bends h_law_v_layer_for D_law_v_net)
  have b_law_v_input : Binds K fd_law_v_input ["state", "many"] [] := D_law_v_input.bindsN fun _ _ _ _ _ _ us hl => match us, hl with | [_, _], _ => rfl
  have h_law_v_input : FnI P w K mg base (tabL K) 4 "_law_v_input" ["state", "many"] (F_law_v_input K) := fnI_of D_law_v_input (gl _ (by simp [faL])) b_law_v_input (ok_law_v_input fc h_law_v_number D_law_v_input)
  have b_law_v_kind : Binds K fd_law_v_kind ["error"] [] := D_law_v_kind.bindsN fun _ _ _ _ _ _ us hl => match us, hl with | [_], _ => rfl
  have o_law_v_kind := ok_law_v_kind (P := P) (w := w) (base := base) fc  D_law_v_kind
  have h_law_v_kind : FnP P w K mg base 1 "_law_v_kind" ["error"] (F_law_v_kind K) := fnP_of D_law_v_kind (gl _ (by simp [faL])) b_law_v_kind o_law_v_kind
  have b_law_k82_value : Binds K fd_law_k82_value ["net", "claim", "vector"] [] := D_law_k82_value.bindsN fun _ _ _ _ _ _ us hl => match us, hl with | [_, _, _], _ => rfl
  have o_law_k82_value := ok_law_k82_value (P := P) (w := w) (base := base) fc h_law_v_plus h_law_v_sum h_law_v_told D_law_k82_value
  have h_law_k82_value : FnP P w K mg base 6 "_law_k82_value" ["net", "claim", "vector"] (F_law_k82_value K) := fnP_of D_law_k82_value (gl _ (by simp [faL])) b_law_k82_value o_law_k82_value
  exact run_law A hrA O_law_begun (gl _ (by simp [faL])) D_law_begun.kp b_law_begun D_law (fun sa ga ca outer s H E hr => pss_law fc h_law_v_kind h_carried_back h_law_k82_value h_law_v_input h_is_claim h_widths_of h_law_v_number h_law_draw h_law_v_row h_law_v_net hk0_carried_back (fun h1 h2 h3 h4 h5 => ld_all fc D_law_caught hmC (TB (He.cT K ("law", none)) (by simp [csL])) (by simp [tabL]) (uni_law m3) h1 h2 h3 h4 h5) sa ga ca A hgd outer s H E hr) fun sa ns hl => law_pure fc sa ns hl
end
end Sw
open PySem PySem.W PySem.Calls PyProof.Rows
theorem PySem.Challenge.cw_sureweights_k82_whole_claims_carried_bac_holds : PySem.Challenge.rw_sureweights_k82_whole_claims_carried_bac.Holds := by
  w_on; o_law
  refine HandSHeadRun.head_any (r := OpenLaw.row PySem.Challenge.rw_sureweights_k82_whole_claims_carried_bac) (q := view (OpenLaw.row PySem.Challenge.rw_sureweights_k82_whole_claims_carried_bac).prog [69]) (H := Sw.hk) (ob := Sw.ob) (M := 20000) (loose := Sw.looseL) (d := HandSHeadRun.topDef (OpenLaw.row PySem.Challenge.rw_sureweights_k82_whole_claims_carried_bac).prog 69) (kwd := []) Sw.ob_eq
    (by kernel_rfl) (fun s => by kernel_rfl) Sw.run (by kernel_rfl) (by kernel_rfl) (by kernel_rfl) (by rfl) (by first | assumption | decide +kernel) (by decide +kernel) ⟨rfl, rfl, rfl, rfl, rfl, by decide +kernel⟩ ?hw ?hc
  case hw => w_witness2
  case hc =>
    refine Sw.walkG (l := PySem.Challenge.rw_sureweights_k82_whole_claims_carried_bac) (n := 63) (x := "script") (CX := fun w => L2.CX PySem.Challenge.rw_sureweights_k82_whole_claims_carried_bac.prog w) rfl (by decide) (by kernel_rfl) ?F (fun w H s e s' z => ?cx)
    case cx =>
      obtain ⟨_, _, _, _, _, _, _, _, _, _, _, _, h⟩ := z
      exact h
    case F =>
      intro w mg fa h Y G hmg0
      obtain ⟨K, KX, c⟩ := Y
      have hmg : mg ("law" : PySem.Str) = some (.ref fa) := by
        have e : (HandSHeadRun.topDef (OpenLaw.row PySem.Challenge.rw_sureweights_k82_whole_claims_carried_bac).prog 69).name = ("law" : PySem.Str) := by kernel_rfl
        rw [← e]
        exact hmg0
      have cs : Sw.Says w h K := c
      obtain ⟨fd, hb, hF⟩ := Sw.facts (P := (PySem.Challenge.rw_sureweights_k82_whole_claims_carried_bac).prog) cs KX G hmg
      have mem : ∀ p ∈ Sw.csL K, ∃ q ∈ Sw.tfL, He.cT K q = p := fun p hp => by
        have z : p = He.cT K ("law", none) := by simpa [Sw.csL] using hp
        subst z <;> exact ⟨_, by simp [Sw.tfL], rfl⟩
      refine ⟨K, KX, fd, Sw.csL K, Sw.spLaw K, fun p hp => ?_, fun p hp => ?_, fun p hp => ?_, hb, fun H a ns hl _ hT hS => ⟨a, ns, rfl, hl, fun p hp => ?_, hS, fun v H' e => e⟩, fun base KB NB TB => hF base KB NB TB _ rfl ⟨rfl, by decide, by decide⟩⟩
      · obtain ⟨q, hq, rfl⟩ := mem p hp
        exact cs.empty q hq
      · obtain ⟨q, hq, rfl⟩ := mem p hp
        exact cs.out q hq
      · obtain ⟨q, hq, rfl⟩ := mem p hp
        exact PySem.W.codeHd_of_K KX (cs.hd q hq)
      · have z : p = ((He.cT K ("law", none)).2, ("law.<locals>.<lambda>" : PySem.Str)) := by simpa [Sw.tabL] using hp
        subst z
        exact hT (He.cT K ("law", none)) (by simp [Sw.csL])
