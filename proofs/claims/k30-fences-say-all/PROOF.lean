import PyProof.Rows.All
import Wide.All
import OpenK.AllK
import Wide.FinOn
import HandS.ForMost
import HandS.Wide
import PyProof.Rows.IntBool
import HandS.Style
import HandS.IsInst
import HandS.Conv
import HandS.SortInts
import HandS.Zip
import HandS.EndBits
import PyProof.Rows.NestShow
import HandS.TupMul
import PyProof.NeKinds
import PyProof.FitsInt
import HandS.TupSets
import HandS.TupAny
import PyProof.StrLawsRepr
import HandS.Iter
import KE.GoesEnum
import KE.GoesNew
import HandS.Small
import HandS.More
import KE.KDictKeyed
import HandS.SortRule
import PyProof.CallStr
import HandS.NoneIn
import HandS.Deep
import HandS.Strs
import PyProof.Rows.SetFrom
import PySem.Challenge.RW_rimplans_k30_whole_fences_say_all
set_option Elab.async false
set_option linter.all false
set_option maxRecDepth 100000
set_option maxHeartbeats 4000000
namespace VL
open PySem PySem.Spec PyProof.Rows L2

abbrev Fg := PySem.W.Frag

/-- data, without the heap; scr: the locked list of ints that the law is handed; opq: any value, not looked into; pdc: a dict whose keys are pairs of ints -/
inductive D where
  | non | bl (b : Bool) | int (i : Int) | str (x : Str) | opq (v : V) | scr (ns : List Int)
  | pdc (ks : List (Int × Int)) (vs : List D)
  | tup (xs : List D) | lst (xs : List D) | dct (ks vs : List D)

def kD : Key → D
  | .inl i => .int i
  | .inr x => .str x

/-- a dict at p: its keys as data, its values -/
def DctAt (H : Hp) (p : Addr) (ks : List D) (vs : List V) : Prop :=
  (∃ l : List (Key × V), H p = some (.dK l) ∧ ks = l.map (fun x => kD x.1) ∧ vs = l.map (fun x => x.2)) ∨
  (∃ l : List (List Key × V), H p = some (.dT l) ∧ l ≠ [] ∧ ks = l.map (fun x => .tup (x.1.map kD)) ∧ vs = l.map (fun x => x.2))

/-- a dict at p whose object is known, its keys tracked pairs -/
def DctZ (F : Hp) (p : Addr) (ks : List (Int × Int)) (vs : List V) : Prop :=
  ∃ (o : Obj) (es : Array DictEntry) (ep : Nat) (bs : List Addr), F p = some (.frz o (.dT ((ks.zip vs).map fun x => ([.inl x.1.1, .inl x.1.2], x.2)))) ∧ ks.length = vs.length ∧
    o.data = .dict es ep ∧ es.toList.map (·.key) = bs.map Value.ref ∧ Paired (fun (k : Int × Int) b => F b = some (.tup [.int k.1, .int k.2])) ks bs
theorem DctZ.mono {F F' : Hp} {p : Addr} {ks : List (Int × Int)} {vs : List V} (s : Same F F') (h : DctZ F p ks vs) : DctZ F' p ks vs := by
  obtain ⟨o, es, ep, bs, h1, h2, h3, h4, h5⟩ := h
  exact ⟨o, es, ep, bs, s _ _ h1, h2, h3, h4, Paired.mapP h5 fun _ _ z => s _ _ z⟩

/-- a tuple at p: tracked, or of the written part -/
def TupAt (K : Fg) (F : Hp) (p : Addr) (vs : List V) : Prop := F p = some (.tup vs) ∨ ∃ (o : Obj) (its : Array Value) (n : Nat), K.lookup p = some o ∧ o.cls = .type "tuple" ∧ o.data = .seq its n ∧ its.size ≤ sizeLine ∧ Vals vs its.toList
theorem TupAt.sq {K : Fg} {F H : Hp} {p : Addr} {vs : List V} (h : TupAt K F p vs) (s : Same F H) : SqT K H p vs := by
  rcases h with h | h
  · exact .inl (.inl (s _ _ h))
  · exact .inr h
theorem TupAt.mono {K : Fg} {F H : Hp} {p : Addr} {vs : List V} (s : Same F H) (h : TupAt K F p vs) : TupAt K H p vs := by
  rcases h with h | h
  · exact .inl (s _ _ h)
  · exact .inr h
mutual
def Rep (K : Fg) (F : Hp) : D → V → Prop
  | .non, v => v = .non
  | .bl b, v => v = .bl b
  | .int i, v => v = .int i
  | .str x, v => v = .str x
  | .opq u, v => v = u
  | .scr ns, v => ∃ p, v = .ref p ∧ SqL K F p (ns.map V.int)
  | .pdc ks ds, v => ∃ p vs, v = .ref p ∧ DctZ F p ks vs ∧ Reps K F ds vs
  | .tup ds, v => ∃ p vs, v = .ref p ∧ TupAt K F p vs ∧ Reps K F ds vs
  | .lst ds, v => ∃ p vs, v = .ref p ∧ F p = some (.lst vs) ∧ Reps K F ds vs
  | .dct ks ds, v => ∃ p vs, v = .ref p ∧ DctAt F p ks vs ∧ Reps K F ds vs
def Reps (K : Fg) (F : Hp) : List D → List V → Prop
  | [], vs => vs = []
  | d :: ds, vs => ∃ v r, vs = v :: r ∧ Rep K F d v ∧ Reps K F ds r
end

theorem Rd.mono {F F' : Hp} (s : Same F F') {a : Addr} {u : HO} (h : Rd F a u) : Rd F' a u := by
  rcases h with h | ⟨o, h⟩
  · exact .inl (s _ _ h)
  · exact .inr ⟨o, s _ _ h⟩
theorem SqL.mono {K : Fg} {F F' : Hp} (s : Same F F') {a : Addr} {u : List V} (h : SqL K F a u) : SqL K F' a u := by
  rcases h with h | h
  · exact .inl (Rd.mono s h)
  · exact .inr h
theorem DctAt.mono {F F' : Hp} {p : Addr} {ks : List D} {vs : List V} (s : ∀ o, F p = some o → F' p = some o) (h : DctAt F p ks vs) : DctAt F' p ks vs := by
  rcases h with ⟨l, h, e⟩ | ⟨l, h, e⟩
  · exact .inl ⟨l, s _ h, e⟩
  · exact .inr ⟨l, s _ h, e⟩

mutual
theorem Rep.mono {K : Fg} {F F' : Hp} (s : Same F F') : ∀ (d : D) (v : V), Rep K F d v → Rep K F' d v
  | .non, _, h => h
  | .bl _, _, h => h
  | .int _, _, h => h
  | .str _, _, h => h
  | .opq _, _, h => h
  | .scr _, _, ⟨p, e, h⟩ => ⟨p, e, SqL.mono s h⟩
  | .pdc ks ds, _, ⟨p, vs, e, h, r⟩ => ⟨p, vs, e, h.mono s, Reps.mono s ds vs r⟩
  | .tup ds, _, ⟨p, vs, e, h, r⟩ => ⟨p, vs, e, h.mono s, Reps.mono s ds vs r⟩
  | .lst ds, _, ⟨p, vs, e, h, r⟩ => ⟨p, vs, e, s _ _ h, Reps.mono s ds vs r⟩
  | .dct ks ds, _, ⟨p, vs, e, h, r⟩ => ⟨p, vs, e, h.mono (s p), Reps.mono s ds vs r⟩
theorem Reps.mono {K : Fg} {F F' : Hp} (s : Same F F') : ∀ (ds : List D) (vs : List V), Reps K F ds vs → Reps K F' ds vs
  | [], _, h => h
  | d :: ds, _, ⟨v, r, e, h, t⟩ => ⟨v, r, e, Rep.mono s d v h, Reps.mono s ds r t⟩
end

theorem Reps.length {K : Fg} {F : Hp} : ∀ {ds : List D} {vs : List V}, Reps K F ds vs → vs.length = ds.length
  | [], _, h => by cases h; rfl
  | d :: ds, _, ⟨v, r, e, _, t⟩ => by subst e; simp [Reps.length t]
theorem Reps.get {K : Fg} {F : Hp} : ∀ {ds : List D} {vs : List V} {i : Nat} {d : D}, Reps K F ds vs → ds[i]? = some d → ∃ v, vs[i]? = some v ∧ Rep K F d v
  | [], _, _, _, _, e => by simp at e
  | d :: ds, _, 0, _, ⟨v, r, e, h, t⟩, q => by
    subst e
    simp at q
    subst q
    exact ⟨v, rfl, h⟩
  | d :: ds, _, i + 1, _, ⟨v, r, e, h, t⟩, q => by
    subst e
    simpa using Reps.get (i := i) t (by simpa using q)
theorem Reps.append {K : Fg} {F : Hp} : ∀ {ds es : List D} {vs us : List V}, Reps K F ds vs → Reps K F es us → Reps K F (ds ++ es) (vs ++ us)
  | [], _, _, _, h, q => by cases h; exact q
  | d :: ds, _, _, _, ⟨v, r, e, h, t⟩, q => by subst e; exact ⟨v, r ++ _, rfl, h, Reps.append t q⟩
theorem Reps.one {K : Fg} {F : Hp} {d : D} {v : V} (h : Rep K F d v) : Reps K F [d] [v] := ⟨v, [], rfl, h, rfl⟩
theorem Reps.take {K : Fg} {F : Hp} : ∀ {ds : List D} {vs : List V} (n : Nat), Reps K F ds vs → Reps K F (ds.take n) (vs.take n)
  | [], _, n, h => by cases h; simp; exact rfl
  | d :: ds, _, 0, h => by simp; exact rfl
  | d :: ds, _, n + 1, ⟨v, r, e, h, t⟩ => by subst e; exact ⟨v, _, rfl, h, Reps.take n t⟩
theorem Reps.drop {K : Fg} {F : Hp} : ∀ {ds : List D} {vs : List V} (n : Nat), Reps K F ds vs → Reps K F (ds.drop n) (vs.drop n)
  | [], _, n, h => by cases h; simp; exact rfl
  | d :: ds, _, 0, h => h
  | d :: ds, _, n + 1, ⟨v, r, e, h, t⟩ => by subst e; exact Reps.drop n t
theorem Reps.set {K : Fg} {F : Hp} {d' : D} {v' : V} (h' : Rep K F d' v') : ∀ {ds : List D} {vs : List V} (i : Nat), Reps K F ds vs → Reps K F (ds.set i d') (vs.set i v')
  | [], _, i, h => by cases h; simp; exact rfl
  | d :: ds, _, 0, ⟨v, r, e, h, t⟩ => by subst e; exact ⟨v', r, rfl, h', t⟩
  | d :: ds, _, i + 1, ⟨v, r, e, h, t⟩ => by subst e; exact ⟨v, _, rfl, h, Reps.set h' i t⟩
theorem Reps.eraseIdx {K : Fg} {F : Hp} : ∀ {ds : List D} {vs : List V} (i : Nat), Reps K F ds vs → Reps K F (ds.eraseIdx i) (vs.eraseIdx i)
  | [], _, i, h => by cases h; simp; exact rfl
  | d :: ds, _, 0, ⟨v, r, e, h, t⟩ => by subst e; exact t
  | d :: ds, _, i + 1, ⟨v, r, e, h, t⟩ => by subst e; exact ⟨v, _, rfl, h, Reps.eraseIdx i t⟩
theorem Reps.reverse {K : Fg} {F : Hp} : ∀ {ds : List D} {vs : List V}, Reps K F ds vs → Reps K F ds.reverse vs.reverse
  | [], _, h => by cases h; simp; exact rfl
  | d :: ds, _, ⟨v, r, e, h, t⟩ => by
    subst e
    rw [List.reverse_cons, List.reverse_cons]
    exact Reps.append (Reps.reverse t) (Reps.one h)
theorem Reps.dropLast {K : Fg} {F : Hp} : ∀ {ds : List D} {vs : List V}, Reps K F ds vs → Reps K F ds.dropLast vs.dropLast := by
  intro ds vs h
  rw [List.dropLast_eq_take, List.dropLast_eq_take, h.length]
  exact h.take _

/-! ### what is owned: k levels of lists at addresses of their own -/
def OwnL (R : D → V → List Addr → Prop) : List D → List V → List Addr → Prop
  | [], vs, fp => vs = [] ∧ fp = []
  | d :: ds, vs, fp => ∃ v r f1 f2, vs = v :: r ∧ fp = f1 ++ f2 ∧ R d v f1 ∧ OwnL R ds r f2
def OwnR (K : Fg) (F H : Hp) : Nat → D → V → List Addr → Prop
  | 0, d, v, fp => fp = [] ∧ Rep K F d v
  | k + 1, .lst ds, v, fp => ∃ p vs fr, v = .ref p ∧ H p = some (.lst vs) ∧ fp = p :: fr ∧ OwnL (OwnR K F H k) ds vs fr
  | k + 1, .tup ds, v, fp => ∃ p vs, v = .ref p ∧ TupAt K F p vs ∧ OwnL (OwnR K F H k) ds vs fp
  | _ + 1, .dct ks ds, v, fp => ∃ p vs, v = .ref p ∧ DctAt H p ks vs ∧ fp = [p] ∧ Reps K F ds vs
  | _ + 1, d, v, fp => fp = [] ∧ Rep K F d v

theorem OwnL.imp {R R' : D → V → List Addr → Prop} : ∀ {ds : List D} {vs : List V} {fp : List Addr}, (∀ d v f, d ∈ ds → (∀ a ∈ f, a ∈ fp) → R d v f → R' d v f) → OwnL R ds vs fp → OwnL R' ds vs fp
  | [], _, _, _, h => h
  | d :: ds, _, _, w, ⟨v, r, f1, f2, e1, e2, h, t⟩ =>
    ⟨v, r, f1, f2, e1, e2, w d v f1 (by simp) (fun a ha => by rw [e2]; simp [ha]) h, OwnL.imp (fun d v f hd hf q => w d v f (by simp [hd]) (fun a ha => by rw [e2]; simp [hf a ha]) q) t⟩
theorem OwnL.all {R : D → V → List Addr → Prop} {P : Addr → Prop} : ∀ {ds : List D} {vs : List V} {fp : List Addr}, (∀ d v f, R d v f → ∀ a ∈ f, P a) → OwnL R ds vs fp → ∀ a ∈ fp, P a
  | [], _, _, _, ⟨_, e⟩, a, ha => by subst e; simp at ha
  | d :: ds, _, _, w, ⟨v, r, f1, f2, e1, e2, h, t⟩, a, ha => by
    subst e2
    rcases List.mem_append.mp ha with z | z
    · exact w d v f1 h a z
    · exact OwnL.all w t a z
theorem OwnL.reps {K : Fg} {F : Hp} {R : D → V → List Addr → Prop} : ∀ {ds : List D} {vs : List V} {fp : List Addr}, (∀ d v f, (∀ a ∈ f, a ∈ fp) → R d v f → Rep K F d v) → OwnL R ds vs fp → Reps K F ds vs
  | [], _, _, _, h => h.1
  | d :: ds, _, _, w, ⟨v, r, f1, f2, e1, e2, h, t⟩ => ⟨v, r, e1, w d v f1 (fun a ha => by rw [e2]; simp [ha]) h, OwnL.reps (fun d v f hf q => w d v f (fun a ha => by rw [e2]; simp [hf a ha]) q) t⟩
theorem OwnL.of_reps {K : Fg} {F H : Hp} : ∀ {ds : List D} {vs : List V}, Reps K F ds vs → OwnL (OwnR K F H 0) ds vs []
  | [], _, h => ⟨h, rfl⟩
  | d :: ds, _, ⟨v, r, e, h, t⟩ => ⟨v, r, [], [], e, rfl, ⟨rfl, h⟩, OwnL.of_reps t⟩
theorem OwnL.reps0 {K : Fg} {F H : Hp} : ∀ {ds : List D} {vs : List V} {fp : List Addr}, OwnL (OwnR K F H 0) ds vs fp → fp = [] ∧ Reps K F ds vs
  | [], _, _, ⟨h, e⟩ => ⟨e, h⟩
  | d :: ds, _, _, ⟨v, r, f1, f2, e1, e2, h, t⟩ => by
    obtain ⟨z1, z2⟩ := h
    obtain ⟨z3, z4⟩ := OwnL.reps0 t
    subst z1; subst z3
    exact ⟨e2, v, r, e1, z2, z4⟩
/-- a frozen thing, and a list at the top alone that is owned -/
theorem OwnR.zero {K : Fg} {F H : Hp} {d : D} {v : V} (h : Rep K F d v) : OwnR K F H 0 d v [] := ⟨rfl, h⟩
theorem OwnR.lst1 {K : Fg} {F H : Hp} {ds : List D} {p : Addr} {vs : List V} (h : H p = some (.lst vs)) (r : Reps K F ds vs) : OwnR K F H 1 (.lst ds) (.ref p) [p] := ⟨p, vs, [], rfl, h, rfl, OwnL.of_reps r⟩
theorem OwnR.lst1_of {K : Fg} {F H : Hp} {ds : List D} {v : V} {fp : List Addr} (h : OwnR K F H 1 (.lst ds) v fp) : ∃ p vs, v = .ref p ∧ H p = some (.lst vs) ∧ fp = [p] ∧ Reps K F ds vs := by
  obtain ⟨p, vs, fr, e, h, e2, t⟩ := h
  obtain ⟨z, r⟩ := OwnL.reps0 t
  subst z
  exact ⟨p, vs, e, h, e2, r⟩

theorem OwnR.mono {K : Fg} {F F' H H' : Hp} (s : Same F F') : ∀ (k : Nat) (d : D) (v : V) (fp : List Addr), (∀ a ∈ fp, H' a = H a) → OwnR K F H k d v fp → OwnR K F' H' k d v fp := by
  intro k
  induction k with
  | zero => exact fun d v fp _ h => ⟨h.1, Rep.mono s d v h.2⟩
  | succ k ih =>
    intro d v fp w h
    cases d with
    | lst ds =>
      obtain ⟨p, vs, fr, e, h, e2, t⟩ := h
      subst e2
      exact ⟨p, vs, fr, e, by rw [w p (by simp)]; exact h, rfl, t.imp fun d v f _ hf q => ih d v f (fun a ha => w a (by simp [hf a ha])) q⟩
    | tup ds =>
      obtain ⟨p, vs, e, h, t⟩ := h
      exact ⟨p, vs, e, h.mono s, t.imp fun d v f _ hf q => ih d v f (fun a ha => w a (hf a ha)) q⟩
    | dct ks ds =>
      obtain ⟨p, vs, e, h, e2, t⟩ := h
      subst e2
      exact ⟨p, vs, e, h.mono fun o q => by rw [w p (by simp)]; exact q, rfl, Reps.mono s ds vs t⟩
    | non => exact ⟨h.1, h.2⟩
    | bl _ => exact ⟨h.1, h.2⟩
    | int _ => exact ⟨h.1, h.2⟩
    | str _ => exact ⟨h.1, h.2⟩
    | opq _ => exact ⟨h.1, h.2⟩
    | scr _ => exact ⟨h.1, Rep.mono s _ _ h.2⟩
    | pdc _ _ => exact ⟨h.1, Rep.mono s _ _ h.2⟩
theorem OwnR.live {K : Fg} {F H : Hp} : ∀ (k : Nat) (d : D) (v : V) (fp : List Addr), OwnR K F H k d v fp → ∀ a ∈ fp, H a ≠ none := by
  intro k
  induction k with
  | zero => exact fun d v fp h a ha => by rw [h.1] at ha; simp at ha
  | succ k ih =>
    intro d v fp h
    cases d with
    | lst ds =>
      obtain ⟨p, vs, fr, e, h, e2, t⟩ := h
      subst e2
      intro a ha
      rcases List.mem_cons.mp ha with z | z
      · subst z; rw [h]; simp
      · exact OwnL.all (fun d v f q => ih d v f q) t a z
    | tup ds =>
      obtain ⟨p, vs, e, h, t⟩ := h
      exact OwnL.all (fun d v f q => ih d v f q) t
    | dct ks ds =>
      obtain ⟨p, vs, e, h, e2, t⟩ := h
      subst e2
      intro a ha
      have z : a = p := by simpa using ha
      subst z
      rcases h with ⟨l, h, _⟩ | ⟨l, h, _⟩ <;> (rw [h]; simp)
    | non => exact fun a ha => by rw [h.1] at ha; simp at ha
    | bl _ => exact fun a ha => by rw [h.1] at ha; simp at ha
    | int _ => exact fun a ha => by rw [h.1] at ha; simp at ha
    | str _ => exact fun a ha => by rw [h.1] at ha; simp at ha
    | opq _ => exact fun a ha => by rw [h.1] at ha; simp at ha
    | scr _ => exact fun a ha => by rw [h.1] at ha; simp at ha
    | pdc _ _ => exact fun a ha => by rw [h.1] at ha; simp at ha
theorem OwnR.freeze {K : Fg} {F F' H : Hp} (s : Same F F') : ∀ (k : Nat) (d : D) (v : V) (fp : List Addr), (∀ a ∈ fp, F' a = H a) → OwnR K F H k d v fp → Rep K F' d v := by
  intro k
  induction k with
  | zero => exact fun d v fp _ h => Rep.mono s d v h.2
  | succ k ih =>
    intro d v fp w h
    cases d with
    | lst ds =>
      obtain ⟨p, vs, fr, e, h, e2, t⟩ := h
      subst e2
      exact ⟨p, vs, e, by rw [w p (by simp)]; exact h, t.reps fun d v f hf q => ih d v f (fun a ha => w a (by simp [hf a ha])) q⟩
    | tup ds =>
      obtain ⟨p, vs, e, h, t⟩ := h
      exact ⟨p, vs, e, h.mono s, t.reps fun d v f hf q => ih d v f (fun a ha => w a (hf a ha)) q⟩
    | dct ks ds =>
      obtain ⟨p, vs, e, h, e2, t⟩ := h
      subst e2
      exact ⟨p, vs, e, h.mono fun o q => by rw [w p (by simp)]; exact q, Reps.mono s ds vs t⟩
    | non => exact h.2
    | bl _ => exact h.2
    | int _ => exact h.2
    | str _ => exact h.2
    | opq _ => exact h.2
    | scr _ => exact Rep.mono s _ _ h.2
    | pdc _ _ => exact Rep.mono s _ _ h.2
end VL

namespace VL
open PySem PySem.Spec PyProof.Rows L2

/-- a def's run: the heap and its frozen part at the entry, the addresses of what it may change for its caller -/
structure Frm where
  H0 : Hp
  F0 : Hp
  io : List Addr
/-- a slot: nothing, a frozen thing, an owned one (k levels), the caller's own that is changed for it -/
inductive Sl where
  | no | fz (d : D) | ow (k : Nat) (d : D) | io (j : Nat) (d : D)
abbrev Ev := List Sl
def SlOk (K : Fg) (S : Frm) (F H : Hp) : Sl → Option V → List Addr → Prop
  | .no, _, fp => fp = []
  | .fz d, o, fp => fp = [] ∧ ∃ v, o = some v ∧ Rep K F d v
  | .ow k d, o, fp => (∀ a ∈ fp, S.H0 a = none) ∧ ∃ v, o = some v ∧ OwnR K F H k d v fp
  | .io j d, o, fp => ∃ a, o = some (.ref a) ∧ S.io[j]? = some a ∧ fp = [a] ∧ OwnR K F H 1 d (.ref a) [a]
structure SRf (K : Fg) (S : Frm) (F H : Hp) (σ : L2.St) (ρ : Ev) (fps : Nat → List Addr) (tmp : List (Addr × HO)) : Prop where
  sub : Same F H
  f0 : Same S.F0 F
  fnew : ∀ a, F a ≠ none → S.F0 a ≠ none ∨ S.H0 a = none
  keep : ∀ a o, S.H0 a = some o → a ∉ S.io → H a = some o
  live : ∀ a, H a = none → S.H0 a = none
  len : ρ.length = σ.length
  slot : ∀ i s, ρ[i]? = some s → SlOk K S F H s (σ[i]?).join (fps i)
  off : ∀ i, ρ[i]? = none → fps i = []
  nd : ∀ i, (fps i).Nodup
  dis : ∀ i j a, a ∈ fps i → a ∈ fps j → i = j
  free : ∀ i a, a ∈ fps i → F a = none
  ndT : (tmp.map (·.1)).Nodup
  disT : ∀ i a, a ∈ fps i → a ∉ tmp.map (·.1)
  freeT : ∀ t ∈ tmp, F t.1 = none ∧ S.H0 t.1 = none ∧ H t.1 = some t.2
def SR (K : Fg) (S : Frm) (F H : Hp) (σ : L2.St) (ρ : Ev) (tmp : List (Addr × HO)) : Prop := ∃ fps, SRf K S F H σ ρ fps tmp

section
variable {K : Fg} {S : Frm} {F F' H H' : Hp} {σ σ' : L2.St} {ρ ρ' : Ev} {fps : Nat → List Addr} {tmp tm : List (Addr × HO)} {s : Sl} {o : Option V} {fp : List Addr} {d : D} {v : V} {i j k : Nat} {p : Addr}
theorem SlOk.mono (h : SlOk K S F H s o fp) (sF : Same F F') (w : ∀ a ∈ fp, H' a = H a) : SlOk K S F' H' s o fp := by
  cases s with
  | no => exact h
  | fz d => obtain ⟨e, v, e2, r⟩ := h; exact ⟨e, v, e2, Rep.mono sF d v r⟩
  | ow k d => obtain ⟨z, v, e2, r⟩ := h; exact ⟨z, v, e2, OwnR.mono sF k d v fp w r⟩
  | io j d =>
    obtain ⟨a, e1, e2, e3, r⟩ := h
    subst e3
    exact ⟨a, e1, e2, rfl, OwnR.mono sF 1 d _ _ w r⟩
theorem SlOk.live (h : SlOk K S F H s o fp) : ∀ a ∈ fp, H a ≠ none := by
  cases s with
  | no => exact fun a ha => by rw [show fp = [] from h] at ha; simp at ha
  | fz d => exact fun a ha => by rw [h.1] at ha; simp at ha
  | ow k d => obtain ⟨z, v, e2, r⟩ := h; exact OwnR.live k d v fp r
  | io j d =>
    obtain ⟨a, e1, e2, e3, r⟩ := h
    subst e3
    exact OwnR.live 1 d _ _ r
theorem SlOk.entry (h : SlOk K S F H s o fp) : ∀ a ∈ fp, S.H0 a = none ∨ a ∈ S.io := by
  cases s with
  | no => exact fun a ha => by rw [show fp = [] from h] at ha; simp at ha
  | fz d => exact fun a ha => by rw [h.1] at ha; simp at ha
  | ow k d => exact fun a ha => .inl (h.1 a ha)
  | io j d =>
    obtain ⟨a, e1, e2, e3, r⟩ := h
    subst e3
    intro b hb
    have z : b = a := by simpa using hb
    subst z
    exact .inr (List.mem_of_getElem? e2)
theorem SRf.at (h : SRf K S F H σ ρ fps tmp) {a : Addr} (ha : a ∈ fps i) : ∃ s, ρ[i]? = some s ∧ SlOk K S F H s (σ[i]?).join (fps i) := by
  cases e : ρ[i]? with
  | none => rw [h.off i e] at ha; simp at ha
  | some s => exact ⟨s, rfl, h.slot i s e⟩
theorem SRf.alive (h : SRf K S F H σ ρ fps tmp) : ∀ i a, a ∈ fps i → H a ≠ none := fun i a ha => by
  obtain ⟨s, e, q⟩ := h.at ha
  exact q.live a ha
theorem SRf.entry (h : SRf K S F H σ ρ fps tmp) : ∀ i a, a ∈ fps i → S.H0 a = none ∨ a ∈ S.io := fun i a ha => by
  obtain ⟨s, e, q⟩ := h.at ha
  exact q.entry a ha
theorem SRf.drop (h : SRf K S F H σ ρ fps (tm ++ tmp)) : SRf K S F H σ ρ fps tmp :=
  { h with ndT := by
             have := h.ndT
             rw [List.map_append] at this
             exact (List.nodup_append.mp this).2.1
           disT := fun i a ha z => h.disT i a ha (by rw [List.map_append]; exact List.mem_append_right _ z)
           freeT := fun t z => h.freeT t (List.mem_append_right _ z) }
theorem SR.drop (h : SR K S F H σ ρ (tm ++ tmp)) : SR K S F H σ ρ tmp := let ⟨fps, h⟩ := h; ⟨fps, h.drop⟩
theorem SRf.inj (h : SRf K S F H σ ρ fps tmp) {a : Addr} (ha : a ∈ fps i) (hb : a ∈ fps j) : i = j := h.dis i j a ha hb
/-- the heap grows or is changed at chg, the frozen part grows by new things -/
theorem SRf.change (h : SRf K S F H σ ρ fps tmp) (chg : List Addr) (sF : Same F F') (sH : Same F' H') (fn : ∀ a, F' a ≠ none → F a ≠ none ∨ H a = none)
    (kp : ∀ a o, H a = some o → a ∉ chg → H' a = some o) (lv : ∀ a, H a ≠ none → H' a ≠ none) (ck : ∀ a ∈ chg, ∃ i, a ∈ fps i) (len : ρ'.length = ρ.length)
    (hs : ∀ i s, ρ'[i]? = some s → (ρ[i]? = some s ∧ ∀ a ∈ fps i, a ∉ chg) ∨ SlOk K S F' H' s (σ[i]?).join (fps i)) : SRf K S F' H' σ ρ' fps tmp where
  sub := sH
  f0 := fun a o e => sF _ _ (h.f0 a o e)
  fnew := fun a ha => by
    rcases fn a ha with z | z
    · exact h.fnew a z
    · exact .inr (h.live a z)
  keep := fun a o e ni => by
    refine kp a o (h.keep a o e ni) fun z => ?_
    obtain ⟨i, hi⟩ := ck a z
    rcases h.entry i a hi with q | q
    · rw [q] at e; cases e
    · exact ni q
  live := fun a e => by
    refine h.live a ?_
    cases q : H a with
    | none => rfl
    | some o => exact absurd e (lv a (by rw [q]; simp))
  len := len.trans h.len
  slot := fun i s e => by
    rcases hs i s e with ⟨e2, nc⟩ | q
    · refine (h.slot i s e2).mono sF fun a ha => ?_
      cases q : H a with
      | none => exact absurd q (h.alive i a ha)
      | some o => exact kp a o q (nc a ha)
    · exact q
  off := fun i e => h.off i (by
    rw [List.getElem?_eq_none_iff] at e ⊢
    omega)
  nd := h.nd
  dis := h.dis
  free := fun i a ha => by
    cases q : F' a with
    | none => rfl
    | some o =>
      rcases fn a (by rw [q]; simp) with z | z
      · exact absurd (h.free i a ha) z
      · exact absurd z (h.alive i a ha)
  ndT := h.ndT
  disT := h.disT
  freeT := fun t ht => by
    obtain ⟨f1, f2, f3⟩ := h.freeT t ht
    refine ⟨?_, f2, kp _ _ f3 fun z => ?_⟩
    · cases q : F' t.1 with
      | none => rfl
      | some o =>
        rcases fn t.1 (by rw [q]; simp) with z | z
        · exact absurd f1 z
        · rw [f3] at z; cases z
    · obtain ⟨i, hi⟩ := ck _ z
      exact h.disT i _ hi (List.mem_map_of_mem ht)
/-- what is pending is frozen -/
theorem SRf.freezeT (h : SRf K S F H σ ρ fps (tm ++ tmp)) : ∃ F', Same F F' ∧ SRf K S F' H σ ρ fps tmp ∧ ∀ a ∈ tm.map (·.1), F' a = H a := by
  have inT : ∀ a ∈ tm.map (·.1), F a = none ∧ S.H0 a = none ∧ ∃ o, H a = some o := fun a ha => by
    obtain ⟨t, ht, e⟩ := List.mem_map.mp ha
    subst e
    obtain ⟨z1, z2, z3⟩ := h.freeT t (List.mem_append_left _ ht)
    exact ⟨z1, z2, _, z3⟩
  have sF : Same F (fun a => if a ∈ tm.map (·.1) then H a else F a) := fun a o e => by
    show (if a ∈ tm.map (·.1) then H a else F a) = some o
    rw [if_neg (fun z => by rw [(inT a z).1] at e; cases e)]
    exact e
  have nd := h.ndT
  rw [List.map_append] at nd
  have nd' := List.nodup_append.mp nd
  refine ⟨fun a => if a ∈ tm.map (·.1) then H a else F a, sF, ⟨fun a o e => ?_, fun a o e => sF _ _ (h.f0 a o e), fun a ha => ?_, h.keep, h.live, h.len, fun i s e => (h.slot i s e).mono sF fun _ _ => rfl, h.off, h.nd, h.dis, fun i a ha => ?_, nd'.2.1, fun i a ha z => h.disT i a ha (by rw [List.map_append]; exact List.mem_append_right _ z), fun t z => ?_⟩, fun a ha => if_pos ha⟩
  · have e' : (if a ∈ tm.map (·.1) then H a else F a) = some o := e
    split at e'
    · exact e'
    · exact h.sub _ _ e'
  · have ha' : (if a ∈ tm.map (·.1) then H a else F a) ≠ none := ha
    by_cases z : a ∈ tm.map (·.1)
    · exact .inr (inT a z).2.1
    · rw [if_neg z] at ha'
      exact h.fnew a ha'
  · show (if a ∈ tm.map (·.1) then H a else F a) = none
    rw [if_neg (fun z => h.disT i a ha (by rw [List.map_append]; exact List.mem_append_left _ z))]
    exact h.free i a ha
  · obtain ⟨z1, z2, z3⟩ := h.freeT t (List.mem_append_right _ z)
    refine ⟨?_, z2, z3⟩
    show (if t.1 ∈ tm.map (·.1) then H t.1 else F t.1) = none
    rw [if_neg (fun w => nd'.2.2 _ w _ (List.mem_map_of_mem z) rfl)]
    exact z1
theorem SR.freezeT (h : SR K S F H σ ρ (tm ++ tmp)) : ∃ F', Same F F' ∧ SR K S F' H σ ρ tmp ∧ ∀ a ∈ tm.map (·.1), F' a = H a := by
  obtain ⟨fps, h⟩ := h
  obtain ⟨F', s, h, e⟩ := h.freezeT
  exact ⟨F', s, ⟨fps, h⟩, e⟩
/-- the things at some addresses -/
theorem objs_at {H : Hp} : ∀ (l : List Addr), (∀ a ∈ l, H a ≠ none) → ∃ t : List (Addr × HO), t.map (·.1) = l ∧ ∀ x ∈ t, H x.1 = some x.2
  | [], _ => ⟨[], rfl, fun _ z => by simp at z⟩
  | a :: l, w => by
    obtain ⟨t, e, q⟩ := objs_at l fun b hb => w b (List.mem_cons_of_mem _ hb)
    cases z : H a with
    | none => exact absurd z (w a List.mem_cons_self)
    | some o =>
      refine ⟨(a, o) :: t, by rw [List.map_cons, e], fun x hx => ?_⟩
      rcases List.mem_cons.mp hx with y | y
      · subst y; exact z
      · exact q x y
/-- an owned slot gives its thing away -/
theorem SRf.moveOut (h : SRf K S F H σ ρ fps tmp) (e : ρ[i]? = some (.ow k d)) : ∃ v tm, σ[i]? = some (some v) ∧ tm.map (·.1) = fps i ∧ OwnR K F H k d v (tm.map (·.1)) ∧ SRf K S F H σ (ρ.set i .no) (fun m => if m = i then [] else fps m) (tm ++ tmp) := by
  obtain ⟨z, v, e2, r⟩ := h.slot i _ e
  have hi : i < ρ.length := (List.getElem?_eq_some_iff.mp e).1
  have e3 : σ[i]? = some (some v) := by
    cases q : σ[i]? with
    | none => rw [q] at e2; cases e2
    | some u => rw [q] at e2; simp at e2; rw [e2]
  obtain ⟨tm, et, qt⟩ := objs_at (fps i) (h.alive i)
  refine ⟨v, tm, e3, et, by rw [et]; exact r, ⟨h.sub, h.f0, h.fnew, h.keep, h.live, by simpa using h.len, fun m s e => ?_, fun m e => ?_, fun m => ?_, fun m n a ha hb => ?_, fun m a ha => ?_, ?_, fun m a ha hb => ?_, fun t ht => ?_⟩⟩
  · by_cases q : m = i
    · subst q
      rw [List.getElem?_set_self hi] at e
      cases e
      simp [SlOk]
    · rw [List.getElem?_set_ne (Ne.symm q)] at e
      simp only [q, if_false]
      exact h.slot m s e
  · by_cases q : m = i
    · simp [q]
    · simp only [q, if_false]
      refine h.off m ?_
      rw [List.getElem?_set_ne (Ne.symm q)] at e
      exact e
  · by_cases q : m = i
    · simp [q]
    · simp only [q, if_false]; exact h.nd m
  · by_cases q : m = i
    · simp [q] at ha
    · by_cases q2 : n = i
      · simp [q2] at hb
      · simp only [q, if_false] at ha
        simp only [q2, if_false] at hb
        exact h.dis m n a ha hb
  · by_cases q : m = i
    · simp [q] at ha
    · simp only [q, if_false] at ha
      exact h.free m a ha
  · rw [List.map_append, et]
    refine List.nodup_append.mpr ⟨h.nd i, h.ndT, fun a ha b hb z => ?_⟩
    subst z
    exact h.disT i a ha hb
  · by_cases q : m = i
    · simp [q] at ha
    · simp only [q, if_false] at ha
      rw [List.map_append, et] at hb
      rcases List.mem_append.mp hb with y | y
      · exact q (h.dis m i a ha y)
      · exact h.disT m a ha y
  · rcases List.mem_append.mp ht with y | y
    · have y2 : t.1 ∈ fps i := by rw [← et]; exact List.mem_map_of_mem y
      exact ⟨h.free i _ y2, z _ y2, qt t y⟩
    · exact h.freeT t y
def noIo (ρ : Ev) (i : Nat) : Bool := match ρ[i]? with | some (.io _ _) => false | some _ => true | none => false
def mkSl : Nat → D → Sl
  | 0, d => .fz d
  | k + 1, d => .ow (k + 1) d
/-- a pending thing is stored -/
theorem SRf.store (h : SRf K S F H σ ρ fps (tm ++ tmp)) (r : OwnR K F H k d v (tm.map (·.1))) (hi : noIo ρ i = true) : SRf K S F H (σ.set i (some v)) (ρ.set i (mkSl k d)) (fun m => if m = i then tm.map (·.1) else fps m) tmp := by
  have hl : i < ρ.length := by
    unfold noIo at hi
    cases q : ρ[i]? with
    | none => rw [q] at hi; cases hi
    | some s => exact (List.getElem?_eq_some_iff.mp q).1
  have hl2 : i < σ.length := by rw [← h.len]; exact hl
  have nd := h.ndT
  rw [List.map_append] at nd
  have nd' := List.nodup_append.mp nd
  have dT : ∀ n a, a ∈ fps n → a ∉ tm.map (·.1) := fun n a ha z => h.disT n a ha (by rw [List.map_append]; exact List.mem_append_left _ z)
  have fT : ∀ a ∈ tm.map (·.1), F a = none ∧ S.H0 a = none := fun a ha => by
    obtain ⟨t, ht, e⟩ := List.mem_map.mp ha
    subst e
    obtain ⟨z1, z2, z3⟩ := h.freeT t (List.mem_append_left _ ht)
    exact ⟨z1, z2⟩
  refine ⟨h.sub, h.f0, h.fnew, h.keep, h.live, by simpa using h.len, fun m s e => ?_, fun m e => ?_, fun m => ?_, fun m n a ha hb => ?_, fun m a ha => ?_, nd'.2.1, fun m a ha hb => ?_, fun t ht => h.freeT t (List.mem_append_right _ ht)⟩
  · by_cases q : m = i
    · subst q
      rw [List.getElem?_set_self hl] at e
      cases e
      rw [List.getElem?_set_self hl2]
      simp only [if_true]
      cases k with
      | zero => exact ⟨r.1, v, rfl, r.2⟩
      | succ k => exact ⟨fun a ha => (fT a ha).2, v, rfl, r⟩
    · rw [List.getElem?_set_ne (Ne.symm q)] at e ⊢
      simp only [q, if_false]
      exact h.slot m s e
  · by_cases q : m = i
    · subst q
      rw [List.getElem?_set_self hl] at e
      cases e
    · simp only [q, if_false]
      refine h.off m ?_
      rw [List.getElem?_set_ne (Ne.symm q)] at e
      exact e
  · by_cases q : m = i
    · simp only [q, if_true]; exact nd'.1
    · simp only [q, if_false]; exact h.nd m
  · by_cases q : m = i
    · by_cases q2 : n = i
      · rw [q, q2]
      · simp only [q, if_true] at ha
        simp only [q2, if_false] at hb
        exact absurd ha (dT n a hb)
    · by_cases q2 : n = i
      · simp only [q, if_false] at ha
        simp only [q2, if_true] at hb
        exact absurd hb (dT m a ha)
      · simp only [q, if_false] at ha
        simp only [q2, if_false] at hb
        exact h.dis m n a ha hb
  · by_cases q : m = i
    · simp only [q, if_true] at ha
      exact (fT a ha).1
    · simp only [q, if_false] at ha
      exact h.free m a ha
  · by_cases q : m = i
    · simp only [q, if_true] at ha
      exact nd'.2.2 a ha a hb rfl
    · simp only [q, if_false] at ha
      exact h.disT m a ha (by rw [List.map_append]; exact List.mem_append_right _ hb)
/-- an owned slot is frozen -/
theorem SRf.freezeS (h : SRf K S F H σ ρ fps tmp) (e : ρ[i]? = some (.ow k d)) : ∃ F' fps', Same F F' ∧ SRf K S F' H σ (ρ.set i (.fz d)) fps' tmp ∧ ∃ v, σ[i]? = some (some v) ∧ Rep K F' d v := by
  obtain ⟨v, tm, e3, _, r, h1⟩ := h.moveOut e
  obtain ⟨F', s, h2, w⟩ := h1.freezeT
  have rp := OwnR.freeze s k d v _ w r
  have hl : i < ρ.length := (List.getElem?_eq_some_iff.mp e).1
  have h3 := SRf.store (tm := []) (i := i) (k := 0) (d := d) (v := v) h2 ⟨rfl, rp⟩ (by unfold noIo; rw [List.getElem?_set_self hl])
  rw [List.set_set] at h3
  have e4 : σ.set i (some v) = σ := by
    apply List.ext_getElem?
    intro m
    by_cases q : m = i
    · subst q
      rw [List.getElem?_set_self (by rw [← h.len]; exact hl), e3]
    · rw [List.getElem?_set_ne (Ne.symm q)]
  rw [e4] at h3
  exact ⟨F', _, s, h3, v, e3, rp⟩
/-- new things -/
theorem Same.upd {F : Hp} {p : Addr} {o : HO} (h : F p = none) : Same F (upd F p o) := fun b x e => by
  rw [upd_ne (ne_of_none e h)]
  exact e
theorem SRf.free_at (h : SRf K S F H σ ρ fps tmp) (e : H p = none) : F p = none := h.sub.free e
theorem SRf.allocF {o : HO} (h : SRf K S F H σ ρ fps tmp) (e : H p = none) : SRf K S (upd F p o) (upd H p o) σ ρ fps tmp := by
  have f := h.free_at e
  refine h.change [] (Same.upd f) (fun a x q => ?_) (fun a q => ?_) (fun a x q _ => Same.upd e a x q) (fun a q => ?_) (fun a ha => by simp at ha) rfl fun i s q => .inl ⟨q, fun a _ z => by simp at z⟩
  · by_cases z : a = p
    · subst z; rw [upd_same] at q ⊢; exact q
    · rw [upd_ne z] at q ⊢; exact h.sub _ _ q
  · by_cases z : a = p
    · subst z; exact .inr e
    · rw [upd_ne z] at q; exact .inl q
  · by_cases z : a = p
    · subst z; rw [upd_same]; simp
    · rw [upd_ne z]; exact q
theorem SRf.allocT {o : HO} (h : SRf K S F H σ ρ fps tmp) (e : H p = none) : SRf K S F (upd H p o) σ ρ fps ((p, o) :: tmp) := by
  have f := h.free_at e
  have h1 : SRf K S F (upd H p o) σ ρ fps tmp := by
    refine h.change [] (Same.refl F) (fun a x q => Same.upd e a x (h.sub _ _ q)) (fun a q => .inl q) (fun a x q _ => Same.upd e a x q) (fun a q => ?_) (fun a ha => by simp at ha) rfl fun i s q => .inl ⟨q, fun a _ z => by simp at z⟩
    by_cases z : a = p
    · subst z; rw [upd_same]; simp
    · rw [upd_ne z]; exact q
  refine { h1 with ndT := ?_, disT := fun i a ha z => ?_, freeT := fun t ht => ?_ }
  · refine List.nodup_cons.mpr ⟨fun z => ?_, h.ndT⟩
    obtain ⟨t, ht, e2⟩ := List.mem_map.mp z
    have q := (h.freeT t ht).2.2
    rw [show t.1 = p from e2, e] at q
    cases q
  · rcases List.mem_cons.mp z with z | z
    · subst z; exact h.alive i _ ha e
    · exact h.disT i a ha z
  · rcases List.mem_cons.mp ht with z | z
    · subst z; exact ⟨f, h.live _ e, upd_same⟩
    · exact h1.freeT t z
/-- what a slot holds -/
theorem SRf.fz (h : SRf K S F H σ ρ fps tmp) (e : ρ[i]? = some (.fz d)) : ∃ v, σ[i]? = some (some v) ∧ Rep K F d v := by
  obtain ⟨_, v, e2, r⟩ := h.slot i _ e
  refine ⟨v, ?_, r⟩
  cases q : σ[i]? with
  | none => rw [q] at e2; cases e2
  | some u => rw [q] at e2; simp at e2; rw [e2]
/-- the content of a slot that is read and left -/
def content (ρ : Ev) (i : Nat) : Option D := match ρ[i]? with
  | some (.fz d) => some d
  | some (.ow 1 d) => some d
  | some (.io _ d) => some d
  | _ => none
/-- what may be changed -/
def owned (ρ : Ev) (i : Nat) : Option D := match ρ[i]? with
  | some (.ow 1 d) => some d
  | some (.io _ d) => some d
  | _ => none
def putO (ρ : Ev) (i : Nat) (d : D) : Ev := match ρ[i]? with
  | some (.ow k _) => ρ.set i (.ow k d)
  | some (.io j _) => ρ.set i (.io j d)
  | _ => ρ
theorem SRf.own1 (h : SRf K S F H σ ρ fps tmp) (e : owned ρ i = some d) : ∃ p, σ[i]? = some (some (.ref p)) ∧ fps i = [p] ∧ OwnR K F H 1 d (.ref p) [p] ∨ fps i = [] ∧ ∃ v, σ[i]? = some (some v) ∧ Rep K F d v := by
  unfold owned at e
  have st : ∀ v, (σ[i]?).join = some v → σ[i]? = some (some v) := fun v q => by
    cases z : σ[i]? with
    | none => rw [z] at q; cases q
    | some u => rw [z] at q; simp at q; rw [q]
  split at e
  · rename_i d' q
    cases e
    obtain ⟨_, v, e2, r⟩ := h.slot i _ q
    cases d with
    | lst ds =>
      obtain ⟨p, vs, e3, h3, e4, t⟩ := r.lst1_of
      subst e3
      exact ⟨p, .inl ⟨st _ e2, e4, OwnR.lst1 h3 t⟩⟩
    | dct ks ds =>
      obtain ⟨p, vs, e3, h3, e4, t⟩ := r
      subst e3
      exact ⟨p, .inl ⟨st _ e2, e4, p, vs, rfl, h3, rfl, t⟩⟩
    | tup ds =>
      obtain ⟨p, vs, e3, h3, t⟩ := r
      obtain ⟨z, t⟩ := OwnL.reps0 t
      exact ⟨0, .inr ⟨z, v, st _ e2, p, vs, e3, h3, t⟩⟩
    | non => exact ⟨0, .inr ⟨r.1, v, st _ e2, r.2⟩⟩
    | bl _ => exact ⟨0, .inr ⟨r.1, v, st _ e2, r.2⟩⟩
    | int _ => exact ⟨0, .inr ⟨r.1, v, st _ e2, r.2⟩⟩
    | str _ => exact ⟨0, .inr ⟨r.1, v, st _ e2, r.2⟩⟩
    | opq _ => exact ⟨0, .inr ⟨r.1, v, st _ e2, r.2⟩⟩
    | scr _ => exact ⟨0, .inr ⟨r.1, v, st _ e2, r.2⟩⟩
    | pdc _ _ => exact ⟨0, .inr ⟨r.1, v, st _ e2, r.2⟩⟩
  · rename_i j d' q
    cases e
    obtain ⟨a, e2, e3, e4, r⟩ := h.slot i _ q
    exact ⟨a, .inl ⟨st _ e2, e4, r⟩⟩
  · cases e
/-- an owned list by its slot -/
theorem SRf.ownL {ds : List D} (h : SRf K S F H σ ρ fps tmp) (e : owned ρ i = some (.lst ds)) : ∃ p vs, σ[i]? = some (some (.ref p)) ∧ fps i = [p] ∧ H p = some (.lst vs) ∧ Reps K F ds vs := by
  obtain ⟨p, ⟨e1, e2, r⟩ | ⟨e1, v, e2, r⟩⟩ := h.own1 e
  · obtain ⟨q, vs, e3, h3, e4, t⟩ := r.lst1_of
    cases e3
    exact ⟨p, vs, e1, e2, h3, t⟩
  · exfalso
    obtain ⟨q, vs, e3, h3, t⟩ := r
    subst e3
    unfold owned at e
    split at e
    · rename_i d' z
      cases e
      obtain ⟨_, v, e4, r⟩ := h.slot i _ z
      obtain ⟨p', vs', e5, h5, e6, t'⟩ := r.lst1_of
      rw [e1] at e6
      cases e6
    · rename_i j d' z
      cases e
      obtain ⟨a, _, _, e6, _⟩ := h.slot i _ z
      rw [e1] at e6
      cases e6
    · cases e
/-- an owned slot is changed -/
theorem SRf.write {o : HO} {d' : D} (h : SRf K S F H σ ρ fps tmp) (e : owned ρ i = some d) (hs : σ[i]? = some (some (.ref p))) (hf : fps i = [p]) (r : OwnR K F (upd H p o) 1 d' (.ref p) [p]) : SRf K S F (upd H p o) σ (putO ρ i d') fps tmp := by
  have fp : F p = none := h.free i p (by rw [hf]; simp)
  have hl : i < ρ.length := by
    unfold owned at e
    cases q : ρ[i]? with
    | none => rw [q] at e; cases e
    | some s => exact (List.getElem?_eq_some_iff.mp q).1
  have plen : (putO ρ i d').length = ρ.length := by
    unfold putO
    split <;> simp
  refine h.change [p] (Same.refl F) (fun a x q => ?_) (fun a q => .inl q) (fun a x q nc => ?_) (fun a q => ?_) (fun a ha => ⟨i, ?_⟩) plen fun m s q => ?_
  · have z : a ≠ p := fun z => by subst z; rw [fp] at q; cases q
    rw [upd_ne z]; exact h.sub _ _ q
  · rw [upd_ne (by simpa using nc)]; exact q
  · by_cases z : a = p
    · subst z; rw [upd_same]; simp
    · rw [upd_ne z]; exact q
  · rw [hf]; exact ha
  · by_cases z : m = i
    · subst z
      refine .inr ?_
      rw [hs, hf]
      unfold owned at e
      unfold putO at q
      cases w : ρ[m]? with
      | none => rw [w] at e; cases e
      | some s0 =>
        rw [w] at e q
        have sl := h.slot m _ w
        rw [hs, hf] at sl
        cases s0 with
        | no => cases e
        | fz _ => cases e
        | ow k d0 =>
          simp only [List.getElem?_set_self hl] at q
          cases q
          have hk : k = 1 := by
            by_cases hk : k = 1
            · exact hk
            · split at e
              · rename_i heq; cases heq; exact rfl
              · rename_i heq; cases heq
              · cases e
          subst hk
          exact ⟨sl.1, _, rfl, r⟩
        | io j d0 =>
          simp only [List.getElem?_set_self hl] at q
          cases q
          obtain ⟨a, e1, e2, e3, _⟩ := sl
          cases e1
          exact ⟨p, rfl, e2, rfl, r⟩
    · refine .inl ⟨?_, fun a ha ha2 => ?_⟩
      · rw [← q]
        unfold putO
        split
        · rw [List.getElem?_set_ne (Ne.symm z)]
        · rw [List.getElem?_set_ne (Ne.symm z)]
        · rfl
      · have : a = p := by simpa using ha2
        subst this
        exact z (h.dis m i a ha (by rw [hf]; simp))
/-- content, as it is read from the heap -/
theorem SRf.read (h : SRf K S F H σ ρ fps tmp) (e : content ρ i = some d) : ∃ v G, σ[i]? = some (some v) ∧ Same F G ∧ Same G H ∧ Rep K G d v ∧ ∀ a, G a ≠ none → F a ≠ none ∨ a ∈ fps i := by
  have ow : owned ρ i = some d → ∃ v G, σ[i]? = some (some v) ∧ Same F G ∧ Same G H ∧ Rep K G d v ∧ ∀ a, G a ≠ none → F a ≠ none ∨ a ∈ fps i := fun e => by
    obtain ⟨p, ⟨e1, e2, r⟩ | ⟨_, v, e2, r⟩⟩ := h.own1 e
    · have fp : F p = none := h.free i p (by rw [e2]; simp)
      have sF : Same F (fun a => if a = p then H a else F a) := fun a o q => by
        show (if a = p then H a else F a) = some o
        rw [if_neg (fun z => by subst z; rw [fp] at q; cases q)]
        exact q
      refine ⟨_, _, e1, sF, fun a o q => ?_, OwnR.freeze sF 1 d _ _ (fun a ha => ?_) r, fun a q => ?_⟩
      · have q' : (if a = p then H a else F a) = some o := q
        split at q'
        · exact q'
        · exact h.sub _ _ q'
      · have z : a = p := by simpa using ha
        subst z
        exact if_pos rfl
      · have q' : (if a = p then H a else F a) ≠ none := q
        by_cases z : a = p
        · subst z; exact .inr (by rw [e2]; simp)
        · rw [if_neg z] at q'; exact .inl q'
    · exact ⟨v, F, e2, Same.refl F, h.sub, r, fun a q => .inl q⟩
  unfold content at e
  split at e
  · rename_i d' q
    cases e
    obtain ⟨v, e2, r⟩ := h.fz q
    exact ⟨v, F, e2, Same.refl F, h.sub, r, fun a q => .inl q⟩
  · rename_i d' q
    exact ow (by unfold owned; rw [q]; exact e)
  · rename_i j d' q
    exact ow (by unfold owned; rw [q]; exact e)
  · cases e
end
end VL

namespace VL
open PySem PySem.Spec PyProof.Rows L2

/-! ### judgements -/
abbrev QE := D → Nat → Ev → Prop
abbrev RE := Ev → QE → Prop
def VPost (K : Fg) (S : Frm) (F : Hp) (σ : L2.St) (tmp : List (Addr × HO)) (Q : QE) : VK := fun v H' => ∃ F' ρ' d k tm, Same F F' ∧ SR K S F' H' σ ρ' (tm ++ tmp) ∧ OwnR K F' H' k d v (tm.map (·.1)) ∧ Q d k ρ'
def tV (K : Fg) (r : RE) : TE := fun σ H Q' => ∃ S F ρ tmp Q, SR K S F H σ ρ tmp ∧ r ρ Q ∧ ∀ v H', VPost K S F σ tmp Q v H' → Q' v H'
def VE (X : Cx) (e : Expr) (r : RE) : Prop := PE X e (tV X.K r)

abbrev RT := Ev → (Bool → Ev → Prop) → Prop
def TPost (K : Fg) (S : Frm) (F : Hp) (σ : L2.St) (tmp : List (Addr × HO)) (Q : Bool → Ev → Prop) : Bool → Hp → Prop := fun b H' => ∃ F' ρ', Same F F' ∧ SR K S F' H' σ ρ' tmp ∧ Q b ρ'
def tVT (K : Fg) (r : RT) : TT := fun σ H Q' => ∃ S F ρ tmp Q, SR K S F H σ ρ tmp ∧ r ρ Q ∧ ∀ b H', TPost K S F σ tmp Q b H' → Q' b H'
def VT (X : Cx) (e : Expr) (r : RT) : Prop := PT X e (tVT X.K r)
def VW (X : Cx) (e : Expr) (r : RT) : Prop := PW X e (tVT X.K r)
/-- an operand: a thing at once, or a slot that is read late -/
inductive Op where
  | d (d : D) | s (i : Nat)
def opD (ρ : Ev) : Op → Option D
  | .d d => some d
  | .s i => content ρ i
def OpV (K : Fg) (F : Hp) (σ : L2.St) : Op → V → Prop
  | .d d, v => Rep K F d v
  | .s i, v => σ[i]? = some (some v)
abbrev RO := Ev → (Op → Ev → Prop) → Prop
def OPost (K : Fg) (S : Frm) (F : Hp) (σ : L2.St) (tmp : List (Addr × HO)) (Q : Op → Ev → Prop) : VK := fun v H' => ∃ F' ρ' o, Same F F' ∧ SR K S F' H' σ ρ' tmp ∧ OpV K F' σ o v ∧ Q o ρ'
def tVO (K : Fg) (r : RO) : TE := fun σ H Q' => ∃ S F ρ tmp Q, SR K S F H σ ρ tmp ∧ r ρ Q ∧ ∀ v H', OPost K S F σ tmp Q v H' → Q' v H'
def VO (X : Cx) (e : Expr) (r : RO) : Prop := PE X e (tVO X.K r)
/-- operands in a row -/
abbrev RA := Ev → (List Op → Ev → Prop) → Prop
def OpVs (K : Fg) (F : Hp) (σ : L2.St) : List Op → List V → Prop
  | [], vs => vs = []
  | o :: os, vs => ∃ v r, vs = v :: r ∧ OpV K F σ o v ∧ OpVs K F σ os r
def APost (K : Fg) (S : Frm) (F : Hp) (σ : L2.St) (tmp : List (Addr × HO)) (Q : List Op → Ev → Prop) : List V → Hp → Prop := fun vs H' => ∃ F' ρ' os, Same F F' ∧ SR K S F' H' σ ρ' tmp ∧ OpVs K F' σ os vs ∧ Q os ρ'
def tVA (K : Fg) (r : RA) : TA := fun σ H Q' => ∃ S F ρ tmp Q, SR K S F H σ ρ tmp ∧ r ρ Q ∧ ∀ vs H', APost K S F σ tmp Q vs H' → Q' vs H'
def VA (X : Cx) (es : List Expr) (r : RA) : Prop := PA X es (tVA X.K r)

section
variable {X : Cx} {e a b : Expr} {es : List Expr} {pos : Pos} {r ra rb : RE} {K : Fg} {S : Frm} {F F' F1 F2 H H' H1 : Hp} {σ : L2.St} {ρ ρ' ρ1 : Ev} {d d1 d2 : D} {v : V} {k i : Nat} {p : Addr} {o : Op} {tmp tm : List (Addr × HO)}

theorem PE.weak {t t' : TE} (h : PE X e t) (w : ∀ σ H Q, t' σ H Q → t σ H Q) : PE X e t' := ⟨fun pins s σ H Q I q => h.run pins s σ H Q I (w _ _ _ q)⟩
theorem PT.weak {t t' : TT} (h : PT X e t) (w : ∀ σ H Q, t' σ H Q → t σ H Q) : PT X e t' := ⟨fun pins s σ H Q I q => h.run pins s σ H Q I (w _ _ _ q)⟩
theorem PW.weak {t t' : TT} (h : PW X e t) (w : ∀ σ H Q, t' σ H Q → t σ H Q) : PW X e t' := ⟨fun wh pins s σ H Q I q => h.run wh pins s σ H Q I (w _ _ _ q)⟩
theorem PA.weak {t t' : TA} (h : PA X es t) (w : ∀ σ H Q, t' σ H Q → t σ H Q) : PA X es t' := ⟨fun pos pins s σ H Q I q => h.run pos pins s σ H Q I (w _ _ _ q)⟩

/-- using an expression's reading -/
theorem tV.mk {Q : QE} {Q' : VK} (h : SR K S F H σ ρ tmp) (hr : r ρ Q) (w : ∀ v H', VPost K S F σ tmp Q v H' → Q' v H') : tV K r σ H Q' := ⟨S, F, ρ, tmp, Q, h, hr, w⟩
theorem tVT.mk {r : RT} {Q : Bool → Ev → Prop} {Q' : Bool → Hp → Prop} (h : SR K S F H σ ρ tmp) (hr : r ρ Q) (w : ∀ b H', TPost K S F σ tmp Q b H' → Q' b H') : tVT K r σ H Q' := ⟨S, F, ρ, tmp, Q, h, hr, w⟩
theorem tVO.mk {r : RO} {Q : Op → Ev → Prop} {Q' : VK} (h : SR K S F H σ ρ tmp) (hr : r ρ Q) (w : ∀ v H', OPost K S F σ tmp Q v H' → Q' v H') : tVO K r σ H Q' := ⟨S, F, ρ, tmp, Q, h, hr, w⟩
theorem tVA.mk {r : RA} {Q : List Op → Ev → Prop} {Q' : List V → Hp → Prop} (h : SR K S F H σ ρ tmp) (hr : r ρ Q) (w : ∀ v H', APost K S F σ tmp Q v H' → Q' v H') : tVA K r σ H Q' := ⟨S, F, ρ, tmp, Q, h, hr, w⟩
theorem VPost.fz {Q : QE} (h : VPost K S F σ tmp Q v H') : ∃ F' ρ' d k, Same F F' ∧ SR K S F' H' σ ρ' tmp ∧ Rep K F' d v ∧ Q d k ρ' := by
  obtain ⟨F1, ρ', d, k, tm, s, h, r, q⟩ := h
  obtain ⟨F2, s2, h2, e⟩ := h.freezeT
  exact ⟨F2, ρ', d, k, s.trans s2, h2, OwnR.freeze s2 k d v _ e r, q⟩
theorem VPost.of {Q : QE} (s : Same F F') (h : SR K S F' H' σ ρ' tmp) (r : Rep K F' d v) (q : Q d 0 ρ') : VPost K S F σ tmp Q v H' := ⟨F', ρ', d, 0, [], s, h, OwnR.zero r, q⟩
theorem VPost.from {Q : QE} (s : Same F F1) (h : VPost K S F1 σ tmp Q v H') : VPost K S F σ tmp Q v H' := by
  obtain ⟨F', ρ', d, k, fp, s2, h, r, q⟩ := h
  exact ⟨F', ρ', d, k, fp, s.trans s2, h, r, q⟩
theorem TPost.from {Q : Bool → Ev → Prop} {b : Bool} (s : Same F F1) (h : TPost K S F1 σ tmp Q b H') : TPost K S F σ tmp Q b H' := by
  obtain ⟨F', ρ', s2, q⟩ := h
  exact ⟨F', ρ', s.trans s2, q⟩
theorem OPost.from {Q : Op → Ev → Prop} (s : Same F F1) (h : OPost K S F1 σ tmp Q v H') : OPost K S F σ tmp Q v H' := by
  obtain ⟨F', ρ', o, s2, q⟩ := h
  exact ⟨F', ρ', o, s.trans s2, q⟩
theorem APost.from {Q : List Op → Ev → Prop} {vs : List V} (s : Same F F1) (h : APost K S F1 σ tmp Q vs H') : APost K S F σ tmp Q vs H' := by
  obtain ⟨F', ρ', o, s2, q⟩ := h
  exact ⟨F', ρ', o, s.trans s2, q⟩

/-! ### names, constants -/
/-- a name as a value: what is owned is frozen by it -/
def rVar (i : Nat) : RE := fun ρ Q => match ρ[i]? with
  | some (.fz d) => Q d 0 ρ
  | some (.ow _ d) => Q d 0 (ρ.set i (.fz d))
  | _ => False
theorem ve_var (h : PE X e (tVar i)) : VE X e (rVar i) := by
  refine PE.weak h ?_
  rintro σ H Q' ⟨S, F, ρ, tmp, Q, ⟨fps, h⟩, hr, w⟩
  unfold rVar at hr
  split at hr
  · rename_i d q
    obtain ⟨v, e, r⟩ := h.fz q
    exact ⟨v, e, w _ _ (VPost.of (Same.refl F) ⟨fps, h⟩ r hr)⟩
  · rename_i k d q
    obtain ⟨F', fps', s, h', v, e, r⟩ := h.freezeS q
    exact ⟨v, e, w _ _ (VPost.of s ⟨fps', h'⟩ r hr)⟩
  · exact hr.elim
/-- a name's thing given away -/
def rMove (i : Nat) : RE := fun ρ Q => match ρ[i]? with
  | some (.fz d) => Q d 0 ρ
  | some (.ow k d) => Q d k (ρ.set i .no)
  | _ => False
theorem ve_move (h : PE X e (tVar i)) : VE X e (rMove i) := by
  refine PE.weak h ?_
  rintro σ H Q' ⟨S, F, ρ, tmp, Q, ⟨fps, h⟩, hr, w⟩
  unfold rMove at hr
  split at hr
  · rename_i d q
    obtain ⟨v, e, r⟩ := h.fz q
    exact ⟨v, e, w _ _ (VPost.of (Same.refl F) ⟨fps, h⟩ r hr)⟩
  · rename_i k d q
    obtain ⟨v, tm, e, _, r, h'⟩ := h.moveOut q
    exact ⟨v, e, w _ _ ⟨F, _, d, k, tm, Same.refl F, ⟨_, h'⟩, r, hr⟩⟩
  · exact hr.elim
def rC (d : D) : RE := fun ρ Q => Q d 0 ρ
theorem ve_c {v : V} {d : D} (h : PE X e (tC v)) (hd : ∀ K F, Rep K F d v) : VE X e (rC d) := by
  refine PE.weak h ?_
  rintro σ H Q' ⟨S, F, ρ, tmp, Q, h, hr, w⟩
  exact w _ _ (VPost.of (Same.refl F) h (hd _ _) hr)
theorem ve_int {i : Int} {j pos} : VE X (.Constant (.int i) j pos) (rC (.int i)) := ve_c pe_int fun _ _ => rfl
theorem ve_bl {b j pos} : VE X (.Constant (.bool b) j pos) (rC (.bl b)) := ve_c pe_bl fun _ _ => rfl
/-! ### operands -/
def roE (r : RE) : RO := fun ρ Q => r ρ fun d _ ρ' => Q (.d d) ρ'
theorem vo_e (h : VE X e r) : VO X e (roE r) := by
  refine PE.weak h ?_
  rintro σ H Q' ⟨S, F, ρ, tmp, Q, h, hr, w⟩
  refine tV.mk h hr fun v H' q => ?_
  obtain ⟨F', ρ', d, k, s, h, r, q⟩ := q.fz
  exact w _ _ ⟨F', ρ', .d d, s, h, r, q⟩
/-- a name as an operand -/
def roV (i : Nat) : RO := fun ρ Q => (content ρ i).isSome = true ∧ Q (.s i) ρ
theorem vo_v (h : PE X e (tVar i)) : VO X e (roV i) := by
  refine PE.weak h ?_
  rintro σ H Q' ⟨S, F, ρ, tmp, Q, ⟨fps, h⟩, ⟨hc, hr⟩, w⟩
  obtain ⟨d, hd⟩ := Option.isSome_iff_exists.mp hc
  obtain ⟨v, G, e, _⟩ := h.read hd
  exact ⟨v, e, w _ _ ⟨F, ρ, .s i, Same.refl F, ⟨fps, h⟩, e, hr⟩⟩
theorem OpV.mono (s : Same F F') (h : OpV K F σ o v) : OpV K F' σ o v := by
  cases o with
  | d d => exact Rep.mono s d v h
  | s i => exact h
theorem OpVs.mono {os : List Op} {vs : List V} (s : Same F F') (h : OpVs K F σ os vs) : OpVs K F' σ os vs := by
  induction os generalizing vs with
  | nil => exact h
  | cons o os ih =>
    obtain ⟨v, r, e, h, t⟩ := h
    exact ⟨v, r, e, OpV.mono s h, ih t⟩
def raNil : RA := fun ρ Q => Q [] ρ
def raCons (ro : RO) (r : RA) : RA := fun ρ Q => ro ρ fun o ρ1 => r ρ1 fun os ρ2 => Q (o :: os) ρ2
theorem va_nil : VA X [] raNil := by
  refine PA.weak pa_nil ?_
  rintro σ H Q' ⟨S, F, ρ, tmp, Q, h, hr, w⟩
  exact w _ _ ⟨F, ρ, [], Same.refl F, h, rfl, hr⟩
theorem va_cons {ro : RO} {r : RA} (ha : VO X e ro) (hr : VA X es r) (hs : starEach (e :: es) X.env = (false, eval e X.env) :: starEach es X.env := by rfl) : VA X (e :: es) (raCons ro r) := by
  refine PA.weak (pa_cons ha hr hs) ?_
  rintro σ H Q' ⟨S, F, ρ, tmp, Q, h, hr, w⟩
  refine tVO.mk h hr fun v H1 ⟨F1, ρ1, o, s1, h1, v1, q1⟩ => ?_
  refine tVA.mk h1 q1 fun vs H2 ⟨F2, ρ2, os, s2, h2, v2, q2⟩ => ?_
  exact w _ _ ⟨F2, ρ2, o :: os, s1.trans s2, h2, ⟨v, vs, rfl, v1.mono s2, v2⟩, q2⟩

/-! ### what is seen of a thing: its top as it stands, what is in it frozen -/
def Shal (K : Fg) (F H : Hp) : D → V → Prop
  | .lst ds, v => ∃ p vs, v = .ref p ∧ H p = some (.lst vs) ∧ Reps K F ds vs
  | .tup ds, v => ∃ p vs, v = .ref p ∧ TupAt K F p vs ∧ Reps K F ds vs
  | .dct ks ds, v => ∃ p vs, v = .ref p ∧ DctAt H p ks vs ∧ Reps K F ds vs
  | .scr ns, v => ∃ p, v = .ref p ∧ SqL K H p (ns.map V.int)
  | .pdc ks ds, v => ∃ p vs, v = .ref p ∧ DctZ F p ks vs ∧ Reps K F ds vs
  | .non, v => v = .non
  | .bl b, v => v = .bl b
  | .int i, v => v = .int i
  | .str x, v => v = .str x
  | .opq u, v => v = u
theorem Rep.shal (s : Same F H) (h : Rep K F d v) : Shal K F H d v := by
  cases d with
  | lst ds => obtain ⟨p, vs, e, h, r⟩ := h; exact ⟨p, vs, e, s _ _ h, r⟩
  | tup ds => exact h
  | dct ks ds => obtain ⟨p, vs, e, h, r⟩ := h; exact ⟨p, vs, e, h.mono (s p), r⟩
  | scr ns => obtain ⟨p, e, h⟩ := h; exact ⟨p, e, SqL.mono s h⟩
  | pdc ks ds => exact h
  | _ => exact h
theorem OwnR.shal1 (s : Same F H) {fp : List Addr} (h : OwnR K F H 1 d v fp) : Shal K F H d v := by
  cases d with
  | lst ds => obtain ⟨p, vs, e, h, _, r⟩ := h.lst1_of; exact ⟨p, vs, e, h, r⟩
  | tup ds =>
    obtain ⟨p, vs, e, h, t⟩ := h
    obtain ⟨_, t⟩ := OwnL.reps0 t
    exact ⟨p, vs, e, h, t⟩
  | dct ks ds => obtain ⟨p, vs, e, h, _, r⟩ := h; exact ⟨p, vs, e, h, r⟩
  | scr ns => exact Rep.shal s h.2
  | pdc _ _ => exact Rep.shal s h.2
  | non => exact h.2
  | bl _ => exact h.2
  | int _ => exact h.2
  | str _ => exact h.2
  | opq _ => exact h.2
theorem SRf.shal {fps : Nat → List Addr} (h : SRf K S F H σ ρ fps tmp) (e : content ρ i = some d) (hv : σ[i]? = some (some v)) : Shal K F H d v := by
  have hj : (σ[i]?).join = some v := by rw [hv]; rfl
  unfold content at e
  split at e
  · rename_i d' q
    cases e
    obtain ⟨_, v', e2, r⟩ := h.slot i _ q
    rw [hj] at e2
    cases e2
    exact Rep.shal h.sub r
  · rename_i d' q
    cases e
    obtain ⟨_, v', e2, r⟩ := h.slot i _ q
    rw [hj] at e2
    cases e2
    exact OwnR.shal1 h.sub r
  · rename_i j d' q
    cases e
    obtain ⟨a, e2, _, _, r⟩ := h.slot i _ q
    rw [hj] at e2
    cases e2
    exact OwnR.shal1 h.sub r
  · cases e
theorem SR.op (h : SR K S F H σ ρ tmp) (hv : OpV K F σ o v) (e : opD ρ o = some d) : Shal K F H d v := by
  obtain ⟨fps, h⟩ := h
  cases o with
  | d d' => cases e; exact Rep.shal h.sub hv
  | s i => exact h.shal e hv

/-! ### what primitive operations give -/
/-- the same heap and a frozen thing, or a new list (owned), a new tuple -/
inductive Res (K : Fg) (F H : Hp) : D → Nat → V → Hp → Prop
  | old {d : D} {v : V} : Rep K F d v → Res K F H d 0 v H
  | lst {ds : List D} {p : Addr} {vs : List V} : H p = none → Reps K F ds vs → Res K F H (.lst ds) 1 (.ref p) (upd H p (.lst vs))
  | tup {ds : List D} {p : Addr} {vs : List V} : H p = none → Reps K F ds vs → Res K F H (.tup ds) 0 (.ref p) (upd H p (.tup vs))
  | dK {ds : List D} {p : Addr} {l : List (Key × V)} : H p = none → Reps K F ds (l.map (·.2)) → Res K F H (.dct (l.map fun x => kD x.1) ds) 1 (.ref p) (upd H p (.dK l))
theorem Res.post {Q : QE} (h : SR K S F H σ ρ tmp) (r : Res K F H d k v H') (q : Q d k ρ) : VPost K S F σ tmp Q v H' := by
  obtain ⟨fps, h⟩ := h
  cases r with
  | old r => exact VPost.of (Same.refl F) ⟨fps, h⟩ r q
  | lst hp r =>
    exact ⟨F, ρ, _, 1, [_], Same.refl F, ⟨fps, h.allocT hp⟩, OwnR.lst1 upd_same r, q⟩
  | tup hp r =>
    have f := h.free_at hp
    exact VPost.of (Same.upd f) ⟨fps, h.allocF hp⟩ (show Rep K _ (.tup _) _ from ⟨_, _, rfl, .inl upd_same, Reps.mono (Same.upd f) _ _ r⟩) q
  | dK hp r =>
    exact ⟨F, ρ, _, 1, [_], Same.refl F, ⟨fps, h.allocT hp⟩, (show OwnR K F _ 1 (.dct _ _) _ _ from ⟨_, _, rfl, .inl ⟨_, upd_same, rfl, rfl⟩, rfl, r⟩), q⟩

/-- two operands -/
abbrev G2 := D → D → (D → Nat → Prop) → Prop
def rOp2 (g : G2) (ra rb : RO) : RE := fun ρ Q => ra ρ fun o1 ρ1 => rb ρ1 fun o2 ρ2 => ∃ d1, opD ρ2 o1 = some d1 ∧ ∃ d2, opD ρ2 o2 = some d2 ∧ g d1 d2 fun d k => Q d k ρ2
def Lk2 (K : Fg) (t : R2) (g : G2) : Prop := ∀ (F H : Hp) (d1 d2 : D) (v1 v2 : V) (R : D → Nat → Prop) (Q' : VK), Same F H → Shal K F H d1 v1 → Shal K F H d2 v2 → g d1 d2 R → (∀ d k v H', Res K F H d k v H' → R d k → Q' v H') → t v1 v2 H Q'
theorem tOp.of {t : R2} {g : G2} {ra rb : RO} (lk : Lk2 K t g) (σ : L2.St) (H : Hp) (Q' : VK) (h : tV K (rOp2 g ra rb) σ H Q') : tOp t (tVO K ra) (tVO K rb) σ H Q' := by
  obtain ⟨S, F, ρ, tmp, Q, h, hr, w⟩ := h
  refine tVO.mk h hr fun v1 H1 ⟨F1, ρ1, o1, s1, h1, v1, q1⟩ => ?_
  refine tVO.mk h1 q1 fun v2 H2 ⟨F2, ρ2, o2, s2, h2, v2, d1, e1, d2, e2, q2⟩ => ?_
  refine lk F2 H2 d1 d2 _ _ _ _ ?_ (h2.op (v1.mono s2) e1) (h2.op v2 e2) q2 fun d k v H' rs q => ?_
  · obtain ⟨_, h2⟩ := h2; exact h2.sub
  · exact w _ _ ((Res.post h2 rs q).from (s1.trans s2))
theorem ve_op {op : Operator} {t : R2} {g : G2} {ra rb : RO} (ho : OpR X (binaryOp op) t) (lk : Lk2 X.K t g) (ha : VO X a ra) (hb : VO X b rb) : VE X (.BinOp a op b pos) (rOp2 g ra rb) :=
  PE.weak (pe_op ho ha hb) fun σ H Q' h => tOp.of lk σ H Q' h
theorem ve_cmp {op : CmpOp} {t : R2} {g : G2} {ra rb : RO} (ho : OpR X (compareOp op) t) (lk : Lk2 X.K t g) (ha : VO X a ra) (hb : VO X b rb) (hm : behindInMarks op b = false) : VE X (.Compare a [op] [b] pos) (rOp2 g ra rb) :=
  PE.weak (pe_cmpR ho ha hb hm) fun σ H Q' h => tOp.of lk σ H Q' h
theorem ve_ix {t : R2} {g : G2} {ra rb : RO} (hr : IxR X t) (lk : Lk2 X.K t g) (ha : VO X a ra) (hb : VO X b rb) (hs : PlainIx b) : VE X (.Subscript a b pos) (rOp2 g ra rb) :=
  PE.weak (pe_ix hr ha hb hs) fun σ H Q' h => tOp.of lk σ H Q' h
end
end VL

namespace VL
open PySem PySem.Spec PyProof.Rows L2

/-! ### data as PyData, for == -/
mutual
def D.py : D → PyData
  | .non => .none
  | .bl b => .bool b
  | .int i => .int i
  | .str x => .str x
  | .opq _ => .none
  | .scr _ => .none
  | .pdc _ _ => .none
  | .tup ds => .tuple (D.pys ds)
  | .lst ds => .list (D.pys ds)
  | .dct _ _ => .none
def D.pys : List D → List PyData
  | [] => []
  | d :: ds => d.py :: D.pys ds
end
def D.ok : Nat → D → Bool
  | 0, d => match d with
    | .non => true
    | .bl _ => true
    | .int _ => true
    | .str x => PyData.strOk x
    | _ => false
  | n + 1, d => match d with
    | .non => true
    | .bl _ => true
    | .int _ => true
    | .str x => PyData.strOk x
    | .tup ds => ds.all (D.ok n)
    | .lst ds => ds.all (D.ok n)
    | _ => false
def eqb (a b : D) : Bool := PyData.eqv a.py b.py
theorem canLay_ok : ∀ (n : Nat) (d : D), d.ok n = true → d.py.canLay0 = true ∧ d.py.depth ≤ n := by
  intro n
  induction n with
  | zero =>
    intro d h
    cases d <;> first | exact ⟨rfl, Nat.le_refl _⟩ | (exfalso; exact Bool.false_ne_true h) | exact ⟨h, Nat.le_refl _⟩
  | succ n ih =>
    have all : ∀ ds : List D, ds.all (D.ok n) = true → PyData.canLayAll0 (D.pys ds) = true ∧ PyData.depthAll (D.pys ds) ≤ n := by
      intro ds
      induction ds with
      | nil => exact fun _ => ⟨rfl, Nat.zero_le _⟩
      | cons d ds ih2 =>
        intro h
        rw [List.all_cons, Bool.and_eq_true] at h
        obtain ⟨a1, a2⟩ := ih d h.1
        obtain ⟨b1, b2⟩ := ih2 h.2
        refine ⟨?_, ?_⟩
        · show (d.py.canLay0 && PyData.canLayAll0 (D.pys ds)) = true
          rw [a1, b1]; rfl
        · show max d.py.depth (PyData.depthAll (D.pys ds)) ≤ n
          exact Nat.max_le.mpr ⟨a2, b2⟩
    intro d h
    cases d with
    | tup ds =>
      obtain ⟨a, b⟩ := all ds h
      exact ⟨a, Nat.succ_le_succ b⟩
    | lst ds =>
      obtain ⟨a, b⟩ := all ds h
      exact ⟨a, Nat.succ_le_succ b⟩
    | str x => exact ⟨h, Nat.zero_le _⟩
    | non => exact ⟨rfl, Nat.zero_le _⟩
    | bl _ => exact ⟨rfl, Nat.zero_le _⟩
    | int _ => exact ⟨rfl, Nat.zero_le _⟩
    | _ => exact absurd h Bool.false_ne_true
theorem shaped_ok {d : D} (h : d.ok 64 = true) : SeqAt.shaped d.py = true := by
  obtain ⟨a, b⟩ := canLay_ok 64 d h
  unfold SeqAt.shaped
  rw [a, decide_eq_true b]
  rfl
theorem Reps.dp_of {K : Fg} {F H : Hp} {n : Nat} (ih : ∀ (d : D) (v : V), d.ok n = true → Rep K F d v → Dp K H v d.py) : ∀ (ds : List D) (vs : List V), ds.all (D.ok n) = true → Reps K F ds vs → DpAll K H vs (D.pys ds)
  | [], _, _, h => by cases h; exact .nil
  | d :: ds, _, o, ⟨v, r, e, h, t⟩ => by
    subst e
    rw [List.all_cons, Bool.and_eq_true] at o
    exact .cons (ih d v o.1 h) (Reps.dp_of ih ds r o.2 t)
theorem Rep.dp {K : Fg} {F H : Hp} (s : Same F H) : ∀ (n : Nat) (d : D) (v : V), d.ok n = true → Rep K F d v → Dp K H v d.py := by
  intro n
  induction n with
  | zero =>
    intro d v o h
    cases d with
    | non => cases h; exact .non
    | bl _ => cases h; exact .bl _
    | int _ => cases h; exact .int _
    | str _ => cases h; exact .str _
    | _ => exact absurd o Bool.false_ne_true
  | succ n ih =>
    intro d v o h
    cases d with
    | non => cases h; exact .non
    | bl _ => cases h; exact .bl _
    | int _ => cases h; exact .int _
    | str _ => cases h; exact .str _
    | tup ds =>
      obtain ⟨p, vs, e, h, r⟩ := h
      subst e
      exact .tup (h.sq s) (Reps.dp_of ih ds vs o r)
    | lst ds =>
      obtain ⟨p, vs, e, h, r⟩ := h
      subst e
      exact .lst (.inl (.inl (s _ _ h))) (Reps.dp_of ih ds vs o r)
    | _ => exact absurd o Bool.false_ne_true
theorem Reps.dp {K : Fg} {F H : Hp} (s : Same F H) (n : Nat) (ds : List D) (vs : List V) (o : ds.all (D.ok n) = true) (h : Reps K F ds vs) : DpAll K H vs (D.pys ds) := Reps.dp_of (Rep.dp s n) ds vs o h
theorem Shal.dp {K : Fg} {F H : Hp} (s : Same F H) {n : Nat} {d : D} {v : V} (o : d.ok n = true) (h : Shal K F H d v) : Dp K H v d.py := by
  cases n with
  | zero => cases d <;> first | exact absurd o Bool.false_ne_true | exact Rep.dp s 0 _ _ o h
  | succ n =>
    cases d with
    | tup ds =>
      obtain ⟨p, vs, e, h, r⟩ := h
      subst e
      exact .tup (h.sq s) (Reps.dp s n ds vs o r)
    | lst ds =>
      obtain ⟨p, vs, e, h, r⟩ := h
      subst e
      exact .lst (.inl (.inl h)) (Reps.dp s n ds vs o r)
    | dct _ _ => exact absurd o Bool.false_ne_true
    | opq _ => exact absurd o Bool.false_ne_true
    | scr _ => exact absurd o Bool.false_ne_true
    | pdc _ _ => exact absurd o Bool.false_ne_true
    | non => exact Rep.dp s 0 .non _ rfl h
    | bl b => exact Rep.dp s 0 (.bl b) _ rfl h
    | int i => exact Rep.dp s 0 (.int i) _ rfl h
    | str x => exact Rep.dp s 0 (.str x) _ (show (D.str x).ok 0 = true from o) h

theorem Res.int {K : Fg} {F H : Hp} {i : Int} : Res K F H (.int i) 0 (.int i) H := .old (show Rep K F (.int i) (.int i) from rfl)
theorem Res.bl {K : Fg} {F H : Hp} {i : Bool} : Res K F H (.bl i) 0 (.bl i) H := .old (show Rep K F (.bl i) (.bl i) from rfl)
theorem Res.str {K : Fg} {F H : Hp} {i : Str} : Res K F H (.str i) 0 (.str i) H := .old (show Rep K F (.str i) (.str i) from rfl)
theorem Res.non {K : Fg} {F H : Hp} : Res K F H .non 0 .non H := .old (show Rep K F .non .non from rfl)
section
variable {X : Cx} {K : Fg}
def gEq : G2 := fun a b R => a.ok 64 = true ∧ b.ok 64 = true ∧ R (.bl (eqb a b)) 0
def gNe : G2 := fun a b R => a.ok 64 = true ∧ b.ok 64 = true ∧ R (.bl (!eqb a b)) 0
theorem lk_eq : Lk2 K (rEqD K) gEq := fun F H a b x y R Q' s h1 h2 ⟨o1, o2, r⟩ w => ⟨a.py, b.py, h1.dp s o1, h2.dp s o2, shaped_ok o1, shaped_ok o2, w _ _ _ _ .bl r⟩
theorem lk_ne : Lk2 K (rNeD K) gNe := fun F H a b x y R Q' s h1 h2 ⟨o1, o2, r⟩ w => ⟨a.py, b.py, h1.dp s o1, h2.dp s o2, shaped_ok o1, shaped_ok o2, w _ _ _ _ .bl r⟩

/-! ### ints -/
def gInt (C : Int → Int → Prop) (f : Int → Int → Int) : G2 := fun a b R => match a, b with
  | .int i, .int j => C i j ∧ R (.int (f i j)) 0
  | _, _ => False
def gCmp (f : Int → Int → Bool) : G2 := fun a b R => match a, b with
  | .int i, .int j => R (.bl (f i j)) 0
  | _, _ => False
theorem lk_int {C : Int → Int → Prop} {f : Int → Int → Int} : Lk2 K (rI C fun i j => .int (f i j)) (gInt C f) := fun F H a b x y R Q' s h1 h2 g w => by
  cases a <;> first | exact g.elim | skip
  cases b <;> first | exact g.elim | skip
  exact ⟨_, _, h1, h2, g.1, w _ _ _ _ .int g.2⟩
theorem lk_cmp {f : Int → Int → Bool} : Lk2 K (rI0 fun i j => .bl (f i j)) (gCmp f) := fun F H a b x y R Q' s h1 h2 g w => by
  cases a <;> first | exact g.elim | skip
  cases b <;> first | exact g.elim | skip
  exact ⟨_, _, h1, h2, w _ _ _ _ .bl g⟩
/-- + : ints, texts, lists, tuples -/
def gAdd : G2 := fun a b R => match a, b with
  | .int i, .int j => R (.int (i + j)) 0
  | .str x, .str y => x.length + y.length ≤ sizeLine ∧ R (.str (x ++ y)) 0
  | .lst xs, .lst ys => xs.length + ys.length ≤ sizeLine ∧ R (.lst (xs ++ ys)) 1
  | .tup xs, .tup ys => xs ≠ [] ∧ xs.length + ys.length ≤ sizeLine ∧ R (.tup (xs ++ ys)) 0
  | _, _ => False
def tAddAll (K : Fg) : R2 := fun x y H Q => rI0 (fun i j => .int (i + j)) x y H Q ∨ (fun x y H Q => (fun x y H Q => ∃ i j, x = .str i ∧ y = .str j ∧ i.length + j.length ≤ sizeLine ∧ Q (.str (i ++ j)) H) x y H Q ∨ (fun x y H Q => rCat x y H Q ∨ rCatT K x y H Q) x y H Q) x y H Q
theorem op_addAll : OpR X (binaryOp .Add) (tAddAll X.K) := op_add.or (op_add_str.or (op_cat.or op_catT))
theorem lk_add : Lk2 K (tAddAll K) gAdd := fun F H a b x y R Q' s h1 h2 g w => by
  cases a <;> first | exact g.elim | skip
  · cases b <;> first | exact g.elim | skip
    exact .inl ⟨_, _, h1, h2, w _ _ _ _ .int g⟩
  · cases b <;> first | exact g.elim | skip
    exact .inr (.inl ⟨_, _, h1, h2, g.1, w _ _ _ _ .str g.2⟩)
  · cases b <;> first | exact g.elim | skip
    obtain ⟨p, vs, e, hp, r⟩ := h1
    obtain ⟨q, us, e2, hq, t⟩ := h2
    obtain ⟨g1, g2, g3⟩ := g
    refine .inr (.inr (.inr ⟨p, q, vs, us, e, e2, hp.sq s, hq.sq s, fun z => ?_, by rw [r.length, t.length]; exact g2, fun z => ?_, fun z l hl => ?_⟩))
    · have := r.length
      rw [z] at this
      simp at this
      exact g1 (List.eq_nil_of_length_eq_zero this.symm)
    · subst z
      have hn := t.length
      simp at hn
      have hn := List.eq_nil_of_length_eq_zero hn.symm
      subst hn
      rw [List.append_nil] at g3
      exact w _ _ _ _ (.old (show Rep K F (.tup _) _ from ⟨p, vs, rfl, hp, r⟩)) g3
    · exact w _ _ _ _ (.tup hl (r.append t)) g3
  · cases b <;> first | exact g.elim | skip
    obtain ⟨p, vs, e, hp, r⟩ := h1
    obtain ⟨q, us, e2, hq, t⟩ := h2
    exact .inr (.inr (.inl ⟨p, q, vs, us, e, e2, hp, hq, by rw [r.length, t.length]; exact g.1, fun l hl => w _ _ _ _ (.lst hl (r.append t)) g.2⟩))
end
end VL

namespace VL
open PySem PySem.Spec PyProof.Rows L2

section
variable {X : Cx} {e a b c : Expr} {es rest : List Expr} {pos p : Pos} {K : Fg}

/-! ### ints, further -/
def FdOk (_ j : Int) : Prop := j ≠ 0
def MdOk (_ j : Int) : Prop := j ≠ 0
theorem op_modV : OpR X (binaryOp .Mod) (rI MdOk fun i j => .int (i.fmod j)) := op_modN
/-- two factors of together less than 134 million bits -/
def MulOk (i j : Int) : Prop := i.natAbs.log2 + j.natAbs.log2 < 134000000
theorem MulOk.ok {i j : Int} (h : MulOk i j) : IntMulOk i j := by
  have b : ∀ x : Int, Builtin.Int.intBits x ≤ x.natAbs.log2 + 1 := fun x => by
    unfold Builtin.Int.intBits
    split <;> omega
  have h1 := b i
  have h2 := b j
  have h3 : i.natAbs.log2 + j.natAbs.log2 < 134000000 := h
  have e : bitsLine = 134217728 := by decide
  unfold IntMulOk
  intro z
  rw [Bool.and_eq_true] at z
  have z2 := z.2
  unfold Builtin.Int.intTooBig at z2
  have z3 := of_decide_eq_true z2
  rw [e] at z3
  omega
theorem op_mulV : OpR X (binaryOp .Mult) (rI MulOk fun i j => .int (i * j)) := opI fun _ _ _ _ _ _ _ hc q => mul_int q hc.ok
theorem opBI {f : Value → Value → Sem Value} {g : Bool → Int → Int} (h : ∀ (a : Bool) (b : Int) (u : Tok) (s : Shared) (Q : Value → Shared → Prop), Q (.int (g a b) s.toks) { s with toks := s.toks + 1 } → wpAny (model X.prog X.w) X.A (f (.bool a) (.int b u)) Q X.xe s) :
    OpR X f (fun x y H Q => ∃ k i, x = .bl k ∧ y = .int i ∧ Q (.int (g k i)) H) := by
  intro pins s σ H x y v u Q I rx ry hq
  obtain ⟨k, i, rfl, rfl, q⟩ := hq
  cases rx
  obtain ⟨t, rfl⟩ := ry
  exact h _ _ _ _ _ ⟨.int _, H, I.tok _, ⟨_, rfl⟩, q⟩
theorem opIB {f : Value → Value → Sem Value} {g : Int → Bool → Int} (h : ∀ (a : Int) (b : Bool) (t : Tok) (s : Shared) (Q : Value → Shared → Prop), Q (.int (g a b) s.toks) { s with toks := s.toks + 1 } → wpAny (model X.prog X.w) X.A (f (.int a t) (.bool b)) Q X.xe s) :
    OpR X f (fun x y H Q => ∃ i k, x = .int i ∧ y = .bl k ∧ Q (.int (g i k)) H) := by
  intro pins s σ H x y v u Q I rx ry hq
  obtain ⟨i, k, rfl, rfl, q⟩ := hq
  obtain ⟨t, rfl⟩ := rx
  cases ry
  exact h _ _ _ _ _ ⟨.int _, H, I.tok _, ⟨_, rfl⟩, q⟩
def rBI (g : Bool → Int → Int) : R2 := fun x y H Q => ∃ k i, x = .bl k ∧ y = .int i ∧ Q (.int (g k i)) H
def rIB (g : Int → Bool → Int) : R2 := fun x y H Q => ∃ i k, x = .int i ∧ y = .bl k ∧ Q (.int (g i k)) H
def rOr2 (r r' : R2) : R2 := fun x y H Q => r x y H Q ∨ r' x y H Q
def bi (k : Bool) : Int := if k = true then 1 else 0
def tSubV : R2 := rOr2 (rI0 fun i j => .int (i - j)) (rOr2 (rBI fun k i => bi k - i) (rIB fun i k => i - bi k))
theorem op_subV : OpR X (binaryOp .Sub) tSubV := op_sub.or ((opBI fun a b u s Q h => PySem.IntBool.sub_bool_int h).or (opIB fun a b t s Q h => PySem.IntBool.sub_int_bool h))
def gSub : G2 := fun a b R => match a, b with
  | .int i, .int j => R (.int (i - j)) 0
  | .bl k, .int j => R (.int (bi k - j)) 0
  | .int i, .bl k => R (.int (i - bi k)) 0
  | _, _ => False
theorem lk_sub : Lk2 K tSubV gSub := fun F H a b x y R Q' s h1 h2 g w => by
  cases a with
  | int i =>
    cases b with
    | int j => exact .inl ⟨_, _, h1, h2, w _ _ _ _ .int g⟩
    | bl j => exact .inr (.inr ⟨_, _, h1, h2, w _ _ _ _ .int g⟩)
    | _ => exact g.elim
  | bl i =>
    cases b with
    | int j => exact .inr (.inl ⟨_, _, h1, h2, w _ _ _ _ .int g⟩)
    | _ => exact g.elim
  | _ => cases b <;> exact g.elim
def tMulV : R2 := rOr2 (rI MulOk fun i j => .int (i * j)) (rOr2 (rBI fun k i => bi k * i) (rIB fun i k => i * bi k))
theorem op_mulV2 : OpR X (binaryOp .Mult) tMulV := op_mulV.or ((opBI fun a b u s Q h => PySem.IntBool.mul_bool_int h).or (opIB fun a b t s Q h => PySem.IntBool.mul_int_bool h))
def gMul : G2 := fun a b R => match a, b with
  | .int i, .int j => MulOk i j ∧ R (.int (i * j)) 0
  | .bl k, .int j => R (.int (bi k * j)) 0
  | .int i, .bl k => R (.int (i * bi k)) 0
  | _, _ => False
theorem lk_mul : Lk2 K tMulV gMul := fun F H a b x y R Q' s h1 h2 g w => by
  cases a with
  | int i =>
    cases b with
    | int j => exact .inl ⟨_, _, h1, h2, g.1, w _ _ _ _ .int g.2⟩
    | bl j => exact .inr (.inr ⟨_, _, h1, h2, w _ _ _ _ .int g⟩)
    | _ => exact g.elim
  | bl i =>
    cases b with
    | int j => exact .inr (.inl ⟨_, _, h1, h2, w _ _ _ _ .int g⟩)
    | _ => exact g.elim
  | _ => cases b <;> exact g.elim
def tAddV (K : Fg) : R2 := rOr2 (tAddAll K) (rOr2 (rBI fun k i => bi k + i) (rIB fun i k => i + bi k))
theorem op_addV : OpR X (binaryOp .Add) (tAddV X.K) := op_addAll.or ((opBI fun a b u s Q h => PySem.IntBool.add_bool_int h).or (opIB fun a b t s Q h => add_int_bool h))
/-- + with bools too -/
def gAddV : G2 := fun a b R => match a, b with
  | .int i, .int j => R (.int (i + j)) 0
  | .str x, .str y => x.length + y.length ≤ sizeLine ∧ R (.str (x ++ y)) 0
  | .lst xs, .lst ys => xs.length + ys.length ≤ sizeLine ∧ R (.lst (xs ++ ys)) 1
  | .tup xs, .tup ys => xs ≠ [] ∧ xs.length + ys.length ≤ sizeLine ∧ R (.tup (xs ++ ys)) 0
  | .bl k, .int j => R (.int (bi k + j)) 0
  | .int i, .bl k => R (.int (i + bi k)) 0
  | _, _ => False
theorem lk_addV : Lk2 K (tAddV K) gAddV := fun F H a b x y R Q' s h1 h2 g w => by
  cases a with
  | int i =>
    cases b with
    | int j => exact .inl (lk_add F H (.int i) (.int j) x y R Q' s h1 h2 g w)
    | bl j => exact .inr (.inr ⟨_, _, h1, h2, w _ _ _ _ .int g⟩)
    | _ => exact g.elim
  | bl i =>
    cases b with
    | int j => exact .inr (.inl ⟨_, _, h1, h2, w _ _ _ _ .int g⟩)
    | _ => exact g.elim
  | str i =>
    cases b with
    | str j => exact .inl (lk_add F H (.str i) (.str j) x y R Q' s h1 h2 g w)
    | _ => exact g.elim
  | lst i =>
    cases b with
    | lst j => exact .inl (lk_add F H (.lst i) (.lst j) x y R Q' s h1 h2 g w)
    | _ => exact g.elim
  | tup i =>
    cases b with
    | tup j => exact .inl (lk_add F H (.tup i) (.tup j) x y R Q' s h1 h2 g w)
    | _ => exact g.elim
  | _ => cases b <;> exact g.elim
def gFd : G2 := fun a b R => match a, b with
  | .int i, .int j => FdOk i j ∧ R (.int (i.fdiv j)) 0
  | _, _ => False
def gMd : G2 := fun a b R => match a, b with
  | .int i, .int j => j ≠ 0 ∧ R (.int (i.fmod j)) 0
  | _, _ => False
def gPow : G2 := fun a b R => match a, b with
  | .int i, .int j => CPow i j ∧ R (.int (i ^ j.toNat)) 0
  | _, _ => False
theorem lk_fd : Lk2 K (rI FdOk fun i j => .int (i.fdiv j)) gFd := lk_int
theorem lk_md : Lk2 K (rI MdOk fun i j => .int (i.fmod j)) gMd := lk_int
theorem lk_pow : Lk2 K (rI CPow fun i j => .int (i ^ j.toNat)) gPow := lk_int
theorem ve_add {ra rb : RO} (ha : VO X a ra) (hb : VO X b rb) : VE X (.BinOp a .Add b pos) (rOp2 gAddV ra rb) := ve_op op_addV lk_addV ha hb
theorem ve_sub {ra rb : RO} (ha : VO X a ra) (hb : VO X b rb) : VE X (.BinOp a .Sub b pos) (rOp2 gSub ra rb) := ve_op op_subV lk_sub ha hb
theorem ve_mul {ra rb : RO} (ha : VO X a ra) (hb : VO X b rb) : VE X (.BinOp a .Mult b pos) (rOp2 gMul ra rb) := ve_op op_mulV2 lk_mul ha hb
theorem ve_md {ra rb : RO} (ha : VO X a ra) (hb : VO X b rb) : VE X (.BinOp a .Mod b pos) (rOp2 gMd ra rb) := ve_op op_modV lk_md ha hb
theorem ve_pow {ra rb : RO} (ha : VO X a ra) (hb : VO X b rb) : VE X (.BinOp a .Pow b pos) (rOp2 gPow ra rb) := ve_op op_pow lk_pow ha hb
/-- one operand by its value -/
def rNeg (r : RE) : RE := fun ρ Q => r ρ fun d _ ρ1 => match d with | .int i => Q (.int (-i)) 0 ρ1 | _ => False
theorem ve_neg {r : RE} (h : VE X a r) : VE X (.UnaryOp .USub a pos) (rNeg r) := by
  refine PE.weak (pe_un un_neg h) ?_
  rintro σ H Q' ⟨S, F, ρ, tmp, Q, h, hr, w⟩
  refine tV.mk h hr fun v H' q => ?_
  obtain ⟨F', ρ', d, k, s, h, r, q⟩ := q.fz
  cases d <;> first | exact q.elim | skip
  exact ⟨_, r, w _ _ (VPost.of (d := .int _) s h rfl q)⟩

/-! ### comparisons as values and as tests -/
def rTb (r : RE) : RT := fun ρ Q => r ρ fun d _ ρ1 => match d with | .bl c => Q c ρ1 | _ => False
theorem vt_of {r : RE} {t : TE} (h : PT X e (tB t)) (ht : ∀ σ H Q, tV X.K r σ H Q → t σ H Q) : VT X e (rTb r) := by
  refine PT.weak h ?_
  rintro σ H Q' ⟨S, F, ρ, tmp, Q, h, hr, w⟩
  refine ht _ _ _ (tV.mk h hr fun v H' q => ?_)
  obtain ⟨F', ρ', d, k, s, h, r, q⟩ := q.fz
  cases d <;> first | exact q.elim | skip
  exact ⟨_, r, w _ _ ⟨F', ρ', s, h, q⟩⟩
theorem vt_val {r : RE} (h : VE X e r) (he : ∀ whole, isTrue e X.env whole = (do let v ← whole; standAt e.pos; holding [v] (truthy v)) := by intro _; rfl) : VT X e (rTb r) := vt_of (pt_val h he) fun _ _ _ q => q
theorem vt_cmp {op : CmpOp} {t : R2} {g : G2} {ra rb : RO} (ho : OpR X (compareOp op) t) (lk : Lk2 X.K t g) (ha : VO X a ra) (hb : VO X b rb) (hm : behindInMarks op b = false) : VT X (.Compare a [op] [b] pos) (rTb (rOp2 g ra rb)) :=
  vt_of (t := tOp t (tVO X.K ra) (tVO X.K rb)) (pt_cmpR ho ha hb hm) fun σ H Q q => tOp.of lk σ H Q q
def rNot (r : RT) : RT := fun ρ Q => r ρ fun c ρ1 => Q (!c) ρ1
theorem vt_not {r : RT} (h : VT X a r) : VT X (.UnaryOp .Not a pos) (rNot r) := by
  refine PT.weak (pt_not h) ?_
  rintro σ H Q' ⟨S, F, ρ, tmp, Q, h, hr, w⟩
  exact tVT.mk h hr fun c H' ⟨F', ρ', s, h, q⟩ => w _ _ ⟨F', ρ', s, h, q⟩
/-- a test's two ways -/
def way (c : Bool) (A B : Prop) : Prop := (c = true → A) ∧ (c = false → B)
theorem way.if {c : Bool} {A B : Prop} (h : way c A B) : if c = true then A else B := by
  cases c with
  | true => exact h.1 rfl
  | false => exact h.2 rfl
def rAnd (r u : RT) : RT := fun ρ Q => r ρ fun c ρ1 => way c (u ρ1 Q) (Q false ρ1)
def rOr (r u : RT) : RT := fun ρ Q => r ρ fun c ρ1 => way c (Q true ρ1) (u ρ1 Q)
theorem vw_and1 {r : RT} (h : VT X a r) : VW X (.BoolOp .And [a] pos) r := pw_and1 h
theorem vw_or1 {r : RT} (h : VT X a r) : VW X (.BoolOp .Or [a] pos) r := pw_or1 h
theorem vw_and {r u : RT} (ha : VT X a r) (hb : VW X (.BoolOp .And (b :: rest) pos) u) : VW X (.BoolOp .And (a :: b :: rest) pos) (rAnd r u) := by
  refine PW.weak (pw_and ha hb) ?_
  rintro σ H Q' ⟨S, F, ρ, tmp, Q, h, hr, w⟩
  refine tVT.mk h hr fun c H1 ⟨F1, ρ1, s1, h1, q1⟩ => way.if ⟨fun e => ?_, fun e => ?_⟩
  · exact tVT.mk h1 (q1.1 e) fun c H2 q2 => w _ _ (q2.from s1)
  · exact w _ _ ⟨F1, ρ1, s1, h1, q1.2 e⟩
theorem vw_or {r u : RT} (ha : VT X a r) (hb : VW X (.BoolOp .Or (b :: rest) pos) u) : VW X (.BoolOp .Or (a :: b :: rest) pos) (rOr r u) := by
  refine PW.weak (pw_or ha hb) ?_
  rintro σ H Q' ⟨S, F, ρ, tmp, Q, h, hr, w⟩
  refine tVT.mk h hr fun c H1 ⟨F1, ρ1, s1, h1, q1⟩ => way.if ⟨fun e => ?_, fun e => ?_⟩
  · exact w _ _ ⟨F1, ρ1, s1, h1, q1.1 e⟩
  · exact tVT.mk h1 (q1.2 e) fun c H2 q2 => w _ _ (q2.from s1)
theorem vt_w {r : RT} (h : VW X e r) : VT X e r := PW.pt h
/-- .. as values (bools) -/
def rAndV (ra rb : RE) : RE := fun ρ Q => ra ρ fun d _ ρ1 => match d with | .bl c => way c (rb ρ1 fun d2 _ ρ2 => Q d2 0 ρ2) (Q (.bl false) 0 ρ1) | _ => False
theorem ve_one {op} {r : RE} (h : VE X a r) : VE X (.BoolOp op [a] pos) r := pe_one h
theorem ve_and {ra rb : RE} (ha : VE X a ra) (hb : VE X (.BoolOp .And (b :: rest) pos) rb) : VE X (.BoolOp .And (a :: b :: rest) pos) (rAndV ra rb) := by
  refine PE.weak (pe_and ha hb) ?_
  rintro σ H Q' ⟨S, F, ρ, tmp, Q, h, hr, w⟩
  refine tV.mk h hr fun v H1 q => ?_
  obtain ⟨F1, ρ1, d, k, s1, h1, r1, q1⟩ := q.fz
  cases d <;> first | exact q1.elim | skip
  refine ⟨_, r1, way.if ⟨fun e => ?_, fun e => ?_⟩⟩
  · refine tV.mk h1 (q1.1 e) fun v2 H2 q2 => ?_
    obtain ⟨F2, ρ2, d2, k2, s2, h2, r2, q2⟩ := q2.fz
    exact w _ _ (VPost.of (s1.trans s2) h2 r2 q2)
  · exact w _ _ (VPost.of (d := .bl false) s1 h1 rfl (q1.2 e))
def rNotV (ra : RE) : RE := fun ρ Q => ra ρ fun d _ ρ1 => match d with | .bl c => Q (.bl (!c)) 0 ρ1 | _ => False
theorem ve_not {ra : RE} (ha : VE X a ra) : VE X (.UnaryOp .Not a pos) (rNotV ra) := by
  refine PE.weak (pe_not ha) ?_
  rintro σ H Q' ⟨S, F, ρ, tmp, Q, h, hr, w⟩
  refine tV.mk h hr fun v H1 q => ?_
  obtain ⟨F1, ρ1, d, k, s1, h1, r1, q1⟩ := q.fz
  cases d <;> first | exact q1.elim | skip
  exact ⟨_, r1, w _ _ (VPost.of (d := .bl _) s1 h1 rfl q1)⟩
/-- a if t else b -/
def rIfE (t : RT) (ra rb : RE) : RE := fun ρ Q => t ρ fun c ρ1 => way c (ra ρ1 Q) (rb ρ1 Q)
theorem ve_if {t : RT} {ra rb : RE} (hc : VT X c t) (ha : VE X a ra) (hb : VE X b rb) : VE X (.IfExp c a b pos) (rIfE t ra rb) := by
  refine PE.weak (pe_ifExp hc ha hb) ?_
  rintro σ H Q' ⟨S, F, ρ, tmp, Q, h, hr, w⟩
  refine tVT.mk h hr fun d H1 ⟨F1, ρ1, s1, h1, q1⟩ => way.if ⟨fun e => ?_, fun e => ?_⟩
  · exact tV.mk h1 (q1.1 e) fun v H2 q2 => w _ _ (q2.from s1)
  · exact tV.mk h1 (q1.2 e) fun v H2 q2 => w _ _ (q2.from s1)
/-- a < b < c, over ints -/
def rChain (f f' : Int → Int → Bool) (ra rb rc : RE) : RE := fun ρ Q => ra ρ fun d1 _ ρ1 => rb ρ1 fun d2 _ ρ2 => match d1, d2 with
  | .int i, .int j => way (f i j) (rc ρ2 fun d3 _ ρ3 => match d3 with | .int k => Q (.bl (f' j k)) 0 ρ3 | _ => False) (Q (.bl false) 0 ρ2)
  | _, _ => False
theorem tChain.of {f f' : Int → Int → Bool} {ra rb rc : RE} (σ : L2.St) (H : Hp) (Q' : VK) (h : tV K (rChain f f' ra rb rc) σ H Q') :
    tChain (rI0 fun i j => .bl (f i j)) (rI0 fun i j => .bl (f' i j)) (tV K ra) (tV K rb) (tV K rc) σ H Q' := by
  obtain ⟨S, F, ρ, tmp, Q, h, hr, w⟩ := h
  refine tV.mk h hr fun v H1 q => ?_
  obtain ⟨F1, ρ1, d1, k, s1, h1, r1, q1⟩ := q.fz
  refine tV.mk h1 q1 fun v2 H2 q2 => ?_
  obtain ⟨F2, ρ2, d2, k2, s2, h2, r2, q2⟩ := q2.fz
  cases d1 <;> first | exact q2.elim | skip
  cases d2 <;> first | exact q2.elim | skip
  refine ⟨_, _, r1, r2, _, rfl, way.if ⟨fun e => ?_, fun e => ?_⟩⟩
  · refine tV.mk h2 (q2.1 e) fun v3 H3 q3 => ?_
    obtain ⟨F3, ρ3, d3, k3, s3, h3, r3, q3⟩ := q3.fz
    cases d3 <;> first | exact q3.elim | skip
    exact ⟨_, _, r2, r3, w _ _ (VPost.of (d := .bl _) ((s1.trans s2).trans s3) h3 rfl q3)⟩
  · exact w _ _ (VPost.of (d := .bl false) (s1.trans s2) h2 rfl (q2.2 e))
end
end VL

namespace VL
open PySem PySem.Spec PyProof.Rows L2

section
variable {X : Cx} {e a b c : Expr} {es rest : List Expr} {pos p : Pos} {K : Fg} {S : Frm} {F F' F1 H H' : Hp} {σ : L2.St} {ρ ρ' : Ev} {tmp : List (Addr × HO)}

/-! ### frozen values in a row; displays -/
abbrev RF := Ev → (List D → Ev → Prop) → Prop
def LPost (K : Fg) (S : Frm) (F : Hp) (σ : L2.St) (tmp : List (Addr × HO)) (Q : List D → Ev → Prop) : List V → Hp → Prop := fun vs H' => ∃ F' ρ' ds, Same F F' ∧ SR K S F' H' σ ρ' tmp ∧ Reps K F' ds vs ∧ Q ds ρ'
def tVF (K : Fg) (r : RF) : TA := fun σ H Q' => ∃ S F ρ tmp Q, SR K S F H σ ρ tmp ∧ r ρ Q ∧ ∀ vs H', LPost K S F σ tmp Q vs H' → Q' vs H'
def VF (X : Cx) (es : List Expr) (r : RF) : Prop := PA X es (tVF X.K r)
theorem tVF.mk {r : RF} {Q : List D → Ev → Prop} {Q' : List V → Hp → Prop} (h : SR K S F H σ ρ tmp) (hr : r ρ Q) (w : ∀ v H', LPost K S F σ tmp Q v H' → Q' v H') : tVF K r σ H Q' := ⟨S, F, ρ, tmp, Q, h, hr, w⟩
def rfNil : RF := fun ρ Q => Q [] ρ
def rfCons (ra : RE) (r : RF) : RF := fun ρ Q => ra ρ fun d _ ρ1 => r ρ1 fun ds ρ2 => Q (d :: ds) ρ2
theorem vf_nil : VF X [] rfNil := by
  refine PA.weak pa_nil ?_
  rintro σ H Q' ⟨S, F, ρ, tmp, Q, h, hr, w⟩
  exact w _ _ ⟨F, ρ, [], Same.refl F, h, rfl, hr⟩
theorem vf_cons {ra : RE} {r : RF} (ha : VE X e ra) (hr : VF X es r) (hs : starEach (e :: es) X.env = (false, eval e X.env) :: starEach es X.env := by rfl) : VF X (e :: es) (rfCons ra r) := by
  refine PA.weak (pa_cons ha hr hs) ?_
  rintro σ H Q' ⟨S, F, ρ, tmp, Q, h, hr, w⟩
  refine tV.mk h hr fun v H1 q => ?_
  obtain ⟨F1, ρ1, d, k, s1, h1, v1, q1⟩ := q.fz
  refine tVF.mk h1 q1 fun vs H2 ⟨F2, ρ2, ds, s2, h2, v2, q2⟩ => ?_
  exact w _ _ ⟨F2, ρ2, d :: ds, s1.trans s2, h2, ⟨v, vs, rfl, Rep.mono s2 d v v1, v2⟩, q2⟩
theorem short_line {n : Nat} (h : n ≤ 1000) : n ≤ sizeLine := Nat.le_of_lt (small1000 h)
/-- few enough (by rfl) -/
def few (ds : List D) : Bool := Nat.ble ds.length 1000
theorem few.line {ds : List D} (h : few ds = true) : ds.length ≤ sizeLine := short_line (Nat.le_of_ble_eq_true h)
def rTup1 (r : RF) : RE := fun ρ Q => r ρ fun ds ρ1 => few ds = true ∧ Q (.tup ds) 0 ρ1
def rLst1 (r : RF) : RE := fun ρ Q => r ρ fun ds ρ1 => few ds = true ∧ Q (.lst ds) 1 ρ1
theorem ve_tup {x1} {r : RF} (h : VF X es r) : VE X (.Tuple es x1 pos) (rTup1 r) := by
  refine PE.weak (pe_tup h) ?_
  rintro σ H Q' ⟨S, F, ρ, tmp, Q, h, hr, w⟩
  refine tVF.mk h hr fun vs H1 ⟨F1, ρ1, ds, s1, h1, v1, q1⟩ => ⟨by rw [v1.length]; exact few.line q1.1, fun p hp => ?_⟩
  exact w _ _ ((Res.post h1 (.tup hp v1) q1.2).from s1)
theorem ve_lst {r : RF} (h : VF X es r) : VE X (.List es pos) (rLst1 r) := by
  refine PE.weak (pe_lst h) ?_
  rintro σ H Q' ⟨S, F, ρ, tmp, Q, h, hr, w⟩
  refine tVF.mk h hr fun vs H1 ⟨F1, ρ1, ds, s1, h1, v1, q1⟩ => ⟨by rw [v1.length]; exact few.line q1.1, fun p hp => ?_⟩
  exact w _ _ ((Res.post h1 (.lst hp v1) q1.2).from s1)

/-! ### items -/
theorem atI_reps {ds : List D} {vs : List V} {i : Int} {d : D} (r : Reps K F ds vs) (h : atI ds i = some d) : ∃ v, atI vs i = some v ∧ Rep K F d v := by
  unfold atI at h ⊢
  rw [r.length]
  cases q : ixN ds.length i with
  | none => rw [q] at h; cases h
  | some j =>
    rw [q] at h
    exact r.get h
def gIx : G2 := fun a i R => match i with
  | .int i => match a with
    | .lst ds => ∃ d, atI ds i = some d ∧ R d 0
    | .tup ds => ∃ d, atI ds i = some d ∧ R d 0
    | .scr ns => ∃ n, atI ns i = some n ∧ R (.int n) 0
    | _ => False
  | _ => False
theorem atI_map {α β : Type} {f : α → β} {xs : List α} {i : Int} {x : α} (h : atI xs i = some x) : atI (xs.map f) i = some (f x) := by
  unfold atI at h ⊢
  rw [List.length_map]
  cases q : ixN xs.length i with
  | none => rw [q] at h; cases h
  | some j =>
    rw [q] at h
    have h' : xs[j]? = some x := h
    show (xs.map f)[j]? = some (f x)
    rw [List.getElem?_map, h']
    rfl
theorem lk_ix : Lk2 K (rIx K) gIx := fun F H d1 d2 x y R Q' s h1 h2 g w => by
  cases d2 <;> first | exact g.elim | skip
  cases d1 <;> first | exact g.elim | skip
  · obtain ⟨n, e, g⟩ := g
    obtain ⟨p, e1, h1⟩ := h1
    exact .inl ⟨p, _, _, _, e1, h2, h1, atI_map e, w _ _ _ _ .int g⟩
  · obtain ⟨d, e, g⟩ := g
    obtain ⟨p, vs, e1, h1, r⟩ := h1
    obtain ⟨v, e3, rv⟩ := atI_reps r e
    exact .inr (.inl ⟨p, _, _, _, e1, h2, h1.sq s, e3, w _ _ _ _ (.old rv) g⟩)
  · obtain ⟨d, e, g⟩ := g
    obtain ⟨p, vs, e1, h1, r⟩ := h1
    obtain ⟨v, e3, rv⟩ := atI_reps r e
    exact .inl ⟨p, _, _, _, e1, h2, .inl (.inl h1), e3, w _ _ _ _ (.old rv) g⟩
theorem ve_at {ra rb : RO} (ha : VO X a ra) (hb : VO X b rb) (hs : PlainIx b := by exact fun _ _ => rfl) : VE X (.Subscript a b pos) (rOp2 gIx ra rb) := ve_ix ix_seq lk_ix ha hb hs

/-! ### slices -/
def cutL (xs : List D) (lo hi : Option Int) : List D := (xs.drop (HT.sIx xs.length 0 lo)).take (HT.sIx xs.length xs.length hi - HT.sIx xs.length 0 lo)
theorem cutL_reps {ds : List D} {vs : List V} {lo hi : Option Int} (r : Reps K F ds vs) : Reps K F (cutL ds lo hi) (cutV vs lo hi) := by
  unfold cutL cutV
  rw [r.length]
  exact (r.drop _).take _
abbrev RP := Ev → (Option Int → Ev → Prop) → Prop
def PPost (K : Fg) (S : Frm) (F : Hp) (σ : L2.St) (tmp : List (Addr × HO)) (Q : Option Int → Ev → Prop) : Option Int → Hp → Prop := fun i H' => ∃ F' ρ', Same F F' ∧ SR K S F' H' σ ρ' tmp ∧ Q i ρ'
def tVP (K : Fg) (r : RP) : TO := fun σ H Q' => ∃ S F ρ tmp Q, SR K S F H σ ρ tmp ∧ r ρ Q ∧ ∀ i H', PPost K S F σ tmp Q i H' → Q' i H'
def VP (X : Cx) (e : Option Expr) (r : RP) : Prop := PO X e (tVP X.K r)
theorem PO.weak {lo : Option Expr} {t t' : TO} (h : PO X lo t) (w : ∀ σ H Q, t' σ H Q → t σ H Q) : PO X lo t' := ⟨fun pins s σ H Q I q => h.run pins s σ H Q I (w _ _ _ q)⟩
def rpNone : RP := fun ρ Q => Q none ρ
def rpSome (r : RE) : RP := fun ρ Q => r ρ fun d _ ρ1 => match d with | .int i => Q (some i) ρ1 | _ => False
theorem vp_none : VP X none rpNone := by
  refine PO.weak po_none ?_
  rintro σ H Q' ⟨S, F, ρ, tmp, Q, h, hr, w⟩
  exact w _ _ ⟨F, ρ, Same.refl F, h, hr⟩
theorem vp_some {r : RE} (h : VE X e r) : VP X (some e) (rpSome r) := by
  refine PO.weak (po_some h) ?_
  rintro σ H Q' ⟨S, F, ρ, tmp, Q, h, hr, w⟩
  refine tV.mk h hr fun v H1 q => ?_
  obtain ⟨F1, ρ1, d, k, s1, h1, v1, q1⟩ := q.fz
  cases d <;> first | exact q1.elim | skip
  exact ⟨_, v1, w _ _ ⟨F1, ρ1, s1, h1, q1⟩⟩
/-! ### built-ins by their names -/
abbrev GN := List D → (D → Nat → Prop) → Prop
def opDs (ρ : Ev) : List Op → Option (List D)
  | [] => some []
  | o :: os => match opD ρ o, opDs ρ os with
    | some d, some ds => some (d :: ds)
    | _, _ => none
def Shals (K : Fg) (F H : Hp) : List D → List V → Prop
  | [], vs => vs = []
  | d :: ds, vs => ∃ v r, vs = v :: r ∧ Shal K F H d v ∧ Shals K F H ds r
theorem SR.ops (h : SR K S F H σ ρ tmp) : ∀ {os : List Op} {vs : List V} {ds : List D}, OpVs K F σ os vs → opDs ρ os = some ds → Shals K F H ds vs
  | [], vs, ds, hv, e => by cases e; exact hv
  | o :: os, vs, ds, ⟨v, r, e1, h1, t⟩, e => by
    unfold opDs at e
    split at e
    · rename_i d ds' e2 e3
      cases e
      exact ⟨v, r, e1, h.op h1 e2, h.ops t e3⟩
    · cases e
def rCB (g : GN) (ra : RA) : RE := fun ρ Q => ra ρ fun os ρ1 => ∃ ds, opDs ρ1 os = some ds ∧ g ds fun d k => Q d k ρ1
def LkN (K : Fg) (t : List V → Hp → VK → Prop) (g : GN) : Prop := ∀ (F H : Hp) (ds : List D) (vs : List V) (R : D → Nat → Prop) (Q' : VK), Same F H → Shals K F H ds vs → g ds R → (∀ d k v H', Res K F H d k v H' → R d k → Q' v H') → t vs H Q'
theorem tCB.of {t : List V → Hp → VK → Prop} {g : GN} {ra : RA} (lk : LkN K t g) (σ : L2.St) (H : Hp) (Q' : VK) (h : tV K (rCB g ra) σ H Q') : tCB t (tVA K ra) σ H Q' := by
  obtain ⟨S, F, ρ, tmp, Q, h, hr, w⟩ := h
  refine tVA.mk h hr fun vs H1 ⟨F1, ρ1, os, s1, h1, v1, ds, e1, q1⟩ => ?_
  refine lk F1 H1 ds vs _ _ ?_ (h1.ops v1 e1) q1 fun d k v H' rs q => w _ _ ((Res.post h1 rs q).from s1)
  obtain ⟨_, h1⟩ := h1; exact h1.sub
theorem ve_cb {x : Str} {id : String} {t : List V → Hp → VK → Prop} {g : GN} {ra : RA} (hc : CallR X (.builtin id) t) (lk : LkN X.K t g) (hg : Gl X x) (hm : X.mg x = none) (hv : bootBuiltins x = some (.builtin id)) (ha : VA X (e :: es) ra) (hn : x ≠ "__name__" := by decide) (hdb : (x == ("__debug__" : Str)) = false := by decide)
    (he : starEach (e :: es) X.env = (false, eval e X.env) :: starEach es X.env := by rfl) (hpl : (backTo pos (starEach es X.env)).any (·.1) = false := by rfl) : VE X (.Call (.Name x p) (e :: es) [] pos) (rCB g ra) :=
  PE.weak (pe_callB hc hg hm hv ha hn hdb he hpl) fun σ H Q q => tCB.of lk σ H Q q
theorem ve_ct {x : Str} {T : String} {t : List V → Hp → VK → Prop} {g : GN} {ra : RA} (hc : CallR X (.type T) t) (lk : LkN X.K t g) (hg : Gl X x) (hm : X.mg x = none) (hv : bootBuiltins x = some (.type T)) (ha : VA X (e :: es) ra) (hn : x ≠ "__name__" := by decide) (hdb : (x == ("__debug__" : Str)) = false := by decide)
    (he : starEach (e :: es) X.env = (false, eval e X.env) :: starEach es X.env := by rfl) (hpl : (backTo pos (starEach es X.env)).any (·.1) = false := by rfl) : VE X (.Call (.Name x p) (e :: es) [] pos) (rCB g ra) :=
  PE.weak (pe_callTy hc hg hm hv ha hn hdb he hpl) fun σ H Q q => tCB.of lk σ H Q q
theorem Shals.one {d : D} {vs : List V} (h : Shals K F H [d] vs) : ∃ v, vs = [v] ∧ Shal K F H d v := by
  obtain ⟨v, r, e, h, t⟩ := h
  cases t
  exact ⟨v, e, h⟩
theorem Shals.two {d d2 : D} {vs : List V} (h : Shals K F H [d, d2] vs) : ∃ v u, vs = [v, u] ∧ Shal K F H d v ∧ Shal K F H d2 u := by
  obtain ⟨v, r, e, h, t⟩ := h
  obtain ⟨u, e2, h2⟩ := Shals.one t
  subst e2
  exact ⟨v, u, e, h, h2⟩
/-- one operand, two -/
def g1 (f : D → (D → Nat → Prop) → Prop) : GN := fun ds R => match ds with
  | [d] => f d R
  | _ => False
def g2 (f : D → D → (D → Nat → Prop) → Prop) : GN := fun ds R => match ds with
  | [d, e] => f d e R
  | _ => False
theorem g1.of {f : D → (D → Nat → Prop) → Prop} {ds : List D} {R : D → Nat → Prop} (g : g1 f ds R) : ∃ d, ds = [d] ∧ f d R := by
  cases ds with
  | nil => exact g.elim
  | cons d r =>
    cases r with
    | nil => exact ⟨d, rfl, g⟩
    | cons _ _ => exact g.elim
theorem g2.of {f : D → D → (D → Nat → Prop) → Prop} {ds : List D} {R : D → Nat → Prop} (g : g2 f ds R) : ∃ d e, ds = [d, e] ∧ f d e R := by
  cases ds with
  | nil => exact g.elim
  | cons d r =>
    cases r with
    | nil => exact g.elim
    | cons e r =>
      cases r with
      | nil => exact ⟨d, e, rfl, g⟩
      | cons _ _ => exact g.elim
/-- len -/
def gLen : GN := g1 fun d R => match d with
  | .lst xs => R (.int xs.length) 0
  | .tup xs => R (.int xs.length) 0
  | .scr xs => R (.int xs.length) 0
  | .str x => x.length ≤ sizeLine ∧ R (.int x.length) 0
  | _ => False
theorem call_lenV : CallR X (.builtin "len") (fun xs H Q => (∃ p ys, xs = [.ref p] ∧ (SqL X.K H p ys ∨ SqT X.K H p ys) ∧ Q (.int ys.length) H) ∨ (∃ z, xs = [.str z] ∧ z.length ≤ sizeLine ∧ Q (.int z.length) H)) := call_len_seq.or call_len_str
theorem lk_len : LkN K (fun xs H Q => (∃ p ys, xs = [.ref p] ∧ (SqL K H p ys ∨ SqT K H p ys) ∧ Q (.int ys.length) H) ∨ (∃ z, xs = [.str z] ∧ z.length ≤ sizeLine ∧ Q (.int z.length) H)) gLen := fun F H ds vs R Q' s h g w => by
  obtain ⟨d, e0, g⟩ := g.of
  subst e0
  cases d with
  | str x =>
    obtain ⟨v, e, h2⟩ := h.one
    cases h2
    exact .inr ⟨_, e, g.1, w _ _ _ _ .int g.2⟩
  | scr xs =>
    obtain ⟨v, e, p, e2, h2⟩ := h.one
    subst e2
    exact .inl ⟨p, _, e, .inl h2, by rw [List.length_map]; exact w _ _ _ _ .int g⟩
  | tup xs =>
    obtain ⟨v, e, p, us, e2, h2, r⟩ := h.one
    subst e2
    exact .inl ⟨p, us, e, .inr (h2.sq s), by rw [r.length]; exact w _ _ _ _ .int g⟩
  | lst xs =>
    obtain ⟨v, e, p, us, e2, h2, r⟩ := h.one
    subst e2
    exact .inl ⟨p, us, e, .inl (.inl (.inl h2)), by rw [r.length]; exact w _ _ _ _ .int g⟩
  | _ => exact g.elim
def gInt2 (f : Int → Int → Int) : GN := g2 fun d e R => match d, e with
  | .int i, .int j => R (.int (f i j)) 0
  | _, _ => False
theorem lk_int2 {f : Int → Int → Int} : LkN K (fun xs H Q => ∃ i j, xs = [.int i, .int j] ∧ Q (.int (f i j)) H) (gInt2 f) := fun F H ds vs R Q' s h g w => by
  obtain ⟨d, e, e0, g⟩ := g.of
  subst e0
  cases d with
  | int i =>
    cases e with
    | int j =>
      obtain ⟨v, u, e, h2, h3⟩ := h.two
      cases h2
      cases h3
      exact ⟨i, j, e, w _ _ _ _ .int g⟩
    | _ => exact g.elim
  | _ => exact g.elim
theorem abs_ite (t : Int) : (if t < 0 then -t else t) = (t.natAbs : Int) := by split <;> omega
def gAbs : GN := g1 fun d R => match d with
  | .int i => R (.int (i.natAbs : Nat)) 0
  | _ => False
theorem lk_abs : LkN K (fun xs H Q => ∃ i, xs = [.int i] ∧ Q (.int (if i < 0 then -i else i)) H) gAbs := fun F H ds vs R Q' s h g w => by
  obtain ⟨d, e0, g⟩ := g.of
  subst e0
  cases d with
  | int i =>
    obtain ⟨v, e, h2⟩ := h.one
    cases h2
    exact ⟨i, e, by rw [abs_ite]; exact w _ _ _ _ .int g⟩
  | _ => exact g.elim
def gMin : GN := g2 fun d e R => match d, e with
  | .int i, .int j => R (.int (min i j)) 0
  | _, _ => False
theorem lk_min : LkN K (fun xs H Q => ∃ i j, xs = [.int i, .int j] ∧ Q (.int (if j < i then j else i)) H) gMin := fun F H ds vs R Q' s h g w => by
  refine lk_int2 (f := fun i j => if j < i then j else i) F H ds vs R Q' s h ?_ w
  obtain ⟨d, e, e0, g⟩ := g.of
  subst e0
  cases d with
  | int i =>
    cases e with
    | int j =>
      show R (.int (if j < i then j else i)) 0
      rw [show (if j < i then j else i) = min i j by split <;> omega]
      exact g
    | _ => exact g.elim
  | _ => exact g.elim
/-- int of an int, of a bool -/
def gIntOf : GN := g1 fun d R => match d with
  | .int i => R (.int i) 0
  | .bl k => R (.int (bi k)) 0
  | _ => False
theorem lk_intOf : LkN K (fun xs H Q => (∃ i, xs = [.int i] ∧ Q (.int i) H) ∨ ∃ k, xs = [.bl k] ∧ Q (.int (if k then 1 else 0)) H) gIntOf := fun F H ds vs R Q' s h g w => by
  obtain ⟨d, e0, g⟩ := g.of
  subst e0
  cases d with
  | bl i =>
    obtain ⟨v, e, h2⟩ := h.one
    cases h2
    exact .inr ⟨i, e, w _ _ _ _ .int g⟩
  | int i =>
    obtain ⟨v, e, h2⟩ := h.one
    cases h2
    exact .inl ⟨i, e, w _ _ _ _ .int g⟩
  | _ => exact g.elim
def gTupOf : GN := g1 fun d R => match d with
  | .lst xs => R (.tup xs) 0
  | .tup xs => R (.tup xs) 0
  | _ => False
theorem lk_tupOf : LkN K (fun xs H Q => ∃ p ys, xs = [.ref p] ∧ ((SqL K H p ys ∧ ∀ l, H l = none → Q (.ref l) (upd H l (.tup ys))) ∨ (SqT K H p ys ∧ Q (.ref p) H))) gTupOf := fun F H ds vs R Q' s h g w => by
  obtain ⟨d, e0, g⟩ := g.of
  subst e0
  cases d with
  | tup xs =>
    obtain ⟨v, e, p, us, e2, h2, r⟩ := h.one
    subst e2
    exact ⟨p, us, e, .inr ⟨h2.sq s, w _ _ _ _ (.old (show Rep K F (.tup xs) _ from ⟨p, us, rfl, h2, r⟩)) g⟩⟩
  | lst xs =>
    obtain ⟨v, e, p, us, e2, h2, r⟩ := h.one
    subst e2
    exact ⟨p, us, e, .inl ⟨.inl (.inl h2), fun l hl => w _ _ _ _ (.tup hl r) g⟩⟩
  | _ => exact g.elim
/-- all, any of a list of bools; sum of a list of ints -/
def blOf : D → Option Bool
  | .bl b => some b
  | _ => none
def inOf : D → Option Int
  | .int b => some b
  | _ => none
def blsOf : List D → Option (List Bool)
  | [] => some []
  | d :: r => match blOf d, blsOf r with
    | some b, some l => some (b :: l)
    | _, _ => none
def intsOf : List D → Option (List Int)
  | [] => some []
  | d :: r => match inOf d, intsOf r with
    | some b, some l => some (b :: l)
    | _, _ => none
theorem blOf_rep {d : D} {v : V} {b : Bool} (h : Rep K F d v) (e : blOf d = some b) : v = .bl b := by
  cases d with
  | bl c => cases e; exact h
  | _ => cases e
theorem inOf_rep {d : D} {v : V} {b : Int} (h : Rep K F d v) (e : inOf d = some b) : v = .int b := by
  cases d with
  | int c => cases e; exact h
  | _ => cases e
theorem blsOf_reps : ∀ {ds : List D} {vs : List V} {bs : List Bool}, Reps K F ds vs → blsOf ds = some bs → vs = bs.map V.bl
  | [], _, _, h, e => by cases e; exact h
  | d :: r, _, _, ⟨v, u, e1, h, t⟩, e => by
    unfold blsOf at e
    split at e
    · rename_i b l q1 q2
      cases e
      rw [e1, blOf_rep h q1, blsOf_reps t q2]; rfl
    · cases e
theorem intsOf_reps : ∀ {ds : List D} {vs : List V} {bs : List Int}, Reps K F ds vs → intsOf ds = some bs → vs = bs.map V.int
  | [], _, _, h, e => by cases e; exact h
  | d :: r, _, _, ⟨v, u, e1, h, t⟩, e => by
    unfold intsOf at e
    split at e
    · rename_i b l q1 q2
      cases e
      rw [e1, inOf_rep h q1, intsOf_reps t q2]; rfl
    · cases e
theorem blsOf_map {α : Type} (f : α → Bool) (l : List α) : blsOf (l.map fun x => .bl (f x)) = some (l.map f) := by
  induction l with
  | nil => rfl
  | cons x l ih => rw [List.map_cons, List.map_cons]; unfold blsOf; rw [ih]; rfl
theorem intsOf_map {α : Type} (f : α → Int) (l : List α) : intsOf (l.map fun x => .int (f x)) = some (l.map f) := by
  induction l with
  | nil => rfl
  | cons x l ih => rw [List.map_cons, List.map_cons]; unfold intsOf; rw [ih]; rfl
def gBls (f : List Bool → Bool) : GN := g1 fun d R => match d with
  | .lst xs => ∃ bs, blsOf xs = some bs ∧ R (.bl (f bs)) 0
  | _ => False
theorem lk_bls {f : List Bool → Bool} : LkN K (fun vs H Q => ∃ (a : Addr) (bs : List Bool), vs = [V.ref a] ∧ SqL K H a (bs.map V.bl) ∧ Q (.bl (f bs)) H) (gBls f) := fun F H ds vs R Q' s h g w => by
  obtain ⟨d, e0, g⟩ := g.of
  subst e0
  cases d with
  | lst xs =>
    obtain ⟨bs, e0, g⟩ := g
    obtain ⟨v, e, p, us, e2, h2, r⟩ := h.one
    subst e2
    have e3 := blsOf_reps r e0
    subst e3
    exact ⟨p, bs, e, .inl (.inl h2), w _ _ _ _ .bl g⟩
  | _ => exact g.elim
def gSum : GN := g1 fun d R => match d with
  | .lst xs => ∃ ns, intsOf xs = some ns ∧ R (.int ns.sum) 0
  | _ => False
theorem lk_sum : LkN K (rSum K) gSum := fun F H ds vs R Q' s h g w => by
  obtain ⟨d, e0, g⟩ := g.of
  subst e0
  cases d with
  | lst xs =>
    obtain ⟨ns, e0, g⟩ := g
    obtain ⟨v, e, p, us, e2, h2, r⟩ := h.one
    subst e2
    have e3 := intsOf_reps r e0
    subst e3
    exact ⟨p, ns, e, .inl (.inl h2), w _ _ _ _ .int g⟩
  | _ => exact g.elim
def tyD : D → Option String
  | .non => some "NoneType"
  | .bl _ => some "bool"
  | .int _ => some "int"
  | .str _ => some "str"
  | .tup _ => some "tuple"
  | .lst _ => some "list"
  | .dct _ _ => some "dict"
  | _ => none
def tyList : List String := ["bool", "int", "str", "tuple", "list", "dict"]
end
end VL

namespace VL
open PySem PySem.Spec PyProof.Rows L2

/-! ### statements -/
structure EN where
  nx : Ev → Prop
  rt : QE
  bk : Ev → Prop := fun _ => False
  ct : Ev → Prop := fun _ => False
abbrev RS := Ev → EN → Prop
def NPost (K : Fg) (S : Frm) (F : Hp) (P : Ev → Prop) : L2.St → Hp → Prop := fun σ' H' => ∃ F' ρ', Same F F' ∧ SR K S F' H' σ' ρ' [] ∧ P ρ'
def RPost (K : Fg) (S : Frm) (F : Hp) (P : QE) : VK := fun v H' => ∃ σ', VPost K S F σ' [] P v H'
structure EOk (K : Fg) (S : Frm) (F : Hp) (E : EN) (D : Ends) : Prop where
  nx : ∀ σ' H', NPost K S F E.nx σ' H' → D.nx σ' H'
  rt : ∀ v H', RPost K S F E.rt v H' → D.rt v H'
  bk : ∀ σ' H', NPost K S F E.bk σ' H' → D.bk σ' H'
  ct : ∀ σ' H', NPost K S F E.ct σ' H' → D.ct σ' H'
def sV (K : Fg) (r : RS) : TS := fun D σ H => ∃ S F ρ E, SR K S F H σ ρ [] ∧ r ρ E ∧ EOk K S F E D
def VS (X : Cx) (st : Stmt) (r : RS) : Prop := PS X st (sV X.K r)
def VSs (X : Cx) (st : List Stmt) (r : RS) : Prop := PSs X st (sV X.K r)

section
variable {X : Cx} {st : Stmt} {sts rest : List Stmt} {e a b c : Expr} {es : List Expr} {pos p : Pos} {K : Fg} {S : Frm} {F F' F1 H H' : Hp} {σ : L2.St} {ρ ρ' : Ev} {tmp : List (Addr × HO)} {r u : RS}
theorem PS.weak {t t' : TS} (h : PS X st t) (w : ∀ D σ H, t' D σ H → t D σ H) : PS X st t' := ⟨fun pins s σ H D I q => h.run pins s σ H D I (w _ _ _ q)⟩
theorem PSs.weak {t t' : TS} (h : PSs X sts t) (w : ∀ D σ H, t' D σ H → t D σ H) : PSs X sts t' := ⟨fun pins s σ H D I q => h.run pins s σ H D I (w _ _ _ q)⟩
theorem NPost.from {P : Ev → Prop} {σ' : L2.St} (s : Same F F1) (h : NPost K S F1 P σ' H') : NPost K S F P σ' H' := by
  obtain ⟨F', ρ', s2, q⟩ := h
  exact ⟨F', ρ', s.trans s2, q⟩
theorem RPost.from {P : QE} {v : V} (s : Same F F1) (h : RPost K S F1 P v H') : RPost K S F P v H' := by
  obtain ⟨σ', q⟩ := h
  exact ⟨σ', q.from s⟩
theorem EOk.from {E : EN} {D : Ends} (s : Same F F1) (h : EOk K S F E D) : EOk K S F1 E D := ⟨fun _ _ q => h.nx _ _ (q.from s), fun _ _ q => h.rt _ _ (q.from s), fun _ _ q => h.bk _ _ (q.from s), fun _ _ q => h.ct _ _ (q.from s)⟩

def rNext : RS := fun ρ E => E.nx ρ
def rSeq (r u : RS) : RS := fun ρ E => r ρ { E with nx := fun ρ1 => u ρ1 E }
theorem vx {st : List Stmt} {r r' : RS} (h : r = r') (d : VSs X st r) : VSs X st r' := h ▸ d
theorem vss_nil : VSs X [] rNext := by
  refine PSs.weak pss_nil ?_
  rintro D σ H ⟨S, F, ρ, E, h, hr, w⟩
  exact w.nx _ _ ⟨F, ρ, Same.refl F, h, hr⟩
theorem vss_cons (h1 : VS X st r) (h2 : VSs X rest u) : VSs X (st :: rest) (rSeq r u) := by
  refine PSs.weak (pss_cons h1 h2) ?_
  rintro D σ H ⟨S, F, ρ, E, h, hr, w⟩
  refine ⟨S, F, ρ, { E with nx := fun ρ1 => u ρ1 E }, h, hr, ⟨fun σ' H' ⟨F', ρ', s, h', q⟩ => ?_, w.rt, w.bk, w.ct⟩⟩
  exact ⟨S, F', ρ', E, h', q, w.from s⟩
theorem vss_one (h1 : VS X st r) : VSs X [st] r := pss_one h1
def rNever : RS := fun _ _ => False
theorem vs_never : VS X st rNever := by
  refine PS.weak ps_never ?_
  rintro D σ H ⟨S, F, ρ, E, h, hr, w⟩
  exact hr
/-- an expression whose value is dropped -/
def rDrop (re : RE) : RS := fun ρ E => re ρ fun _ _ ρ1 => E.nx ρ1
theorem vs_expr {re : RE} (he : VE X e re) (hs : swapsWith e none pos.line X.env = pure false := by rfl) : VS X (.Expr e pos) (rDrop re) := by
  refine PS.weak (ps_expr he hs) ?_
  rintro D σ H ⟨S, F, ρ, E, h, hr, w⟩
  refine tV.mk h hr fun v H1 q => ?_
  obtain ⟨F1, ρ1, d, k, s1, h1, r1, q1⟩ := q.fz
  exact w.nx _ _ ⟨F1, ρ1, s1, h1, q1⟩
def rRet (re : RE) : RS := fun ρ E => re ρ E.rt
theorem vs_ret {re : RE} (he : VE X e re) : VS X (.Return (some e) pos) (rRet re) := by
  refine PS.weak (ps_ret he) ?_
  rintro D σ H ⟨S, F, ρ, E, h, hr, w⟩
  exact tV.mk h hr fun v H1 q => w.rt _ _ ⟨σ, q⟩
def rIf (rt : RT) (r u : RS) : RS := fun ρ E => rt ρ fun c ρ1 => way c (r ρ1 E) (u ρ1 E)
theorem vs_if {rt : RT} {sa sb : List Stmt} (hc : VT X c rt) (ha : VSs X sa r) (hb : VSs X sb u) : VS X (.If c sa sb pos) (rIf rt r u) := by
  refine PS.weak (ps_if hc ha hb) ?_
  rintro D σ H ⟨S, F, ρ, E, h, hr, w⟩
  refine tVT.mk h hr fun d H1 ⟨F1, ρ1, s1, h1, q1⟩ => way.if ⟨fun e => ?_, fun e => ?_⟩
  · exact ⟨S, F1, ρ1, E, h1, q1.1 e, w.from s1⟩
  · exact ⟨S, F1, ρ1, E, h1, q1.2 e, w.from s1⟩
/-- x = e -/
def rSet (i : Nat) (re : RE) : RS := fun ρ E => re ρ fun d k ρ1 => noIo ρ1 i = true ∧ E.nx (ρ1.set i (mkSl k d))
theorem vs_set {i : Nat} {x : Str} {re : RE} {pos' : Pos} (hN : X.N.Nodup) (hi : X.N[i]? = some x) (hx : Loc X.env.scope x) (he : VE X e re) (hs : swapsWith e (some (.Name x pos')) pos.line X.env = pure false := by rfl) (hf : X.fn x = true ∨ X.env.scope.names.lookup x = some .local := by first | exact .inl rfl | exact .inr rfl | assumption) :
    VS X (.Assign [.Name x pos'] e pos) (rSet i re) := by
  refine PS.weak (ps_set hN hi hx he hs hf) ?_
  rintro D σ H ⟨S, F, ρ, E, h, hr, w⟩
  refine tV.mk h hr fun v H1 q => ?_
  obtain ⟨F1, ρ1, d, k, tm, s1, ⟨fps, h1⟩, r1, q0, q1⟩ := q
  exact w.nx _ _ ⟨F1, _, s1, ⟨_, h1.store r1 q0⟩, q1⟩
/-- e1, e2: what is owned stays pending -/
abbrev R2E := Ev → (D → Nat → D → Nat → Ev → Prop) → Prop
def r2 (ra rb : RE) : R2E := fun ρ Q => ra ρ fun d1 k1 ρ1 => rb ρ1 fun d2 k2 ρ2 => Q d1 k1 d2 k2 ρ2
/-- a, b = e1, e2 -/
def rPar (i j : Nat) (ra rb : RE) : RS := fun ρ E => ra ρ fun d1 k1 ρ1 => rb ρ1 fun d2 k2 ρ2 => noIo ρ2 i = true ∧ noIo ρ2 j = true ∧ E.nx ((ρ2.set i (mkSl k1 d1)).set j (mkSl k2 d2))
theorem tmp_own {K : Fg} {S : Frm} {F F' H H' : Hp} {σ σ' : L2.St} {ρ ρ' : Ev} {fps fps' : Nat → List Addr} {tm tmp tm' : List (Addr × HO)} {k : Nat} {d : D} {v : V} (s : Same F F') (h : SRf K S F H σ ρ fps (tm ++ tmp)) (h' : SRf K S F' H' σ' ρ' fps' (tm' ++ (tm ++ tmp))) (r : OwnR K F H k d v (tm.map (·.1))) : OwnR K F' H' k d v (tm.map (·.1)) := by
  refine OwnR.mono s k d v _ (fun a ha => ?_) r
  obtain ⟨t, ht, e⟩ := List.mem_map.mp ha
  subst e
  rw [(h.freeT t (List.mem_append_left _ ht)).2.2, (h'.freeT t (List.mem_append_right _ (List.mem_append_left _ ht))).2.2]
theorem noIo_set {ρ : Ev} {i j k : Nat} {d : D} (h : noIo ρ j = true) (hi : noIo ρ i = true) : noIo (ρ.set i (mkSl k d)) j = true := by
  unfold noIo at h hi ⊢
  by_cases q : j = i
  · subst q
    have hl : j < ρ.length := by
      cases q : ρ[j]? with
      | none => rw [q] at h; cases h
      | some s => exact (List.getElem?_eq_some_iff.mp q).1
    rw [List.getElem?_set_self hl]
    cases k <;> rfl
  · rw [List.getElem?_set_ne (Ne.symm q)]
    exact h
theorem store2 {K : Fg} {S : Frm} {F H : Hp} {σ : L2.St} {ρ : Ev} {fps : Nat → List Addr} {tm1 tm2 : List (Addr × HO)} {k1 k2 i j : Nat} {d1 d2 : D} {v1 v2 : V} (h : SRf K S F H σ ρ fps (tm2 ++ (tm1 ++ []))) (r1 : OwnR K F H k1 d1 v1 (tm1.map (·.1))) (r2 : OwnR K F H k2 d2 v2 (tm2.map (·.1))) (hi : noIo ρ i = true) (hj : noIo ρ j = true) (hij : i ≠ j) :
    SR K S F H ((σ.set i (some v1)).set j (some v2)) ((ρ.set i (mkSl k1 d1)).set j (mkSl k2 d2)) [] := by
  have h1 := h.store r2 hj
  have h2 := h1.store r1 (i := i) (noIo_set hi hj)
  rw [List.set_comm _ _ (Ne.symm hij), List.set_comm (mkSl k2 d2) _ (Ne.symm hij)] at h2
  exact ⟨_, h2⟩
theorem vs_par {i j : Nat} {x y : Str} {ra rb : RE} {px py pt : Pos} {kt k2 pt2} (hc : X.calm = true) (hN : X.N.Nodup) (hi : X.N[i]? = some x) (hj : X.N[j]? = some y) (hij : i ≠ j)
    (hx : X.env.scope.names.lookup x = some .local) (hy : X.env.scope.names.lookup y = some .local) (ha : VE X a ra) (hb : VE X b rb)
    (hw : swappedStores [.Tuple [.Name x px, .Name y py] kt pt] (.Tuple [a, b] k2 pt2) X.env = pure (some [x, y]))
    (s1 : starEach [a, b] X.env = (false, eval a X.env) :: starEach [b] X.env := by rfl) (s2 : starEach [b] X.env = (false, eval b X.env) :: starEach [] X.env := by rfl)
    (hs : swapsWithSole [.Tuple [.Name x px, .Name y py] kt pt] (.Tuple [a, b] k2 pt2) pos.line X.env = pure false := by rfl) :
    VS X (.Assign [.Tuple [.Name x px, .Name y py] kt pt] (.Tuple [a, b] k2 pt2) pos) (rPar i j ra rb) := by
  refine PS.weak (ps_par hc hN hi hj hij hx hy (pa_cons ha (pa_cons hb pa_nil s2) s1) hw hs) ?_
  rintro D σ H ⟨S, F, ρ, E, h, hr, w⟩
  refine tV.mk h hr fun v1 H1 q => ?_
  obtain ⟨F1, ρ1, d1, k1, tm1, s1, ⟨fps1, h1⟩, r1, q1⟩ := q
  refine tV.mk ⟨fps1, h1⟩ q1 fun v2 H2 q => ?_
  obtain ⟨F2, ρ2, d2, k2, tm2, s2, ⟨fps2, h2⟩, r2, n1, n2, q2⟩ := q
  refine ⟨v1, v2, rfl, w.nx _ _ ⟨F2, _, s1.trans s2, ?_, q2⟩⟩
  exact store2 h2 (tmp_own s2 h1 h2 r1) r2 n1 n2 hij
/-- a, b, c = e1, e2, e3 -/
def rPar3 (i j l : Nat) (ra rb rc : RE) : RS := fun ρ E => ra ρ fun d1 k1 ρ1 => rb ρ1 fun d2 k2 ρ2 => rc ρ2 fun d3 k3 ρ3 => noIo ρ3 i = true ∧ noIo ρ3 j = true ∧ noIo ρ3 l = true ∧ E.nx (((ρ3.set i (mkSl k1 d1)).set j (mkSl k2 d2)).set l (mkSl k3 d3))

/-! ### while -/
def whL (rt : RT) (rb : RS) : Nat → Ev → EN → Prop
  | 0, _, _ => False
  | n + 1, ρ, E => rt ρ fun c ρ1 => way c (rb ρ1 { nx := fun ρ2 => whL rt rb n ρ2 E, rt := E.rt, ct := fun ρ2 => whL rt rb n ρ2 E, bk := E.nx }) (E.nx ρ1)
def rWhile (rt : RT) (rb : RS) : RS := fun ρ E => ∃ n, whL rt rb n ρ E
theorem vs_while {rt : RT} {rb : RS} {body : List Stmt} (hp : PassesOwn (model X.prog X.w) X.A X.env X.xe) (hc : VT X c rt) (hb : VSs X body rb) : VS X (.While c body [] pos) (rWhile rt rb) := by
  refine PS.weak (ps_while hp hc hb) ?_
  rintro D σ H ⟨S, F, ρ, E, h, ⟨n, hr⟩, w⟩
  refine ⟨fun m σ H => ∃ F' ρ', Same F F' ∧ SR X.K S F' H σ ρ' [] ∧ whL rt rb m ρ' E, ⟨n, F, ρ, Same.refl F, h, hr⟩, ?_⟩
  rintro m σ H ⟨F1, ρ1, s1, h1, hr⟩
  cases m with
  | zero => exact hr.elim
  | succ m =>
    refine tVT.mk h1 hr fun d H2 ⟨F2, ρ2, s2, h2, q2⟩ => way.if ⟨fun e => ?_, fun e => ?_⟩
    · refine ⟨fun σ' H' => ∃ F' ρ', Same F F' ∧ SR X.K S F' H' σ' ρ' [] ∧ whL rt rb m ρ' E, fun σ' H' q => ⟨m, Nat.lt_succ_self m, q⟩, S, F2, ρ2, _, h2, q2.1 e, ?_⟩
      have s12 := s1.trans s2
      exact ⟨fun σ' H' ⟨F', ρ', s, h', q⟩ => ⟨F', ρ', s12.trans s, h', q⟩, fun v H' q => w.rt _ _ (q.from s12), fun σ' H' q => w.nx _ _ (q.from s12), fun σ' H' ⟨F', ρ', s, h', q⟩ => ⟨F', ρ', s12.trans s, h', q⟩⟩
    · exact w.nx _ _ ⟨F2, ρ2, s1.trans s2, h2, q2.2 e⟩

/-! ### targets: the slots that are touched, and what comes of it -/
abbrev RG := D → Ev → (Ev → Prop) → Prop
def Kept (is : List Nat) (σ σ' : L2.St) : Prop := σ'.length = σ.length ∧ ∀ m, m ∉ is → σ'[m]? = σ[m]?
def gV (K : Fg) (is : List Nat) (r : RG) : TG := fun v σ H Q' => ∃ S F ρ tmp Q d, SR K S F H σ ρ tmp ∧ Rep K F d v ∧ r d ρ Q ∧ ∀ σ' H', Kept is σ σ' → (∃ F' ρ', Same F F' ∧ SR K S F' H' σ' ρ' tmp ∧ Q ρ') → Q' σ' H'
def VG (X : Cx) (is : List Nat) (tg : Expr) (r : RG) : Prop := PG X tg (gV X.K is r)
abbrev RGs := List D → Ev → (Ev → Prop) → Prop
def gVs (K : Fg) (is : List Nat) (r : RGs) : TGs := fun vs σ H Q' => ∃ S F ρ tmp Q ds, SR K S F H σ ρ tmp ∧ Reps K F ds vs ∧ r ds ρ Q ∧ ∀ σ' H', Kept is σ σ' → (∃ F' ρ', Same F F' ∧ SR K S F' H' σ' ρ' tmp ∧ Q ρ') → Q' σ' H'
def VGs (X : Cx) (is : List Nat) (tg : List Expr) (r : RGs) : Prop := PGs X tg (gVs X.K is r)
theorem PG.weak {tg : Expr} {t t' : TG} (h : PG X tg t) (w : ∀ v σ H Q, t' v σ H Q → t v σ H Q) : PG X tg t' := ⟨fun pins s σ H v u Q I r q => h.run pins s σ H v u Q I r (w _ _ _ _ q)⟩
theorem PGs.weak {tg : List Expr} {t t' : TGs} (h : PGs X tg t) (w : ∀ v σ H Q, t' v σ H Q → t v σ H Q) : PGs X tg t' := ⟨fun pins s σ H v u Q I r q => h.run pins s σ H v u Q I r (w _ _ _ _ q)⟩
theorem Kept.set {i : Nat} {σ : L2.St} {o : Option V} : Kept [i] σ (σ.set i o) := ⟨by simp, fun m h => by rw [List.getElem?_set_ne (fun z => h (by simp [z]))]⟩
theorem Kept.trans {is js : List Nat} {σ σ' σ2 : L2.St} (a : Kept is σ σ') (b : Kept js σ' σ2) : Kept (is ++ js) σ σ2 := ⟨b.1.trans a.1, fun m h => (b.2 m fun z => h (List.mem_append_right _ z)).trans (a.2 m fun z => h (List.mem_append_left _ z))⟩
def rgName (i : Nat) : RG := fun d ρ Q => noIo ρ i = true ∧ Q (ρ.set i (.fz d))
theorem vg_name {i : Nat} {x : Str} (hN : X.N.Nodup) (hi : X.N[i]? = some x) (hx : Loc X.env.scope x) (hf : X.fn x = true ∨ X.env.scope.names.lookup x = some .local := by first | exact .inl rfl | exact .inr rfl | assumption) : VG X [i] (.Name x pos) (rgName i) := by
  refine PG.weak (pg_name hN hi hx hf) ?_
  rintro v σ H Q' ⟨S, F, ρ, tmp, Q, d, ⟨fps, h⟩, rp, ⟨n, q⟩, w⟩
  exact w _ _ Kept.set ⟨F, _, Same.refl F, ⟨_, SRf.store (tm := []) (k := 0) h ⟨rfl, rp⟩ n⟩, q⟩
def rgNil : RGs := fun ds ρ Q => match ds with | [] => Q ρ | _ => False
def rgCons (r : RG) (u : RGs) : RGs := fun ds ρ Q => match ds with | d :: ds => r d ρ fun ρ1 => u ds ρ1 Q | [] => False
theorem vgs_nil : VGs X [] [] rgNil := by
  refine PGs.weak pgs_nil ?_
  rintro vs σ H Q' ⟨S, F, ρ, tmp, Q, ds, h, rp, q, w⟩
  cases ds with
  | nil => exact ⟨rp, w _ _ ⟨rfl, fun _ _ => rfl⟩ ⟨F, ρ, Same.refl F, h, q⟩⟩
  | cons _ _ => exact q.elim
theorem vgs_cons {is js : List Nat} {r : RG} {u : RGs} (h1 : VG X is e r) (h2 : VGs X js es u) (hs : (assignEach (e :: es) X.env).map (·.2) = assign e X.env :: (assignEach es X.env).map (·.2) := by rfl) : VGs X (is ++ js) (e :: es) (rgCons r u) := by
  refine PGs.weak (pgs_cons h1 h2 hs) ?_
  rintro vs σ H Q' ⟨S, F, ρ, tmp, Q, ds, h, rp, q, w⟩
  cases ds with
  | nil => exact q.elim
  | cons d ds =>
    obtain ⟨v, rest, e1, rv, rr⟩ := rp
    refine ⟨v, rest, e1, S, F, ρ, tmp, _, d, h, rv, q, fun σ' H' k1 ⟨F1, ρ1, s1, h1, q1⟩ => ?_⟩
    exact ⟨S, F1, ρ1, tmp, Q, ds, h1, Reps.mono s1 _ _ rr, q1, fun σ2 H2 k2 ⟨F2, ρ2, s2, h2, q2⟩ => w _ _ (k1.trans k2) ⟨F2, ρ2, s1.trans s2, h2, q2⟩⟩
def rgTup (n : Nat) (u : RGs) : RG := fun d ρ Q => match d with | .tup ds => ds.length = n ∧ u ds ρ Q | _ => False
theorem vg_tup {is : List Nat} {k : Nat} {u : RGs} {n : Nat} (hc : X.calm = true) (h : VGs X is es u) (hn : (assignEach es X.env).length = n := by rfl) (hst : (assignEach es X.env).findIdx? (·.1) = none := by rfl) : VG X is (.Tuple es k pos) (rgTup n u) := by
  refine PG.weak (pg_tup hc h hn hst) ?_
  rintro v σ H Q' ⟨S, F, ρ, tmp, Q, d, h, rp, q, w⟩
  cases d with
  | tup ds =>
    obtain ⟨p, vs, e, hp, rr⟩ := rp
    refine ⟨p, vs, e, hp.sq ?_, by rw [rr.length]; exact q.1, S, F, ρ, tmp, Q, ds, h, rr, q.2, w⟩
    obtain ⟨_, h⟩ := h
    exact h.sub
  | _ => exact q.elim
/-- target = e, the target no name -/
def rAsg (re : RE) (rg : RG) : RS := fun ρ E => re ρ fun d _ ρ1 => rg d ρ1 E.nx
theorem vs_asg {is : List Nat} {tg : Expr} {re : RE} {rg : RG} (he : VE X e re) (hg : VG X is tg rg) (hs : swapsWithSole [tg] e pos.line X.env = pure false := by rfl) (hw : swappedStores [tg] e X.env = pure none := by rfl)
    (h1 : (assignEach [tg] X.env).map (·.2) = [assign tg X.env] := by rfl) : VS X (.Assign [tg] e pos) (rAsg re rg) := by
  refine PS.weak (ps_asg he hg hs hw h1) ?_
  rintro D σ H ⟨S, F, ρ, E, h, hr, w⟩
  refine tV.mk h hr fun v H1 q => ?_
  obtain ⟨F1, ρ1, d, k, s1, h1, r1, q1⟩ := q.fz
  exact ⟨S, F1, ρ1, [], _, d, h1, r1, q1, fun σ' H' _ ⟨F2, ρ2, s2, h2, q2⟩ => w.nx _ _ ⟨F2, ρ2, s1.trans s2, h2, q2⟩⟩

/-! ### what is walked -/
/-- the frozen part grows by one tuple, or not -/
inductive FX (F H : Hp) : Hp → Hp → Prop
  | same : FX F H F H
  | tup {p : Addr} {vs : List V} : H p = none → FX F H (upd F p (.tup vs)) (upd H p (.tup vs))
theorem FX.sr {fps : Nat → List Addr} (h : SRf K S F H σ ρ fps tmp) (x : FX F H F' H') : Same F F' ∧ SRf K S F' H' σ ρ fps tmp := by
  cases x with
  | same => exact ⟨Same.refl F, h⟩
  | tup hp => exact ⟨Same.upd (h.free_at hp), h.allocF hp⟩
structure Wk (K : Fg) (F1 : Hp) (items : List D) (J : It) : Prop where
  go : ∀ (F H : Hp) i, Same F1 F → Same F H → i < items.length → J.go i H
  yld : ∀ (F H H' : Hp) i d x, Same F1 F → Same F H → items[i]? = some d → J.yld i H x H' → ∃ F', FX F H F' H' ∧ Rep K F' d x
  stop : ∀ (F H : Hp) i, Same F1 F → Same F H → items.length ≤ i → J.stop i H
abbrev RI := Ev → (List D → Ev → Prop) → Prop
def IPost (K : Fg) (S : Frm) (F : Hp) (σ : L2.St) (tmp : List (Addr × HO)) (Q : List D → Ev → Prop) : It → Hp → Prop := fun J H' => ∃ F' ρ' items, Same F F' ∧ SR K S F' H' σ ρ' tmp ∧ Wk K F' items J ∧ Q items ρ'
def tVI (K : Fg) (r : RI) : TI := fun σ H Q' => ∃ S F ρ tmp Q, SR K S F H σ ρ tmp ∧ r ρ Q ∧ ∀ J H', IPost K S F σ tmp Q J H' → Q' J H'
def VI (X : Cx) (tg iter : Expr) (r : RI) : Prop := PI X tg iter (tVI X.K r)
theorem PI.weak {tg iter : Expr} {t t' : TI} (h : PI X tg iter t) (w : ∀ σ H R, t' σ H R → t σ H R) : PI X tg iter t' := ⟨fun pins s σ H R I q => h.run pins s σ H R I (w _ _ _ q)⟩
theorem PI.or {tg iter : Expr} {t t' : TI} (h : PI X tg iter t) (h' : PI X tg iter t') : PI X tg iter (fun σ H R => t σ H R ∨ t' σ H R) := ⟨fun pins s σ H R I q => q.elim (h.run pins s σ H R I) (h'.run pins s σ H R I)⟩
theorem SqL.fun {K : Fg} {H : Hp} {a : Addr} {xs ys : List V} (h : H a = some (.lst xs)) (q : SqL K H a ys) (hk : ∀ o, K.lookup a = some o → H a = none) : ys = xs := by
  rcases q with (q | ⟨o, q⟩) | ⟨o, its, n, q, _⟩
  · rw [h] at q; cases q; rfl
  · rw [h] at q; cases q
  · have := hk o q
    rw [h] at this; cases this
def isLt : D → Option (List D)
  | .lst ds => some ds
  | .tup ds => some ds
  | .scr ns => some (ns.map .int)
  | _ => none
def riSeq (r : RE) : RI := fun ρ Q => r ρ fun d _ ρ1 => ∃ ds, isLt d = some ds ∧ Q ds ρ1
theorem Reps.ofInts {K : Fg} {F : Hp} : ∀ ns : List Int, Reps K F (ns.map .int) (ns.map V.int)
  | [] => rfl
  | n :: ns => ⟨_, _, rfl, rfl, Reps.ofInts ns⟩
theorem wk_list {p : Addr} {vs : List V} {ds : List D} (h : ∀ H, Same F1 H → SqL K H p vs) (r : Reps K F1 ds vs) : Wk K F1 ds (Itl K p) where
  go := fun F H i s1 s2 hi => by
    have hi2 : i < vs.length := by rw [r.length]; exact hi
    exact ⟨vs, vs[i], h H (s1.trans s2), by simp [hi2]⟩
  yld := fun F H H' i d x s1 s2 e y => by
    obtain ⟨e1, y⟩ := y
    subst e1
    have q := y vs (h _ (s1.trans s2))
    obtain ⟨v, e2, rv⟩ := r.get e
    rw [q] at e2
    cases e2
    exact ⟨F, .same, Rep.mono s1 _ _ rv⟩
  stop := fun F H i s1 s2 hi => ⟨vs, h H (s1.trans s2), by rw [r.length]; exact hi⟩
theorem wk_tup {p : Addr} {vs : List V} {ds : List D} (h : TupAt K F1 p vs) (r : Reps K F1 ds vs) : Wk K F1 ds (Itt K p) where
  go := fun F H i s1 s2 hi => by
    have hi2 : i < vs.length := by rw [r.length]; exact hi
    exact ⟨vs, vs[i], h.sq (s1.trans s2), by simp [hi2]⟩
  yld := fun F H H' i d x s1 s2 e y => by
    obtain ⟨e1, y⟩ := y
    subst e1
    have q := y vs (h.sq (s1.trans s2))
    obtain ⟨v, e2, rv⟩ := r.get e
    rw [q] at e2
    cases e2
    exact ⟨F, .same, Rep.mono s1 _ _ rv⟩
  stop := fun F H i s1 s2 hi => ⟨vs, h.sq (s1.trans s2), by rw [r.length]; exact hi⟩
theorem pi_seq {tg l : Expr} {tl : TE} (hl : PE X l tl) : PI X tg l (fun σ H R => tl σ H fun x H1 => ∃ a, x = .ref a ∧ (((∃ xs, SqL X.K H1 a xs) ∧ R (Itl X.K a) H1) ∨ ((∃ xs, SqT X.K H1 a xs) ∧ R (Itt X.K a) H1))) := by
  refine ⟨fun pins s σ H R I h => ?_⟩
  refine thn (hl.run pins s σ H _ I h) fun v s1 ⟨x, H1, I1, r1, q1⟩ => ?_
  obtain ⟨a, e, q1⟩ := q1
  subst e
  cases r1
  rcases q1 with ⟨⟨xs, hq⟩, q⟩ | ⟨⟨xs, hq⟩, q⟩
  · obtain ⟨its, rv, p, hz⟩ := I1.list hq
    refine wpAny_pyIter_list p.isList ?_
    refine ⟨s1.heap.objs.size, [s1.heap.objs.size], _, _, H1, rfl, I1.kept (t' := s1.toks) fun b o e => Heap.get?_push_of_some _ e, turn_list a _, ⟨_, Heap.get?_push_size _ rfl, rfl, rfl⟩, fun b hb => ?_, q⟩
    have e : b = s1.heap.objs.size := by simpa using hb
    subst e
    exact I1.fpOk (Nat.le_refl _) (I1.hok.fresh (Nat.le_refl _))
  · obtain ⟨its, rv, p, hz⟩ := I1.tuple hq
    refine wpAny_pyIter_tuple (show s1.heap.IsTuple a its.toArray from p) ?_
    refine ⟨s1.heap.objs.size, [s1.heap.objs.size], _, _, H1, rfl, I1.kept (t' := s1.toks) fun b o e => Heap.get?_push_of_some _ e, turn_tuple a _, ⟨_, Heap.get?_push_size _ rfl, rfl, rfl⟩, fun b hb => ?_, q⟩
    have e : b = s1.heap.objs.size := by simpa using hb
    subst e
    exact I1.fpOk (Nat.le_refl _) (I1.hok.fresh (Nat.le_refl _))
theorem vi_seq {tg : Expr} {r : RE} (h : VE X e r) : VI X tg e (riSeq r) := by
  refine PI.weak (pi_seq h) ?_
  rintro σ H R ⟨S, F, ρ, tmp, Q, h, hr, w⟩
  refine tV.mk h hr fun v H1 q => ?_
  obtain ⟨F1, ρ1, d, k, s1, h1, r1, ds, e1, q1⟩ := q.fz
  have sub : Same F1 H1 := by obtain ⟨_, h1⟩ := h1; exact h1.sub
  cases d with
  | lst es =>
    cases e1
    obtain ⟨p, vs, e, hp, rr⟩ := r1
    exact ⟨p, e, .inl ⟨⟨vs, .inl (.inl (sub _ _ hp))⟩, w _ _ ⟨F1, ρ1, ds, s1, h1, wk_list (fun H s => .inl (.inl (s _ _ hp))) rr, q1⟩⟩⟩
  | tup es =>
    cases e1
    obtain ⟨p, vs, e, hp, rr⟩ := r1
    exact ⟨p, e, .inr ⟨⟨vs, hp.sq sub⟩, w _ _ ⟨F1, ρ1, ds, s1, h1, wk_tup hp rr, q1⟩⟩⟩
  | scr ns =>
    cases e1
    obtain ⟨p, e, hp⟩ := r1
    exact ⟨p, e, .inl ⟨⟨_, SqL.mono sub hp⟩, w _ _ ⟨F1, ρ1, _, s1, h1, wk_list (fun H s => SqL.mono s hp) (Reps.ofInts ns), q1⟩⟩⟩
  | _ => cases e1
theorem wk_range (lo : Int) (n : Nat) : Wk K F1 ((List.range n).map fun i => .int (lo + (i : Nat))) (Itr lo n) where
  go := fun F H i s1 s2 hi => by rw [List.length_map, List.length_range] at hi; exact hi
  yld := fun F H H' i d x s1 s2 e y => by
    obtain ⟨e1, y⟩ := y
    subst e1
    rw [List.getElem?_map] at e
    cases q : (List.range n)[i]? with
    | none => rw [q] at e; cases e
    | some j =>
      rw [q] at e
      cases e
      have z : j = i := by
        obtain ⟨h1, h2⟩ := List.getElem?_eq_some_iff.mp q
        rw [List.getElem_range] at h2
        exact h2.symm
      subst z
      exact ⟨F, .same, y⟩
  stop := fun F H i s1 s2 hi => by rw [List.length_map, List.length_range] at hi; exact hi
def riRng1 (r : RF) : RI := fun ρ Q => r ρ fun ds ρ1 => match ds with | [.int j] => (-(2 ^ 62) ≤ j ∧ j < 2 ^ 62) ∧ Q ((List.range j.toNat).map fun i => .int (0 + (i : Nat))) ρ1 | _ => False
theorem vi_rng1 {tg : Expr} {r : RF} (hg : Gl X "range") (hm : X.mg "range" = none) (ha : VF X [a] r) (hs : starEach [a] X.env = [(false, eval a X.env)] := by rfl) : VI X tg (.Call (.Name "range" p) [a] [] pos) (riRng1 r) := by
  refine PI.weak (pi_range1 hg hm ha hs) ?_
  rintro σ H R ⟨S, F, ρ, tmp, Q, h, hr, w⟩
  refine tVF.mk h hr fun vs H1 ⟨F1, ρ1, ds, s1, h1, v1, q1⟩ => ?_
  cases ds with
  | nil => exact q1.elim
  | cons d r =>
    cases r with
    | cons _ _ => cases d <;> exact q1.elim
    | nil =>
      cases d with
      | int j =>
        obtain ⟨v, u, e, rv, ru⟩ := v1
        cases rv
        cases ru
        exact ⟨j, e, q1.1.1, q1.1.2, w _ _ ⟨F1, ρ1, _, s1, h1, wk_range 0 j.toNat, q1.2⟩⟩
      | _ => exact q1.elim
/-- zip of two lists, of two tuples -/
def zipL (xs ys : List D) : List D := List.zipWith (fun x y => .tup [x, y]) xs ys
theorem wk_zipL {p q : Addr} {vs us : List V} {ds es : List D} (h : F1 p = some (.lst vs)) (h' : F1 q = some (.lst us)) (r : Reps K F1 ds vs) (r' : Reps K F1 es us) : Wk K F1 (zipL ds es) (Itz K p q) where
  go := fun F H i s1 s2 hi => by
    unfold zipL at hi
    rw [List.length_zipWith] at hi
    have hi1 : i < vs.length := by rw [r.length]; omega
    have hi2 : i < us.length := by rw [r'.length]; omega
    exact ⟨vs, us, vs[i], us[i], .inl (.inl (s2 _ _ (s1 _ _ h))), .inl (.inl (s2 _ _ (s1 _ _ h'))), by simp [hi1], by simp [hi2]⟩
  yld := fun F H H' i d x s1 s2 e y => by
    obtain ⟨T, x1, x2, e1, hT, e2, y1, y2⟩ := y
    subst e2
    have q1 := y1 vs (.inl (.inl (s2 _ _ (s1 _ _ h))))
    have q2 := y2 us (.inl (.inl (s2 _ _ (s1 _ _ h'))))
    unfold zipL at e
    rw [List.getElem?_zipWith] at e
    cases z1 : ds[i]? with
    | none => rw [z1] at e; cases e
    | some d1 =>
      cases z2 : es[i]? with
      | none => rw [z1, z2] at e; cases e
      | some d2 =>
        rw [z1, z2] at e
        cases e
        obtain ⟨v, e5, rv⟩ := r.get z1
        obtain ⟨u, e6, ru⟩ := r'.get z2
        rw [q1] at e5
        rw [q2] at e6
        cases e5
        cases e6
        have fT := s2.free hT
        exact ⟨_, .tup hT, T, _, e1, .inl upd_same, _, _, rfl, Rep.mono (s1.trans (Same.upd fT)) _ _ rv, _, _, rfl, Rep.mono (s1.trans (Same.upd fT)) _ _ ru, rfl⟩
  stop := fun F H i s1 s2 hi => by
    unfold zipL at hi
    rw [List.length_zipWith] at hi
    refine ⟨vs, us, .inl (.inl (s2 _ _ (s1 _ _ h))), .inl (.inl (s2 _ _ (s1 _ _ h'))), ?_⟩
    rw [r.length, r'.length]
    omega
theorem wk_zipT {p q : Addr} {vs us : List V} {ds es : List D} (h : TupAt K F1 p vs) (h' : TupAt K F1 q us) (r : Reps K F1 ds vs) (r' : Reps K F1 es us) : Wk K F1 (zipL ds es) (RZ.ItzT K p q) where
  go := fun F H i s1 s2 hi => by
    unfold zipL at hi
    rw [List.length_zipWith] at hi
    have hi1 : i < vs.length := by rw [r.length]; omega
    have hi2 : i < us.length := by rw [r'.length]; omega
    exact ⟨vs, us, vs[i], us[i], h.sq (s1.trans s2), h'.sq (s1.trans s2), by simp [hi1], by simp [hi2]⟩
  yld := fun F H H' i d x s1 s2 e y => by
    obtain ⟨T, x1, x2, e1, hT, e2, y1, y2⟩ := y
    subst e2
    have q1 := y1 vs (h.sq (s1.trans s2))
    have q2 := y2 us (h'.sq (s1.trans s2))
    unfold zipL at e
    rw [List.getElem?_zipWith] at e
    cases z1 : ds[i]? with
    | none => rw [z1] at e; cases e
    | some d1 =>
      cases z2 : es[i]? with
      | none => rw [z1, z2] at e; cases e
      | some d2 =>
        rw [z1, z2] at e
        cases e
        obtain ⟨v, e5, rv⟩ := r.get z1
        obtain ⟨u, e6, ru⟩ := r'.get z2
        rw [q1] at e5
        rw [q2] at e6
        cases e5
        cases e6
        have fT := s2.free hT
        exact ⟨_, .tup hT, T, _, e1, .inl upd_same, _, _, rfl, Rep.mono (s1.trans (Same.upd fT)) _ _ rv, _, _, rfl, Rep.mono (s1.trans (Same.upd fT)) _ _ ru, rfl⟩
  stop := fun F H i s1 s2 hi => by
    unfold zipL at hi
    rw [List.length_zipWith] at hi
    refine ⟨vs, us, h.sq (s1.trans s2), h'.sq (s1.trans s2), ?_⟩
    rw [r.length, r'.length]
    omega
def riZip (r : RF) : RI := fun ρ Q => r ρ fun ds ρ1 => match ds with
  | [.lst xs, .lst ys] => Q (zipL xs ys) ρ1
  | [.tup xs, .tup ys] => Q (zipL xs ys) ρ1
  | _ => False
theorem vi_zip {tpos : Pos} {elts : List Expr} {kk : Nat} {r : RF} (hg : Gl X "zip") (hm : X.mg "zip" = none) (ha : VF X [a, b] r)
    (hs : starEach [a, b] X.env = (false, eval a X.env) :: starEach [b] X.env := by rfl) (hpl : (backTo pos (starEach [b] X.env)).any (·.1) = false := by rfl) : VI X (.Tuple elts kk tpos) (.Call (.Name "zip" p) [a, b] [] pos) (riZip r) := by
  refine PI.weak (RZ.pi_zipA hg hm ha hs hpl) ?_
  rintro σ H R ⟨S, F, ρ, tmp, Q, h, hr, w⟩
  refine tVF.mk h hr fun vs H1 ⟨F1, ρ1, ds, s1, h1, v1, q1⟩ => ?_
  have sub : Same F1 H1 := by obtain ⟨_, h1⟩ := h1; exact h1.sub
  cases ds with
  | nil => exact q1.elim
  | cons d r =>
    cases r with
    | nil => cases d <;> exact q1.elim
    | cons d2 r =>
      cases r with
      | cons _ _ => cases d <;> first | exact q1.elim | (cases d2 <;> exact q1.elim)
      | nil =>
        obtain ⟨v, u, e, rv, u2, t, e2, rv2, ru⟩ := v1
        cases ru
        subst e2
        cases d with
        | lst xs =>
          cases d2 with
          | lst ys =>
            obtain ⟨p1, vs1, e3, hp1, rr1⟩ := rv
            obtain ⟨p2, vs2, e4, hp2, rr2⟩ := rv2
            subst e3 e4
            exact ⟨p1, p2, vs1, vs2, e, .inl ⟨.inl (.inl (sub _ _ hp1)), .inl (.inl (sub _ _ hp2)), w _ _ ⟨F1, ρ1, _, s1, h1, wk_zipL hp1 hp2 rr1 rr2, q1⟩⟩⟩
          | _ => exact q1.elim
        | tup xs =>
          cases d2 with
          | tup ys =>
            obtain ⟨p1, vs1, e3, hp1, rr1⟩ := rv
            obtain ⟨p2, vs2, e4, hp2, rr2⟩ := rv2
            subst e3 e4
            exact ⟨p1, p2, vs1, vs2, e, .inr ⟨hp1.sq sub, hp2.sq sub, w _ _ ⟨F1, ρ1, _, s1, h1, wk_zipT hp1 hp2 rr1 rr2, q1⟩⟩⟩
          | _ => exact q1.elim
        | _ => exact q1.elim

/-! ### for -/
def forL (rg : RG) (rb : RS) : List D → Ev → EN → Prop
  | [], ρ, E => E.nx ρ
  | d :: ds, ρ, E => rg d ρ fun ρ1 => rb ρ1 { nx := fun ρ2 => forL rg rb ds ρ2 E, rt := E.rt, ct := fun ρ2 => forL rg rb ds ρ2 E, bk := E.nx }
def rFor (ri : RI) (rg : RG) (rb : RS) : RS := fun ρ E => ri ρ fun items ρ1 => forL rg rb items ρ1 E
theorem vs_for {is : List Nat} {tg iter : Expr} {body : List Stmt} {ri : RI} {rg : RG} {rb : RS} (hp : PassesOwn (model X.prog X.w) X.A X.env X.xe) (hc : X.calm = true) (hi : VI X tg iter ri) (hg : VG X is tg rg) (hb : VSs X body rb)
    (hs : ∀ x, foldedSetIterable iter X.env x = pure x := by intro _; rfl) : VS X (.For tg iter body [] pos) (rFor ri rg rb) := by
  refine PS.weak (ps_for hp hc hi hg hb hs) ?_
  rintro D σ H ⟨S, F, ρ, E, h, hr, w⟩
  refine ⟨S, F, ρ, [], _, h, hr, fun J H1 ⟨F1, ρ1, items, s1, h1, wk, q1⟩ => ?_⟩
  refine ⟨fun i m σ H => ∃ F' ρ', Same F1 F' ∧ SR X.K S F' H σ ρ' [] ∧ forL rg rb (items.drop i) ρ' E ∧ m = items.length - i ∧ i ≤ items.length, ⟨_, F1, ρ1, Same.refl F1, h1, q1, rfl, Nat.zero_le _⟩, ?_⟩
  rintro i m σ2 H2 ⟨F2, ρ2, s2, h2, q2, rfl, hi⟩
  have sub : Same F2 H2 := by obtain ⟨_, h2⟩ := h2; exact h2.sub
  by_cases hlt : i < items.length
  · refine .inr ⟨wk.go F2 H2 i s2 sub hlt, fun σ' H' => ∃ F' ρ', Same F1 F' ∧ SR X.K S F' H' σ' ρ' [] ∧ forL rg rb (items.drop (i + 1)) ρ' E, fun σ' H' ⟨F', ρ', z1, z2, z3⟩ => ⟨items.length - (i + 1), by omega, F', ρ', z1, z2, z3, rfl, hlt⟩, fun x H3 y => ?_⟩
    have ed : items.drop i = items[i] :: items.drop (i + 1) := List.drop_eq_getElem_cons hlt
    obtain ⟨F3, fx, rx⟩ := wk.yld F2 H2 H3 i items[i] x s2 sub (List.getElem?_eq_getElem hlt) y
    rw [ed] at q2
    obtain ⟨fps, h2⟩ := h2
    obtain ⟨s3, h3⟩ := fx.sr h2
    refine ⟨S, F3, ρ2, [], _, items[i], ⟨fps, h3⟩, rx, q2, fun σ4 H4 _ ⟨F4, ρ4, s4, h4, q4⟩ => ?_⟩
    have s14 := (s2.trans s3).trans s4
    have s04 := s1.trans s14
    exact ⟨S, F4, ρ4, _, h4, q4, ⟨fun σ' H' ⟨F', ρ', z, h', q⟩ => ⟨F', ρ', s14.trans z, h', q⟩, fun v H' q => w.rt _ _ (q.from s04), fun σ' H' q => w.nx _ _ (q.from s04), fun σ' H' ⟨F', ρ', z, h', q⟩ => ⟨F', ρ', s14.trans z, h', q⟩⟩⟩
  · have e : i = items.length := by omega
    subst e
    rw [List.drop_length] at q2
    exact .inl ⟨wk.stop F2 H2 _ s2 sub (Nat.le_refl _), w.nx _ _ ⟨F2, ρ2, s1.trans s2, h2, q2⟩⟩
end
end VL

namespace VL
open PySem PySem.Spec PyProof.Rows L2

/-! ### what a def promises, over data -/
/-- the arguments; what is wanted of the result, its levels, and of what the changed arguments hold then -/
abbrev ASp := List D → (D → Nat → List D → Prop) → Prop
def ArgsOk (K : Fg) (F H : Hp) : List Bool → List D → List V → List Addr → Prop
  | [], ds, vs, io => ds = [] ∧ vs = [] ∧ io = []
  | false :: bs, ds, vs, io => ∃ d v r r', ds = d :: r ∧ vs = v :: r' ∧ Rep K F d v ∧ ArgsOk K F H bs r r' io
  | true :: bs, ds, vs, io => ∃ d a r r' io', ds = d :: r ∧ vs = .ref a :: r' ∧ io = a :: io' ∧ OwnR K F H 1 d (.ref a) [a] ∧ ArgsOk K F H bs r r' io'
def Outs (K : Fg) (F H : Hp) (io : List Addr) (outs : List D) : Prop := outs.length = io.length ∧ ∀ (j : Nat) (a : Addr), io[j]? = some a → ∃ d, outs[j]? = some d ∧ OwnR K F H 1 d (.ref a) [a]
def CPost (K : Fg) (F H : Hp) (io : List Addr) (Q : D → Nat → List D → Prop) : VK := fun v H' => ∃ F' d k fp outs, Same F F' ∧ Same F' H' ∧ (∀ a, F' a ≠ none → F a ≠ none ∨ H a = none) ∧ (∀ a o, H a = some o → a ∉ io → H' a = some o) ∧ (∀ a, H a ≠ none → H' a ≠ none) ∧
  OwnR K F' H' k d v fp ∧ fp.Nodup ∧ (∀ a ∈ fp, F' a = none ∧ H a = none ∧ H' a ≠ none) ∧ Outs K F' H' io outs ∧ Q d k outs
def liftSp (K : Fg) (ios : List Bool) (sp : ASp) : Sp := fun vs H Q _ => ∃ F ds io R, Same F H ∧ ArgsOk K F H ios ds vs io ∧ io.Nodup ∧ (∀ a ∈ io, F a = none) ∧ sp ds R ∧ ∀ v H', CPost K F H io R v H' → Q v H'
/-- the slots at the entry -/
def rho0 : List Bool → Nat → List D → Ev
  | true :: bs, j, d :: ds => .io j d :: rho0 bs (j + 1) ds
  | false :: bs, j, d :: ds => .fz d :: rho0 bs j ds
  | _, _, _ => []
def outsOf : List Bool → Nat → Ev → Option (List D)
  | [], _, _ => some []
  | true :: bs, j, .io j' d :: ρ => if j' = j then (outsOf bs (j + 1) ρ).map (d :: ·) else none
  | false :: bs, j, _ :: ρ => outsOf bs j ρ
  | _, _, _ => none
def endsOf (ios : List Bool) (R : D → Nat → List D → Prop) : EN where
  nx := fun ρ => ∃ outs, outsOf ios 0 ρ = some outs ∧ R .non 0 outs
  rt := fun d k ρ => ∃ outs, outsOf ios 0 ρ = some outs ∧ R d k outs

section
variable {K : Fg} {F H F' H' : Hp} {S : Frm} {σ : L2.St} {ρ : Ev} {fps : Nat → List Addr} {tmp : List (Addr × HO)}
theorem ArgsOk.len : ∀ {bs : List Bool} {ds : List D} {vs : List V} {io : List Addr}, ArgsOk K F H bs ds vs io → vs.length = bs.length ∧ ds.length = bs.length
  | [], _, _, _, ⟨h1, h2, _⟩ => by subst h1; subst h2; exact ⟨rfl, rfl⟩
  | false :: bs, _, _, _, ⟨d, v, r, r', e1, e2, _, t⟩ => by
    subst e1; subst e2
    obtain ⟨a, b⟩ := ArgsOk.len t
    exact ⟨congrArg (· + 1) a, congrArg (· + 1) b⟩
  | true :: bs, _, _, _, ⟨d, a, r, r', io', e1, e2, e3, _, t⟩ => by
    subst e1; subst e2
    obtain ⟨a, b⟩ := ArgsOk.len t
    exact ⟨congrArg (· + 1) a, congrArg (· + 1) b⟩
def fpl : List Bool → List Addr → Nat → List Addr
  | true :: _, a :: _, 0 => [a]
  | true :: bs, _ :: io, i + 1 => fpl bs io i
  | false :: _, _, 0 => []
  | false :: bs, io, i + 1 => fpl bs io i
  | _, _, _ => []
theorem fpl_mem : ∀ (bs : List Bool) (io : List Addr) (i : Nat) (a : Addr), a ∈ fpl bs io i → a ∈ io
  | true :: _, b :: _, 0, a, h => by
    have e : a = b := by simpa [fpl] using h
    subst e
    simp
  | true :: bs, b :: io, i + 1, a, h => List.mem_cons_of_mem _ (fpl_mem bs io i a h)
  | false :: _, _, 0, a, h => by simp [fpl] at h
  | false :: bs, io, i + 1, a, h => fpl_mem bs io i a h
  | [], _, _, a, h => by simp [fpl] at h
  | true :: _, [], _, a, h => by simp [fpl] at h
theorem fpl_nd : ∀ (bs : List Bool) (io : List Addr) (i : Nat), (fpl bs io i).Nodup
  | true :: _, b :: _, 0 => by simp [fpl]
  | true :: bs, b :: io, i + 1 => fpl_nd bs io i
  | false :: _, _, 0 => by simp [fpl]
  | false :: bs, io, i + 1 => fpl_nd bs io i
  | [], _, _ => by simp [fpl]
  | true :: _, [], _ => by simp [fpl]
theorem fpl_inj : ∀ (bs : List Bool) (io : List Addr) (i j : Nat) (a : Addr), io.Nodup → a ∈ fpl bs io i → a ∈ fpl bs io j → i = j
  | true :: _, b :: _, 0, 0, a, _, _, _ => rfl
  | true :: bs, b :: io, 0, j + 1, a, n, h, h' => by
    have e : a = b := by simpa [fpl] using h
    subst e
    exact absurd (fpl_mem bs io j a h') (List.nodup_cons.mp n).1
  | true :: bs, b :: io, i + 1, 0, a, n, h', h => by
    have e : a = b := by simpa [fpl] using h
    subst e
    exact absurd (fpl_mem bs io i a h') (List.nodup_cons.mp n).1
  | true :: bs, b :: io, i + 1, j + 1, a, n, h, h' => by rw [fpl_inj bs io i j a (List.nodup_cons.mp n).2 h h']
  | false :: _, _, 0, _, a, _, h, _ => by simp [fpl] at h
  | false :: _, _, _ + 1, 0, a, _, _, h => by simp [fpl] at h
  | false :: bs, io, i + 1, j + 1, a, n, h, h' => by rw [fpl_inj bs io i j a n h h']
  | [], _, _, _, a, _, h, _ => by simp [fpl] at h
  | true :: _, [], _, _, a, _, h, _ => by simp [fpl] at h
theorem fpl_off : ∀ (bs : List Bool) (io : List Addr) (i : Nat), bs.length ≤ i → fpl bs io i = []
  | true :: _, b :: _, 0, h => by simp at h
  | true :: bs, b :: io, i + 1, h => fpl_off bs io i (by simpa using h)
  | false :: _, _, 0, h => by simp at h
  | false :: bs, io, i + 1, h => fpl_off bs io i (by simpa using h)
  | [], _, _, _ => rfl
  | true :: _, [], _, _ => rfl
theorem rho0_len : ∀ {bs : List Bool} {j : Nat} {ds : List D}, ds.length = bs.length → (rho0 bs j ds).length = bs.length
  | [], _, [], _ => rfl
  | true :: bs, j, d :: ds, h => congrArg (· + 1) (rho0_len (bs := bs) (j := j + 1) (ds := ds) (by simpa using h))
  | false :: bs, j, d :: ds, h => congrArg (· + 1) (rho0_len (bs := bs) (j := j) (ds := ds) (by simpa using h))
  | true :: bs, j, [], h => by simp at h
  | false :: bs, j, [], h => by simp at h
theorem start_slots : ∀ {bs : List Bool} {ds : List D} {vs : List V} {io pre : List Addr}, ArgsOk K F H bs ds vs io → S.io = pre ++ io → ∀ i s, (rho0 bs pre.length ds)[i]? = some s → SlOk K S F H s ((vs.map some)[i]?).join (fpl bs io i)
  | [], _, _, _, pre, h, _, i, s, e => by simp [rho0] at e
  | false :: bs, _, _, io, pre, ⟨d, v, r, r', e1, e2, rp, t⟩, hs, i, s, e => by
    subst e1; subst e2
    cases i with
    | zero =>
      have e' : some (Sl.fz d) = some s := e
      cases e'
      exact ⟨rfl, v, rfl, rp⟩
    | succ i => exact start_slots t hs i s e
  | true :: bs, _, _, _, pre, ⟨d, a, r, r', io', e1, e2, e3, o, t⟩, hs, i, s, e => by
    subst e1; subst e2; subst e3
    cases i with
    | zero =>
      have e' : some (Sl.io pre.length d) = some s := e
      cases e'
      refine ⟨a, rfl, ?_, rfl, o⟩
      rw [hs, List.getElem?_append_right (Nat.le_refl _), Nat.sub_self]
      rfl
    | succ i =>
      have q := start_slots (pre := pre ++ [a]) t (by rw [hs, List.append_assoc]; rfl) i s (by rw [List.length_append]; exact e)
      exact q
theorem sr_start {bs : List Bool} {ds : List D} {vs : List V} {io : List Addr} {n : Nat} (s : Same F H) (h : ArgsOk K F H bs ds vs io) (nd : io.Nodup) (fr : ∀ a ∈ io, F a = none) (N : List Str) (hn : n = N.length - bs.length) (hl : bs.length ≤ N.length) :
    SR K ⟨H, F, io⟩ F H (L2.start N vs) (rho0 bs 0 ds ++ List.replicate n .no) [] := by
  obtain ⟨l1, l2⟩ := h.len
  have l3 : (rho0 bs 0 ds).length = bs.length := rho0_len l2
  refine ⟨fpl bs io, s, Same.refl F, fun a ha => .inl ha, fun a o e _ => e, fun a e => e, ?_, fun i sl e => ?_, fun i e => ?_, fpl_nd bs io, fun i j a => fpl_inj bs io i j a nd, fun i a ha => fr a (fpl_mem bs io i a ha), .nil, fun _ _ _ z => by simp at z, fun _ z => by simp at z⟩
  · unfold L2.start
    simp [l3, l1, hn]
  · unfold L2.start
    by_cases hi : i < bs.length
    · rw [List.getElem?_append_left (by rw [l3]; exact hi)] at e
      rw [List.getElem?_append_left (by simp [l1, hi])]
      exact start_slots (S := ⟨H, F, io⟩) (pre := []) h rfl i sl e
    · rw [List.getElem?_append_right (by rw [l3]; omega)] at e
      rw [List.getElem?_replicate] at e
      split at e
      · cases e
        exact fpl_off bs io i (by omega)
      · cases e
  · by_cases hi : i < bs.length
    · rw [List.getElem?_append_left (by rw [l3]; exact hi), List.getElem?_eq_none_iff] at e
      omega
    · exact fpl_off bs io i (by omega)
theorem outs_get : ∀ {bs : List Bool} {j0 : Nat} {ρ : Ev} {outs : List D}, outsOf bs j0 ρ = some outs → outs.length = (bs.filter id).length ∧ ∀ j d, outs[j]? = some d → ∃ i : Nat, ρ[i]? = some (.io (j0 + j) d)
  | [], _, _, _, e => by cases e; exact ⟨rfl, fun j d e => by simp at e⟩
  | true :: bs, j0, .io j' d0 :: ρ, outs, e => by
    unfold outsOf at e
    split at e
    · rename_i hj
      cases q : outsOf bs (j0 + 1) ρ with
      | none => rw [q] at e; cases e
      | some os =>
        rw [q] at e
        cases e
        obtain ⟨l, g⟩ := outs_get q
        refine ⟨by show os.length + 1 = _; rw [l]; rfl, fun j d e => ?_⟩
        cases j with
        | zero =>
          cases e
          exact ⟨0, by rw [hj]; rfl⟩
        | succ j =>
          obtain ⟨i, z⟩ := g j d e
          exact ⟨i + 1, by rw [Nat.add_right_comm] at z; exact z⟩
    · cases e
  | false :: bs, j0, s :: ρ, outs, e => by
    obtain ⟨l, g⟩ := outs_get (bs := bs) (j0 := j0) (ρ := ρ) e
    refine ⟨l, fun j d e => ?_⟩
    obtain ⟨i, z⟩ := g j d e
    exact ⟨i + 1, z⟩
  | true :: bs, j0, [], _, e => by cases e
  | false :: bs, j0, [], _, e => by cases e
  | true :: bs, j0, .no :: ρ, _, e => by cases e
  | true :: bs, j0, .fz _ :: ρ, _, e => by cases e
  | true :: bs, j0, .ow _ _ :: ρ, _, e => by cases e
theorem ArgsOk.ioLen : ∀ {bs : List Bool} {ds : List D} {vs : List V} {io : List Addr}, ArgsOk K F H bs ds vs io → io.length = (bs.filter id).length
  | [], _, _, _, ⟨_, _, e⟩ => by subst e; rfl
  | false :: bs, _, _, io, ⟨d, v, r, r', e1, e2, _, t⟩ => by
    show io.length = (bs.filter id).length
    exact ArgsOk.ioLen t
  | true :: bs, _, _, _, ⟨d, b, r, r', io', e1, e2, e3, o, t⟩ => by
    subst e3
    show io'.length + 1 = _
    rw [ArgsOk.ioLen t]
    rfl
end

section
variable {P : Program} {w : World} {K : Fg} {mg : Str → Option Value} {base : Heap}
end

/-! ### calls -/
inductive Ag where
  | v (d : D) | s (i : Nat)
def AgV (K : Fg) (F : Hp) (σ : L2.St) : Ag → V → Prop
  | .v d, v => Rep K F d v
  | .s i, v => σ[i]? = some (some v)
def AgVs (K : Fg) (F : Hp) (σ : L2.St) : List Ag → List V → Prop
  | [], vs => vs = []
  | o :: os, vs => ∃ v r, vs = v :: r ∧ AgV K F σ o v ∧ AgVs K F σ os r
abbrev RAg := Ev → (List Ag → Ev → Prop) → Prop
def GPost (K : Fg) (S : Frm) (F : Hp) (σ : L2.St) (tmp : List (Addr × HO)) (Q : List Ag → Ev → Prop) : List V → Hp → Prop := fun vs H' => ∃ F' ρ' os, Same F F' ∧ SR K S F' H' σ ρ' tmp ∧ AgVs K F' σ os vs ∧ Q os ρ'
def tVG (K : Fg) (r : RAg) : TA := fun σ H Q' => ∃ S F ρ tmp Q, SR K S F H σ ρ tmp ∧ r ρ Q ∧ ∀ vs H', GPost K S F σ tmp Q vs H' → Q' vs H'
def VAg (X : Cx) (es : List Expr) (r : RAg) : Prop := PA X es (tVG X.K r)
def rgA0 : RAg := fun ρ Q => Q [] ρ
def rgAv (ra : RE) (r : RAg) : RAg := fun ρ Q => ra ρ fun d _ ρ1 => r ρ1 fun os ρ2 => Q (.v d :: os) ρ2
def ownM (ρ : Ev) (i : Nat) : Option D := match owned ρ i with
  | some (.lst ds) => some (.lst ds)
  | some (.dct ks ds) => some (.dct ks ds)
  | _ => none
def rgAs (i : Nat) (r : RAg) : RAg := fun ρ Q => (ownM ρ i).isSome = true ∧ r ρ fun os ρ2 => Q (.s i :: os) ρ2
def agS : List Ag → List Nat
  | [] => []
  | .v _ :: r => agS r
  | .s i :: r => i :: agS r
def agDs (ρ : Ev) : List Bool → List Ag → Option (List D)
  | [], [] => some []
  | false :: bs, .v d :: r => (agDs ρ bs r).map (d :: ·)
  | true :: bs, .s i :: r => match ownM ρ i, agDs ρ bs r with
    | some d, some ds => some (d :: ds)
    | _, _ => none
  | _, _ => none
def putAg : Ev → List Ag → List D → Option Ev
  | ρ, .s i :: r, o :: os => putAg (putO ρ i o) r os
  | ρ, .v _ :: r, os => putAg ρ r os
  | ρ, [], [] => some ρ
  | _, _, _ => none
def ndB : List Nat → Bool
  | [] => true
  | i :: r => !r.contains i && ndB r
theorem ndB.nd : ∀ {l : List Nat}, ndB l = true → l.Nodup
  | [], _ => .nil
  | i :: r, h => by
    have h' := Bool.and_eq_true_iff.mp h
    refine List.nodup_cons.mpr ⟨fun z => ?_, ndB.nd h'.2⟩
    have := h'.1
    rw [Bool.not_eq_true', List.contains_eq_mem, decide_eq_false_iff_not] at this
    exact this z
def rCall (ios : List Bool) (sp : ASp) (rg : RAg) : RE := fun ρ Q => rg ρ fun ags ρ1 => ndB (agS ags) = true ∧ ∃ ds, agDs ρ1 ios ags = some ds ∧ sp ds fun d k outs => ∃ ρ2, putAg ρ1 ags outs = some ρ2 ∧ Q d k ρ2

section
variable {X : Cx} {e : Expr} {es : List Expr} {pos p : Pos} {K : Fg} {S : Frm} {F F' F1 H H' : Hp} {σ : L2.St} {ρ ρ' ρ1 ρ2 : Ev} {tmp : List (Addr × HO)} {fps : Nat → List Addr}
theorem tVG.mk {r : RAg} {Q : List Ag → Ev → Prop} {Q' : List V → Hp → Prop} (h : SR K S F H σ ρ tmp) (hr : r ρ Q) (w : ∀ v H', GPost K S F σ tmp Q v H' → Q' v H') : tVG K r σ H Q' := ⟨S, F, ρ, tmp, Q, h, hr, w⟩
theorem AgVs.mono {os : List Ag} {vs : List V} (s : Same F F') (h : AgVs K F σ os vs) : AgVs K F' σ os vs := by
  induction os generalizing vs with
  | nil => exact h
  | cons o os ih =>
    obtain ⟨v, r, e, h, t⟩ := h
    refine ⟨v, r, e, ?_, ih t⟩
    cases o with
    | v d => exact Rep.mono s d v h
    | s i => exact h
theorem vg0 : VAg X [] rgA0 := by
  refine PA.weak pa_nil ?_
  rintro σ H Q' ⟨S, F, ρ, tmp, Q, h, hr, w⟩
  exact w _ _ ⟨F, ρ, [], Same.refl F, h, rfl, hr⟩
theorem vgv {ra : RE} {r : RAg} (ha : VE X e ra) (hr : VAg X es r) (hs : starEach (e :: es) X.env = (false, eval e X.env) :: starEach es X.env := by rfl) : VAg X (e :: es) (rgAv ra r) := by
  refine PA.weak (pa_cons ha hr hs) ?_
  rintro σ H Q' ⟨S, F, ρ, tmp, Q, h, hr, w⟩
  refine tV.mk h hr fun v H1 q => ?_
  obtain ⟨F1, ρ1, d, k, s1, h1, v1, q1⟩ := q.fz
  refine tVG.mk h1 q1 fun vs H2 ⟨F2, ρ2, os, s2, h2, v2, q2⟩ => ?_
  exact w _ _ ⟨F2, ρ2, .v d :: os, s1.trans s2, h2, ⟨v, vs, rfl, Rep.mono s2 d v v1, v2⟩, q2⟩
theorem own_ref {d : D} {i : Nat} (h : SRf K S F H σ ρ fps tmp) (e : ownM ρ i = some d) : ∃ a, σ[i]? = some (some (.ref a)) ∧ fps i = [a] ∧ OwnR K F H 1 d (.ref a) [a] ∧ owned ρ i = some d := by
  unfold ownM at e
  split at e
  · rename_i ds q
    cases e
    obtain ⟨p, vs, e1, e2, e3, r⟩ := h.ownL q
    exact ⟨p, e1, e2, OwnR.lst1 e3 r, q⟩
  · rename_i ks ds q
    cases e
    obtain ⟨p, ⟨e1, e2, r⟩ | ⟨e1, v, e2, r⟩⟩ := h.own1 q
    · exact ⟨p, e1, e2, r, q⟩
    · exfalso
      unfold owned at q
      split at q
      · rename_i d' z
        cases q
        obtain ⟨_, v', e4, p', vs', e5, h5, e6, t'⟩ := h.slot i _ z
        rw [e1] at e6
        cases e6
      · rename_i j d' z
        cases q
        obtain ⟨a, _, _, e6, _⟩ := h.slot i _ z
        rw [e1] at e6
        cases e6
      · cases q
  · cases e
theorem vgs {i : Nat} {r : RAg} (ha : PE X e (tVar i)) (hr : VAg X es r) (hs : starEach (e :: es) X.env = (false, eval e X.env) :: starEach es X.env := by rfl) : VAg X (e :: es) (rgAs i r) := by
  refine PA.weak (pa_cons ha hr hs) ?_
  rintro σ H Q' ⟨S, F, ρ, tmp, Q, ⟨fps, h⟩, ⟨hi, hr⟩, w⟩
  obtain ⟨d, hd⟩ := Option.isSome_iff_exists.mp hi
  obtain ⟨a, e1, _⟩ := own_ref h hd
  refine ⟨_, e1, ?_⟩
  refine tVG.mk ⟨fps, h⟩ hr fun vs H2 ⟨F2, ρ2, os, s2, h2, v2, q2⟩ => ?_
  exact w _ _ ⟨F2, ρ2, .s i :: os, s2, h2, ⟨_, vs, rfl, e1, v2⟩, q2⟩
/-- the arguments as the callee finds them -/
theorem args_of (h : SRf K S F H σ ρ fps tmp) : ∀ {bs : List Bool} {ags : List Ag} {vs : List V} {ds : List D}, AgVs K F σ ags vs → agDs ρ bs ags = some ds → ∃ io, ArgsOk K F H bs ds vs io ∧ (∀ a ∈ io, ∃ i ∈ agS ags, fps i = [a]) ∧ io.length = (agS ags).length ∧ ∀ (j : Nat) (i : Nat), (agS ags)[j]? = some i → ∃ a d, io[j]? = some a ∧ σ[i]? = some (some (.ref a)) ∧ fps i = [a] ∧ owned ρ i = some d
  | [], [], vs, ds, hv, e => by cases e; exact ⟨[], ⟨rfl, hv, rfl⟩, fun _ z => by simp at z, rfl, fun j i e => by simp [agS] at e⟩
  | false :: bs, .v d :: r, vs, ds, ⟨v, r', e1, h1, t⟩, e => by
    unfold agDs at e
    cases q : agDs ρ bs r with
    | none => rw [q] at e; cases e
    | some ds' =>
      rw [q] at e
      cases e
      obtain ⟨io, a1, a2, a3, a4⟩ := args_of h t q
      exact ⟨io, ⟨d, v, ds', r', rfl, e1, h1, a1⟩, a2, a3, a4⟩
  | true :: bs, .s i :: r, vs, ds, ⟨v, r', e1, h1, t⟩, e => by
    unfold agDs at e
    split at e
    · rename_i d ds' q1 q2
      cases e
      obtain ⟨io, a1, a2, a3, a4⟩ := args_of h t q2
      obtain ⟨a, b1, b2, b3, b4⟩ := own_ref h q1
      have e2 : v = .ref a := by
        have : σ[i]? = some (some v) := h1
        rw [b1] at this
        cases this
        rfl
      subst e2
      refine ⟨a :: io, ⟨d, a, ds', r', io, rfl, e1, rfl, b3, a1⟩, fun b hb => ?_, congrArg (· + 1) a3, fun j m ej => ?_⟩
      · rcases List.mem_cons.mp hb with z | z
        · subst z; exact ⟨i, by simp [agS], b2⟩
        · obtain ⟨m, hm, e⟩ := a2 b z
          exact ⟨m, by simp [agS, hm], e⟩
      · cases j with
        | zero =>
          have ej' : some i = some m := ej
          cases ej'
          exact ⟨a, d, rfl, b1, b2, b4⟩
        | succ j => exact a4 j m ej
    · cases e
  | [], _ :: _, _, _, _, e => by cases e
  | false :: _, [], _, _, _, e => by cases e
  | true :: _, [], _, _, _, e => by cases e
  | false :: _, .s _ :: _, _, _, _, e => by cases e
  | true :: _, .v _ :: _, _, _, _, e => by cases e
def upS (d : D) : Sl → Sl
  | .ow k _ => .ow k d
  | .io j _ => .io j d
  | s => s
theorem putO_len {i : Nat} {d : D} : (putO ρ i d).length = ρ.length := by
  unfold putO
  split <;> simp
theorem putO_at {i : Nat} {d : D} : (putO ρ i d)[i]? = (ρ[i]?).map (upS d) := by
  unfold putO
  cases q : ρ[i]? with
  | none => simp [q]
  | some s =>
    have hl : i < ρ.length := (List.getElem?_eq_some_iff.mp q).1
    cases s with
    | no => simp [q, upS]
    | fz _ => simp [q, upS]
    | ow k _ => simp [hl, upS]
    | io j _ => simp [hl, upS]
theorem putO_ne {i m : Nat} {d : D} (h : m ≠ i) : (putO ρ i d)[m]? = ρ[m]? := by
  unfold putO
  split
  · rw [List.getElem?_set_ne (Ne.symm h)]
  · rw [List.getElem?_set_ne (Ne.symm h)]
  · rfl
theorem putAg_get : ∀ {ags : List Ag} {ρ ρ2 : Ev} {outs : List D}, putAg ρ ags outs = some ρ2 → (agS ags).Nodup → ρ2.length = ρ.length ∧ ∀ i s, ρ2[i]? = some s → (i ∉ agS ags ∧ ρ[i]? = some s) ∨ ∃ (j : Nat) (d : D), (agS ags)[j]? = some i ∧ outs[j]? = some d ∧ (ρ[i]?).map (upS d) = some s
  | [], ρ, ρ2, [], e, _ => by cases e; exact ⟨rfl, fun i s e => .inl ⟨by simp [agS], e⟩⟩
  | [], ρ, ρ2, _ :: _, e, _ => by cases e
  | .v _ :: r, ρ, ρ2, outs, e, n => by
    have e' : putAg ρ r outs = some ρ2 := by
      cases outs <;> exact e
    exact putAg_get (ags := r) e' n
  | .s i0 :: r, ρ, ρ2, o :: os, e, n => by
    obtain ⟨l, g⟩ := putAg_get (ags := r) (ρ := putO ρ i0 o) e (List.nodup_cons.mp n).2
    refine ⟨l.trans putO_len, fun i s e1 => ?_⟩
    by_cases q : i = i0
    · subst q
      rcases g i s e1 with ⟨_, z⟩ | ⟨j, d, z, _⟩
      · rw [putO_at] at z
        exact .inr ⟨0, o, rfl, rfl, z⟩
      · exact absurd (List.mem_of_getElem? z) (List.nodup_cons.mp n).1
    · rcases g i s e1 with ⟨z1, z⟩ | ⟨j, d, z, z2, z3⟩
      · rw [putO_ne q] at z
        exact .inl ⟨fun w => by
          rcases List.mem_cons.mp w with w | w
          · exact q w
          · exact z1 w, z⟩
      · rw [putO_ne q] at z3
        exact .inr ⟨j + 1, d, z, z2, z3⟩
  | .s _ :: _, _, _, [], e, _ => by cases e
/-- behind a call -/
theorem SRf.called {ags : List Ag} {outs : List D} {io : List Addr} {fp : List Addr} (h : SRf K S F H σ ρ fps tmp) (nd : (agS ags).Nodup) (hio : ∀ a ∈ io, ∃ i ∈ agS ags, fps i = [a])
    (hat : ∀ (j : Nat) (i : Nat), (agS ags)[j]? = some i → ∃ a d, io[j]? = some a ∧ σ[i]? = some (some (.ref a)) ∧ fps i = [a] ∧ owned ρ i = some d)
    (s1 : Same F F') (s2 : Same F' H') (fn : ∀ a, F' a ≠ none → F a ≠ none ∨ H a = none) (kp : ∀ a o, H a = some o → a ∉ io → H' a = some o) (lv : ∀ a, H a ≠ none → H' a ≠ none) (nf : fp.Nodup) (hfp : ∀ a ∈ fp, F' a = none ∧ H a = none ∧ H' a ≠ none)
    (ho : Outs K F' H' io outs) (hp : putAg ρ ags outs = some ρ2) : ∃ tm, tm.map (·.1) = fp ∧ SRf K S F' H' σ ρ2 fps (tm ++ tmp) := by
  obtain ⟨l, g⟩ := putAg_get hp nd
  have h1 : SRf K S F' H' σ ρ2 fps tmp := by
    refine h.change io s1 s2 fn kp lv (fun a ha => ?_) l fun i s e => ?_
    · obtain ⟨i, _, e⟩ := hio a ha
      exact ⟨i, by rw [e]; simp⟩
    · rcases g i s e with ⟨z1, z2⟩ | ⟨j, d, z1, z2, z3⟩
      · refine .inl ⟨z2, fun a ha ha2 => ?_⟩
        obtain ⟨m, hm, em⟩ := hio a ha2
        have : i = m := h.dis i m a ha (by rw [em]; simp)
        subst this
        exact z1 hm
      · refine .inr ?_
        obtain ⟨a, d0, b1, b2, b3, b4⟩ := hat j i z1
        obtain ⟨d', c1, c2⟩ := ho.2 j a b1
        rw [z2] at c1
        cases c1
        rw [b2, b3]
        cases q : ρ[i]? with
        | none => rw [q] at z3; cases z3
        | some s0 =>
          rw [q] at z3
          cases z3
          have sl := h.slot i _ q
          rw [b2, b3] at sl
          unfold owned at b4
          rw [q] at b4
          cases s0 with
          | no => cases b4
          | fz _ => cases b4
          | ow k d1 =>
            have hk : k = 1 := by
              by_cases hk : k = 1
              · exact hk
              · split at b4
                · rename_i heq; cases heq; exact rfl
                · rename_i heq; cases heq
                · cases b4
            subst hk
            exact ⟨sl.1, _, rfl, c2⟩
          | io j' d1 =>
            obtain ⟨a', e1, e2, e3, _⟩ := sl
            cases e1
            exact ⟨a, rfl, e2, rfl, c2⟩
  obtain ⟨tm, et, qt⟩ := objs_at fp fun a ha => (hfp a ha).2.2
  refine ⟨tm, et, { h1 with ndT := ?_, disT := fun i a ha z => ?_, freeT := fun t ht => ?_ }⟩
  · rw [List.map_append, et]
    refine List.nodup_append.mpr ⟨nf, h.ndT, fun a ha b hb z => ?_⟩
    subst z
    obtain ⟨t, ht, e⟩ := List.mem_map.mp hb
    have := (h.freeT t ht).2.2
    rw [e, (hfp a ha).2.1] at this
    cases this
  · rw [List.map_append, et] at z
    rcases List.mem_append.mp z with y | y
    · exact h.alive i a ha (hfp a y).2.1
    · exact h.disT i a ha y
  · rcases List.mem_append.mp ht with y | y
    · have y2 : t.1 ∈ fp := by rw [← et]; exact List.mem_map_of_mem y
      exact ⟨(hfp _ y2).1, h.live _ (hfp _ y2).2.1, qt t y⟩
    · exact h1.freeT t y
theorem tCall.of {ios : List Bool} {sp : ASp} {rg : RAg} (σ : L2.St) (H : Hp) (Q' : VK) (h : tV K (rCall ios sp rg) σ H Q') : tCall (liftSp K ios sp) [] E0 (tVG K rg) σ H Q' := by
  obtain ⟨S, F, ρ, tmp, Q, h, hr, w⟩ := h
  refine tVG.mk h hr fun vs H1 ⟨F1, ρ1, ags, s1, ⟨fps, h1⟩, v1, nd, ds, e1, q1⟩ => ?_
  obtain ⟨io, a1, a2, a3, a4⟩ := args_of h1 v1 e1
  have nd' := ndB.nd nd
  have ndI : io.Nodup := by
    refine List.pairwise_iff_getElem.mpr fun i j hi0 hj0 hij z => ?_
    have hi : i < (agS ags).length := by omega
    have hj2 : j < (agS ags).length := by omega
    obtain ⟨x, _, x1, _, x2, _⟩ := a4 i _ (List.getElem?_eq_getElem hi)
    obtain ⟨y, _, y1, _, y2, _⟩ := a4 j _ (List.getElem?_eq_getElem hj2)
    rw [List.getElem?_eq_getElem hi0] at x1
    rw [List.getElem?_eq_getElem hj0] at y1
    cases x1
    cases y1
    rw [← z] at y2
    have e : (agS ags)[i] = (agS ags)[j] := h1.dis _ _ io[i] (by rw [x2]; simp) (by rw [y2]; simp)
    exact absurd ((List.getElem_inj nd').mp e) (by omega)
  show liftSp K ios sp (vs ++ []) H1 Q' E0
  rw [List.append_nil]
  refine ⟨F1, ds, io, _, h1.sub, a1, ndI, fun a ha => ?_, q1, fun v H2 ⟨F2, d, k, fp, outs, b1, b2, b3, b4, b5, b6, b7, b8, b9, ρ2, b10, q2⟩ => ?_⟩
  · obtain ⟨i, _, e⟩ := a2 a ha
    exact h1.free i a (by rw [e]; simp)
  · obtain ⟨tm, et, h2⟩ := h1.called nd' a2 a4 b1 b2 b3 b4 b5 b7 b8 b9 b10
    exact w _ _ ⟨F2, ρ2, d, k, tm, s1.trans b1, ⟨fps, h2⟩, by rw [et]; exact b6, q2⟩
end
end VL

namespace VL
open PySem PySem.Spec PyProof.Rows L2

section
variable {X : Cx} {st : Stmt} {sts rest : List Stmt} {e a b c : Expr} {es : List Expr} {pos p apos cpos : Pos} {K : Fg} {S : Frm} {F F' F1 H H' : Hp} {σ σ' σ2 : L2.St} {ρ ρ' ρ1 ρ3 : Ev} {tmp : List (Addr × HO)} {fps : Nat → List Addr} {i : Nat}

/-! ### an owned list is changed -/
def lstAt (ρ : Ev) (i : Nat) : Option (List D) := match owned ρ i with
  | some (.lst ds) => some ds
  | _ => none
theorem lstAt_of {ds : List D} (h : lstAt ρ i = some ds) : owned ρ i = some (.lst ds) := by
  unfold lstAt at h
  split at h
  · rename_i z q; cases h; exact q
  · cases h
theorem SRf.setL {ds es : List D} {p : Addr} {us : List V} (h : SRf K S F H σ ρ fps tmp) (e : lstAt ρ i = some ds) (hs : σ[i]? = some (some (.ref p))) (hf : fps i = [p]) (r : Reps K F es us) : SRf K S F (upd H p (.lst us)) σ (putO ρ i (.lst es)) fps tmp :=
  h.write (lstAt_of e) hs hf (OwnR.lst1 upd_same r)
/-- xs[k] = e -/
def rSetIx (i : Nat) (re ri : RE) : RS := fun ρ E => re ρ fun d _ ρ1 => (lstAt ρ1 i).isSome = true ∧ ri ρ1 fun di _ ρ2 => match di with
  | .int k => ∃ ds, lstAt ρ2 i = some ds ∧ ∃ j, ixN ds.length k = some j ∧ E.nx (putO ρ2 i (.lst (ds.set j d)))
  | _ => False
theorem SRf.lref {ds : List D} (h : SRf K S F H σ ρ fps tmp) (e : lstAt ρ i = some ds) : ∃ p vs, σ[i]? = some (some (.ref p)) ∧ fps i = [p] ∧ H p = some (.lst vs) ∧ Reps K F ds vs := h.ownL (lstAt_of e)
theorem vs_setIx {o ix : Expr} {re ri : RE} (he : VE X e re) (ho : PE X o (tVar i)) (hi : VE X ix ri)
    (ha : ∀ v, assign (.Subscript o ix p) X.env v = (do
      let ov ← holding [v] (eval o X.env)
      let iv ← holding [v, ov] (eval ix X.env)
      standAt p
      holding [v, ov, iv] (setItem ov iv v)
      release [v, ov, iv] []) := by intro _; rfl)
    (hs : swapsWithSole [.Subscript o ix p] e pos.line X.env = pure false := by rfl) (hw : swappedStores [.Subscript o ix p] e X.env = pure none := by rfl)
    (h1 : (assignEach [.Subscript o ix p] X.env).map (·.2) = [assign (.Subscript o ix p) X.env] := by rfl) : VS X (.Assign [.Subscript o ix p] e pos) (rSetIx i re ri) := by
  refine PS.weak (ps_asg he (pg_sub ho hi set_list ha) hs hw h1) ?_
  rintro D σ H ⟨S, F, ρ, E, h, hr, w⟩
  refine tV.mk h hr fun v H1 q => ?_
  obtain ⟨F1, ρ1, d, k, s1, ⟨fps1, h1⟩, r1, q0, q1⟩ := q.fz
  obtain ⟨ds0, e0⟩ := Option.isSome_iff_exists.mp q0
  obtain ⟨p0, vs0, e3, _⟩ := h1.lref e0
  refine ⟨_, e3, tV.mk ⟨fps1, h1⟩ q1 fun iv H2 q => ?_⟩
  obtain ⟨F2, ρ2, di, k2, s2, ⟨fps, h2⟩, r2, q2⟩ := q.fz
  cases di with
  | int z =>
    obtain ⟨ds, e1, j, e2, q2⟩ := q2
    obtain ⟨p, vs, e4, e5, e6, rr⟩ := h2.lref e1
    rw [e3] at e4
    cases e4
    cases r2
    exact ⟨_, vs, z, j, rfl, rfl, e6, by rw [rr.length]; exact e2, w.nx _ _ ⟨F2, _, s1.trans s2, ⟨fps, h2.setL e1 e3 e5 (Reps.set (Rep.mono s2 _ _ r1) j rr)⟩, q2⟩⟩
  | _ => exact q2.elim
/-- x.m(e, ..) of an owned list: m's own answer, the list behind it -/
abbrev GL := List D → List D → (D → List D → Prop) → Prop
def LkL (K : Fg) (r : V → List V → Hp → VK → Prop) (g : GL) : Prop := ∀ (F H : Hp) (p : Addr) (vs us : List V) (ds es : List D) (R : D → List D → Prop) (Q' : VK), Same F H → H p = some (.lst vs) → Reps K F ds vs → Shals K F H es us → g ds es R → (∀ d ds' v vs', Rep K F d v → Reps K F ds' vs' → R d ds' → Q' v (upd H p (.lst vs'))) → r (.ref p) us H Q'
def rMet (i : Nat) (g : GL) (ra : RA) : RE := fun ρ Q => (lstAt ρ i).isSome = true ∧ ra ρ fun os ρ1 => ∃ es, opDs ρ1 os = some es ∧ ∃ ds, lstAt ρ1 i = some ds ∧ g ds es fun d ds' => Q d 0 (putO ρ1 i (.lst ds'))
theorem met_done {Q : QE} {g : GL} {r : V → List V → Hp → VK → Prop} {os : List Op} {us : List V} {ds es : List D} {p0 : Addr} {Q' : VK} (lk : LkL K r g) (s1 : Same F F1) (h1 : SRf K S F1 H1 σ ρ1 fps tmp) (v1 : OpVs K F1 σ os us) (e1 : opDs ρ1 os = some es) (e2 : lstAt ρ1 i = some ds) (e0 : σ[i]? = some (some (.ref p0)))
    (g1 : g ds es fun d ds' => Q d 0 (putO ρ1 i (.lst ds'))) (w : ∀ v H', VPost K S F σ tmp Q v H' → Q' v H') : r (.ref p0) us H1 Q' := by
  obtain ⟨p, vs, e3, e4, e5, rr⟩ := h1.lref e2
  rw [e0] at e3
  cases e3
  refine lk F1 H1 _ vs us ds es _ _ h1.sub e5 rr (SR.ops ⟨fps, h1⟩ v1 e1) g1 fun d ds' v vs' rd rs q => w _ _ ?_
  exact VPost.of s1 ⟨fps, h1.setL e2 e0 e4 rs⟩ rd q
theorem ve_met {o : Expr} {m : Str} {id : String} {g : GL} {r : V → List V → Hp → VK → Prop} {ra : RA} (slot : Slot "list" m id) (hty : typeOf (.builtin id) = pure (.type "method_descriptor")) (hm : MtR X id r) (lk : LkL X.K r g) (ho : PE X o (tVar i)) (ha : VA X (e :: es) ra)
    (hbase : attributeBase o m X.env (eval o X.env) = eval o X.env := by rfl)
    (hfew : ((backTo cpos (starEach (e :: es) X.env)).all (fun x => !x.1) && (backToKw cpos (keywordEach [] X.env)).all (fun x => x.1.isSome)
      && decide ((e :: es).length + ([] : List Keyword).length + (if ([] : List Keyword).isEmpty then 0 else 1) < 30)) = true := by rfl)
    (hline : (apos.endLine == cpos.line) = true := by rfl) (hs : starEach (e :: es) X.env = (false, eval e X.env) :: starEach es X.env := by rfl) (hplain : (backTo cpos (starEach es X.env)).any (·.1) = false := by rfl) :
    VE X (.Call (.Attribute o m apos) (e :: es) [] cpos) (rMet i g ra) := by
  refine PE.weak (pe_bm PySem.F.plainAttrs_list slot hty hm ho ha hbase hfew hline hs hplain) ?_
  rintro σ H Q' ⟨S, F, ρ, tmp, Q, ⟨fps, h⟩, ⟨q0, hr⟩, w⟩
  obtain ⟨ds0, e0⟩ := Option.isSome_iff_exists.mp q0
  obtain ⟨p0, vs0, e3, _, e5, _⟩ := h.lref e0
  refine ⟨_, e3, .inl ⟨rfl, _, SqL.of e5⟩, tVA.mk ⟨fps, h⟩ hr fun us H1 ⟨F1, ρ1, os, s1, ⟨fps1, h1⟩, v1, es, e1, ds, e2, g1⟩ => ?_⟩
  exact met_done lk s1 h1 v1 e1 e2 e3 g1 w
theorem ve_met0 {o : Expr} {m : Str} {id : String} {g : GL} {r : V → List V → Hp → VK → Prop} (slot : Slot "list" m id) (hty : typeOf (.builtin id) = pure (.type "method_descriptor")) (hm : MtR X id r) (lk : LkL X.K r g) (ho : PE X o (tVar i))
    (hbase : attributeBase o m X.env (eval o X.env) = eval o X.env := by rfl) (hline : (apos.endLine == cpos.line) = true := by rfl) : VE X (.Call (.Attribute o m apos) [] [] cpos) (rMet i g raNil) := by
  refine PE.weak (pe_bm0 PySem.F.plainAttrs_list slot hty hm ho hbase hline) ?_
  rintro σ H Q' ⟨S, F, ρ, tmp, Q, ⟨fps, h⟩, ⟨q0, es, e1, ds, e2, g1⟩, w⟩
  obtain ⟨p0, vs0, e3, _, e5, _⟩ := h.lref e2
  refine ⟨_, e3, .inl ⟨rfl, _, SqL.of e5⟩, ?_⟩
  exact met_done lk (Same.refl F) h (show OpVs X.K F σ [] [] from rfl) e1 e2 e3 g1 w
def gApp : GL := fun ds es R => match es with | [e] => ds.length < sizeLine ∧ R .non (ds ++ [e]) | _ => False
def gExt : GL := fun ds es R => match es with | [.lst e] => ds.length + e.length ≤ sizeLine ∧ R .non (ds ++ e) | _ => False
def gPop : GL := fun ds es R => match es with | [] => ∃ d, ds[ds.length - 1]? = some d ∧ R d ds.dropLast | _ => False
/-- a thing as it is given, frozen: what an append takes -/
def rMetF (i : Nat) (g : GL) (ra : RF) : RE := fun ρ Q => (lstAt ρ i).isSome = true ∧ ra ρ fun es ρ1 => ∃ ds, lstAt ρ1 i = some ds ∧ g ds es fun d ds' => Q d 0 (putO ρ1 i (.lst ds'))
def LkF (K : Fg) (r : V → List V → Hp → VK → Prop) (g : GL) : Prop := ∀ (F H : Hp) (p : Addr) (vs us : List V) (ds es : List D) (R : D → List D → Prop) (Q' : VK), Same F H → H p = some (.lst vs) → Reps K F ds vs → Reps K F es us → g ds es R → (∀ d ds' v vs', Rep K F d v → Reps K F ds' vs' → R d ds' → Q' v (upd H p (.lst vs'))) → r (.ref p) us H Q'
theorem ve_metF {o : Expr} {m : Str} {id : String} {g : GL} {r : V → List V → Hp → VK → Prop} {ra : RF} (slot : Slot "list" m id) (hty : typeOf (.builtin id) = pure (.type "method_descriptor")) (hm : MtR X id r) (lk : LkF X.K r g) (ho : PE X o (tVar i)) (ha : VF X (e :: es) ra)
    (hbase : attributeBase o m X.env (eval o X.env) = eval o X.env := by rfl)
    (hfew : ((backTo cpos (starEach (e :: es) X.env)).all (fun x => !x.1) && (backToKw cpos (keywordEach [] X.env)).all (fun x => x.1.isSome)
      && decide ((e :: es).length + ([] : List Keyword).length + (if ([] : List Keyword).isEmpty then 0 else 1) < 30)) = true := by rfl)
    (hline : (apos.endLine == cpos.line) = true := by rfl) (hs : starEach (e :: es) X.env = (false, eval e X.env) :: starEach es X.env := by rfl) (hplain : (backTo cpos (starEach es X.env)).any (·.1) = false := by rfl) :
    VE X (.Call (.Attribute o m apos) (e :: es) [] cpos) (rMetF i g ra) := by
  refine PE.weak (pe_bm PySem.F.plainAttrs_list slot hty hm ho ha hbase hfew hline hs hplain) ?_
  rintro σ H Q' ⟨S, F, ρ, tmp, Q, ⟨fps, h⟩, ⟨q0, hr⟩, w⟩
  obtain ⟨ds0, e0⟩ := Option.isSome_iff_exists.mp q0
  obtain ⟨p0, vs0, e3, _, e5, _⟩ := h.lref e0
  refine ⟨_, e3, .inl ⟨rfl, _, SqL.of e5⟩, tVF.mk ⟨fps, h⟩ hr fun us H1 ⟨F1, ρ1, es, s1, ⟨fps1, h1⟩, v1, ds, e2, g1⟩ => ?_⟩
  obtain ⟨p, vs, e6, e7, e8, rr⟩ := h1.lref e2
  rw [e3] at e6
  cases e6
  exact lk F1 H1 _ vs us ds es _ _ h1.sub e8 rr v1 g1 fun d ds' v vs' rd rs q => w _ _ (VPost.of s1 ⟨fps1, h1.setL e2 e3 e7 rs⟩ rd q)
theorem rep_non {K : Fg} {F : Hp} : Rep K F .non .non := rfl
theorem lk_app : LkF K rAppend gApp := fun F H p vs us ds es R Q' s hp r ra g w => by
  cases es with
  | nil => exact g.elim
  | cons e es =>
    cases es with
    | cons _ _ => exact g.elim
    | nil =>
      obtain ⟨v, u, e1, rv, ru⟩ := ra
      cases ru
      exact ⟨p, vs, v, rfl, e1, hp, by rw [r.length]; exact g.1, w _ _ _ _ rep_non (r.append (Reps.one rv)) g.2⟩
theorem lk_ext : LkL K rExtend gExt := fun F H p vs us ds es R Q' s hp r ra g w => by
  cases es with
  | nil => exact g.elim
  | cons e es =>
    cases es with
    | cons _ _ => cases e <;> exact g.elim
    | nil =>
      cases e with
      | lst xs =>
        obtain ⟨v, e1, q, ws, e2, hq, rq⟩ := ra.one
        subst e2
        exact ⟨p, q, vs, ws, rfl, e1, hp, hq, by rw [r.length, rq.length]; exact g.1, w _ _ _ _ rep_non (r.append rq) g.2⟩
      | _ => exact g.elim
theorem lk_pop : LkL K rPop gPop := fun F H p vs us ds es R Q' s hp r ra g w => by
  cases es with
  | cons _ _ => exact g.elim
  | nil =>
    obtain ⟨d, e, g⟩ := g
    obtain ⟨v, e1, rv⟩ := r.get e
    exact ⟨p, vs, v, rfl, ra, hp, by rw [r.length]; exact e1, w _ _ _ _ rv r.dropLast g⟩
theorem ve_append {o : Expr} {ra : RF} (ho : PE X o (tVar i)) (ha : VF X (e :: es) ra)
    (hbase : attributeBase o "append" X.env (eval o X.env) = eval o X.env := by rfl)
    (hfew : ((backTo cpos (starEach (e :: es) X.env)).all (fun x => !x.1) && (backToKw cpos (keywordEach [] X.env)).all (fun x => x.1.isSome)
      && decide ((e :: es).length + ([] : List Keyword).length + (if ([] : List Keyword).isEmpty then 0 else 1) < 30)) = true := by rfl)
    (hline : (apos.endLine == cpos.line) = true := by rfl) (hs : starEach (e :: es) X.env = (false, eval e X.env) :: starEach es X.env := by rfl) (hplain : (backTo cpos (starEach es X.env)).any (·.1) = false := by rfl) :
    VE X (.Call (.Attribute o "append" apos) (e :: es) [] cpos) (rMetF i gApp ra) := ve_metF PySem.F.slot_list_append PySem.F.type_list_append mt_append lk_app ho ha hbase hfew hline hs hplain
theorem ve_extend {o : Expr} {ra : RA} (ho : PE X o (tVar i)) (ha : VA X (e :: es) ra)
    (hbase : attributeBase o "extend" X.env (eval o X.env) = eval o X.env := by rfl)
    (hfew : ((backTo cpos (starEach (e :: es) X.env)).all (fun x => !x.1) && (backToKw cpos (keywordEach [] X.env)).all (fun x => x.1.isSome)
      && decide ((e :: es).length + ([] : List Keyword).length + (if ([] : List Keyword).isEmpty then 0 else 1) < 30)) = true := by rfl)
    (hline : (apos.endLine == cpos.line) = true := by rfl) (hs : starEach (e :: es) X.env = (false, eval e X.env) :: starEach es X.env := by rfl) (hplain : (backTo cpos (starEach es X.env)).any (·.1) = false := by rfl) :
    VE X (.Call (.Attribute o "extend" apos) (e :: es) [] cpos) (rMet i gExt ra) := ve_met PySem.F.slot_list_extend PySem.F.type_list_extend mt_extend lk_ext ho ha hbase hfew hline hs hplain
theorem ve_pop {o : Expr} (ho : PE X o (tVar i)) (hbase : attributeBase o "pop" X.env (eval o X.env) = eval o X.env := by rfl) (hline : (apos.endLine == cpos.line) = true := by rfl) : VE X (.Call (.Attribute o "pop" apos) [] [] cpos) (rMet i gPop raNil) := ve_met0 PySem.F.slot_list_pop PySem.F.type_list_pop mt_pop lk_pop ho hbase hline
/-! ### comprehensions -/
def wipeE : List Nat → Ev → Ev
  | [], ρ => ρ
  | i :: r, ρ => (wipeE r ρ).set i .no
/-- the block's slots as they were -/
def restE : List Nat → Ev → Ev → Ev
  | [], _, ρ => ρ
  | i :: r, ρ0, ρ => (restE r ρ0 ρ).set i (match ρ0[i]? with | some (.fz d) => .fz d | _ => .no)
def wipeOk : List Nat → Ev → Bool
  | [], _ => true
  | i :: r, ρ => (match ρ[i]? with | some (.fz _) => true | some .no => true | _ => false) && wipeOk r ρ
def lcL (ivs : List Nat) (rg : RG) (rt : RT) (re : RE) : List D → Ev → List D → (List D → Ev → Prop) → Prop
  | [], ρ, acc, Q => Q acc ρ
  | d :: ds, ρ, acc, Q => rg d (wipeE ivs ρ) fun ρ1 => rt ρ1 fun c ρ2 => way c (re ρ2 fun y _ ρ3 => acc.length < sizeLine ∧ lcL ivs rg rt re ds ρ3 (acc ++ [y]) Q) (lcL ivs rg rt re ds ρ2 acc Q)
def rLc (ivs : List Nat) (ri : RI) (rg : RG) (rt : RT) (re : RE) : RE := fun ρ Q => ri ρ fun items ρ1 => wipeOk ivs ρ1 = true ∧ lcL ivs rg rt re items ρ1 [] fun ds ρ2 => Q (.lst ds) 1 (restE ivs ρ1 ρ2)
theorem wipeE_len : ∀ {vs : List Nat} {ρ : Ev}, (wipeE vs ρ).length = ρ.length
  | [], _ => rfl
  | i :: r, ρ => by unfold wipeE; rw [List.length_set, wipeE_len]
theorem restE_len : ∀ {vs : List Nat} {ρ0 ρ : Ev}, (restE vs ρ0 ρ).length = ρ.length
  | [], _, _ => rfl
  | i :: r, ρ0, ρ => by unfold restE; rw [List.length_set, restE_len]
theorem wipeE_in : ∀ {vs : List Nat} {ρ : Ev} {i : Nat}, i ∈ vs → i < ρ.length → (wipeE vs ρ)[i]? = some .no
  | v :: vs, ρ, i, h, hl => by
    unfold wipeE
    by_cases e : i = v
    · subst e; rw [List.getElem?_set_self (by rw [wipeE_len]; exact hl)]
    · rw [List.getElem?_set_ne (Ne.symm e)]
      exact wipeE_in ((List.mem_cons.mp h).resolve_left e) hl
theorem wipeE_out : ∀ {vs : List Nat} {ρ : Ev} {i : Nat}, i ∉ vs → (wipeE vs ρ)[i]? = ρ[i]?
  | [], _, _, _ => rfl
  | v :: vs, ρ, i, h => by
    unfold wipeE
    rw [List.getElem?_set_ne (fun e => h (by simp [e])), wipeE_out fun z => h (by simp [z])]
theorem restE_in : ∀ {vs : List Nat} {ρ0 ρ : Ev} {i : Nat}, i ∈ vs → i < ρ.length → (restE vs ρ0 ρ)[i]? = some (match ρ0[i]? with | some (.fz d) => .fz d | _ => .no)
  | v :: vs, ρ0, ρ, i, h, hl => by
    unfold restE
    by_cases e : i = v
    · subst e; rw [List.getElem?_set_self (by rw [restE_len]; exact hl)]
    · rw [List.getElem?_set_ne (Ne.symm e)]
      exact restE_in ((List.mem_cons.mp h).resolve_left e) hl
theorem restE_out : ∀ {vs : List Nat} {ρ0 ρ : Ev} {i : Nat}, i ∉ vs → (restE vs ρ0 ρ)[i]? = ρ[i]?
  | [], _, _, _, _ => rfl
  | v :: vs, ρ0, ρ, i, h => by
    unfold restE
    rw [List.getElem?_set_ne (fun e => h (by simp [e])), restE_out fun z => h (by simp [z])]
theorem wipeOk_at : ∀ {vs : List Nat} {ρ : Ev} {i : Nat}, wipeOk vs ρ = true → i ∈ vs → (∃ d, ρ[i]? = some (.fz d)) ∨ ρ[i]? = some .no
  | v :: vs, ρ, i, h, hi => by
    unfold wipeOk at h
    rw [Bool.and_eq_true] at h
    rcases List.mem_cons.mp hi with e | e
    · subst e
      have h1 := h.1
      split at h1
      · rename_i d q; exact .inl ⟨d, q⟩
      · rename_i q; exact .inr q
      · cases h1
    · exact wipeOk_at h.2 e
theorem restE_self {vs : List Nat} {ρ : Ev} (h : wipeOk vs ρ = true) : restE vs ρ ρ = ρ := by
  apply List.ext_getElem?
  intro m
  by_cases hm : m ∈ vs
  · rcases wipeOk_at h hm with ⟨d, e⟩ | e
    · rw [restE_in hm (List.getElem?_eq_some_iff.mp e).1, e]
    · rw [restE_in hm (List.getElem?_eq_some_iff.mp e).1, e]
  · rw [restE_out hm]
theorem wipe_in : ∀ {vs : List Nat} {σ : L2.St} {i : Nat}, i ∈ vs → i < σ.length → (wipe σ vs)[i]? = some none
  | v :: vs, σ, i, h, hl => by
    unfold wipe
    by_cases e : i = v
    · subst e; rw [List.getElem?_set_self (by rw [wipe_length]; exact hl)]
    · rw [List.getElem?_set_ne (Ne.symm e)]
      exact wipe_in ((List.mem_cons.mp h).resolve_left e) hl
theorem wipe_same {vs : List Nat} (l : σ2.length = σ.length) (h : ∀ m, m ∉ vs → σ2[m]? = (wipe σ vs)[m]?) : wipe σ2 vs = wipe σ vs := by
  apply List.ext_getElem?
  intro m
  by_cases hm : m ∈ vs
  · by_cases hl : m < σ.length
    · rw [wipe_in hm (by omega), wipe_in hm hl]
    · rw [List.getElem?_eq_none (by rw [wipe_length]; omega), List.getElem?_eq_none (by rw [wipe_length]; omega)]
  · rw [wipe_out hm, h m hm]
/-- into the block -/
theorem SRf.into {vs : List Nat} (h : SRf K S F H σ (restE vs ρ1 ρ) fps tmp) : SRf K S F H (wipe σ vs) (wipeE vs ρ) (fun m => if m ∈ vs then [] else fps m) tmp where
  sub := h.sub
  f0 := h.f0
  fnew := h.fnew
  keep := h.keep
  live := h.live
  len := by rw [wipeE_len, wipe_length, ← h.len, restE_len]
  slot := fun m s e => by
    by_cases hm : m ∈ vs
    · by_cases hl : m < ρ.length
      · rw [wipeE_in hm hl] at e
        cases e
        simp [hm, SlOk]
      · rw [List.getElem?_eq_none (by rw [wipeE_len]; omega)] at e
        cases e
    · rw [wipeE_out hm] at e
      rw [wipe_out hm]
      simp only [hm, if_false]
      exact h.slot m s (by rw [restE_out hm]; exact e)
  off := fun m e => by
    by_cases hm : m ∈ vs
    · simp [hm]
    · simp only [hm, if_false]
      rw [wipeE_out hm] at e
      exact h.off m (by rw [restE_out hm]; exact e)
  nd := fun m => by
    by_cases hm : m ∈ vs
    · simp [hm]
    · simp only [hm, if_false]; exact h.nd m
  dis := fun i j a ha hb => by
    by_cases hi : i ∈ vs
    · simp [hi] at ha
    · by_cases hj : j ∈ vs
      · simp [hj] at hb
      · simp only [hi, if_false] at ha
        simp only [hj, if_false] at hb
        exact h.dis i j a ha hb
  free := fun i a ha => by
    by_cases hi : i ∈ vs
    · simp [hi] at ha
    · simp only [hi, if_false] at ha
      exact h.free i a ha
  ndT := h.ndT
  disT := fun i a ha => by
    by_cases hi : i ∈ vs
    · simp [hi] at ha
    · simp only [hi, if_false] at ha
      exact h.disT i a ha
  freeT := h.freeT
/-- out of it -/
theorem SRf.outof {vs : List Nat} {ρr : Ev} {fps0 : Nat → List Addr} {F0 H0 : Hp} {tmp0 : List (Addr × HO)} (h0 : SRf K S F0 H0 σ (restE vs ρ1 ρr) fps0 tmp0) (s : Same F0 F) (hl : ρ.length = ρr.length) (k : ∀ m, m ∉ vs → σ2[m]? = σ[m]?) (h : SRf K S F H σ2 ρ fps tmp) : SRf K S F H σ (restE vs ρ1 ρ) (fun m => if m ∈ vs then [] else fps m) tmp where
  sub := h.sub
  f0 := h.f0
  fnew := h.fnew
  keep := h.keep
  live := h.live
  len := by rw [← h0.len, restE_len, restE_len, hl]
  slot := fun m sl e => by
    by_cases hm : m ∈ vs
    · simp only [hm, if_true]
      by_cases hlt : m < ρ.length
      · rw [restE_in hm hlt] at e
        have q := h0.slot m _ (restE_in (ρ0 := ρ1) hm (by omega))
        cases e
        split at q
        · exact ⟨rfl, let ⟨v, e1, r⟩ := q.2; ⟨v, e1, Rep.mono s _ _ r⟩⟩
        · exact rfl
      · rw [List.getElem?_eq_none (by rw [restE_len]; omega)] at e
        cases e
    · simp only [hm, if_false]
      rw [restE_out hm] at e
      rw [← k m hm]
      exact h.slot m sl e
  off := fun m e => by
    by_cases hm : m ∈ vs
    · simp [hm]
    · simp only [hm, if_false]
      rw [restE_out hm] at e
      exact h.off m e
  nd := fun m => by
    by_cases hm : m ∈ vs
    · simp [hm]
    · simp only [hm, if_false]; exact h.nd m
  dis := fun i j a ha hb => by
    by_cases hi : i ∈ vs
    · simp [hi] at ha
    · by_cases hj : j ∈ vs
      · simp [hj] at hb
      · simp only [hi, if_false] at ha
        simp only [hj, if_false] at hb
        exact h.dis i j a ha hb
  free := fun i a ha => by
    by_cases hi : i ∈ vs
    · simp [hi] at ha
    · simp only [hi, if_false] at ha
      exact h.free i a ha
  ndT := h.ndT
  disT := fun i a ha => by
    by_cases hi : i ∈ vs
    · simp [hi] at ha
    · simp only [hi, if_false] at ha
      exact h.disT i a ha
  freeT := h.freeT
/-- a pending thing is changed -/
theorem SRf.tmpUpd {p : Addr} {o o' : HO} (h : SRf K S F H σ ρ fps ((p, o) :: tmp)) : SRf K S F (upd H p o') σ ρ fps ((p, o') :: tmp) := by
  obtain ⟨f1, f2, f3⟩ := h.freeT (p, o) (by simp)
  have hd : SRf K S F H σ ρ fps tmp := SRf.drop (tm := [(p, o)]) h
  have np : ∀ i, p ∉ fps i := fun i z => h.disT i p z (by simp)
  have h1 : SRf K S F (upd H p o') σ ρ fps tmp := {
    hd with
    sub := fun a x q => by
      rw [upd_ne (fun z => by subst z; rw [f1] at q; cases q)]
      exact hd.sub _ _ q
    keep := fun a x q ni => by
      rw [upd_ne (fun z => by subst z; rw [f2] at q; cases q)]
      exact hd.keep _ _ q ni
    live := fun a q => by
      by_cases z : a = p
      · subst z; rw [upd_same] at q; cases q
      · rw [upd_ne z] at q; exact hd.live _ q
    slot := fun i s e => (hd.slot i s e).mono (Same.refl F) fun a ha => upd_ne fun z => by subst z; exact np i ha
    freeT := fun t ht => by
      obtain ⟨g1, g2, g3⟩ := hd.freeT t ht
      refine ⟨g1, g2, ?_⟩
      rw [upd_ne]
      · exact g3
      · intro z
        have nd := h.ndT
        rw [List.map_cons] at nd
        refine (List.nodup_cons.mp nd).1 ?_
        show p ∈ tmp.map (·.1)
        rw [← z]
        exact List.mem_map_of_mem ht }
  refine { h1 with ndT := h.ndT, disT := h.disT, freeT := fun t ht => ?_ }
  rcases List.mem_cons.mp ht with z | z
  · subst z; exact ⟨f1, f2, upd_same⟩
  · exact h1.freeT t z
/-- a test row of a comprehension -/
def VTs (X : Cx) (ifs : List Expr) (r : RT) : Prop := PTs X ifs (tVT X.K r)
theorem PTs.weak {ifs : List Expr} {t t' : TT} (h : PTs X ifs t) (w : ∀ σ H Q, t' σ H Q → t σ H Q) : PTs X ifs t' := ⟨fun pins s σ H Q I q => h.run pins s σ H Q I (w _ _ _ q)⟩
def rYes : RT := fun ρ Q => Q true ρ
theorem vts_nil : VTs X [] rYes := by
  refine PTs.weak pts_nil ?_
  rintro σ H Q' ⟨S, F, ρ, tmp, Q, h, hr, w⟩
  exact w _ _ ⟨F, ρ, Same.refl F, h, hr⟩
theorem vts_one {r : RT} (h : VT X c r) : VTs X [c] r := pts_one h
theorem tLc.of {ivs : List Nat} {is : List Nat} {ri : RI} {rg : RG} {rt : RT} {re : RE} (his : ∀ m ∈ is, m ∈ ivs) (σ : L2.St) (H : Hp) (Q' : VK) (h : tV K (rLc ivs ri rg rt re) σ H Q') : tLc (tVI K ri) (gV K is rg) (tVT K rt) (tV K re) ivs σ H Q' := by
  obtain ⟨S, F, ρ, tmp, Q, h, hr, w⟩ := h
  refine ⟨S, F, ρ, tmp, _, h, hr, fun J H1 ⟨F1, ρ1, items, s1, ⟨fps1, h1⟩, wk, wo, q1⟩ L hL => ?_⟩
  have hs0 : SRf K S F1 H1 σ (restE ivs ρ1 ρ1) fps1 tmp := by rw [restE_self wo]; exact h1
  refine ⟨fun i m H => ∃ F' ρ' acc accV fps', Same F1 F' ∧ SRf K S F' H σ (restE ivs ρ1 ρ') fps' ((L, .lst accV) :: tmp) ∧ ρ'.length = ρ1.length ∧ Reps K F' acc accV ∧ lcL ivs rg rt re (items.drop i) ρ' acc (fun ds ρ2 => Q (.lst ds) 1 (restE ivs ρ1 ρ2)) ∧ m = items.length - i ∧ i ≤ items.length,
    ⟨_, F1, ρ1, [], [], fps1, Same.refl F1, hs0.allocT hL, rfl, rfl, q1, rfl, Nat.zero_le _⟩, ?_⟩
  rintro i m H2 ⟨F2, ρ2, acc, accV, fps2, s2, h2, l2, ra, q2, rfl, hi⟩
  by_cases hlt : i < items.length
  · refine .inr ⟨wk.go F2 H2 i s2 h2.sub hlt, fun H' => ∃ F' ρ' acc accV fps', Same F1 F' ∧ SRf K S F' H' σ (restE ivs ρ1 ρ') fps' ((L, .lst accV) :: tmp) ∧ ρ'.length = ρ1.length ∧ Reps K F' acc accV ∧ lcL ivs rg rt re (items.drop (i + 1)) ρ' acc (fun ds ρ2 => Q (.lst ds) 1 (restE ivs ρ1 ρ2)), fun H' ⟨F', ρ', a, av, f', z1, z2, z3, z4, z5⟩ => ⟨items.length - (i + 1), by omega, F', ρ', a, av, f', z1, z2, z3, z4, z5, rfl, hlt⟩, fun x H3 y => ?_⟩
    have ed : items.drop i = items[i] :: items.drop (i + 1) := List.drop_eq_getElem_cons hlt
    obtain ⟨F3, fx, rx⟩ := wk.yld F2 H2 H3 i items[i] x s2 h2.sub (List.getElem?_eq_getElem hlt) y
    rw [ed] at q2
    obtain ⟨s3, h3⟩ := fx.sr h2
    have h3i := h3.into
    refine ⟨S, F3, _, _, _, items[i], ⟨_, h3i⟩, rx, q2, fun σ4 H4 k4 ⟨F4, ρ4, s4, h4, q4⟩ => ⟨?_, ?_⟩⟩
    · exact wipe_same (k4.1.trans (wipe_length σ ivs)) fun m hm => k4.2 m fun z => hm (his m z)
    · have kk : ∀ m, m ∉ ivs → σ4[m]? = σ[m]? := fun m hm => (k4.2 m fun z => hm (his m z)).trans (wipe_out hm)
      have l4 : σ4.length = σ.length := k4.1.trans (wipe_length σ ivs)
      have lr : ρ1.length = σ.length := h1.len
      have back : ∀ {F5 H5 : Hp} {ρ5 : Ev} {tmp5 : List (Addr × HO)}, Same F3 F5 → SR K S F5 H5 σ4 ρ5 tmp5 → ρ5.length = ρ1.length ∧ ∃ fps5, SRf K S F5 H5 σ (restE ivs ρ1 ρ5) fps5 tmp5 := fun {F5 H5 ρ5 tmp5} s5 ⟨fps5, h5⟩ => by
        have e : ρ5.length = ρ1.length := by rw [h5.len, l4, lr]
        exact ⟨e, _, SRf.outof h3 s5 (by rw [e, l2]) kk h5⟩
      refine ⟨S, F4, ρ4, _, _, h4, q4, fun b H5 ⟨F5, ρ5, s5, h5, q5⟩ => way.if ⟨fun e => ?_, fun e => ?_⟩⟩
      · refine tV.mk h5 (q5.1 e) fun v H6 q6 => ?_
        obtain ⟨F6, ρ6, d6, k6, s6, h6, r6, la, q6⟩ := q6.fz
        have s36 := (s4.trans s5).trans s6
        obtain ⟨l6, fps6, h6'⟩ := back s36 h6
        refine ⟨accV, (h6'.freeT (L, _) (by simp)).2.2, by rw [ra.length]; exact la, F6, ρ6, acc ++ [d6], accV ++ [v], fps6, s2.trans (s3.trans s36), h6'.tmpUpd, l6, (Reps.mono (s3.trans s36) _ _ ra).append (Reps.one r6), q6⟩
      · have s35 := s4.trans s5
        obtain ⟨l5, fps5, h5'⟩ := back s35 h5
        exact ⟨F5, ρ5, acc, accV, fps5, s2.trans (s3.trans s35), h5', l5, Reps.mono (s3.trans s35) _ _ ra, q5.2 e⟩
  · have e : i = items.length := by omega
    subst e
    rw [List.drop_length] at q2
    refine .inl ⟨wk.stop F2 H2 _ s2 h2.sub (Nat.le_refl _), w _ _ ⟨F2, _, _, 1, [(L, .lst accV)], s1.trans s2, ⟨fps2, h2⟩, OwnR.lst1 (h2.freeT (L, _) (by simp)).2.2 ra, q2⟩⟩
theorem ve_lc {is : List Nat} {elt tg iter : Expr} {ifs : List Expr} {scope : Scope} {own : List (Str × Nat)} {ri : RI} {rg : RG} {rt : RT} {re : RE} (hc : X.calm = true) (hN : X.N.Nodup) (hi : VI X tg iter ri) (ok : BlkOk X.N X.env.scope scope own) (his : ∀ m ∈ is, m ∈ own.map (·.2))
    (hg : ∀ (s : Shared) (H : Hp) (C : Addr) (cl : List (Str × Addr)) (fp : List Addr), VG (X.blk s H scope (compEnvC scope cl C X.env) fp) is tg rg) (ht : ∀ (s : Shared) (H : Hp) (C : Addr) (cl : List (Str × Addr)) (fp : List Addr), VTs (X.blk s H scope (compEnvC scope cl C X.env) fp) ifs rt)
    (he : ∀ (s : Shared) (H : Hp) (C : Addr) (cl : List (Str × Addr)) (fp : List Addr), VE (X.blk s H scope (compEnvC scope cl C X.env) fp) elt re) (hs : ∀ x, foldedSetIterable iter X.env x = pure x := by intro _; rfl) :
    VE X (.ListComp elt [⟨tg, iter, ifs, 0⟩] scope pos) (rLc (own.map (·.2)) ri rg rt re) :=
  PE.weak (pe_lc (g := gV X.K is rg) (tt := tVT X.K rt) (te := tV X.K re) hc hN hi ok hg ht he hs) fun σ H Q q => tLc.of his σ H Q q
theorem vs_setLc {is : List Nat} {i : Nat} {y : Str} {py spos : Pos} {elt tg iter : Expr} {ifs : List Expr} {scope : Scope} {own : List (Str × Nat)} {ri : RI} {rg : RG} {rt : RT} {re : RE} (hc : X.calm = true) (hN : X.N.Nodup) (hy : X.N[i]? = some y) (hyl : X.env.scope.names.lookup y = some .local)
    (hsw : swapsWith (.ListComp elt [⟨tg, iter, ifs, 0⟩] scope pos) (some (.Name y py)) spos.line X.env = pure true) (hi : VI X tg iter ri) (ok : BlkOk X.N X.env.scope scope own) (his : ∀ m ∈ is, m ∈ own.map (·.2))
    (hg : ∀ (s : Shared) (H : Hp) (C : Addr) (cl : List (Str × Addr)) (fp : List Addr), VG (X.blk s H scope (compEnvC scope cl C X.env) fp) is tg rg) (ht : ∀ (s : Shared) (H : Hp) (C : Addr) (cl : List (Str × Addr)) (fp : List Addr), VTs (X.blk s H scope (compEnvC scope cl C X.env) fp) ifs rt)
    (he : ∀ (s : Shared) (H : Hp) (C : Addr) (cl : List (Str × Addr)) (fp : List Addr), VE (X.blk s H scope (compEnvC scope cl C X.env) fp) elt re) (hs : ∀ x, foldedSetIterable iter X.env x = pure x := by intro _; rfl) :
    VS X (.Assign [.Name y py] (.ListComp elt [⟨tg, iter, ifs, 0⟩] scope pos) spos) (rSet i (rLc (own.map (·.2)) ri rg rt re)) := by
  refine PS.weak (ps_setLc (g := gV X.K is rg) (tt := tVT X.K rt) (te := tV X.K re) hc hN hy hyl hsw hi ok hg ht he hs) ?_
  rintro D σ H ⟨S, F, ρ, E, h, hr, w⟩
  refine tLc.of his σ H _ (tV.mk h hr fun v H1 q => ?_)
  obtain ⟨F1, ρ1, d, k, tm, s1, ⟨fps, h1⟩, r1, q0, q1⟩ := q
  exact w.nx _ _ ⟨F1, _, s1, ⟨_, h1.store r1 q0⟩, q1⟩
end
end VL

namespace VL
open PySem PySem.Spec PyProof.Rows L2

theorem bt_len : bootBuiltins "len" = some (.builtin "len") := by decide +kernel
theorem bt_abs : bootBuiltins "abs" = some (.builtin "abs") := by decide +kernel
theorem bt_min : bootBuiltins "min" = some (.builtin "min") := by decide +kernel
theorem bt_all : bootBuiltins "all" = some (.builtin "all") := by decide +kernel
theorem bt_any : bootBuiltins "any" = some (.builtin "any") := by decide +kernel
theorem bt_sum : bootBuiltins "sum" = some (.builtin "sum") := by decide +kernel
theorem bt_sorted : bootBuiltins "sorted" = some (.builtin "sorted") := by decide +kernel
theorem bt_int : bootBuiltins "int" = some (.type "int") := by decide +kernel
theorem bt_tuple : bootBuiltins "tuple" = some (.type "tuple") := by decide +kernel
theorem bt_dict : bootBuiltins "dict" = some (.type "dict") := by decide +kernel
theorem hu64 {A : Around} {k : Nat} (hr : Room k A) : A.units + 64 < cLine := by have := hr.un; omega

def gLtI : G2 := fun a b R => match a, b with
  | .int i, .int j => R (.bl (decide (i < j))) 0
  | _, _ => False
def gGtI : G2 := fun a b R => match a, b with
  | .int i, .int j => R (.bl (decide (j < i))) 0
  | _, _ => False
def gGeI : G2 := fun a b R => match a, b with
  | .int i, .int j => R (.bl (decide (j ≤ i))) 0
  | _, _ => False
theorem lk_lt {K : Fg} : Lk2 K (rI0 fun i j => .bl (decide (i < j))) gLtI := lk_cmp
theorem lk_gt {K : Fg} : Lk2 K (rI0 fun i j => .bl (decide (j < i))) gGtI := lk_cmp
theorem lk_ge {K : Fg} : Lk2 K (rI0 fun i j => .bl (decide (j ≤ i))) gGeI := lk_cmp

section
variable {K : Fg} {F H : Hp} {X : Cx}
end

section
variable {X : Cx} {e a b c : Expr} {es : List Expr} {pos p p2 : Pos} {K : Fg} {S : Frm} {F F' F1 H H' : Hp} {σ : L2.St} {ρ ρ' ρ1 : Ev} {tmp : List (Addr × HO)}
/-- a constant of the module -/
def KRep (K : Fg) (d : D) (u : Value) : Prop := ∃ v, RelV v u ∧ ∀ F, Rep K F d v
theorem ve_k {x : Str} {d : D} {u : Value} (hg : Gl X x) (h : X.mg x = some u ∧ KRep X.K d u) (hd : (x == ("__debug__" : Str)) = false := by decide) : VE X (.Name x p) (rC d) := by
  obtain ⟨hm, v, r, hF⟩ := h
  refine PE.weak (pe_glob hg hm r hd) ?_
  rintro σ H Q' ⟨S, F, ρ, tmp, Q, h, hr, w⟩
  exact w _ _ (VPost.of (Same.refl F) h (hF F) hr)
theorem KRep.int {i : Int} {t : Tok} : KRep K (.int i) (.int i t) := ⟨.int i, ⟨t, rfl⟩, fun _ => rfl⟩
/-- a tuple of two ints -/
theorem KRep.pair {i j : Int} {t u : Tok} {a : Addr} {o : Obj} {n : Nat} (h : K.lookup a = some o) (hc : o.cls = .type "tuple") (hd : o.data = .seq #[.int i t, .int j u] n) : KRep K (.tup [.int i, .int j]) (.ref a) :=
  ⟨.ref a, rfl, fun F => ⟨a, [.int i, .int j], rfl, .inr ⟨o, _, n, h, hc, hd, by show 2 ≤ sizeLine; decide, .cons ⟨t, rfl⟩ (.cons ⟨u, rfl⟩ .nil)⟩, _, _, rfl, rfl, _, _, rfl, rfl, rfl⟩⟩
/-- a, b, c = e1, e2, e3 -/
theorem vs_par3 {i j l : Nat} {x y z : Str} {ra rb rc : RE} {px py pz pt : Pos} {kt k2 pt2} (hc : X.calm = true) (hN : X.N.Nodup) (hi : X.N[i]? = some x) (hj : X.N[j]? = some y) (hl : X.N[l]? = some z) (hij : i ≠ j) (hil : i ≠ l) (hjl : j ≠ l)
    (hx : X.env.scope.names.lookup x = some .local) (hy : X.env.scope.names.lookup y = some .local) (hz : X.env.scope.names.lookup z = some .local) (ha : VE X a ra) (hb : VE X b rb) (hcc : VE X c rc)
    (hw : swappedStores [.Tuple [.Name x px, .Name y py, .Name z pz] kt pt] (.Tuple [a, b, c] k2 pt2) X.env = pure (some [x, y, z]))
    (s1 : starEach [a, b, c] X.env = (false, eval a X.env) :: starEach [b, c] X.env := by rfl) (s2 : starEach [b, c] X.env = (false, eval b X.env) :: starEach [c] X.env := by rfl) (s3 : starEach [c] X.env = (false, eval c X.env) :: starEach [] X.env := by rfl)
    (hs : swapsWithSole [.Tuple [.Name x px, .Name y py, .Name z pz] kt pt] (.Tuple [a, b, c] k2 pt2) pos.line X.env = pure false := by rfl) :
    VS X (.Assign [.Tuple [.Name x px, .Name y py, .Name z pz] kt pt] (.Tuple [a, b, c] k2 pt2) pos) (rPar3 i j l ra rb rc) := by
  refine PS.weak (ps_par3 hc hN hi hj hl hij hil hjl hx hy hz (pa_cons ha (pa_cons hb (pa_cons hcc pa_nil s3) s2) s1) hw hs) ?_
  rintro D σ H ⟨S, F, ρ, E, h, hr, w⟩
  refine tV.mk h hr fun v1 H1 q => ?_
  obtain ⟨F1, ρ1, d1, k1, tm1, s1, ⟨fps1, h1⟩, r1, q1⟩ := q
  refine tV.mk ⟨fps1, h1⟩ q1 fun v2 H2 q => ?_
  obtain ⟨F2, ρ2, d2, k2, tm2, s2, ⟨fps2, h2⟩, r2, q2⟩ := q
  refine tV.mk ⟨fps2, h2⟩ q2 fun v3 H3 q => ?_
  obtain ⟨F3, ρ3, d3, k3, tm3, s3, ⟨fps3, h3⟩, r3, n1, n2, n3, q3⟩ := q
  have r1b := tmp_own s2 h1 h2 r1
  have r1c : OwnR X.K F3 H3 k1 d1 v1 (tm1.map (·.1)) := tmp_own (tm := tm1) (tmp := []) (tm' := tm3 ++ tm2) (s2.trans s3) h1 (by rw [List.append_assoc]; exact h3) r1
  have r2b := tmp_own s3 h2 h3 r2
  refine ⟨v1, v2, v3, rfl, w.nx _ _ ⟨F3, _, (s1.trans s2).trans s3, ?_, q3⟩⟩
  have e3 := h3.store r3 n3
  have e2 := e3.store r2b (i := j) (noIo_set n2 n3)
  have e1 := e2.store r1c (i := i) (noIo_set (noIo_set n1 n3) (noIo_set n2 n3))
  rw [List.set_comm _ _ (Ne.symm hij), List.set_comm (mkSl k2 d2) _ (Ne.symm hij), List.set_comm _ _ (Ne.symm hil), List.set_comm (mkSl k3 d3) _ (Ne.symm hil), List.set_comm _ _ (Ne.symm hjl), List.set_comm (mkSl k3 d3) _ (Ne.symm hjl)] at e1
  exact ⟨_, e1⟩
end
end VL

namespace VL
open PySem PySem.Spec PyProof.Rows L2

/-! ### what is no longer looked at is forgotten -/
section
variable {X : Cx} {st : Stmt} {sts : List Stmt} {K : Fg} {S : Frm} {F H : Hp} {σ : L2.St} {ρ ρ' : Ev} {fps : Nat → List Addr} {tmp : List (Addr × HO)} {i : Nat} {ws : List Nat}
theorem SRf.forget (h : SRf K S F H σ ρ fps tmp) : SRf K S F H σ (ρ.set i .no) (fun m => if m = i then [] else fps m) tmp := by
  have sub : ∀ m a, a ∈ (if m = i then [] else fps m) → a ∈ fps m := fun m a ha => by
    by_cases q : m = i
    · rw [if_pos q] at ha; exact absurd ha List.not_mem_nil
    · rw [if_neg q] at ha; exact ha
  refine ⟨h.sub, h.f0, h.fnew, h.keep, h.live, by rw [List.length_set]; exact h.len, fun m s e => ?_, fun m e => ?_, fun m => ?_, fun m n a ha hb => h.dis m n a (sub m a ha) (sub n a hb), fun m a ha => h.free m a (sub m a ha), h.ndT, fun m a ha => h.disT m a (sub m a ha), h.freeT⟩
  · show SlOk K S F H s _ (if m = i then [] else fps m)
    by_cases q : m = i
    · subst q
      rw [if_pos rfl]
      by_cases hl : m < ρ.length
      · rw [List.getElem?_set_self hl] at e
        cases e
        rfl
      · rw [List.getElem?_eq_none (by rw [List.length_set]; omega)] at e
        cases e
    · rw [if_neg q]
      rw [List.getElem?_set_ne (Ne.symm q)] at e
      exact h.slot m s e
  · show (if m = i then [] else fps m) = []
    by_cases q : m = i
    · rw [if_pos q]
    · rw [if_neg q]
      rw [List.getElem?_set_ne (Ne.symm q)] at e
      exact h.off m e
  · show (if m = i then [] else fps m).Nodup
    by_cases q : m = i
    · rw [if_pos q]; exact .nil
    · rw [if_neg q]; exact h.nd m
theorem SR.wipe (h : SR K S F H σ ρ tmp) : ∀ ws : List Nat, SR K S F H σ (wipeE ws ρ) tmp
  | [] => h
  | i :: r => by
    obtain ⟨fps, h1⟩ := SR.wipe h r
    exact ⟨_, h1.forget⟩
def allNo (ws : List Nat) (ρ : Ev) : Bool := ws.all fun i => noIo ρ i
def rIW (ws : List Nat) (ri : RI) : RI := fun ρ Q => ri ρ fun items ρ1 => allNo ws ρ1 = true ∧ Q items (wipeE ws ρ1)
def rBW (ws : List Nat) (rb : RS) : RS := fun ρ E => rb ρ { nx := fun ρ1 => allNo ws ρ1 = true ∧ E.nx (wipeE ws ρ1), rt := E.rt, bk := E.bk, ct := fun ρ1 => allNo ws ρ1 = true ∧ E.ct (wipeE ws ρ1) }
theorem vi_w {tg iter : Expr} {ri : RI} (h : VI X tg iter ri) : VI X tg iter (rIW ws ri) := by
  refine PI.weak h ?_
  rintro σ H Q' ⟨S, F, ρ, tmp, Q, h, hr, w⟩
  exact ⟨S, F, ρ, tmp, _, h, hr, fun J H' ⟨F', ρ', items, s1, h1, wk, q⟩ => w _ _ ⟨F', _, items, s1, h1.wipe ws, wk, q.2⟩⟩
theorem vss_w {r : RS} (h : VSs X sts r) : VSs X sts (rBW ws r) := by
  refine PSs.weak h ?_
  rintro D σ H ⟨S, F, ρ, E, h, hr, w⟩
  exact ⟨S, F, ρ, _, h, hr, ⟨fun σ' H' ⟨F', ρ', s1, h1, q⟩ => w.nx _ _ ⟨F', _, s1, h1.wipe ws, q.2⟩, w.rt, w.bk, fun σ' H' ⟨F', ρ', s1, h1, q⟩ => w.ct _ _ ⟨F', _, s1, h1.wipe ws, q.2⟩⟩⟩
end
end VL

namespace VL
open PySem PySem.Spec PyProof.Rows L2
local macro_rules | `(tactic| walk_at "v") => `(tactic| repeat (first | refine ⟨rfl, ?_⟩ | refine ⟨_, rfl, ?_⟩))
local macro_rules | `(tactic| walk_at "y") => `(tactic| refine ⟨fun _ => ?_, fun h => absurd h (by decide)⟩)
local macro_rules | `(tactic| walk_at "n") => `(tactic| refine ⟨fun h => absurd h (by decide), fun _ => ?_⟩)
local macro_rules | `(tactic| walk_at "ty") => `(tactic| refine ⟨_, rfl, by decide, ?_⟩)

abbrev RR := D → Nat → List D → Prop
/-! ### how long a number is -/
def bl (n : Nat) : Nat := if n = 0 then 0 else n.log2 + 1
theorem lt_bl (n : Nat) : n < 2 ^ bl n := by
  unfold bl
  split
  · rename_i h; subst h; decide
  · exact Nat.lt_log2_self
theorem bl_le {n k : Nat} (h : n < 2 ^ k) : bl n ≤ k := by
  unfold bl
  split
  · exact Nat.zero_le _
  · rename_i h0
    exact (Nat.log2_lt h0).mpr h
theorem bl_mono {m n : Nat} (h : m ≤ n) : bl m ≤ bl n := bl_le (Nat.lt_of_le_of_lt h (lt_bl n))
theorem bl_mul (m n : Nat) : bl (m * n) ≤ bl m + bl n := bl_le (by rw [Nat.pow_add]; exact Nat.mul_lt_mul'' (lt_bl m) (lt_bl n))
theorem bl_add (m n : Nat) : bl (m + n) ≤ max (bl m) (bl n) + 1 := by
  refine bl_le ?_
  have a := Nat.lt_of_lt_of_le (lt_bl m) (Nat.pow_le_pow_right (by decide : 2 > 0) (Nat.le_max_left (bl m) (bl n)))
  have b := Nat.lt_of_lt_of_le (lt_bl n) (Nat.pow_le_pow_right (by decide : 2 > 0) (Nat.le_max_right (bl m) (bl n)))
  rw [Nat.pow_succ]
  omega
theorem log_bl (n : Nat) : n.log2 ≤ bl n := by
  unfold bl
  split
  · rename_i h; subst h; decide
  · exact Nat.le_succ _
theorem MulOk.bl {i j : Int} (h : bl i.natAbs + bl j.natAbs < 134000000) : MulOk i j := by
  have a := log_bl i.natAbs
  have b := log_bl j.natAbs
  unfold MulOk
  omega
theorem bl_imul (i j : Int) : bl (i * j).natAbs ≤ bl i.natAbs + bl j.natAbs := by rw [Int.natAbs_mul]; exact bl_mul _ _
theorem bl_iadd (i j : Int) : bl (i + j).natAbs ≤ max (bl i.natAbs) (bl j.natAbs) + 1 := Nat.le_trans (bl_mono (Int.natAbs_add_le i j)) (bl_add _ _)
theorem bl_isub (i j : Int) : bl (i - j).natAbs ≤ max (bl i.natAbs) (bl j.natAbs) + 1 := by
  have h := bl_iadd i (-j)
  rw [Int.natAbs_neg, ← Int.sub_eq_add_neg] at h
  exact h

/-! ### parts as rationals -/
def dq (q : Rat) : D := .tup [.int q.num, .int q.den]
def wt (q : Rat) : Nat := max (bl q.num.natAbs) (bl q.den)
theorem wt_num (q : Rat) : bl q.num.natAbs ≤ wt q := Nat.le_max_left _ _
theorem wt_den (q : Rat) : bl q.den ≤ wt q := Nat.le_max_right _ _
theorem wt_den' (q : Rat) : bl (q.den : Int).natAbs ≤ wt q := Nat.le_max_right _ _
theorem eqb_int (i j : Int) : eqb (.int i) (.int j) = decide (i = j) := by
  show (i == j) = decide (i = j)
  rw [Bool.beq_eq_decide_eq]
theorem eqb_dq (p q : Rat) : eqb (dq p) (dq q) = decide (p = q) := by
  show (p.num == q.num && ((p.den : Int) == (q.den : Int) && true)) = _
  rw [Bool.and_true, Bool.eq_iff_iff, Bool.and_eq_true, beq_iff_eq, beq_iff_eq, decide_eq_true_iff]
  exact ⟨fun ⟨a, b⟩ => Rat.ext a (by omega), fun h => by subst h; exact ⟨rfl, rfl⟩⟩
theorem divInt_wt (t b : Int) (hb : b ≠ 0) : wt (Rat.divInt t b) ≤ max (bl t.natAbs) (bl b.natAbs) := by
  unfold wt
  rw [Rat.num_divInt, Rat.den_divInt, if_neg hb]
  refine Nat.max_le.mpr ⟨Nat.le_trans (bl_mono ?_) (Nat.le_max_left _ _), Nat.le_trans (bl_mono ?_) (Nat.le_max_right _ _)⟩
  · refine Nat.le_trans (Int.natAbs_ediv_le_natAbs _ _) ?_
    rw [Int.natAbs_mul]
    have : b.sign.natAbs ≤ 1 := by
      rcases Int.lt_trichotomy b 0 with h | h | h
      · rw [Int.sign_eq_neg_one_of_neg h]; decide
      · exact absurd h hb
      · rw [Int.sign_eq_one_of_pos h]; decide
    exact Nat.le_trans (Nat.mul_le_mul_right _ this) (by omega)
  · exact Nat.div_le_self _ _
theorem part_math (t b : Int) (hb : b ≠ 0) (s : Int) (hs : s = 1 ∧ 0 < b ∨ s = -1 ∧ b < 0) :
    t.fdiv (s * (Nat.gcd t.natAbs b.natAbs : Nat)) = (Rat.divInt t b).num ∧ b.fdiv (s * (Nat.gcd t.natAbs b.natAbs : Nat)) = ((Rat.divInt t b).den : Int) := by
  have hg : 0 < Nat.gcd t.natAbs b.natAbs := Nat.gcd_pos_of_pos_right _ (by omega)
  obtain ⟨k, hk⟩ : ((Nat.gcd t.natAbs b.natAbs : Nat) : Int) ∣ t := Int.ofNat_dvd_left.mpr (Nat.gcd_dvd_left _ _)
  obtain ⟨l, hl⟩ : ((Nat.gcd t.natAbs b.natAbs : Nat) : Int) ∣ b := Int.ofNat_dvd_left.mpr (Nat.gcd_dvd_right _ _)
  rw [Rat.num_divInt, Rat.den_divInt, if_neg hb]
  have eg : b.gcd t = Nat.gcd t.natAbs b.natAbs := Nat.gcd_comm _ _
  rw [eg]
  generalize hG : Nat.gcd t.natAbs b.natAbs = g at *
  have s1 : s * s = 1 := by rcases hs with ⟨h, _⟩ | ⟨h, _⟩ <;> (rw [h]; decide)
  have hsg : s * (g : Int) ≠ 0 := by
    rcases hs with ⟨h, _⟩ | ⟨h, _⟩ <;> (rw [h]; omega)
  have e1 : t = (s * g) * (s * k) := by
    rw [show (s * (g : Int)) * (s * k) = (s * s) * (g * k) by
      rw [Int.mul_assoc, Int.mul_assoc, Int.mul_left_comm (g : Int) s k], s1, Int.one_mul]
    exact hk
  have e2 : b = (s * g) * (s * l) := by
    rw [show (s * (g : Int)) * (s * l) = (s * s) * (g * l) by
      rw [Int.mul_assoc, Int.mul_assoc, Int.mul_left_comm (g : Int) s l], s1, Int.one_mul]
    exact hl
  have f1 : t.fdiv (s * g) = s * k := by
    conv => lhs; rw [e1]
    exact Int.mul_fdiv_cancel_left _ hsg
  have f2 : b.fdiv (s * g) = s * l := by
    conv => lhs; rw [e2]
    exact Int.mul_fdiv_cancel_left _ hsg
  rw [f1, f2]
  have sg : b.sign = s := by
    rcases hs with ⟨h, h2⟩ | ⟨h, h2⟩
    · rw [h]; exact Int.sign_eq_one_of_pos h2
    · rw [h]; exact Int.sign_eq_neg_one_of_neg h2
  refine ⟨?_, ?_⟩
  · rw [sg, hk, ← Int.mul_assoc, Int.mul_comm s (g : Int), Int.mul_assoc]
    exact (Int.mul_ediv_cancel_left _ (by omega)).symm
  · have h3 : (b.natAbs : Int) = g * (s * l) := by
      have h4 : (b.natAbs : Int) = s * b := by
        rcases hs with ⟨h, h2⟩ | ⟨h, h2⟩ <;> (rw [h]; omega)
      rw [h4, hl, Int.mul_left_comm]
    rw [Int.natCast_ediv, h3]
    exact (Int.mul_ediv_cancel_left _ (by omega)).symm

/-! ### divisor_of, part_at -/
@[irreducible] def sp_divisor_of : ASp := fun ds R => ∃ a b : Nat, ds = [.int a, .int b] ∧ R (.int (Nat.gcd a b)) 0 []
theorem sp_divisor_of.mk {a b : Nat} {R : RR} (h : R (.int (Nat.gcd a b)) 0 []) : sp_divisor_of [.int a, .int b] R := by
  unfold sp_divisor_of
  exact ⟨a, b, rfl, h⟩
theorem sp_divisor_of.mk' {a b : Int} {R : RR} (ha : 0 ≤ a) (hb : 0 ≤ b) (h : R (.int (Nat.gcd a.natAbs b.natAbs)) 0 []) : sp_divisor_of [.int a, .int b] R := by
  have e1 : a = (a.natAbs : Int) := by omega
  have e2 : b = (b.natAbs : Int) := by omega
  rw [e1, e2]
  exact .mk h
def rd_divisor_of : RS := (rSeq (rWhile (rTb (rOp2 gGtI (roV 1) (roE (rC (.int 0))))) (rPar 0 1 (rVar 1) (rOp2 gMd (roV 0) (roV 1))))
  (rRet (rMove 0)))
theorem rp_divisor_of (ds : List D) (R : RR) (hl : ds.length = 2) (h : sp_divisor_of ds R) : rd_divisor_of (rho0 [false, false] 0 ds ++ List.replicate (2 - 2) .no) (endsOf [false, false] R) := by
  unfold sp_divisor_of at h
  obtain ⟨a, b, rfl, h⟩ := h
  have key : ∀ (b a : Nat) (E : EN), E.nx [.fz (.int (Nat.gcd a b)), .fz (.int 0)] → ∃ n, whL (rTb (rOp2 gGtI (roV 1) (roE (rC (.int 0))))) (rPar 0 1 (rVar 1) (rOp2 gMd (roV 0) (roV 1))) n [.fz (.int a), .fz (.int b)] E := by
    intro b
    induction b using Nat.strongRecOn with
    | _ b ih =>
      intro a E hE
      by_cases hb : b = 0
      · subst hb
        refine ⟨1, ?_⟩
        walk_at "v"
        refine ⟨fun c => ?_, fun _ => ?_⟩
        · exact absurd c (by decide)
        · rw [Nat.gcd_zero_right] at hE
          exact hE
      · obtain ⟨n, hn⟩ := ih (a % b) (Nat.mod_lt _ (by omega)) b E (by rw [Nat.gcd_comm, ← Nat.gcd_rec, Nat.gcd_comm]; exact hE)
        refine ⟨n + 1, ?_⟩
        walk_at "v"
        refine ⟨fun _ => ?_, fun c => ?_⟩
        · walk_at "v"
          refine ⟨fun z => hb (by omega), ?_⟩
          walk_at "v"
          have e : Int.fmod (a : Int) (b : Int) = ((a % b : Nat) : Int) := by
            rw [Int.fmod_eq_emod_of_nonneg _ (by omega)]; rfl
          rw [e]
          exact hn
        · exact absurd (of_decide_eq_false c) (by omega)
  refine key b a _ ?_
  walk_at "v"
  exact h
@[irreducible] def sp_part_at : ASp := fun ds R => ∃ t b : Int, ds = [.int t, .int b] ∧ b ≠ 0 ∧ bl b.natAbs ≤ 100000000 ∧ R (dq (Rat.divInt t b)) 0 []
theorem sp_part_at.mk {t b : Int} {R : RR} (hb : b ≠ 0) (hs : bl b.natAbs ≤ 100000000) (h : R (dq (Rat.divInt t b)) 0 []) : sp_part_at [.int t, .int b] R := by
  unfold sp_part_at
  exact ⟨t, b, rfl, hb, hs, h⟩
theorem FdOk.gcd {t b s : Int} (hb : b ≠ 0) (hs : bl b.natAbs ≤ 100000000) (h : s = 1 ∨ s = -1) (x : Int) : FdOk x (s * (Nat.gcd t.natAbs b.natAbs : Nat)) := by
  have hg : 0 < Nat.gcd t.natAbs b.natAbs := Nat.gcd_pos_of_pos_right _ (by omega)
  show s * ((Nat.gcd t.natAbs b.natAbs : Nat) : Int) ≠ 0
  rcases h with h | h <;> (rw [h]; omega)
def rd_part_at : RS := (rSeq (rSet 2 (rCall [false, false] sp_divisor_of (rgAv (rCB gAbs (raCons (roV 0) raNil)) (rgAv (rCB gAbs (raCons (roV 1) raNil)) rgA0))))
  (rSeq (rIf (rTb (rOp2 gLtI (roV 1) (roE (rC (.int 0))))) (rSet 2 (rOp2 gSub (roE (rC (.int 0))) (roV 2))) rNext)
  (rRet (rTup1 (rfCons (rOp2 gFd (roV 0) (roV 2)) (rfCons (rOp2 gFd (roV 1) (roV 2)) rfNil))))))
theorem rp_part_at (ds : List D) (R : RR) (hl : ds.length = 2) (h : sp_part_at ds R) : rd_part_at (rho0 [false, false] 0 ds ++ List.replicate (3 - 2) .no) (endsOf [false, false] R) := by
  unfold sp_part_at at h
  obtain ⟨t, b, rfl, hb, hs, h⟩ := h
  walk_at "v"
  refine sp_divisor_of.mk ?_
  walk_at "v"
  refine ⟨fun c => ?_, fun c => ?_⟩
  · have c' := of_decide_eq_true c
    walk_at "v"
    have e : (0 : Int) - ((Nat.gcd t.natAbs b.natAbs : Nat) : Int) = -1 * ((Nat.gcd t.natAbs b.natAbs : Nat) : Int) := by omega
    rw [e]
    obtain ⟨m1, m2⟩ := part_math t b hb (-1) (.inr ⟨rfl, c'⟩)
    refine ⟨FdOk.gcd hb hs (.inr rfl) _, ?_⟩
    walk_at "v"
    refine ⟨FdOk.gcd hb hs (.inr rfl) _, ?_⟩
    walk_at "v"
    rw [m1, m2]
    exact h
  · have c' := of_decide_eq_false c
    walk_at "v"
    have e : ((Nat.gcd t.natAbs b.natAbs : Nat) : Int) = 1 * ((Nat.gcd t.natAbs b.natAbs : Nat) : Int) := by omega
    rw [e]
    obtain ⟨m1, m2⟩ := part_math t b hb 1 (.inl ⟨rfl, by omega⟩)
    refine ⟨FdOk.gcd hb hs (.inl rfl) _, ?_⟩
    walk_at "v"
    refine ⟨FdOk.gcd hb hs (.inl rfl) _, ?_⟩
    walk_at "v"
    rw [m1, m2]
    exact h
end VL

namespace VL
open PySem PySem.Spec PyProof.Rows L2
local macro_rules | `(tactic| walk_at "v") => `(tactic| repeat (first | refine ⟨rfl, ?_⟩ | refine ⟨_, rfl, ?_⟩))
local macro_rules | `(tactic| walk_at "y") => `(tactic| refine ⟨fun _ => ?_, fun h => absurd h (by decide)⟩)
local macro_rules | `(tactic| walk_at "n") => `(tactic| refine ⟨fun h => absurd h (by decide), fun _ => ?_⟩)
local macro_rules | `(tactic| walk_at "ty") => `(tactic| refine ⟨_, rfl, by decide, ?_⟩)

theorem mo {i j : Int} {a b : Nat} (h1 : bl i.natAbs ≤ a) (h2 : bl j.natAbs ≤ b) (h : a + b ≤ 100000000) : MulOk i j := MulOk.bl (by omega)
theorem den_ne (q : Rat) : (q.den : Int) ≠ 0 := by have := q.den_pos; omega
theorem plus_div (p q : Rat) : Rat.divInt (p.num * q.den + q.num * p.den) (p.den * q.den) = p + q := by
  conv => rhs; rw [← Rat.num_divInt_den p, ← Rat.num_divInt_den q]
  rw [Rat.divInt_add_divInt _ _ (den_ne p) (den_ne q)]
theorem minus_div (p q : Rat) : Rat.divInt (p.num * q.den - q.num * p.den) (p.den * q.den) = p - q := by
  conv => rhs; rw [← Rat.num_divInt_den p, ← Rat.num_divInt_den q]
  rw [Rat.divInt_sub_divInt _ _ (den_ne p) (den_ne q)]
theorem times_div (p q : Rat) : Rat.divInt (p.num * q.num) (p.den * q.den) = p * q := by
  conv => rhs; rw [← Rat.num_divInt_den p, ← Rat.num_divInt_den q]
  rw [Rat.divInt_mul_divInt]
theorem num_ne {q : Rat} (h : q ≠ 0) : q.num ≠ 0 := fun z => h (Rat.num_eq_zero.mp z)
theorem over_div (p q : Rat) (h : q ≠ 0) : Rat.divInt (p.num * q.den) (p.den * q.num) = p / q := by
  conv => rhs; rw [← Rat.num_divInt_den p, ← Rat.num_divInt_den q]
  rw [Rat.div_def, Rat.inv_divInt, Rat.divInt_mul_divInt]
theorem wt_add (p q : Rat) : wt (p + q) ≤ wt p + wt q + 1 := by
  rw [← plus_div]
  refine Nat.le_trans (divInt_wt _ _ (Int.mul_ne_zero (den_ne p) (den_ne q))) ?_
  have a := bl_iadd (p.num * q.den) (q.num * p.den)
  have b := bl_imul p.num q.den
  have c := bl_imul q.num p.den
  have d := bl_imul p.den q.den
  have e1 := wt_num p; have e2 := wt_num q; have e3 := wt_den' p; have e4 := wt_den' q
  omega
theorem wt_sub (p q : Rat) : wt (p - q) ≤ wt p + wt q + 1 := by
  rw [← minus_div]
  refine Nat.le_trans (divInt_wt _ _ (Int.mul_ne_zero (den_ne p) (den_ne q))) ?_
  have a := bl_isub (p.num * q.den) (q.num * p.den)
  have b := bl_imul p.num q.den
  have c := bl_imul q.num p.den
  have d := bl_imul p.den q.den
  have e1 := wt_num p; have e2 := wt_num q; have e3 := wt_den' p; have e4 := wt_den' q
  omega
theorem wt_mul (p q : Rat) : wt (p * q) ≤ wt p + wt q := by
  rw [← times_div]
  refine Nat.le_trans (divInt_wt _ _ (Int.mul_ne_zero (den_ne p) (den_ne q))) ?_
  have b := bl_imul p.num q.num
  have d := bl_imul p.den q.den
  have e1 := wt_num p; have e2 := wt_num q; have e3 := wt_den' p; have e4 := wt_den' q
  omega
theorem wt_div (p q : Rat) (h : q ≠ 0) : wt (p / q) ≤ wt p + wt q := by
  rw [← over_div p q h]
  refine Nat.le_trans (divInt_wt _ _ (Int.mul_ne_zero (den_ne p) (num_ne h))) ?_
  have b := bl_imul p.num q.den
  have d := bl_imul p.den q.num
  have e1 := wt_num p; have e2 := wt_num q; have e3 := wt_den' p; have e4 := wt_den' q
  omega

/-! ### plus, minus, times, over, is_less -/
@[irreducible] def sp_plus : ASp := fun ds R => ∃ p q, ds = [dq p, dq q] ∧ wt p + wt q ≤ 100000000 ∧ R (dq (p + q)) 0 []
@[irreducible] def sp_minus : ASp := fun ds R => ∃ p q, ds = [dq p, dq q] ∧ wt p + wt q ≤ 100000000 ∧ R (dq (p - q)) 0 []
@[irreducible] def sp_times : ASp := fun ds R => ∃ p q, ds = [dq p, dq q] ∧ wt p + wt q ≤ 100000000 ∧ R (dq (p * q)) 0 []
@[irreducible] def sp_over : ASp := fun ds R => ∃ p q, ds = [dq p, dq q] ∧ q ≠ 0 ∧ wt p + wt q ≤ 100000000 ∧ R (dq (p / q)) 0 []
@[irreducible] def sp_is_less : ASp := fun ds R => ∃ p q, ds = [dq p, dq q] ∧ wt p + wt q ≤ 1000000 ∧ R (.bl (decide (p < q))) 0 []
section
variable {p q : Rat} {R : RR}
theorem sp_plus.mk (hs : wt p + wt q ≤ 100000000) (h : R (dq (p + q)) 0 []) : sp_plus [dq p, dq q] R := by unfold sp_plus; exact ⟨p, q, rfl, hs, h⟩
theorem sp_minus.mk (hs : wt p + wt q ≤ 100000000) (h : R (dq (p - q)) 0 []) : sp_minus [dq p, dq q] R := by unfold sp_minus; exact ⟨p, q, rfl, hs, h⟩
theorem sp_times.mk (hs : wt p + wt q ≤ 100000000) (h : R (dq (p * q)) 0 []) : sp_times [dq p, dq q] R := by unfold sp_times; exact ⟨p, q, rfl, hs, h⟩
theorem sp_over.mk (hq : q ≠ 0) (hs : wt p + wt q ≤ 100000000) (h : R (dq (p / q)) 0 []) : sp_over [dq p, dq q] R := by unfold sp_over; exact ⟨p, q, rfl, hq, hs, h⟩
theorem sp_is_less.mk (hs : wt p + wt q ≤ 1000000) (h : R (.bl (decide (p < q))) 0 []) : sp_is_less [dq p, dq q] R := by unfold sp_is_less; exact ⟨p, q, rfl, hs, h⟩
end
def rd_plus : RS := (rRet (rCall [false, false] sp_part_at (rgAv (rOp2 gAddV (roE (rOp2 gMul (roE (rOp2 gIx (roV 0) (roE (rC (.int 0))))) (roE (rOp2 gIx (roV 1) (roE (rC (.int 1))))))) (roE (rOp2 gMul (roE (rOp2 gIx (roV 1) (roE (rC (.int 0))))) (roE (rOp2 gIx (roV 0) (roE (rC (.int 1)))))))) (rgAv (rOp2 gMul (roE (rOp2 gIx (roV 0) (roE (rC (.int 1))))) (roE (rOp2 gIx (roV 1) (roE (rC (.int 1)))))) rgA0))))
def rd_minus : RS := (rRet (rCall [false, false] sp_part_at (rgAv (rOp2 gSub (roE (rOp2 gMul (roE (rOp2 gIx (roV 0) (roE (rC (.int 0))))) (roE (rOp2 gIx (roV 1) (roE (rC (.int 1))))))) (roE (rOp2 gMul (roE (rOp2 gIx (roV 1) (roE (rC (.int 0))))) (roE (rOp2 gIx (roV 0) (roE (rC (.int 1)))))))) (rgAv (rOp2 gMul (roE (rOp2 gIx (roV 0) (roE (rC (.int 1))))) (roE (rOp2 gIx (roV 1) (roE (rC (.int 1)))))) rgA0))))
def rd_times : RS := (rRet (rCall [false, false] sp_part_at (rgAv (rOp2 gMul (roE (rOp2 gIx (roV 0) (roE (rC (.int 0))))) (roE (rOp2 gIx (roV 1) (roE (rC (.int 0)))))) (rgAv (rOp2 gMul (roE (rOp2 gIx (roV 0) (roE (rC (.int 1))))) (roE (rOp2 gIx (roV 1) (roE (rC (.int 1)))))) rgA0))))
def rd_over : RS := (rSeq (rIf (rTb (rOp2 gEq (roE (rOp2 gIx (roV 1) (roE (rC (.int 0))))) (roE (rC (.int 0))))) rNever rNext)
  (rRet (rCall [false, false] sp_part_at (rgAv (rOp2 gMul (roE (rOp2 gIx (roV 0) (roE (rC (.int 0))))) (roE (rOp2 gIx (roV 1) (roE (rC (.int 1)))))) (rgAv (rOp2 gMul (roE (rOp2 gIx (roV 0) (roE (rC (.int 1))))) (roE (rOp2 gIx (roV 1) (roE (rC (.int 0)))))) rgA0)))))
def rd_is_less : RS := (rRet (rOp2 gLtI (roE (rOp2 gMul (roE (rOp2 gIx (roV 0) (roE (rC (.int 0))))) (roE (rOp2 gIx (roV 1) (roE (rC (.int 1))))))) (roE (rOp2 gMul (roE (rOp2 gIx (roV 1) (roE (rC (.int 0))))) (roE (rOp2 gIx (roV 0) (roE (rC (.int 1)))))))))
theorem rp_plus (ds : List D) (R : RR) (hl : ds.length = 2) (h : sp_plus ds R) : rd_plus (rho0 [false, false] 0 ds ++ List.replicate (2 - 2) .no) (endsOf [false, false] R) := by
  unfold sp_plus at h
  obtain ⟨p, q, rfl, hs, h⟩ := h
  have e1 := wt_num p; have e2 := wt_num q; have e3 := wt_den' p; have e4 := wt_den' q
  walk_at "v"
  refine ⟨mo e1 e4 (by omega), ?_⟩
  walk_at "v"
  refine ⟨mo e2 e3 (by omega), ?_⟩
  walk_at "v"
  refine ⟨mo e3 e4 (by omega), ?_⟩
  walk_at "v"
  have b := bl_imul p.den q.den
  refine sp_part_at.mk (Int.mul_ne_zero (den_ne p) (den_ne q)) (by omega) ?_
  walk_at "v"
  rw [plus_div]
  exact h
theorem rp_minus (ds : List D) (R : RR) (hl : ds.length = 2) (h : sp_minus ds R) : rd_minus (rho0 [false, false] 0 ds ++ List.replicate (2 - 2) .no) (endsOf [false, false] R) := by
  unfold sp_minus at h
  obtain ⟨p, q, rfl, hs, h⟩ := h
  have e1 := wt_num p; have e2 := wt_num q; have e3 := wt_den' p; have e4 := wt_den' q
  walk_at "v"
  refine ⟨mo e1 e4 (by omega), ?_⟩
  walk_at "v"
  refine ⟨mo e2 e3 (by omega), ?_⟩
  walk_at "v"
  refine ⟨mo e3 e4 (by omega), ?_⟩
  walk_at "v"
  have b := bl_imul p.den q.den
  refine sp_part_at.mk (Int.mul_ne_zero (den_ne p) (den_ne q)) (by omega) ?_
  walk_at "v"
  rw [minus_div]
  exact h
theorem rp_times (ds : List D) (R : RR) (hl : ds.length = 2) (h : sp_times ds R) : rd_times (rho0 [false, false] 0 ds ++ List.replicate (2 - 2) .no) (endsOf [false, false] R) := by
  unfold sp_times at h
  obtain ⟨p, q, rfl, hs, h⟩ := h
  have e1 := wt_num p; have e2 := wt_num q; have e3 := wt_den' p; have e4 := wt_den' q
  walk_at "v"
  refine ⟨mo e1 e2 (by omega), ?_⟩
  walk_at "v"
  refine ⟨mo e3 e4 (by omega), ?_⟩
  walk_at "v"
  have b := bl_imul p.den q.den
  refine sp_part_at.mk (Int.mul_ne_zero (den_ne p) (den_ne q)) (by omega) ?_
  walk_at "v"
  rw [times_div]
  exact h
theorem rp_over (ds : List D) (R : RR) (hl : ds.length = 2) (h : sp_over ds R) : rd_over (rho0 [false, false] 0 ds ++ List.replicate (2 - 2) .no) (endsOf [false, false] R) := by
  unfold sp_over at h
  obtain ⟨p, q, rfl, hq, hs, h⟩ := h
  have e1 := wt_num p; have e2 := wt_num q; have e3 := wt_den' p; have e4 := wt_den' q
  walk_at "v"
  rw [eqb_int]
  refine ⟨fun c => absurd (of_decide_eq_true c) (num_ne hq), fun _ => ?_⟩
  walk_at "v"
  refine ⟨mo e1 e4 (by omega), ?_⟩
  walk_at "v"
  refine ⟨mo e3 e2 (by omega), ?_⟩
  walk_at "v"
  have b := bl_imul p.den q.num
  refine sp_part_at.mk (Int.mul_ne_zero (den_ne p) (num_ne hq)) (by omega) ?_
  walk_at "v"
  rw [over_div p q hq]
  exact h
theorem rp_is_less (ds : List D) (R : RR) (hl : ds.length = 2) (h : sp_is_less ds R) : rd_is_less (rho0 [false, false] 0 ds ++ List.replicate (2 - 2) .no) (endsOf [false, false] R) := by
  unfold sp_is_less at h
  obtain ⟨p, q, rfl, hs, h⟩ := h
  have e1 := wt_num p; have e2 := wt_num q; have e3 := wt_den' p; have e4 := wt_den' q
  walk_at "v"
  refine ⟨mo e1 e4 (by omega), ?_⟩
  walk_at "v"
  refine ⟨mo e2 e3 (by omega), ?_⟩
  walk_at "v"
  have e : (decide (p < q)) = decide (p.num * q.den < q.num * p.den) := decide_eq_decide.mpr (Rat.lt_iff p q)
  rw [e] at h
  exact h
/-! ### sums -/
def k_ZERO : D := dq 0
def k_ONE : D := dq 1
def qsum : List Rat → Rat → Rat
  | [], a => a
  | p :: ps, a => qsum ps (a + p)
def wsum (ps : List Rat) : Nat := (ps.map fun p => wt p + 1).sum
@[irreducible] def sp_sum_of : ASp := fun ds R => ∃ ps : List Rat, ds = [.lst (ps.map dq)] ∧ wsum ps ≤ 40000000 ∧ R (dq (qsum ps 0)) 0 []
theorem sp_sum_of.mk {ps : List Rat} {R : RR} (hs : wsum ps ≤ 40000000) (h : R (dq (qsum ps 0)) 0 []) : sp_sum_of [.lst (ps.map dq)] R := by unfold sp_sum_of; exact ⟨ps, rfl, hs, h⟩
def rd_sum_of : RS := (rSeq (rSet 1 (rC k_ZERO))
  (rSeq (rFor (riSeq (rVar 0)) (rgName 2) (rSet 1 (rCall [false, false] sp_plus (rgAv (rVar 1) (rgAv (rVar 2) rgA0)))))
  (rRet (rMove 1))))
theorem rp_sum_of (ds : List D) (R : RR) (hl : ds.length = 1) (h : sp_sum_of ds R) : rd_sum_of (rho0 [false] 0 ds ++ List.replicate (3 - 1) .no) (endsOf [false] R) := by
  unfold sp_sum_of at h
  obtain ⟨ps, rfl, hs, h⟩ := h
  walk_at "v"
  have key : ∀ (ps : List Rat) (a : Rat) (x y : Sl) (E : EN), (y = .no ∨ ∃ d, y = .fz d) → wt a + wsum ps ≤ 40000002 → (∀ y, E.nx [x, .fz (dq (qsum ps a)), y]) →
      forL (rgName 2) (rSet 1 (rCall [false, false] sp_plus (rgAv (rVar 1) (rgAv (rVar 2) rgA0)))) (ps.map dq) [x, .fz (dq a), y] E := by
    intro ps
    induction ps with
    | nil => intro a x y E _ _ hE; exact hE _
    | cons p ps ih =>
      intro a x y E hy hw hE
      have hw' : wt a + ((wt p + 1) + wsum ps) ≤ 40000002 := hw
      have e := wt_add a p
      rcases hy with rfl | ⟨d, rfl⟩
      · walk_at "v"
        refine sp_plus.mk (by omega) ?_
        walk_at "v"
        exact ih (a + p) _ _ _ (.inr ⟨_, rfl⟩) (by omega) hE
      · walk_at "v"
        refine sp_plus.mk (by omega) ?_
        walk_at "v"
        exact ih (a + p) _ _ _ (.inr ⟨_, rfl⟩) (by omega) hE
  have h0 : wt 0 = 1 := by decide +kernel
  refine key ps 0 _ _ _ (.inl rfl) (by omega) fun y => ?_
  walk_at "v"
  exact h
end VL

namespace VL
open PySem PySem.Spec PyProof.Rows L2
local macro_rules | `(tactic| walk_at "v") => `(tactic| repeat (first | refine ⟨rfl, ?_⟩ | refine ⟨_, rfl, ?_⟩))
local macro_rules | `(tactic| walk_at "y") => `(tactic| refine ⟨fun _ => ?_, fun h => absurd h (by decide)⟩)
local macro_rules | `(tactic| walk_at "n") => `(tactic| refine ⟨fun h => absurd h (by decide), fun _ => ?_⟩)
local macro_rules | `(tactic| walk_at "ty") => `(tactic| refine ⟨_, rfl, by decide, ?_⟩)

/-! ### the law's parts: the same by other words -/
theorem part_math2 (t b : Int) (hb : b ≠ 0) (s : Int) (hs : s = 1 ∧ 0 < b ∨ s = -1 ∧ b < 0) :
    (s * t).fdiv (Nat.gcd t.natAbs b.natAbs : Nat) = (Rat.divInt t b).num ∧ (s * b).fdiv (Nat.gcd t.natAbs b.natAbs : Nat) = ((Rat.divInt t b).den : Int) := by
  obtain ⟨m1, m2⟩ := part_math t b hb s hs
  have hg : 0 < Nat.gcd t.natAbs b.natAbs := Nat.gcd_pos_of_pos_right _ (by omega)
  obtain ⟨k, hk⟩ : ((Nat.gcd t.natAbs b.natAbs : Nat) : Int) ∣ t := Int.ofNat_dvd_left.mpr (Nat.gcd_dvd_left _ _)
  obtain ⟨l, hl⟩ : ((Nat.gcd t.natAbs b.natAbs : Nat) : Int) ∣ b := Int.ofNat_dvd_left.mpr (Nat.gcd_dvd_right _ _)
  rw [← m1, ← m2]
  generalize hG : Nat.gcd t.natAbs b.natAbs = g at *
  have s1 : s * s = 1 := by rcases hs with ⟨h, _⟩ | ⟨h, _⟩ <;> (rw [h]; decide)
  have hsg : s * (g : Int) ≠ 0 := by
    rcases hs with ⟨h, _⟩ | ⟨h, _⟩ <;> (rw [h]; omega)
  have key : ∀ x k : Int, x = g * k → (s * x).fdiv g = x.fdiv (s * g) := fun x k e => by
    have e1 : s * x = g * (s * k) := by rw [e, Int.mul_left_comm]
    have e2 : x = (s * g) * (s * k) := by
      rw [show (s * (g : Int)) * (s * k) = (s * s) * (g * k) by
        rw [Int.mul_assoc, Int.mul_assoc, Int.mul_left_comm (g : Int) s k], s1, Int.one_mul]
      exact e
    have f1 : (s * x).fdiv g = s * k := by rw [e1]; exact Int.mul_fdiv_cancel_left _ (by omega)
    have f2 : x.fdiv (s * g) = s * k := by
      conv => lhs; rw [e2]
      exact Int.mul_fdiv_cancel_left _ hsg
    rw [f1, f2]
  exact ⟨key t k hk, key b l hl⟩
@[irreducible] def sp_l_part : ASp := fun ds R => ∃ t b : Int, ds = [.int t, .int b] ∧ b ≠ 0 ∧ bl t.natAbs ≤ 110000000 ∧ bl b.natAbs ≤ 100000000 ∧ R (dq (Rat.divInt t b)) 0 []
theorem sp_l_part.mk {t b : Int} {R : RR} (hb : b ≠ 0) (ht : bl t.natAbs ≤ 110000000) (hs : bl b.natAbs ≤ 100000000) (h : R (dq (Rat.divInt t b)) 0 []) : sp_l_part [.int t, .int b] R := by
  unfold sp_l_part
  exact ⟨t, b, rfl, hb, ht, hs, h⟩
def rd_l_part : RS := (rSeq (rPar 2 3 (rCB gAbs (raCons (roV 0) raNil)) (rCB gAbs (raCons (roV 1) raNil)))
  (rSeq (rWhile (rTb (rOp2 gGtI (roV 3) (roE (rC (.int 0))))) (rPar 2 3 (rVar 3) (rOp2 gMd (roV 2) (roV 3))))
  (rSeq (rSet 4 (rIfE (rTb (rOp2 gGtI (roV 1) (roE (rC (.int 0))))) (rC (.int 1)) (rNeg (rC (.int 1)))))
  (rRet (rTup1 (rfCons (rOp2 gFd (roE (rOp2 gMul (roV 4) (roV 0))) (roV 2)) (rfCons (rOp2 gFd (roE (rOp2 gMul (roV 4) (roV 1))) (roV 2)) rfNil)))))))
theorem rp_l_part (ds : List D) (R : RR) (hl : ds.length = 2) (h : sp_l_part ds R) : rd_l_part (rho0 [false, false] 0 ds ++ List.replicate (5 - 2) .no) (endsOf [false, false] R) := by
  unfold sp_l_part at h
  obtain ⟨t, b, rfl, hb, ht, hs, h⟩ := h
  walk_at "v"
  have key : ∀ (c a : Nat) (x y z : Sl) (E : EN), E.nx [x, y, .fz (.int (Nat.gcd a c)), .fz (.int 0), z] → ∃ n, whL (rTb (rOp2 gGtI (roV 3) (roE (rC (.int 0))))) (rPar 2 3 (rVar 3) (rOp2 gMd (roV 2) (roV 3))) n [x, y, .fz (.int a), .fz (.int c), z] E := by
    intro c
    induction c using Nat.strongRecOn with
    | _ c ih =>
      intro a x y z E hE
      by_cases hc : c = 0
      · subst hc
        refine ⟨1, ?_⟩
        walk_at "v"
        refine ⟨fun c => ?_, fun _ => ?_⟩
        · exact absurd c (by decide)
        · rw [Nat.gcd_zero_right] at hE
          exact hE
      · obtain ⟨n, hn⟩ := ih (a % c) (Nat.mod_lt _ (by omega)) c x y z E (by rw [Nat.gcd_comm, ← Nat.gcd_rec, Nat.gcd_comm]; exact hE)
        refine ⟨n + 1, ?_⟩
        walk_at "v"
        refine ⟨fun _ => ?_, fun c => ?_⟩
        · walk_at "v"
          refine ⟨fun z => hc (by omega), ?_⟩
          walk_at "v"
          have e : Int.fmod (a : Int) (c : Int) = ((a % c : Nat) : Int) := by
            rw [Int.fmod_eq_emod_of_nonneg _ (by omega)]; rfl
          rw [e]
          exact hn
        · exact absurd (of_decide_eq_false c) (by omega)
  have e1 : bl (Int.natAbs 1) = 1 := by decide
  have e2 : bl (Int.natAbs (-1)) = 1 := by decide
  have fd : ∀ x, FdOk x (Nat.gcd t.natAbs b.natAbs : Nat) := fun x => by
    have := FdOk.gcd (t := t) hb hs (.inl rfl) x
    rw [Int.one_mul] at this
    exact this
  refine key _ _ _ _ _ _ ?_
  walk_at "v"
  refine ⟨fun c => ?_, fun c => ?_⟩
  · have c' := of_decide_eq_true c
    obtain ⟨m1, m2⟩ := part_math2 t b hb 1 (.inl ⟨rfl, c'⟩)
    walk_at "v"
    refine ⟨MulOk.bl (by first | omega | (dsimp only; omega)), ?_⟩
    walk_at "v"
    refine ⟨fd _, ?_⟩
    walk_at "v"
    refine ⟨MulOk.bl (by first | omega | (dsimp only; omega)), ?_⟩
    walk_at "v"
    refine ⟨fd _, ?_⟩
    walk_at "v"
    rw [m1, m2]
    exact h
  · have c' := of_decide_eq_false c
    obtain ⟨m1, m2⟩ := part_math2 t b hb (-1) (.inr ⟨rfl, by omega⟩)
    walk_at "v"
    refine ⟨MulOk.bl (by first | omega | (dsimp only; omega)), ?_⟩
    walk_at "v"
    refine ⟨fd _, ?_⟩
    walk_at "v"
    refine ⟨MulOk.bl (by first | omega | (dsimp only; omega)), ?_⟩
    walk_at "v"
    refine ⟨fd _, ?_⟩
    walk_at "v"
    rw [m1, m2]
    exact h
abbrev sp_l_plus : ASp := sp_plus
abbrev sp_l_minus : ASp := sp_minus
abbrev sp_l_times : ASp := sp_times
def rd_l_plus : RS := (rRet (rCall [false, false] sp_l_part (rgAv (rOp2 gAddV (roE (rOp2 gMul (roE (rOp2 gIx (roV 0) (roE (rC (.int 0))))) (roE (rOp2 gIx (roV 1) (roE (rC (.int 1))))))) (roE (rOp2 gMul (roE (rOp2 gIx (roV 1) (roE (rC (.int 0))))) (roE (rOp2 gIx (roV 0) (roE (rC (.int 1)))))))) (rgAv (rOp2 gMul (roE (rOp2 gIx (roV 0) (roE (rC (.int 1))))) (roE (rOp2 gIx (roV 1) (roE (rC (.int 1)))))) rgA0))))
def rd_l_minus : RS := (rRet (rCall [false, false] sp_l_part (rgAv (rOp2 gSub (roE (rOp2 gMul (roE (rOp2 gIx (roV 0) (roE (rC (.int 0))))) (roE (rOp2 gIx (roV 1) (roE (rC (.int 1))))))) (roE (rOp2 gMul (roE (rOp2 gIx (roV 1) (roE (rC (.int 0))))) (roE (rOp2 gIx (roV 0) (roE (rC (.int 1)))))))) (rgAv (rOp2 gMul (roE (rOp2 gIx (roV 0) (roE (rC (.int 1))))) (roE (rOp2 gIx (roV 1) (roE (rC (.int 1)))))) rgA0))))
def rd_l_times : RS := (rRet (rCall [false, false] sp_l_part (rgAv (rOp2 gMul (roE (rOp2 gIx (roV 0) (roE (rC (.int 0))))) (roE (rOp2 gIx (roV 1) (roE (rC (.int 0)))))) (rgAv (rOp2 gMul (roE (rOp2 gIx (roV 0) (roE (rC (.int 1))))) (roE (rOp2 gIx (roV 1) (roE (rC (.int 1)))))) rgA0))))
theorem rp_l_plus (ds : List D) (R : RR) (hl : ds.length = 2) (h : sp_plus ds R) : rd_l_plus (rho0 [false, false] 0 ds ++ List.replicate (2 - 2) .no) (endsOf [false, false] R) := by
  unfold sp_plus at h
  obtain ⟨p, q, rfl, hs, h⟩ := h
  have e1 := wt_num p; have e2 := wt_num q; have e3 := wt_den' p; have e4 := wt_den' q
  walk_at "v"
  refine ⟨mo e1 e4 (by omega), ?_⟩
  walk_at "v"
  refine ⟨mo e2 e3 (by omega), ?_⟩
  walk_at "v"
  refine ⟨mo e3 e4 (by omega), ?_⟩
  walk_at "v"
  have b := bl_imul p.den q.den
  have b1 := bl_iadd (p.num * q.den) (q.num * p.den)
  have b2 := bl_imul p.num q.den
  have b3 := bl_imul q.num p.den
  refine sp_l_part.mk (Int.mul_ne_zero (den_ne p) (den_ne q)) (by omega) (by omega) ?_
  walk_at "v"
  rw [plus_div]
  exact h
theorem rp_l_minus (ds : List D) (R : RR) (hl : ds.length = 2) (h : sp_minus ds R) : rd_l_minus (rho0 [false, false] 0 ds ++ List.replicate (2 - 2) .no) (endsOf [false, false] R) := by
  unfold sp_minus at h
  obtain ⟨p, q, rfl, hs, h⟩ := h
  have e1 := wt_num p; have e2 := wt_num q; have e3 := wt_den' p; have e4 := wt_den' q
  walk_at "v"
  refine ⟨mo e1 e4 (by omega), ?_⟩
  walk_at "v"
  refine ⟨mo e2 e3 (by omega), ?_⟩
  walk_at "v"
  refine ⟨mo e3 e4 (by omega), ?_⟩
  walk_at "v"
  have b := bl_imul p.den q.den
  have b1 := bl_isub (p.num * q.den) (q.num * p.den)
  have b2 := bl_imul p.num q.den
  have b3 := bl_imul q.num p.den
  refine sp_l_part.mk (Int.mul_ne_zero (den_ne p) (den_ne q)) (by omega) (by omega) ?_
  walk_at "v"
  rw [minus_div]
  exact h
theorem rp_l_times (ds : List D) (R : RR) (hl : ds.length = 2) (h : sp_times ds R) : rd_l_times (rho0 [false, false] 0 ds ++ List.replicate (2 - 2) .no) (endsOf [false, false] R) := by
  unfold sp_times at h
  obtain ⟨p, q, rfl, hs, h⟩ := h
  have e1 := wt_num p; have e2 := wt_num q; have e3 := wt_den' p; have e4 := wt_den' q
  walk_at "v"
  refine ⟨mo e1 e2 (by omega), ?_⟩
  walk_at "v"
  refine ⟨mo e3 e4 (by omega), ?_⟩
  walk_at "v"
  have b := bl_imul p.den q.den
  have b2 := bl_imul p.num q.num
  refine sp_l_part.mk (Int.mul_ne_zero (den_ne p) (den_ne q)) (by omega) (by omega) ?_
  walk_at "v"
  rw [times_div]
  exact h
/-! ### the tape -/
structure Tp where
  a : Int
  b : Int
  c : Int
def dT (t : Tp) : D := .lst [.int t.a, .int t.b, .int t.c]
/-- n more draws are all right -/
def Tp.ok (n : Nat) (t : Tp) : Prop := 0 ≤ t.a ∧ 0 ≤ t.b ∧ t.b < 2 ^ 62 ∧ 0 ≤ t.c ∧ t.c + n ≤ 2 ^ 40
theorem Tp.ok.le {m n : Nat} {t : Tp} (h : t.ok n) (l : m ≤ n) : t.ok m := by
  unfold Tp.ok at h ⊢
  omega
def tapeN : Nat := 2 ^ 40
theorem Tp.ok.of {m : Nat} {t : Tp} (h : t.ok tapeN) (l : m ≤ 1099511627776) : t.ok m := h.le (by unfold tapeN; omega)
@[irreducible] def sp_l_begun : ASp := fun ds R => ∃ (ns : List Int) (k : Int), ds = [.scr ns, .int k] ∧ 0 ≤ k ∧ k ≤ 1000 ∧ (∀ n ∈ ns, bl n.natAbs ≤ 2000000) ∧ ∀ t : Tp, t.ok tapeN → R (dT t) 1 []
theorem sp_l_begun.mk {ns : List Int} {k : Int} {R : RR} (h0 : 0 ≤ k) (h1 : k ≤ 1000) (hb : ∀ n ∈ ns, bl n.natAbs ≤ 2000000) (h : ∀ t : Tp, t.ok tapeN → R (dT t) 1 []) : sp_l_begun [.scr ns, .int k] R := by
  unfold sp_l_begun
  exact ⟨ns, k, rfl, h0, h1, hb, h⟩
def rd_l_begun : RS := (rSeq (rSet 2 (rIfE (rTb (rOp2 gLtI (roV 1) (roE (rCB gLen (raCons (roV 0) raNil))))) (rOp2 gIx (roV 0) (roV 1)) (rC (.int 0))))
  (rRet (rLst1 (rfCons (rOp2 gMul (roE (rCB gAbs (raCons (roV 2) raNil))) (roE (rCB gIntOf (raCons (roE (rOp2 gGeI (roE (rCB gAbs (raCons (roV 2) raNil))) (roE (rOp2 gPow (roE (rC (.int 10))) (roE (rC (.int 18))))))) raNil)))) (rfCons (rOp2 gAddV (roE (rOp2 gAddV (roE (rOp2 gMd (roV 2) (roE (rC (.int 2305843009213693951))))) (roE (rOp2 gMul (roE (rC (.int 39373))) (roV 1))))) (roE (rC (.int 17)))) (rfCons (rC (.int 0)) rfNil))))))
theorem atI_get_nn {α : Type} {xs : List α} {i : Int} (h0 : 0 ≤ i) (h1 : i < xs.length) : ∃ x, atI xs i = some x ∧ x ∈ xs := by
  have h2 : i.toNat < xs.length := by omega
  refine ⟨xs[i.toNat], ?_, List.getElem_mem h2⟩
  have := atI_nat (xs := xs) (j := i.toNat) (v := xs[i.toNat]) (List.getElem?_eq_getElem h2)
  rw [Int.toNat_of_nonneg h0] at this
  exact this
theorem bl_small {n k : Nat} (h : n < 2 ^ k) : bl n ≤ k := bl_le h
theorem rp_l_begun (ds : List D) (R : RR) (hl : ds.length = 2) (h : sp_l_begun ds R) : rd_l_begun (rho0 [false, false] 0 ds ++ List.replicate (3 - 2) .no) (endsOf [false, false] R) := by
  unfold sp_l_begun at h
  obtain ⟨ns, k, rfl, h0, h1, hb, h⟩ := h
  have tail : ∀ c : Int, bl c.natAbs ≤ 2000000 → (rRet (rLst1 (rfCons (rOp2 gMul (roE (rCB gAbs (raCons (roV 2) raNil))) (roE (rCB gIntOf (raCons (roE (rOp2 gGeI (roE (rCB gAbs (raCons (roV 2) raNil))) (roE (rOp2 gPow (roE (rC (.int 10))) (roE (rC (.int 18))))))) raNil)))) (rfCons (rOp2 gAddV (roE (rOp2 gAddV (roE (rOp2 gMd (roV 2) (roE (rC (.int 2305843009213693951))))) (roE (rOp2 gMul (roE (rC (.int 39373))) (roV 1))))) (roE (rC (.int 17)))) (rfCons (rC (.int 0)) rfNil))))) [.fz (.scr ns), .fz (.int k), .fz (.int c)] (endsOf [false, false] R) := by
    intro c hc
    walk_at "v"
    refine ⟨⟨by decide, by decide, by decide⟩, ?_⟩
    walk_at "v"
    have b1 : ∀ k : Bool, bl (bi k).natAbs ≤ 1 := fun k => by cases k <;> decide
    have b2 := b1 (decide ((10 : Int) ^ (Int.toNat 18) ≤ (c.natAbs : Int)))
    have b3 : bl (c.natAbs : Int).natAbs ≤ 2000000 := hc
    refine ⟨MulOk.bl (by first | omega | (dsimp only; omega)), ?_⟩
    walk_at "v"
    refine ⟨by decide, ?_⟩
    walk_at "v"
    have b4 : bl k.natAbs ≤ 10 := bl_small (by omega)
    have b5 : bl (Int.natAbs 39373) ≤ 16 := by decide
    refine ⟨MulOk.bl (by first | omega | (dsimp only; omega)), ?_⟩
    walk_at "v"
    refine h ⟨_, _, 0⟩ ?_
    refine ⟨?_, ?_, ?_, by show (0 : Int) ≤ 0; omega, by show (0 : Int) + (2 ^ 40 : Nat) ≤ 2 ^ 40; omega⟩
    · show 0 ≤ (c.natAbs : Int) * bi _
      refine Int.mul_nonneg (by omega) ?_
      unfold bi
      split <;> omega
    · show 0 ≤ c.fmod 2305843009213693951 + 39373 * k + 17
      have := Int.fmod_nonneg_of_pos c (show (0 : Int) < 2305843009213693951 by decide)
      omega
    · show c.fmod 2305843009213693951 + 39373 * k + 17 < 2 ^ 62
      have := Int.fmod_lt_of_pos c (show (0 : Int) < 2305843009213693951 by decide)
      omega
  walk_at "v"
  refine ⟨fun c => ?_, fun c => ?_⟩
  · obtain ⟨x, e, hx⟩ := atI_get_nn h0 (of_decide_eq_true c)
    walk_at "v"
    refine ⟨x, e, ?_⟩
    exact ⟨rfl, tail x (hb x hx)⟩
  · exact ⟨rfl, tail 0 (by decide)⟩
@[irreducible] def sp_l_draw : ASp := fun ds R => ∃ (t : Tp) (m : Int) (n : Nat), ds = [dT t, .int m] ∧ t.ok (n + 1) ∧ 0 < m ∧ m < 2 ^ 8000 ∧ ∀ (r : Int) (t' : Tp), 0 ≤ r → r < m → t'.ok n → R (.int r) 0 [dT t']
theorem sp_l_draw.mk {t : Tp} {m : Int} {R : RR} (n : Nat) (ht : t.ok (n + 1)) (h0 : 0 < m) (h1 : m < 2 ^ 8000) (h : ∀ (r : Int) (t' : Tp), 0 ≤ r → r < m → t'.ok n → R (.int r) 0 [dT t']) : sp_l_draw [dT t, .int m] R := by
  unfold sp_l_draw
  exact ⟨t, m, n, rfl, ht, h0, h1, h⟩
def rd_l_draw : RS := (rSeq (rIf (rTb (rOp2 gGtI (roE (rOp2 gIx (roV 0) (roE (rC (.int 0))))) (roE (rC (.int 0))))) (rSeq (rSet 2 (rOp2 gMd (roE (rOp2 gIx (roV 0) (roE (rC (.int 0))))) (roV 1)))
  (rSeq (rSetIx 0 (rOp2 gFd (roE (rOp2 gIx (roV 0) (roE (rC (.int 0))))) (roV 1)) (rC (.int 0)))
  (rRet (rMove 2)))) rNext)
  (rSeq (rSetIx 0 (rOp2 gAddV (roE (rOp2 gIx (roV 0) (roE (rC (.int 2))))) (roE (rC (.int 1)))) (rC (.int 2)))
  (rSeq (rSet 3 (rOp2 gMd (roE (rOp2 gPow (roE (rOp2 gAddV (roE (rOp2 gIx (roV 0) (roE (rC (.int 1))))) (roE (rOp2 gMul (roE (rC (.int 39373))) (roE (rOp2 gIx (roV 0) (roE (rC (.int 2))))))))) (roE (rC (.int 5))))) (roE (rC (.int 2147483647)))))
  (rSeq (rSet 4 (rOp2 gMd (roE (rOp2 gMul (roE (rOp2 gAddV (roV 3) (roE (rOp2 gIx (roV 0) (roE (rC (.int 2))))))) (roE (rOp2 gAddV (roE (rOp2 gAddV (roE (rOp2 gMd (roV 3) (roE (rC (.int 40009))))) (roE (rC (.int 7))))) (roE (rOp2 gIx (roV 0) (roE (rC (.int 2))))))))) (roE (rC (.int 2147483629)))))
  (rRet (rOp2 gMd (roE (rOp2 gFd (roE (rOp2 gMd (roE (rOp2 gAddV (roE (rOp2 gMul (roV 4) (roE (rC (.int 48271))))) (roV 3))) (roE (rC (.int 2147483587))))) (roE (rC (.int 64))))) (roV 1)))))))
theorem FdOk.pos {i m : Int} (h0 : 0 < m) (h1 : m < 2 ^ 8000) : FdOk i m := by
  show m ≠ 0
  omega
theorem rp_l_draw (ds : List D) (R : RR) (hl : ds.length = 2) (h : sp_l_draw ds R) : rd_l_draw (rho0 [true, false] 0 ds ++ List.replicate (5 - 2) .no) (endsOf [true, false] R) := by
  unfold sp_l_draw at h
  obtain ⟨⟨a, b, c⟩, m, n, rfl, ⟨ha, hb, hb2, hc, hc2⟩, h0, h1, h⟩ := h
  dsimp only at ha hb hb2 hc hc2
  have hF : ∀ i : Int, FdOk i m := fun i => FdOk.pos h0 h1
  clear h1
  walk_at "v"
  refine ⟨fun z => ?_, fun z => ?_⟩
  · have z' := of_decide_eq_true z
    walk_at "v"
    refine ⟨by omega, ?_⟩
    walk_at "v"
    refine ⟨hF _, ?_⟩
    walk_at "v"
    refine h _ ⟨a.fdiv m, b, c⟩ (Int.fmod_nonneg_of_pos a h0) (Int.fmod_lt_of_pos a h0) ⟨?_, hb, hb2, hc, by show c + (n : Int) ≤ 2 ^ 40; omega⟩
    show 0 ≤ a.fdiv m
    rw [Int.fdiv_eq_ediv_of_nonneg _ (by omega)]
    exact Int.ediv_nonneg ha (by omega)
  · walk_at "v"
    have p1 : bl (Int.natAbs 39373) ≤ 16 := by decide
    have p2 : bl (c + 1).natAbs ≤ 41 := bl_small (by omega)
    refine ⟨MulOk.bl (by dsimp only; omega), ?_⟩
    walk_at "v"
    refine ⟨⟨by decide, by decide, by dsimp only; omega⟩, ?_⟩
    walk_at "v"
    refine ⟨by decide, ?_⟩
    walk_at "v"
    generalize ho : ((b + 39373 * (c + 1)) ^ (Int.toNat 5)).fmod 2147483647 = o at *
    have o1 : 0 ≤ o := by rw [← ho]; exact Int.fmod_nonneg_of_pos _ (by decide)
    have o2 : o < 2147483647 := by rw [← ho]; exact Int.fmod_lt_of_pos _ (by decide)
    refine ⟨by decide, ?_⟩
    walk_at "v"
    generalize hq : o.fmod 40009 = q at *
    have q1 : 0 ≤ q := by rw [← hq]; exact Int.fmod_nonneg_of_pos _ (by decide)
    have q2 : q < 40009 := by rw [← hq]; exact Int.fmod_lt_of_pos _ (by decide)
    have r1 : bl (o + (c + 1)).natAbs ≤ 42 := bl_small (by omega)
    have r2 : bl (q + 7 + (c + 1)).natAbs ≤ 42 := bl_small (by omega)
    refine ⟨MulOk.bl (by first | omega | (dsimp only; omega)), ?_⟩
    walk_at "v"
    refine ⟨by decide, ?_⟩
    walk_at "v"
    generalize hw : ((o + (c + 1)) * (q + 7 + (c + 1))).fmod 2147483629 = w at *
    have w1 : 0 ≤ w := by rw [← hw]; exact Int.fmod_nonneg_of_pos _ (by decide)
    have w2 : w < 2147483629 := by rw [← hw]; exact Int.fmod_lt_of_pos _ (by decide)
    have r3 : bl w.natAbs ≤ 42 := bl_small (by omega)
    have r4 : bl (Int.natAbs 48271) ≤ 42 := by decide
    refine ⟨MulOk.bl (by first | omega | (dsimp only; omega)), ?_⟩
    walk_at "v"
    refine ⟨by decide, ?_⟩
    walk_at "v"
    refine ⟨(fun z => absurd z (by decide)), ?_⟩
    walk_at "v"
    refine ⟨by omega, ?_⟩
    walk_at "v"
    exact h _ ⟨a, b, c + 1⟩ (Int.fmod_nonneg_of_pos _ h0) (Int.fmod_lt_of_pos _ h0) ⟨ha, hb, hb2, by show 0 ≤ c + 1; omega, by show c + 1 + (n : Int) ≤ 2 ^ 40; omega⟩
end VL

namespace VL
open PySem PySem.Spec PyProof.Rows L2
theorem smallL {n : Nat} (h : Nat.ble n 1000 = true) : n < sizeLine := small1000 (Nat.le_of_ble_eq_true h)
theorem smallE {n : Nat} (h : Nat.ble n 1000 = true) : n ≤ sizeLine := Nat.le_of_lt (smallL h)
local macro_rules | `(tactic| walk_at "v") => `(tactic| repeat (first | refine ⟨rfl, ?_⟩ | refine ⟨_, rfl, ?_⟩))
local macro_rules | `(tactic| walk_at "y") => `(tactic| refine ⟨fun _ => ?_, fun h => Bool.noConfusion (show true = false from h)⟩)
local macro_rules | `(tactic| walk_at "n") => `(tactic| refine ⟨fun h => Bool.noConfusion (show false = true from h), fun _ => ?_⟩)
local macro_rules | `(tactic| walk_at "ty") => `(tactic| refine ⟨_, rfl, by decide, ?_⟩)
local macro_rules | `(tactic| walk_at "tys") => `(tactic| refine ⟨_, rfl, _, rfl, by decide, ?_⟩)
theorem tyIn {T : String} (h : tyList.contains T = true) : T ∈ tyList := List.contains_iff_mem.mp h
theorem tysIn {Ts : List String} (h : (Ts.all fun T => tyList.contains T) = true) : ∀ T ∈ Ts, T ∈ tyList := fun T hT => tyIn (List.all_eq_true.mp h T hT)
local macro_rules | `(tactic| walk_at "z") => `(tactic| repeat (first | refine ⟨rfl, ?_⟩ | refine ⟨_, rfl, ?_⟩ | refine ⟨fun _ => ?_, fun h => Bool.noConfusion (show true = false from h)⟩ | refine ⟨fun h => Bool.noConfusion (show false = true from h), fun _ => ?_⟩ | refine ⟨tyIn rfl, ?_⟩ | refine ⟨tysIn rfl, ?_⟩ | refine ⟨smallL rfl, ?_⟩ | refine ⟨smallE rfl, ?_⟩))

/-! ### plain data: rows and ints of at most B, at most m deep -/
def D.datb (B : Nat) : Nat → D → Bool
  | 0, d => match d with
    | .non => true
    | .bl _ => true
    | .int i => Nat.ble (VL.bl i.natAbs) B
    | .str x => Nat.ble x.length 2100 && PyData.strOk x
    | .dct ks vs => ks.isEmpty && vs.isEmpty
    | _ => false
  | m + 1, d => match d with
    | .non => true
    | .bl _ => true
    | .int i => Nat.ble (VL.bl i.natAbs) B
    | .str x => Nat.ble x.length 2100 && PyData.strOk x
    | .dct ks vs => ks.isEmpty && vs.isEmpty
    | .tup ds => Nat.ble ds.length B && ds.all (D.datb B m)
    | .lst ds => Nat.ble ds.length B && ds.all (D.datb B m)
    | _ => false
mutual
def D.sz : D → Nat
  | .non => 5
  | .bl _ => 5
  | .int i => VL.bl i.natAbs + 3
  | .str x => (reprText x).length
  | .opq _ => 0
  | .scr _ => 0
  | .pdc _ _ => 0
  | .tup ds => D.szs ds + 3
  | .lst ds => D.szs ds + 3
  | .dct _ _ => 3
def D.szs : List D → Nat
  | [] => 0
  | d :: ds => d.sz + 2 + D.szs ds
end
def isRow : D → Bool
  | .tup _ => true
  | .lst _ => true
  | _ => false
def D.dat (B m : Nat) (d : D) : Prop := d.datb B m = true
def datL (B m : Nat) (ds : List D) : Prop := ds.length ≤ B ∧ ∀ d ∈ ds, d.dat B m
theorem datL_iff {B m : Nat} {ds : List D} : (Nat.ble ds.length B && ds.all (D.datb B m)) = true ↔ datL B m ds := by
  rw [Bool.and_eq_true, List.all_eq_true]
  exact ⟨fun h => ⟨Nat.le_of_ble_eq_true h.1, h.2⟩, fun h => ⟨Nat.ble_eq_true_of_le h.1, h.2⟩⟩
theorem dat_lst {B m : Nat} {ds : List D} : (D.lst ds).dat B (m + 1) ↔ datL B m ds := datL_iff
theorem dat_tup {B m : Nat} {ds : List D} : (D.tup ds).dat B (m + 1) ↔ datL B m ds := datL_iff
theorem dat_int {B m : Nat} {i : Int} : (D.int i).dat B m ↔ bl i.natAbs ≤ B := by
  cases m <;> exact ⟨Nat.le_of_ble_eq_true, Nat.ble_eq_true_of_le⟩
theorem sp_l_draw.mk' {t : Tp} {m : Int} {R : RR} (n : Nat) (ht : t.ok (n + 1)) (h0 : 0 < m) (h1 : m < 4611686018427387904) (h : ∀ (r : Int) (t' : Tp), 0 ≤ r → r < m → t'.ok n → R (.int r) 0 [dT t']) : sp_l_draw [dT t, .int m] R := by
  refine .mk n ht h0 (Int.lt_trans h1 ?_) h
  have e : ((2 ^ 8000 : Nat) : Int) = (2 : Int) ^ 8000 := by rw [Int.natCast_pow]; rfl
  have e2 : ((2 ^ 62 : Nat) : Int) = 4611686018427387904 := by decide
  rw [← e, ← e2]
  exact Int.ofNat_lt.mpr (Nat.pow_lt_pow_right (by decide) (by decide))
/-! ### numbers and parts among data -/
def isNum : D → Bool
  | .int _ => true
  | _ => false
def isPart : D → Bool
  | .tup [.int a, .int b] => decide (0 < b) && decide (Nat.gcd a.natAbs b.natAbs = 1)
  | _ => false
@[irreducible] def sp_is_number : ASp := fun ds R => ∃ d, ds = [d] ∧ (tyD d).isSome = true ∧ R (.bl (isNum d)) 0 []
theorem sp_is_number.mk {d : D} {R : RR} (h : (tyD d).isSome = true) (r : R (.bl (isNum d)) 0 []) : sp_is_number [d] R := by
  unfold sp_is_number
  exact ⟨d, rfl, h, r⟩
@[irreducible] def sp_is_part : ASp := fun ds R => ∃ d B m, ds = [d] ∧ d.dat B m ∧ R (.bl (isPart d)) 0 []
theorem sp_is_part.mk {d : D} {B m : Nat} {R : RR} (h : d.dat B m) (r : R (.bl (isPart d)) 0 []) : sp_is_part [d] R := by
  unfold sp_is_part
  exact ⟨d, B, m, rfl, h, r⟩
@[irreducible] def sp_l_is_part : ASp := fun ds R => ∃ d B m, ds = [d] ∧ B ≤ 9000 ∧ d.dat B m ∧ R (.bl (isPart d)) 0 []
theorem sp_l_is_part.mk {d : D} {B m : Nat} {R : RR} (hB : B ≤ 9000) (h : d.dat B m) (r : R (.bl (isPart d)) 0 []) : sp_l_is_part [d] R := by
  unfold sp_l_is_part
  exact ⟨d, B, m, rfl, hB, h, r⟩
@[irreducible] def sp_l_odd : ASp := fun ds R => ∃ t n, ds = [dT t] ∧ t.ok (n + 1) ∧ ∀ r t', r.dat 104 3 → r.sz ≤ 300 → t'.ok n → R r 0 [dT t']
theorem sp_l_odd.mk {t : Tp} {R : RR} (n : Nat) (ht : t.ok (n + 1)) (h : ∀ r t', r.dat 104 3 → r.sz ≤ 300 → t'.ok n → R r 0 [dT t']) : sp_l_odd [dT t] R := by
  unfold sp_l_odd
  exact ⟨t, n, rfl, ht, h⟩
@[irreducible] def sp_l_bent (m : Nat) : ASp := fun ds R => ∃ t d n B j, ds = [dT t, d] ∧ j ≤ m ∧ d.dat B j ∧ 104 ≤ B ∧ B ≤ 5000 ∧ t.ok (n + (4 + 2 * j)) ∧ ∀ r t', r.dat (B + 2) (j + 3) → (isRow d = true → isRow r = true) → r.sz ≤ 3 * d.sz + 400 → t'.ok n → R r 0 [dT t']
theorem sp_l_bent.mk {m : Nat} {t : Tp} {d : D} {R : RR} (n B j : Nat) (hj : j ≤ m) (hd : d.dat B j) (hB : 104 ≤ B) (hB2 : B ≤ 5000) (ht : t.ok (n + (4 + 2 * j))) (h : ∀ r t', r.dat (B + 2) (j + 3) → (isRow d = true → isRow r = true) → r.sz ≤ 3 * d.sz + 400 → t'.ok n → R r 0 [dT t']) : sp_l_bent m [dT t, d] R := by
  unfold sp_l_bent
  exact ⟨t, d, n, B, j, rfl, hj, hd, hB, hB2, ht, h⟩
@[irreducible] def sp_l_number : ASp := fun ds R => ∃ t n, ds = [dT t] ∧ t.ok (n + 5) ∧ ∀ q t', wt q ≤ 21 → q.den ≤ 1000 → t'.ok n → R (dq q) 0 [dT t']
theorem sp_l_number.mkd {t : Tp} {R : RR} (n : Nat) (ht : t.ok (n + 5)) (h : ∀ q t', wt q ≤ 21 → q.den ≤ 1000 → t'.ok n → R (dq q) 0 [dT t']) : sp_l_number [dT t] R := by
  unfold sp_l_number
  exact ⟨t, n, rfl, ht, h⟩
theorem sp_l_number.mk {t : Tp} {R : RR} (n : Nat) (ht : t.ok (n + 5)) (h : ∀ q t', wt q ≤ 21 → t'.ok n → R (dq q) 0 [dT t']) : sp_l_number [dT t] R := sp_l_number.mkd n ht fun q t' h1 _ h2 => h q t' h1 h2
theorem divInt_den_le {a b : Int} {n : Nat} (hb : 0 < b) (h : b.natAbs ≤ n) : (Rat.divInt a b).den ≤ n := by
  rw [Rat.den_divInt, if_neg (by omega)]
  exact Nat.le_trans (Nat.div_le_self _ _) h
@[irreducible] def sp_l_number_of : ASp := fun ds R => ∃ t n, ds = [dT t] ∧ t.ok (n + 3) ∧ ∀ (i : Int) t', bl i.natAbs ≤ 101 → t'.ok n → R (.int i) 0 [dT t']
theorem sp_l_number_of.mk {t : Tp} {R : RR} (n : Nat) (ht : t.ok (n + 3)) (h : ∀ (i : Int) t', bl i.natAbs ≤ 101 → t'.ok n → R (.int i) 0 [dT t']) : sp_l_number_of [dT t] R := by
  unfold sp_l_number_of
  exact ⟨t, n, rfl, ht, h⟩
def rd_l_number : RS := (rSeq (rPar3 1 2 3 (rCall [true, false] sp_l_draw (rgAs 0 (rgAv (rC (.int 12)) rgA0))) (rOp2 gSub (roE (rCall [true, false] sp_l_draw (rgAs 0 (rgAv (rC (.int 9)) rgA0)))) (roE (rC (.int 4)))) (rOp2 gAddV (roE (rC (.int 2))) (roE (rCall [true, false] sp_l_draw (rgAs 0 (rgAv (rC (.int 5)) rgA0))))))
  (rSeq (rIf (rTb (rOp2 gEq (roV 1) (roE (rC (.int 0))))) (rRet (rCall [false, false] sp_l_part (rgAv (rOp2 gSub (roE (rCall [true, false] sp_l_draw (rgAs 0 (rgAv (rOp2 gMul (roE (rC (.int 2))) (roE (rOp2 gPow (roE (rC (.int 10))) (roE (rC (.int 6)))))) rgA0)))) (roE (rOp2 gPow (roE (rC (.int 10))) (roE (rC (.int 6)))))) (rgAv (rOp2 gAddV (roE (rC (.int 1))) (roE (rCall [true, false] sp_l_draw (rgAs 0 (rgAv (rC (.int 1000)) rgA0))))) rgA0)))) rNext)
  (rRet (rIfE (rTb (rOp2 gLtI (roV 1) (roE (rC (.int 9))))) (rTup1 (rfCons (rVar 2) (rfCons (rC (.int 1)) rfNil))) (rCall [false, false] sp_l_part (rgAv (rVar 2) (rgAv (rVar 3) rgA0)))))))
theorem cuts {ds : List D} {k : Nat} (hk : k ≤ ds.length) : (cutL ds none (some (k : Int))).length = k ∧ (cutL ds (some (k : Int)) none).length = ds.length - k ∧ (cutL ds (some ((k : Int) + 1)) none).length ≤ ds.length - k ∧ (cutL ds (some (k : Int)) (some ((k : Int) + 1))).length ≤ 1 ∧ ∀ lo hi, ∀ d ∈ cutL ds lo hi, d ∈ ds := by
  have e1 : ∀ d, HT.sIx ds.length d (some (k : Int)) = k := fun d => by rw [HT.sIx_nat]; omega
  have e2 : ∀ d, HT.sIx ds.length d (some ((k : Int) + 1)) = min (k + 1) ds.length := fun d => HT.sIx_nat ds.length d (k + 1)
  refine ⟨?_, ?_, ?_, ?_, fun lo hi d hd => ?_⟩
  · unfold cutL
    rw [e1, HT.sIx_none, List.length_take, List.length_drop]
    omega
  · unfold cutL
    rw [e1, HT.sIx_none, List.length_take, List.length_drop]
    omega
  · unfold cutL
    rw [e2, HT.sIx_none, List.length_take, List.length_drop]
    omega
  · unfold cutL
    rw [e1, e2, List.length_take, List.length_drop]
    omega
  · unfold cutL at hd
    exact List.mem_of_mem_drop (List.mem_of_mem_take hd)
theorem rp_l_number (ds : List D) (R : RR) (hl : ds.length = 1) (h : sp_l_number ds R) : rd_l_number (rho0 [true] 0 ds ++ List.replicate (4 - 1) .no) (endsOf [true] R) := by
  unfold sp_l_number at h
  obtain ⟨t, n, rfl, ht, h⟩ := h
  walk_at "z"
  refine sp_l_draw.mk' (n + 4) ht (by decide) (by decide) fun w t1 w0 w1 ht1 => ?_
  walk_at "z"
  refine sp_l_draw.mk' (n + 3) ht1 (by decide) (by decide) fun s t2 s0 s1 ht2 => ?_
  walk_at "z"
  refine sp_l_draw.mk' (n + 2) ht2 (by decide) (by decide) fun b t3 b0 b1 ht3 => ?_
  walk_at "z"
  rw [eqb_int]
  refine ⟨fun c => ?_, fun c => ?_⟩
  · walk_at "z"
    refine ⟨⟨by decide, by decide, by decide⟩, ?_⟩
    walk_at "z"
    refine ⟨MulOk.bl (by decide), ?_⟩
    walk_at "z"
    refine sp_l_draw.mk' (n + 1) ht3 (by decide) (by decide) fun x t4 x0 x1 ht4 => ?_
    walk_at "z"
    refine ⟨⟨by decide, by decide, by decide⟩, ?_⟩
    walk_at "z"
    refine sp_l_draw.mk' n ht4 (by decide) (by decide) fun y t5 y0 y1 ht5 => ?_
    walk_at "z"
    have x1' : x < 2000000 := x1
    have f1 : bl (x - 10 ^ Int.toNat 6).natAbs ≤ 21 := bl_small (by
      show (x - 1000000).natAbs < 2 ^ 21
      omega)
    have f2 : bl (1 + y).natAbs ≤ 21 := bl_small (by omega)
    refine sp_l_part.mk (by omega) (by omega) (by omega) ?_
    walk_at "z"
    exact h _ t5 (Nat.le_trans (divInt_wt _ _ (by omega)) (Nat.max_le.mpr ⟨f1, f2⟩)) (divInt_den_le (by omega) (by omega)) ht5
  · walk_at "z"
    have f1 : bl (s - 4).natAbs ≤ 21 := bl_small (by omega)
    have f2 : bl (2 + b).natAbs ≤ 21 := bl_small (by omega)
    refine ⟨fun c2 => ?_, fun c2 => ?_⟩
    · walk_at "z"
      exact h (Rat.ofInt (s - 4)) t3 (Nat.max_le.mpr ⟨f1, by show bl 1 ≤ 21; decide⟩) (show 1 ≤ 1000 by decide) (ht3.le (by omega))
    · walk_at "z"
      refine sp_l_part.mk (by omega) (by omega) (by omega) ?_
      walk_at "z"
      exact h _ t3 (Nat.le_trans (divInt_wt _ _ (by omega)) (Nat.max_le.mpr ⟨f1, f2⟩)) (divInt_den_le (by omega) (by omega)) (ht3.le (by omega))
end VL

set_option maxHeartbeats 2000000
namespace VL
open PySem PySem.Spec PyProof.Rows L2
local macro_rules | `(tactic| walk_at "v") => `(tactic| repeat (first | refine ⟨rfl, ?_⟩ | refine ⟨_, rfl, ?_⟩))
local macro_rules | `(tactic| walk_at "y") => `(tactic| refine ⟨fun _ => ?_, fun h => Bool.noConfusion (show true = false from h)⟩)
local macro_rules | `(tactic| walk_at "n") => `(tactic| refine ⟨fun h => Bool.noConfusion (show false = true from h), fun _ => ?_⟩)
local macro_rules | `(tactic| walk_at "ty") => `(tactic| refine ⟨_, rfl, by decide, ?_⟩)
local macro_rules | `(tactic| walk_at "tys") => `(tactic| refine ⟨_, rfl, _, rfl, by decide, ?_⟩)
local macro_rules | `(tactic| walk_at "z") => `(tactic| repeat (first | refine ⟨rfl, ?_⟩ | refine ⟨_, rfl, ?_⟩ | refine ⟨fun _ => ?_, fun h => Bool.noConfusion (show true = false from h)⟩ | refine ⟨fun h => Bool.noConfusion (show false = true from h), fun _ => ?_⟩ | refine ⟨tyIn rfl, ?_⟩ | refine ⟨tysIn rfl, ?_⟩ | refine ⟨smallL rfl, ?_⟩ | refine ⟨smallE rfl, ?_⟩))
theorem atI_of {α : Type} {P : α → Prop} {xs : List α} {i : Int} (hP : ∀ x ∈ xs, P x) (h0 : 0 ≤ i) (h1 : i < xs.length) : ∃ x, atI xs i = some x ∧ P x := by
  obtain ⟨x, e, hx⟩ := atI_get_nn h0 h1
  exact ⟨x, e, hP x hx⟩
end VL

namespace VL
open PySem PySem.Spec PyProof.Rows L2

/-! ### defs that run where no repr is under way -/
theorem deeper_guards {A : Around} {env : Env} : (A.deeper env).guards = A.guards := by first | rfl | simp [Around.deeper]
/-- room, and no repr is under way -/
structure RoomG (k : Nat) (A : Around) : Prop where
  rm : Room k A
  gd : A.guards = some []
/-- the frame that runs is a def's own -/
def FrOk (A : Around) : Prop := ∃ env l, A.frames = some (env :: l) ∧ env.scope.isGenerator = false ∧ env.scope.isCoroutine = false ∧ env.builtins = builtinsNs ∧ env.globals = mainGlobals
theorem RoomG.mono {j k : Nat} {A : Around} (r : RoomG k A) (h : j ≤ k) : RoomG j A := ⟨r.rm.mono h, r.gd⟩
section
variable {P : Program} {w : World} {K : Fg} {mg : Str → Option Value} {base : Heap}
structure GOk (P : Program) (w : World) (K : Fg) (mg : Str → Option Value) (base : Heap) (k : Nat) (f : Addr) (fd : FuncData) (ps : List Str) (sp : Sp) : Prop where
  len : ∀ us H Q E, sp us H Q E → us.length = ps.length
  run : ∀ (A : Around) (st : List Env) (s : Shared) (H : Hp) (args : Args) (cs : List Value) (us : List V) (Q : VK) (E : XK), RoomG k A → Env0 P w K mg base A st s H →
    BindsTo s fd args (ps.zip cs) → Vals us cs → sp us H Q E → codeAny (model P w) A (.call (.ref f) args) (CR CX0 st P w H s Q E) s
theorem GOk.of {k : Nat} {f : Addr} {fd : FuncData} {ps : List Str} {sp : Sp} (F : FnOk P w K mg base CX0 k f fd ps sp) : GOk P w K mg base k f fd ps sp :=
  ⟨F.len, fun A st s H args cs us Q E hr e0 hb hv hs => F.run A st s H args cs us Q E hr.rm e0 hb hv hs⟩
theorem gfn_of {k : Nat} {f : Addr} {nm qual : Str} {prm : Arguments} {body : List Stmt} {sc : Scope} {dV kV doc pm cd ct oc : Value} {an od : Option Addr} {sl : Array (Option Value)} {N ps : List Str} {sp : Sp}
    (lk : K.lookup f = some ⟨oc, od, .func (PySem.W.fnOf nm qual prm body sc dV kV doc pm an cd ct), sl⟩) (hcd : PySem.W.codeIn K cd qual = true) (S : FnScope N ps sc) (len : ∀ us H Q E, sp us H Q E → us.length = ps.length)
    (hbody : ∀ (A : Around) (st : List Env) (s : Shared) (H : Hp) (us : List V) (Q : VK) (E : XK), RoomG k (A.deeper (envOfC qual sc s.heap.objs.size f cd)) → FrOk (A.deeper (envOfC qual sc s.heap.objs.size f cd)) → sp us H Q E →
      ∃ t, PSs (cxOf CX0 P w K mg base N qual sc f cd A st s H E) body t ∧ t { nx := fun _ H1 => Q .non H1, rt := Q } (start N us) H) : GOk P w K mg base (k + 1) f (PySem.W.fnOf nm qual prm body sc dV kV doc pm an cd ct) ps sp := by
  refine ⟨len, ?_⟩
  intro A st s H args cs us Q E hr e0 hb r hsp
  have n1 := len us H Q E hsp
  have same : ∀ b o, base.get? b = some o → s.heap.get? b = some o := fun b o e => (e0.bs b o e).1
  have inK : K.In s.heap := e0.mod.kin.keeps same
  have nolim : s.heap.NoLimit := e0.mod.nolimit.keeps same
  have kinds : ∀ y ∈ ps.zip cs, sc.names.lookup y.1 = some .local ∨ (sc.names.lookup y.1 = some .cell ∧ ((cellsFrom (s.heap.objs.size + 1) sc.names []).lookup y.1).isSome = true) := by
    rintro ⟨y, u⟩ hy
    have hp := S.par y (List.of_mem_zip hy).1
    exact hp.imp id fun q => ⟨q, PySem.W.cellsFrom_some _ _ _ (.inl q)⟩
  refine codeAny_call_function hr.rm.depth (inK _ _ lk) rfl S.co S.gen rfl (PySem.W.codeRec_of inK hcd) (hb _ _ _ _ ?_)
  refine wpAny_newFunctionEnv_cells S.kind kinds ?_
  intro env he s2 x
  subst he
  refine ⟨nolim.keeps x.toInCall.keep, codeAny_func ?_⟩
  obtain ⟨t, ht, tq⟩ := hbody A st s H us Q E ⟨hr.rm.deeper _, by rw [deeper_guards]; exact hr.gd⟩ ⟨_, st, Around.frames_deeper e0.frames, S.gen, S.co, rfl, rfl⟩ hsp
  have J0 := inv_start (CX := CX0) (E := E) S hr.rm.hd e0 n1 r x
  refine wpAny_mono (ht.run [] s2 (start N us) H _ J0 tq) ?_ fun e s3 z => z
  intro fl s3 hs
  cases fl with
  | next =>
    obtain ⟨σ1, H1, J, q⟩ := hs
    exact ⟨V.non, H1, J.os, J.bare, J.base, J.hok, rfl, q⟩
  | ret u =>
    obtain ⟨x1, σ1, H1, J, rv, q⟩ := hs
    exact ⟨x1, H1, J.os, J.bare, J.base, J.hok, rv, q⟩
  | cont => exact (show False from hs.choose_spec.choose_spec.2).elim
  | brk => exact (show False from hs.choose_spec.choose_spec.2).elim
end
section
variable {X : Cx} {e : Expr} {es : List Expr} {p pos : Pos} {k : Nat} {f : Addr} {fd : FuncData} {ps : List Str} {x : Str}
theorem pe_gcall {sp : Sp} {t : TA} (F : GOk X.prog X.w X.K X.mg X.base k f fd ps sp) (hr : RoomG k X.A) (hg : Gl X x) (hm : X.mg x = some (.ref f)) (hk : PySem.W.keepIn X.K (.ref f) = true) (hb : Binds X.K fd ps []) (ha : PA X (e :: es) t)
    (hdb : (x == ("__debug__" : Str)) = false := by decide) (he : starEach (e :: es) X.env = (false, eval e X.env) :: starEach es X.env := by rfl) (hpl : (backTo pos (starEach es X.env)).any (·.1) = false := by rfl) :
    PE X (.Call (.Name x p) (e :: es) [] pos) (tCall sp [] E0 t) := by
  constructor
  intro pins s σ H Q I h
  refine wpAny_Call_Name_kw (ld_glob I hg hm ?_ hdb)
  refine PySem.W.callWith_K (h₀ := X.base) I.ok.mod.kin hk (thn (ha.run pos pins s σ H _ I h) ?_) he hpl
  rintro cs s2 ⟨us, H2, I2, rv, hs⟩
  refine ⟨I2.kIn, ?_⟩
  rw [List.append_nil] at hs
  have hn : (cs ++ []).length = ps.length := by rw [List.append_nil, ← rv.length]; exact F.len _ _ _ _ hs
  have hbt := hb s2 cs I2.kIn hn
  rw [List.append_nil] at hbt
  refine wpAny_call (codeAny_mono (F.run X.A X.stack s2 H2 ⟨cs, []⟩ cs us Q E0 hr I2.env0 hbt rv hs) ?_)
  intro r s3 hq
  cases r with
  | ok fl =>
    cases fl with
    | ret u => exact I2.after hq
    | _ => exact (show False from hq).elim
  | error z => exact (show False from hq).elim
end
end VL

namespace VL
open PySem PySem.Spec PyProof.Rows L2

section
variable {P : Program} {w : World} {K : Fg} {mg : Str → Option Value} {base : Heap}
theorem fun_gok {x qual : Str} {st : Stmt} {f : Addr} {fd : FuncData} {N ps : List Str} {k : Nat} {sp : Sp} (F : Fun K x qual st f fd) (S : FnScope N ps (defScope st)) (len : ∀ us H Q E, sp us H Q E → us.length = ps.length)
    (hbody : ∀ (cd : Value) (A : Around) (o : List Env) (s : Shared) (H : Hp) (us : List V) (Q : VK) (E : XK), RoomG k (A.deeper (envOfC qual (defScope st) s.heap.objs.size f cd)) → FrOk (A.deeper (envOfC qual (defScope st) s.heap.objs.size f cd)) → sp us H Q E →
      ∃ t, PSs (cxOf CX0 P w K mg base N qual (defScope st) f cd A o s H E).nox (defBody st) t ∧ t { nx := fun _ H1 => Q .non H1, rt := Q } (start N us) H) : GOk P w K mg base (k + 1) f fd ps sp := by
  obtain ⟨oc, od, kV, doc, pm, an, cd, ct, sl, rfl, lk, hcd⟩ := F.ex
  refine gfn_of lk hcd S len ?_
  intro A o s H us Q E hr hP hs
  obtain ⟨t, ht, q⟩ := hbody cd A o s H us Q E hr hP hs
  exact ⟨t, ht.nox, q⟩
theorem fn_g {x qual : Str} {st : Stmt} {f : Addr} {fd : FuncData} {N ps : List Str} {k : Nat} {sp : ASp} {ios : List Bool} {r : RS} (Fn : Fun K x qual st f fd) (Sc : FnScope N ps (defScope st)) (hl : ios.length = ps.length)
    (hb : ∀ (cdv : Value) (A : Around) (outer : List Env) (s : Shared) (H : Hp) (E : XK), RoomG k (A.deeper (envOfC qual (defScope st) s.heap.objs.size f cdv)) → FrOk (A.deeper (envOfC qual (defScope st) s.heap.objs.size f cdv)) → VSs (cxOf CX0 P w K mg base N qual (defScope st) f cdv A outer s H E).nox (defBody st) r)
    (hr : ∀ ds R, ds.length = ios.length → sp ds R → r (rho0 ios 0 ds ++ List.replicate (N.length - ios.length) .no) (endsOf ios R)) : GOk P w K mg base (k + 1) f fd ps (liftSp K ios sp) := by
  have hpl : ps.length ≤ N.length := by have := congrArg List.length Sc.pre; rw [List.length_take] at this; omega
  refine fun_gok Fn Sc (fun vs H Q E ⟨F, ds, io, R, _, ha, _⟩ => ha.len.1.trans hl) (fun cdv A outer s H vs Q E hrm hP ⟨F, ds, io, R, sb, ha, nd, fr, hsp, fin⟩ => ?_)
  refine ⟨_, hb cdv A outer s H E hrm hP, ?_⟩
  have h0 := sr_start (n := N.length - ios.length) sb ha nd fr N rfl (by omega)
  have done : ∀ (σ' : L2.St) (H' F' : Hp) (ρ' : Ev) (v : V) (d : D) (k : Nat) (tm : List (Addr × HO)) (outs : List D), SR K ⟨H, F, io⟩ F' H' σ' ρ' (tm ++ []) → OwnR K F' H' k d v (tm.map (·.1)) → outsOf ios 0 ρ' = some outs → R d k outs → Q v H' := by
    intro σ' H' F' ρ' v d k tm outs ⟨fps, h⟩ ow eo q
    obtain ⟨lo, go⟩ := outs_get eo
    refine fin v H' ⟨F', d, k, tm.map (·.1), outs, h.f0, h.sub, h.fnew, h.keep, fun a na z => na (h.live a z), ow, ?_, fun a ha => ?_, ⟨lo.trans ha.ioLen.symm, fun j a ej => ?_⟩, q⟩
    · have := h.ndT
      rw [List.append_nil] at this
      exact this
    · obtain ⟨t, ht, e⟩ := List.mem_map.mp ha
      subst e
      obtain ⟨z1, z2, z3⟩ := h.freeT t (List.mem_append_left _ ht)
      exact ⟨z1, z2, by rw [z3]; simp⟩
    · have hj : j < outs.length := by
        rw [lo, ← ha.ioLen]
        exact (List.getElem?_eq_some_iff.mp ej).1
      obtain ⟨i, ei⟩ := go j outs[j] (List.getElem?_eq_getElem hj)
      rw [Nat.zero_add] at ei
      obtain ⟨a', e1, e2, e3, o⟩ := h.slot i _ ei
      have e2' : io[j]? = some a' := e2
      rw [ej] at e2'
      cases e2'
      exact ⟨outs[j], List.getElem?_eq_getElem hj, o⟩
  refine ⟨⟨H, F, io⟩, F, _, endsOf ios R, h0, hr ds R ha.len.2 hsp, ⟨fun σ' H' ⟨F', ρ', s', h', outs, eo, q⟩ => ?_, fun v H' ⟨σ', F', ρ', d, k, tm, s', h', ow, outs, eo, q⟩ => ?_, fun _ _ ⟨_, _, _, _, q⟩ => q, fun _ _ ⟨_, _, _, _, q⟩ => q⟩⟩
  · exact done σ' H' F' ρ' .non .non 0 [] outs h' ⟨rfl, rfl⟩ eo q
  · exact done σ' H' F' ρ' v d k tm outs h' ow eo q
end
theorem ve_gcall {X : Cx} {e : Expr} {es : List Expr} {p pos : Pos} {k : Nat} {f : Addr} {fd : FuncData} {ps : List Str} {ios : List Bool} {sp : ASp} {rg : RAg} {x : Str} (G : GOk X.prog X.w X.K X.mg X.base k f fd ps (liftSp X.K ios sp)) (hr : RoomG k X.A) (hg : Gl X x) (hm : X.mg x = some (.ref f)) (hk : PySem.W.keepIn X.K (.ref f) = true) (hb : Binds X.K fd ps []) (ha : VAg X (e :: es) rg)
    (hdb : (x == ("__debug__" : Str)) = false := by decide) (he : starEach (e :: es) X.env = (false, eval e X.env) :: starEach es X.env := by rfl) (hpl : (backTo pos (starEach es X.env)).any (·.1) = false := by rfl) : VE X (.Call (.Name x p) (e :: es) [] pos) (rCall ios sp rg) :=
  PE.weak (pe_gcall G hr hg hm hk hb ha hdb he hpl) fun σ H Q q => tCall.of σ H Q q

/-! ### the end of a law's row -/
structure HasSys (P : Program) (base : Heap) : Prop where
  seer : base.NoSeer
  tree : P.given.tree = none
theorem law_gcall {P : Program} {w : World} {K : Fg} {mg mb : Str → Option Value} {k : Nat} {fa a : Addr} {fd : FuncData} {x : Str} {sp : Sp} {s1 : Shared} {cs : List Value} {ns : List Int}
    (KX : K.In s1.heap) (hns : s1.heap.Ns mainGlobals mg) (hB : s1.heap.Ns builtinsNs mb) (hbb : ∀ y : Str, y ≠ "__name__" → mb y = bootBuiltins y) (hlim : s1.heap.NoLimit) (hg : s1.gens = #[])
    (ha : s1.heap.get? a = some { cls := .type "list", data := .seq cs.toArray }) (hi : IntsAre cs ns) (hl : ns.length ≤ sizeLine) (hr : RoomG k callerA)
    (hsys : HasSys P s1.heap) (F : ∀ base : Heap, K.In base → base.Ns mainGlobals mg → HasSys P base → GOk P w K mg base k fa fd [x] sp) (hbind : ∀ (s : Shared) (u : Value), BindsTo s fd ⟨[u], []⟩ [(x, u)])
    (hsp : ∀ H : Hp, Only H → SqL K H a (ns.map V.int) → sp [.ref a] H (fun v _ => v = .bl true) E0) :
    codeAny (model P w) callerA (.call (.ref fa) ⟨[.ref a], []⟩) (fun r s' => r = .ok (.ret (.bool true)) ∧ OldK s1.heap s'.heap ∧ s'.os = s1.os ∧ AllBare s'.gens) s1 := by
  have rv := vals_ints hi
  have lenV := hi.length
  have core : ∀ H : Hp, Only H → SqL K H a (ns.map V.int) → HOk P w H s1.heap → (∀ c, H c ≠ none → c = a) → (H a ≠ none → K.lookup a = none) →
      codeAny (model P w) callerA (.call (.ref fa) ⟨[.ref a], []⟩) (fun r s' => r = .ok (.ret (.bool true)) ∧ OldK s1.heap s'.heap ∧ s'.os = s1.os ∧ AllBare s'.gens) s1 := by
    intro H hO hS hok hA hK
    have isA : ∀ {c : Addr} {u : HO}, H c = some u → c = a := fun {c u} q => hA c (by rw [q]; exact nofun)
    have stay : ∀ {c : Addr} {o : Obj}, s1.heap.get? c = some o → H c = none → (hidT s1.heap H).get? c = some o := fun z n => hidT_get z n
    have notA : ∀ {c : Addr} {o : Obj} {es : Array DictEntry} {ep : Nat}, s1.heap.get? c = some o → o.data = .dict es ep → H c = none := by
      intro c o es ep z d
      cases q : H c with
      | none => rfl
      | some u =>
        obtain rfl := isA q
        rw [ha] at z
        cases z
        exact nomatch (show Data.seq cs.toArray _ = Data.dict es ep from d)
    have nsK : ∀ {c : Addr} {m : Str → Option Value}, s1.heap.Ns c m → (hidT s1.heap H).Ns c m := fun {c m} ⟨o, es, ep, z, d, r⟩ => ⟨o, es, ep, stay z (notA z d), d, r⟩
    have inK : K.In (hidT s1.heap H) := by
      intro c o z
      refine stay (KX c o z) ?_
      cases q : H c with
      | none => rfl
      | some u =>
        obtain rfl := isA q
        rw [hK (by rw [q]; exact nofun)] at z
        cases z
    have hsysK : HasSys P (hidT s1.heap H) := by
      refine ⟨⟨hsys.seer.statics.elim fun m z => ⟨m, nsK z.1, z.2⟩, hsys.seer.mods.elim fun m z => ⟨m, nsK z.1, z.2⟩, hsys.seer.imp.elim fun m z => ⟨m, nsK z.1, z.2⟩, ?_⟩, hsys.tree⟩
      obtain ⟨m, bm, ob, z1, z2, z3, z4, z5⟩ := hsys.seer.main
      refine ⟨m, bm, ob, nsK z1, z2, stay z3 ?_, z4, z5⟩
      cases q : H bm with
      | none => rfl
      | some u =>
        obtain rfl := isA q
        rw [ha] at z3
        cases z3
        exact absurd (show Value.type "list" = Value.type "module" from z4) (by decide)
    obtain ⟨mc, l1, l2⟩ := hlim
    have hM : Mod K mg (hidT s1.heap H) := ⟨inK, nsK hns, ⟨mb, nsK hB, hbb⟩, ⟨mc, nsK l1, l2⟩⟩
    have e0 : Env0 P w K mg (hidT s1.heap H) callerA [] s1 H := ⟨rfl, hM, fun c o z => of_hidT z, Nat.le_of_eq (hidT_size _ _), trivial, (fun c hc => absurd (show c ∈ ([] : List Addr) from hc) List.not_mem_nil), hok, .of_eq hg⟩
    refine codeAny_mono ((F _ inK (nsK hns) hsysK).run callerA [] s1 H ⟨[.ref a], []⟩ [.ref a] [.ref a] _ _ hr e0 (hbind s1 (.ref a)) (.cons rfl .nil) (hsp H hO hS)) ?_
    intro r s2 h
    cases r with
    | error z => exact (show False from h).elim
    | ok fl =>
      cases fl with
      | ret u =>
        obtain ⟨v, H2, os, bare, un, hok2, rv2, rfl⟩ := h
        obtain rfl : u = Value.bool true := rv2
        refine ⟨rfl, OldK.of_keep ?_, os, bare⟩
        intro c o z
        cases q : H c with
        | none => exact un.keep c o z q (fun m => absurd (show c ∈ ([] : List Addr) from m) List.not_mem_nil) List.not_mem_nil
        | some u =>
          rcases hO c with m | ⟨ob, xs, m⟩
          · rw [q] at m; cases m
          · obtain ⟨z1, _⟩ := hok c _ m
            obtain ⟨z2, _⟩ := hok2 c _ (un.frzs c ob _ m)
            rw [z] at z1
            cases z1
            exact z2
      | _ => exact (show False from h).elim
  cases hk : K.lookup a with
  | some o =>
    have z := KX a o hk
    rw [ha] at z
    cases z
    exact core (fun _ => none) (fun _ => .inl rfl) (.inr ⟨_, cs.toArray, _, hk, rfl, rfl, rfl, by rw [List.size_toArray, lenV]; exact hl, by simpa using rv⟩) (fun c u m => nomatch (show (none : Option HO) = some u from m)) (fun c m => absurd rfl m) fun m => absurd rfl m
  | none =>
    have at1 : ∀ c, c = a → (if c = a then some (HO.frz { cls := .type "list", data := .seq cs.toArray } (.lst (ns.map V.int))) else none) = some (HO.frz { cls := .type "list", data := .seq cs.toArray } (.lst (ns.map V.int))) := fun c e => if_pos e
    have at0 : ∀ c, ¬ c = a → (if c = a then some (HO.frz { cls := .type "list", data := .seq cs.toArray } (.lst (ns.map V.int))) else none) = none := fun c e => if_neg e
    refine core (fun c => if c = a then some (.frz { cls := .type "list", data := .seq cs.toArray } (.lst (ns.map V.int))) else none) (fun c => ?_) (.inl (.inr ⟨_, at1 a rfl⟩)) (fun c u m => ?_) (fun c m => ?_) (fun _ => hk)
    · by_cases q : c = a
      · exact .inr ⟨_, _, at1 c q⟩
      · exact .inl (at0 c q)
    · by_cases q : c = a
      · cases (at1 c q).symm.trans m
        subst q
        exact ⟨ha, by rw [List.length_map]; exact hl, cs, _, rv, ha⟩
      · cases (at0 c q).symm.trans m
    · by_cases q : c = a
      · exact q
      · exact absurd (at0 c q) m
theorem walk_g {l : PySem.W.OpenLaw} {n k : Nat} {q : Program} {loose : List Str} {XP : (Str → Option Value) → Heap → Prop} {YP : World → Heap → Prop} {d : DefRec} {KK : Params → Fg} {sp : Fg → Sp} {x : Str}
    (hn : l.most = some n) (hn2 : n ≤ sizeLine) (hdf : d.params.defaults = []) (hr : RoomG k callerA) (hT : l.prog.given.tree = none) (hY : ∀ (w : World) (h : Heap), YP w h → (KK w.params).In h) (hi : PyProof.Rows.importsNone q = true)
    (F : ∀ (w : World) (mg : Str → Option Value) (fa : Addr) (h : Heap), (KK w.params).In h → h.Ns mainGlobals mg → mg d.name = some (.ref fa) →
      ∃ fd : FuncData, (∀ (s : Shared) (u : Value), BindsTo s fd ⟨[u], []⟩ [(x, u)]) ∧ ∀ base : Heap, (KK w.params).In base → base.Ns mainGlobals mg → HasSys l.prog base → GOk l.prog w (KK w.params) mg base k fa fd [x] (sp (KK w.params)))
    (hsp : ∀ (K : Fg) (H : Hp) (a : Addr) (ns : List Int), ns.length ≤ n → (∀ z ∈ ns, Builtin.Int.intBits z ≤ 1048576) → SqL K H a (ns.map V.int) → sp K [.ref a] H (fun v _ => v = .bl true) E0) :
    PySem.W.WalkO q loose XP YP l.row.toRowW d [] (fun f vs => PySem.call f vs) := by
  refine Att.attach_callB hn hdf ?_
  intro w s0 s1 mg mb fa o pm cd doc a vs ns G Y ho hd hcd hmg hobj hints hlen hbits hg
  have KX := hY w _ Y
  obtain ⟨fd, hb, hF⟩ := F w mg fa _ KX G.T.g hmg
  exact law_gcall KX G.T.g G.T.b G.T.builtins G.T.nolimit hg hobj hints (Nat.le_trans hlen hn2) hr ⟨G.T.seer hi, hT⟩ hF hb (fun H _ hS => hsp _ H a ns hlen hbits hS)
end VL

namespace VL
open PySem PySem.Spec PyProof.Rows L2

/-! ### // by any number but nought -/
section
variable {X : Cx} {a b : Expr} {pos : Pos} {k : Nat}
theorem pylong_room {pins : List (Addr × Obj)} {s : Shared} {σ : L2.St} {H : Hp} (I : Inv X pins σ H s) (hr : RoomG k X.A) (hk : 32 ≤ k) (hP : FrOk X.A) (hB : HasSys X.prog X.base) : PylongRoom (model X.prog X.w) X.A s := by
  obtain ⟨env, l, h1, h2, h3, h4, h5⟩ := hP
  refine PylongRoom.of I.nolimit ?_ (SeerAt.of (hB.seer.keeps I.bk) hB.tree h1 h2 h3 h4 h5)
  have := hr.rm.dp
  show X.A.depth + 100 < _
  omega
theorem op_fdivV (hr : RoomG k X.A) (hk : 32 ≤ k) (hP : FrOk X.A) (hB : HasSys X.prog X.base) : OpR X (binaryOp .FloorDiv) (rI FdOk fun i j => .int (i.fdiv j)) := by
  intro pins s σ H x y v u Q I rx ry h
  obtain ⟨i, j, rfl, rfl, hc, q⟩ := h
  obtain ⟨t, rfl⟩ := rx
  obtain ⟨t', rfl⟩ := ry
  exact floordiv_int hc ⟨.int (i.fdiv j), H, I.tok _, ⟨_, rfl⟩, q⟩ (.inr (pylong_room I hr hk hP hB))
theorem ve_fd {ra rb : RO} (hr : RoomG k X.A) (hk : 32 ≤ k) (hP : FrOk X.A) (hB : HasSys X.prog X.base) (ha : VO X a ra) (hb : VO X b rb) : VE X (.BinOp a .FloorDiv b pos) (rOp2 gFd ra rb) := ve_op (op_fdivV hr hk hP hB) lk_fd ha hb
end
end VL

namespace VL
open PySem PySem.Spec PyProof.Rows L2

/-! ### a list and the empty one -/
def rEqN (K : Fg) : R2 := fun x y H Q => ∃ a b xs, x = .ref a ∧ y = .ref b ∧ SqL K H a xs ∧ SqL K H b [] ∧ Q (.bl xs.isEmpty) H
def rNeN (K : Fg) : R2 := fun x y H Q => ∃ a b xs, x = .ref a ∧ y = .ref b ∧ SqL K H a xs ∧ SqL K H b [] ∧ Q (.bl (!xs.isEmpty)) H
section
variable {X : Cx}
theorem op_eqN (hu : X.A.units + 64 < cLine) : OpR X (compareOp .Eq) (rEqN X.K) := by
  intro pins s σ H x y v u Q I rx ry h
  obtain ⟨a, b, xs, rfl, rfl, ha, hb, q⟩ := h
  obtain rfl : v = Value.ref a := rx
  obtain rfl : u = Value.ref b := ry
  obtain ⟨us, r1, p1, _⟩ := I.list ha
  obtain ⟨ws, r2, p2, _⟩ := I.list hb
  cases r2
  cases xs with
  | nil =>
    cases r1
    refine SeqAt.eq_listAt (e := fun _ => true) p1.isList p2.isList rfl (by omega) (fun j h1 => absurd h1 (Nat.not_lt_zero j)) ?_
    exact ⟨.bl true, H, I, rfl, q⟩
  | cons x xs =>
    cases r1 with
    | cons a1 b1 => exact SeqAt.eq_list_lengthsAt p1.isList p2.isList (by simp) (by omega) ⟨.bl false, H, I, rfl, q⟩
theorem op_neN (hu : X.A.units + 64 < cLine) : OpR X (compareOp .NotEq) (rNeN X.K) := by
  intro pins s σ H x y v u Q I rx ry h
  obtain ⟨a, b, xs, rfl, rfl, ha, hb, q⟩ := h
  obtain rfl : v = Value.ref a := rx
  obtain rfl : u = Value.ref b := ry
  obtain ⟨us, r1, p1, _⟩ := I.list ha
  obtain ⟨ws, r2, p2, _⟩ := I.list hb
  cases r2
  cases xs with
  | nil =>
    cases r1
    refine SeqAt.RcNeAt.lists (e := fun _ => true) p1.isList p2.isList rfl (by omega) (fun j h1 => absurd h1 (Nat.not_lt_zero j)) _ _ _ _ ?_
    exact ⟨.bl false, H, I, rfl, q⟩
  | cons x xs =>
    cases r1 with
    | cons a1 b1 => exact SeqAt.RcNeAt.lists_lengths p1.isList p2.isList (by simp) (by omega) _ _ _ _ ⟨.bl true, H, I, rfl, q⟩
end
def gEqN : G2 := fun a b R => match a, b with
  | .lst xs, .lst [] => R (.bl xs.isEmpty) 0
  | _, _ => False
def gNeN : G2 := fun a b R => match a, b with
  | .lst xs, .lst [] => R (.bl (!xs.isEmpty)) 0
  | _, _ => False
theorem reps_empty {K : Fg} {F : Hp} : ∀ {ds : List D} {vs : List V}, Reps K F ds vs → vs.isEmpty = ds.isEmpty
  | [], _, h => by cases h; rfl
  | _ :: _, _, ⟨_, _, e, _, _⟩ => by subst e; rfl
theorem lk_eqN {K : Fg} : Lk2 K (rEqN K) gEqN := fun F H a b x y R Q' s h1 h2 g w => by
  cases a <;> first | exact g.elim | skip
  cases b <;> first | exact g.elim | skip
  rename_i xs ys
  cases ys with
  | cons y ys => exact g.elim
  | nil =>
    obtain ⟨p, vs, e1, k1, r1⟩ := h1
    obtain ⟨p2, vs2, e2, k2, r2⟩ := h2
    cases r2
    exact ⟨p, p2, vs, e1, e2, .inl (.inl k1), .inl (.inl k2), by rw [reps_empty r1]; exact w _ _ _ _ .bl g⟩
theorem lk_neN {K : Fg} : Lk2 K (rNeN K) gNeN := fun F H a b x y R Q' s h1 h2 g w => by
  cases a <;> first | exact g.elim | skip
  cases b <;> first | exact g.elim | skip
  rename_i xs ys
  cases ys with
  | cons y ys => exact g.elim
  | nil =>
    obtain ⟨p, vs, e1, k1, r1⟩ := h1
    obtain ⟨p2, vs2, e2, k2, r2⟩ := h2
    cases r2
    exact ⟨p, p2, vs, e1, e2, .inl (.inl k1), .inl (.inl k2), by rw [reps_empty r1]; exact w _ _ _ _ .bl g⟩
/-! ### a row so many times -/
theorem Reps.app {K : Fg} {F : Hp} : ∀ {ds es : List D} {vs us : List V}, Reps K F ds vs → Reps K F es us → Reps K F (ds ++ es) (vs ++ us)
  | [], _, _, _, h, h2 => by cases h; exact h2
  | d :: ds, es, _, us, ⟨v, r, e, h, t⟩, h2 => by subst e; exact ⟨v, r ++ us, rfl, h, Reps.app t h2⟩
end VL

namespace VL
open PySem PySem.Spec PyProof.Rows L2

/-! ### repr and str of rows -/
mutual
def D.px : D → PyData
  | .non => .none
  | .bl b => .bool b
  | .int i => .int i
  | .str x => .str x
  | .opq _ => .none
  | .scr _ => .none
  | .pdc _ _ => .none
  | .tup ds => .tuple (D.pxs ds)
  | .lst ds => .list (D.pxs ds)
  | .dct _ _ => .dict []
def D.pxs : List D → List PyData
  | [] => []
  | d :: ds => d.px :: D.pxs ds
end
section
variable {X : Cx} {pins : List (Addr × Obj)} {σ : L2.St} {F H : Hp} {s : Shared}
end
end VL

set_option maxHeartbeats 2000000
namespace VL
open PySem PySem.Spec PyProof.Rows L2
local macro_rules | `(tactic| walk_at "v") => `(tactic| repeat (first | refine ⟨rfl, ?_⟩ | refine ⟨_, rfl, ?_⟩))
local macro_rules | `(tactic| walk_at "y") => `(tactic| refine ⟨fun _ => ?_, fun h => Bool.noConfusion (show true = false from h)⟩)
local macro_rules | `(tactic| walk_at "n") => `(tactic| refine ⟨fun h => Bool.noConfusion (show false = true from h), fun _ => ?_⟩)
local macro_rules | `(tactic| walk_at "ty") => `(tactic| refine ⟨_, rfl, by decide, ?_⟩)
local macro_rules | `(tactic| walk_at "tys") => `(tactic| refine ⟨_, rfl, _, rfl, by decide, ?_⟩)
local macro_rules | `(tactic| walk_at "z") => `(tactic| repeat (first | refine ⟨rfl, ?_⟩ | refine ⟨_, rfl, ?_⟩ | refine ⟨fun _ => ?_, fun h => Bool.noConfusion (show true = false from h)⟩ | refine ⟨fun h => Bool.noConfusion (show false = true from h), fun _ => ?_⟩ | refine ⟨tyIn rfl, ?_⟩ | refine ⟨tysIn rfl, ?_⟩ | refine ⟨smallL rfl, ?_⟩ | refine ⟨smallE rfl, ?_⟩))
local macro_rules | `(tactic| walk_at "zz") => `(tactic| repeat ((fail_if_success show forL _ _ _ _ _); first | refine ⟨rfl, ?_⟩ | refine ⟨_, rfl, ?_⟩ | refine ⟨fun _ => ?_, fun h => Bool.noConfusion (show true = false from h)⟩ | refine ⟨fun h => Bool.noConfusion (show false = true from h), fun _ => ?_⟩ | refine ⟨tyIn rfl, ?_⟩ | refine ⟨tysIn rfl, ?_⟩ | refine ⟨smallL rfl, ?_⟩ | refine ⟨smallE rfl, ?_⟩))
theorem forL_inv {rg : RG} {rb : RS} {E : EN} {I : List D → Ev → Prop} (hnil : ∀ ρ, I [] ρ → E.nx ρ) (hcons : ∀ d ds ρ (P : Ev → Prop), (∀ ρ2, I ds ρ2 → P ρ2) → I (d :: ds) ρ → rg d ρ fun ρ1 => rb ρ1 { nx := P, rt := E.rt, ct := P, bk := E.nx }) : ∀ items ρ, I items ρ → forL rg rb items ρ E
  | [], ρ, h => hnil ρ h
  | d :: ds, ρ, h => hcons d ds ρ _ (fun ρ2 h2 => forL_inv hnil hcons ds ρ2 h2) h
theorem lcL_inv {ivs : List Nat} {rg : RG} {rt : RT} {re : RE} {Q : List D → Ev → Prop} {I : List D → List D → Ev → Prop} (hnil : ∀ acc ρ, I [] acc ρ → Q acc ρ)
    (hcons : ∀ d ds acc ρ (P : D → Ev → Prop) (N : Ev → Prop), (∀ y ρ3, I ds (acc ++ [y]) ρ3 → P y ρ3) → (∀ ρ2, I ds acc ρ2 → N ρ2) → I (d :: ds) acc ρ →
      rg d (wipeE ivs ρ) fun ρ1 => rt ρ1 fun c ρ2 => way c (re ρ2 fun y _ ρ3 => acc.length < sizeLine ∧ P y ρ3) (N ρ2)) : ∀ items acc ρ, I items acc ρ → lcL ivs rg rt re items ρ acc Q
  | [], acc, ρ, h => hnil acc ρ h
  | d :: ds, acc, ρ, h => by
    have k := hcons d ds acc ρ (fun y ρ3 => lcL ivs rg rt re ds ρ3 (acc ++ [y]) Q) (fun ρ2 => lcL ivs rg rt re ds ρ2 acc Q) (fun y ρ3 h2 => lcL_inv hnil hcons ds (acc ++ [y]) ρ3 h2) (fun ρ2 h2 => lcL_inv hnil hcons ds acc ρ2 h2) h
    exact k
theorem mem_range {n : Nat} {d : D} (h : d ∈ (List.range n).map fun (i : Nat) => D.int (0 + (i : Int))) : ∃ k : Nat, d = .int k ∧ k < n := by
  obtain ⟨k, hk, e⟩ := List.mem_map.mp h
  rw [Int.zero_add] at e
  exact ⟨k, e.symm, List.mem_range.mp hk⟩
theorem eqb_bl (b : Bool) : eqb (.bl b) (.bl b) = true := by cases b <;> rfl
theorem dat_dq {q : Rat} {B m : Nat} (h : wt q ≤ B) (h2 : 2 ≤ B) : (dq q).dat B (m + 1) := by
  refine dat_tup.mpr ⟨h2, fun d hd => ?_⟩
  simp only [List.mem_cons, List.not_mem_nil, or_false] at hd
  rcases hd with rfl | rfl
  · exact dat_int.mpr (Nat.le_trans (wt_num q) h)
  · exact dat_int.mpr (Nat.le_trans (wt_den' q) h)

/-! ### worths -/
def dw (qs : List Rat) : D := .tup (qs.map dq)
theorem dat_dw {qs : List Rat} {B m : Nat} (h : ∀ q ∈ qs, wt q ≤ B) (h2 : 2 ≤ B) (hl : qs.length ≤ B) : (dw qs).dat B (m + 2) := by
  refine dat_tup.mpr ⟨by rw [List.length_map]; exact hl, fun d hd => ?_⟩
  obtain ⟨q, hq, rfl⟩ := List.mem_map.mp hd
  exact dat_dq (h q hq) h2
/-- all of them so short -/
def allw (n : Nat) (qs : List Rat) : Prop := ∀ q ∈ qs, wt q ≤ n
theorem allw_le {m n : Nat} {qs : List Rat} (h : allw m qs) (l : m ≤ n) : allw n qs := fun q hq => Nat.le_trans (h q hq) l
def qadd : List Rat → List Rat → List Rat
  | p :: ps, q :: qs => (p + q) :: qadd ps qs
  | _, _ => []
def qmuls : List Rat → List Rat → List Rat
  | p :: ps, q :: qs => (p * q) :: qmuls ps qs
  | _, _ => []
def qscale (ps : List Rat) (c : Rat) : List Rat := ps.map (· * c)
def qdot (ps qs : List Rat) : Rat := qsum (qmuls ps qs) 0
@[irreducible] def sp_added : ASp := fun ds R => ∃ ps qs, ds = [dw ps, dw qs] ∧ ps.length ≤ 900 ∧ allw 40000000 ps ∧ allw 40000000 qs ∧ R (dw (qadd ps qs)) 0 []
@[irreducible] def sp_scaled : ASp := fun ds R => ∃ ps c, ds = [dw ps, dq c] ∧ ps.length ≤ 900 ∧ allw 40000000 ps ∧ wt c ≤ 40000000 ∧ R (dw (qscale ps c)) 0 []
@[irreducible] def sp_priced : ASp := fun ds R => ∃ ps qs n, ds = [dw ps, dw qs] ∧ ps.length ≤ 900 ∧ ps.length * (2 * n + 1) ≤ 40000000 ∧ allw n ps ∧ allw n qs ∧ R (dq (qdot ps qs)) 0 []
abbrev sp_l_added : ASp := sp_added
abbrev sp_l_scaled : ASp := sp_scaled
def dens (qs : List Rat) : Prop := ∀ q ∈ qs, q.den ≤ 1000
@[irreducible] def sp_l_worth : ASp := fun ds R => ∃ t k n, ds = [dT t, .int (k : Nat)] ∧ k ≤ 900 ∧ t.ok (n + 5 * k) ∧ ∀ qs t', qs.length = k → allw 21 qs → dens qs → t'.ok n → R (dw qs) 0 [dT t']
def isWorth (k : Int) : D → Bool
  | .tup xs => decide ((xs.length : Int) = k) && xs.all isPart
  | _ => false
@[irreducible] def sp_is_worth : ASp := fun ds R => ∃ k d B m, ds = [.int k, d] ∧ B ≤ 5000 ∧ d.dat B m ∧ R (.bl (isWorth k d)) 0 []
section
variable {R : RR}
theorem sp_added.mk {ps qs : List Rat} (hl : ps.length ≤ 900) (h1 : allw 40000000 ps) (h2 : allw 40000000 qs) (h : R (dw (qadd ps qs)) 0 []) : sp_added [dw ps, dw qs] R := by unfold sp_added; exact ⟨ps, qs, rfl, hl, h1, h2, h⟩
theorem sp_scaled.mk {ps : List Rat} {c : Rat} (hl : ps.length ≤ 900) (h1 : allw 40000000 ps) (h2 : wt c ≤ 40000000) (h : R (dw (qscale ps c)) 0 []) : sp_scaled [dw ps, dq c] R := by unfold sp_scaled; exact ⟨ps, c, rfl, hl, h1, h2, h⟩
theorem sp_priced.mk {ps qs : List Rat} (n : Nat) (hl0 : ps.length ≤ 900) (hl : ps.length * (2 * n + 1) ≤ 40000000) (h1 : allw n ps) (h2 : allw n qs) (h : R (dq (qdot ps qs)) 0 []) : sp_priced [dw ps, dw qs] R := by unfold sp_priced; exact ⟨ps, qs, n, rfl, hl0, hl, h1, h2, h⟩
theorem sp_l_worth.mkd {t : Tp} {k : Nat} (n : Nat) (hk : k ≤ 900) (ht : t.ok (n + 5 * k)) (h : ∀ qs t', qs.length = k → allw 21 qs → dens qs → t'.ok n → R (dw qs) 0 [dT t']) : sp_l_worth [dT t, .int k] R := by unfold sp_l_worth; exact ⟨t, k, n, rfl, hk, ht, h⟩
theorem sp_l_worth.mk {t : Tp} {k : Nat} (n : Nat) (hk : k ≤ 900) (ht : t.ok (n + 5 * k)) (h : ∀ qs t', qs.length = k → allw 21 qs → t'.ok n → R (dw qs) 0 [dT t']) : sp_l_worth [dT t, .int k] R := sp_l_worth.mkd n hk ht fun qs t' h1 h2 _ h3 => h qs t' h1 h2 h3
theorem sp_is_worth.mk {k : Int} {d : D} {B m : Nat} (hB : B ≤ 5000) (hd : d.dat B m) (h : R (.bl (isWorth k d)) 0 []) : sp_is_worth [.int k, d] R := by unfold sp_is_worth; exact ⟨k, d, B, m, rfl, hB, hd, h⟩
end
def rd_added : RS := (rRet (rCB gTupOf (raCons (roE (rLc [2, 3] (riZip (rfCons (rVar 0) (rfCons (rVar 1) rfNil))) (rgTup 2 (rgCons (rgName 2) (rgCons (rgName 3) rgNil))) rYes (rCall [false, false] sp_plus (rgAv (rVar 2) (rgAv (rVar 3) rgA0))))) raNil)))
def rd_scaled : RS := (rRet (rCB gTupOf (raCons (roE (rLc [2] (riSeq (rVar 0)) (rgName 2) rYes (rCall [false, false] sp_times (rgAv (rVar 2) (rgAv (rVar 1) rgA0))))) raNil)))
def rd_priced : RS := (rRet (rCall [false] sp_sum_of (rgAv (rLc [2, 3] (riZip (rfCons (rVar 0) (rfCons (rVar 1) rfNil))) (rgTup 2 (rgCons (rgName 2) (rgCons (rgName 3) rgNil))) rYes (rCall [false, false] sp_times (rgAv (rVar 2) (rgAv (rVar 3) rgA0)))) rgA0)))
def rd_l_added : RS := (rRet (rCB gTupOf (raCons (roE (rLc [2, 3] (riZip (rfCons (rVar 0) (rfCons (rVar 1) rfNil))) (rgTup 2 (rgCons (rgName 2) (rgCons (rgName 3) rgNil))) rYes (rCall [false, false] sp_l_plus (rgAv (rVar 2) (rgAv (rVar 3) rgA0))))) raNil)))
def rd_l_scaled : RS := (rRet (rCB gTupOf (raCons (roE (rLc [2] (riSeq (rVar 0)) (rgName 2) rYes (rCall [false, false] sp_l_times (rgAv (rVar 2) (rgAv (rVar 1) rgA0))))) raNil)))
/-- two rows walked side by side -/
theorem zip_dq : ∀ ps qs : List Rat, zipL (ps.map dq) (qs.map dq) = (ps.zip qs).map fun x => .tup [dq x.1, dq x.2]
  | [], _ => rfl
  | p :: ps, [] => rfl
  | p :: ps, q :: qs => by
    show D.tup [dq p, dq q] :: zipL (ps.map dq) (qs.map dq) = _
    rw [zip_dq ps qs]; rfl
theorem qadd_zip : ∀ ps qs : List Rat, qadd ps qs = (ps.zip qs).map fun x => x.1 + x.2
  | [], _ => rfl
  | p :: ps, [] => rfl
  | p :: ps, q :: qs => by
    show (p + q) :: qadd ps qs = _
    rw [qadd_zip ps qs]; rfl
theorem qmuls_zip : ∀ ps qs : List Rat, qmuls ps qs = (ps.zip qs).map fun x => x.1 * x.2
  | [], _ => rfl
  | p :: ps, [] => rfl
  | p :: ps, q :: qs => by
    show (p * q) :: qmuls ps qs = _
    rw [qmuls_zip ps qs]; rfl
/-- a comprehension that maps: each step by itself -/
theorem lcL_map {α : Type} {ivs : List Nat} {rg : RG} {rt : RT} {re : RE} {Q : List D → Ev → Prop} {f : α → D} {g : α → D} {ρw : Ev} {xs : List α} (hl : xs.length ≤ 1000)
    (step : ∀ x ∈ xs, ∀ (n : Nat) (P : D → Ev → Prop) (N : Ev → Prop), n < sizeLine → (∀ ρ3, wipeE ivs ρ3 = ρw → P (f x) ρ3) → rg (g x) ρw fun ρ1 => rt ρ1 fun c ρ2 => way c (re ρ2 fun y _ ρ3 => n < sizeLine ∧ P y ρ3) (N ρ2))
    {ρ : Ev} (h0 : wipeE ivs ρ = ρw) (fin : ∀ ρ', wipeE ivs ρ' = ρw → Q (xs.map f) ρ') : lcL ivs rg rt re (xs.map g) ρ [] Q := by
  refine lcL_inv (I := fun items acc ρ => wipeE ivs ρ = ρw ∧ ∃ ys zs, xs = ys ++ zs ∧ items = zs.map g ∧ acc = ys.map f) (fun acc ρ hI => ?_) (fun d ds acc ρ P N hP hN hI => ?_) _ _ _ ⟨h0, [], xs, rfl, rfl, rfl⟩
  · obtain ⟨h, ys, zs, e1, e2, e3⟩ := hI
    cases zs with
    | cons z zs => cases e2
    | nil =>
      rw [List.append_nil] at e1
      subst e1 e3
      exact fin ρ h
  · obtain ⟨h, ys, zs, e1, e2, e3⟩ := hI
    cases zs with
    | nil => cases e2
    | cons z zs =>
      rw [List.map_cons] at e2
      cases e2
      rw [h]
      subst e3
      refine step z (by rw [e1]; simp) _ P N (smallL (Nat.ble_eq_true_of_le ?_)) fun ρ3 h3 => hP _ _ ⟨h3, ys ++ [z], zs, by rw [e1]; simp, rfl, by rw [List.map_append]; rfl⟩
      rw [e1, List.length_append] at hl
      rw [List.length_map]
      omega
theorem restE_wipe (ivs : List Nat) (ρ0 ρ : Ev) : restE ivs ρ0 ρ = restE ivs ρ0 (wipeE ivs ρ) := by
  refine List.ext_getElem? fun i => ?_
  by_cases hi : i ∈ ivs
  · by_cases hl : i < ρ.length
    · rw [restE_in hi hl, restE_in hi (by rw [wipeE_len]; exact hl)]
    · rw [List.getElem?_eq_none (by rw [restE_len]; omega), List.getElem?_eq_none (by rw [restE_len, wipeE_len]; omega)]
  · rw [restE_out hi, restE_out hi, wipeE_out hi]
theorem qadd_map (ps qs : List Rat) : D.tup ((ps.zip qs).map fun x => dq (x.1 + x.2)) = dw (qadd ps qs) := by
  unfold dw
  rw [qadd_zip, List.map_map]
  rfl
theorem rp_added (ds : List D) (R : RR) (hl : ds.length = 2) (h : sp_added ds R) : rd_added (rho0 [false, false] 0 ds ++ List.replicate (4 - 2) .no) (endsOf [false, false] R) := by
  unfold sp_added at h
  obtain ⟨ps, qs, rfl, hn, h1, h2, h⟩ := h
  walk_at "z"
  rw [zip_dq]
  refine lcL_map (f := fun x : Rat × Rat => dq (x.1 + x.2)) (ρw := [.fz (dw ps), .fz (dw qs), .no, .no]) ?_ (fun x hx n P N hn' hP => ?_) rfl (fun ρ' h' => ?_)
  · rw [List.length_zip]; omega
  · obtain ⟨p, q⟩ := x
    have hp := h1 p (List.of_mem_zip hx).1
    have hq := h2 q (List.of_mem_zip hx).2
    walk_at "z"
    refine sp_plus.mk (p := p) (q := q) (by omega) ?_
    walk_at "z"
    exact ⟨hn', hP _ rfl⟩
  · rw [restE_wipe, h']
    walk_at "z"
    rw [← qadd_map] at h
    exact h
theorem qscale_map (ps : List Rat) (c : Rat) : D.tup (ps.map fun p => dq (p * c)) = dw (qscale ps c) := by
  unfold dw qscale
  rw [List.map_map]
  rfl
theorem rp_scaled (ds : List D) (R : RR) (hl : ds.length = 2) (h : sp_scaled ds R) : rd_scaled (rho0 [false, false] 0 ds ++ List.replicate (3 - 2) .no) (endsOf [false, false] R) := by
  unfold sp_scaled at h
  obtain ⟨ps, c, rfl, hn, h1, h2, h⟩ := h
  walk_at "z"
  refine lcL_map (f := fun p : Rat => dq (p * c)) (ρw := [.fz (dw ps), .fz (dq c), .no]) (by omega) (fun p hx n P N hn' hP => ?_) rfl (fun ρ' h' => ?_)
  · have hp := h1 p hx
    walk_at "z"
    refine sp_times.mk (by omega) ?_
    walk_at "z"
    exact ⟨hn', hP _ rfl⟩
  · rw [restE_wipe, h']
    walk_at "z"
    rw [← qscale_map] at h
    exact h
theorem wsum_le {n : Nat} : ∀ {qs : List Rat}, allw n qs → wsum qs ≤ qs.length * (n + 1)
  | [], _ => Nat.zero_le _
  | q :: qs, h => by
    have a := h q (by simp)
    have b := wsum_le (n := n) (qs := qs) fun x hx => h x (by simp [hx])
    show wt q + 1 + wsum qs ≤ (qs.length + 1) * (n + 1)
    rw [Nat.succ_mul]
    omega
theorem allw_qmuls {n : Nat} {ps qs : List Rat} (h1 : allw n ps) (h2 : allw n qs) : allw (2 * n) (qmuls ps qs) := by
  rw [qmuls_zip]
  intro r hr
  obtain ⟨⟨p, q⟩, hx, rfl⟩ := List.mem_map.mp hr
  have a := h1 p (List.of_mem_zip hx).1
  have b := h2 q (List.of_mem_zip hx).2
  have c := wt_mul p q
  show wt (p * q) ≤ 2 * n
  omega
theorem len_qmuls (ps qs : List Rat) : (qmuls ps qs).length ≤ ps.length := by
  rw [qmuls_zip, List.length_map, List.length_zip]
  omega
theorem len_cases {n l : Nat} (hl : l * (2 * n + 1) ≤ 40000000) (h : l ≠ 0) : n ≤ 20000000 := by
  have : 1 * (2 * n + 1) ≤ l * (2 * n + 1) := Nat.mul_le_mul_right _ (by omega)
  omega
theorem lcL_map' {α : Type} {ivs : List Nat} {rg : RG} {rt : RT} {re : RE} {Q : List D → Ev → Prop} {f : α → D} {g : α → D} {ρw : Ev} {xs : List α} (hl : xs.length ≤ 100000)
    (step : ∀ x ∈ xs, ∀ (n : Nat) (P : D → Ev → Prop) (N : Ev → Prop), n < sizeLine → (∀ ρ3, wipeE ivs ρ3 = ρw → P (f x) ρ3) → rg (g x) ρw fun ρ1 => rt ρ1 fun c ρ2 => way c (re ρ2 fun y _ ρ3 => n < sizeLine ∧ P y ρ3) (N ρ2))
    {ρ : Ev} (h0 : wipeE ivs ρ = ρw) (fin : ∀ ρ', wipeE ivs ρ' = ρw → Q (xs.map f) ρ') : lcL ivs rg rt re (xs.map g) ρ [] Q := by
  refine lcL_inv (I := fun items acc ρ => wipeE ivs ρ = ρw ∧ ∃ ys zs, xs = ys ++ zs ∧ items = zs.map g ∧ acc = ys.map f) (fun acc ρ hI => ?_) (fun d ds acc ρ P N hP hN hI => ?_) _ _ _ ⟨h0, [], xs, rfl, rfl, rfl⟩
  · obtain ⟨h, ys, zs, e1, e2, e3⟩ := hI
    cases zs with
    | cons z zs => cases e2
    | nil =>
      rw [List.append_nil] at e1
      subst e1 e3
      exact fin ρ h
  · obtain ⟨h, ys, zs, e1, e2, e3⟩ := hI
    cases zs with
    | nil => cases e2
    | cons z zs =>
      rw [List.map_cons] at e2
      cases e2
      rw [h]
      subst e3
      have big : (100000 : Nat) < sizeLine := by decide
      refine step z (by rw [e1]; simp) _ P N (Nat.lt_of_le_of_lt ?_ big) fun ρ3 h3 => hP _ _ ⟨h3, ys ++ [z], zs, by rw [e1]; simp, rfl, by rw [List.map_append]; rfl⟩
      rw [e1, List.length_append] at hl
      rw [List.length_map]
      omega
theorem qmuls_map (ps qs : List Rat) : ((ps.zip qs).map fun x => dq (x.1 * x.2)) = (qmuls ps qs).map dq := by
  rw [qmuls_zip, List.map_map]
  rfl
theorem rp_priced (ds : List D) (R : RR) (hl : ds.length = 2) (h : sp_priced ds R) : rd_priced (rho0 [false, false] 0 ds ++ List.replicate (4 - 2) .no) (endsOf [false, false] R) := by
  unfold sp_priced at h
  obtain ⟨ps, qs, n, rfl, hl4, hn, h1, h2, h⟩ := h
  walk_at "z"
  rw [zip_dq]
  refine lcL_map' (f := fun x : Rat × Rat => dq (x.1 * x.2)) (ρw := [.fz (dw ps), .fz (dw qs), .no, .no]) ?_ (fun x hx n' P N hn' hP => ?_) rfl (fun ρ' h' => ?_)
  · rw [List.length_zip]; omega
  · obtain ⟨p, q⟩ := x
    have hp := h1 p (List.of_mem_zip hx).1
    have hq := h2 q (List.of_mem_zip hx).2
    have hx0 : ps.length ≠ 0 := fun z => by
      have := (List.of_mem_zip hx).1
      rw [List.length_eq_zero_iff.mp z] at this
      exact absurd this List.not_mem_nil
    have := len_cases hn hx0
    walk_at "z"
    refine sp_times.mk (p := p) (q := q) (by omega) ?_
    walk_at "z"
    exact ⟨hn', hP _ rfl⟩
  · rw [restE_wipe, h', qmuls_map]
    walk_at "z"
    refine sp_sum_of.mk ?_ ?_
    · refine Nat.le_trans (wsum_le (allw_qmuls h1 h2)) (Nat.le_trans (Nat.mul_le_mul_right _ (len_qmuls ps qs)) hn)
    · walk_at "z"
      exact h
theorem rp_l_added (ds : List D) (R : RR) (hl : ds.length = 2) (h : sp_added ds R) : rd_l_added (rho0 [false, false] 0 ds ++ List.replicate (4 - 2) .no) (endsOf [false, false] R) := rp_added ds R hl h
theorem rp_l_scaled (ds : List D) (R : RR) (hl : ds.length = 2) (h : sp_scaled ds R) : rd_l_scaled (rho0 [false, false] 0 ds ++ List.replicate (3 - 2) .no) (endsOf [false, false] R) := rp_scaled ds R hl h
/-! ### the same again -/
@[irreducible] def sp_l_same (m : Nat) : ASp := fun ds R => ∃ d B j, ds = [d, d] ∧ j ≤ m ∧ j ≤ 60 ∧ B ≤ 90000 ∧ d.dat B j ∧ d.ok j = true ∧ R (.bl true) 0 []
theorem sp_l_same.mk {m : Nat} {d : D} {R : RR} (B j : Nat) (hj : j ≤ m) (hj2 : j ≤ 60) (hB : B ≤ 90000) (hd : d.dat B j) (ho : d.ok j = true) (h : R (.bl true) 0 []) : sp_l_same m [d, d] R := by unfold sp_l_same; exact ⟨d, B, j, rfl, hj, hj2, hB, hd, ho, h⟩
end VL

set_option maxHeartbeats 2000000
namespace VL
open PySem PySem.Spec PyProof.Rows L2
local macro_rules | `(tactic| walk_at "v") => `(tactic| repeat (first | refine ⟨rfl, ?_⟩ | refine ⟨_, rfl, ?_⟩))
local macro_rules | `(tactic| walk_at "y") => `(tactic| refine ⟨fun _ => ?_, fun h => Bool.noConfusion (show true = false from h)⟩)
local macro_rules | `(tactic| walk_at "n") => `(tactic| refine ⟨fun h => Bool.noConfusion (show false = true from h), fun _ => ?_⟩)
local macro_rules | `(tactic| walk_at "ty") => `(tactic| refine ⟨_, rfl, by decide, ?_⟩)
local macro_rules | `(tactic| walk_at "tys") => `(tactic| refine ⟨_, rfl, _, rfl, by decide, ?_⟩)
local macro_rules | `(tactic| walk_at "z") => `(tactic| repeat (first | refine ⟨rfl, ?_⟩ | refine ⟨_, rfl, ?_⟩ | refine ⟨fun _ => ?_, fun h => Bool.noConfusion (show true = false from h)⟩ | refine ⟨fun h => Bool.noConfusion (show false = true from h), fun _ => ?_⟩ | refine ⟨tyIn rfl, ?_⟩ | refine ⟨tysIn rfl, ?_⟩ | refine ⟨smallL rfl, ?_⟩ | refine ⟨smallE rfl, ?_⟩))
local macro_rules | `(tactic| walk_at "zz") => `(tactic| repeat ((fail_if_success show forL _ _ _ _ _); first | refine ⟨rfl, ?_⟩ | refine ⟨_, rfl, ?_⟩ | refine ⟨fun _ => ?_, fun h => Bool.noConfusion (show true = false from h)⟩ | refine ⟨fun h => Bool.noConfusion (show false = true from h), fun _ => ?_⟩ | refine ⟨tyIn rfl, ?_⟩ | refine ⟨tysIn rfl, ?_⟩ | refine ⟨smallL rfl, ?_⟩ | refine ⟨smallE rfl, ?_⟩))
/-! ### data with rows of at most L, ints of at most B -/
def D.dabb (L B : Nat) : Nat → D → Bool
  | 0, d => match d with
    | .non => true
    | .bl _ => true
    | .int i => Nat.ble (VL.bl i.natAbs) B
    | .str x => Nat.ble x.length 2100 && PyData.strOk x
    | .dct ks vs => ks.isEmpty && vs.isEmpty
    | _ => false
  | m + 1, d => match d with
    | .non => true
    | .bl _ => true
    | .int i => Nat.ble (VL.bl i.natAbs) B
    | .str x => Nat.ble x.length 2100 && PyData.strOk x
    | .dct ks vs => ks.isEmpty && vs.isEmpty
    | .tup ds => Nat.ble ds.length L && ds.all (D.dabb L B m)
    | .lst ds => Nat.ble ds.length L && ds.all (D.dabb L B m)
    | _ => false
def D.dab (L B m : Nat) (d : D) : Prop := d.dabb L B m = true
/-- few enough for sums -/
def small (L B : Nat) : Prop := L * (B + 1) ≤ 4000 ∧ L ≤ 900 ∧ B ≤ 900

/-! ### lands by this model's own words -/
def isPlace (m : Int) : D → Bool
  | .int i => decide (0 ≤ i) && decide (i < m)
  | _ => false
def folOf : D → Option (Int × Rat)
  | .tup [.int s, .tup [.int a, .int b]] => if isPart (.tup [.int a, .int b]) = true then some (s, Rat.divInt a b) else none
  | _ => none
def isFol (m : Int) (d : D) : Bool := match folOf d with
  | some (s, q) => decide (0 ≤ s) && decide (s < m) && decide (0 < q)
  | none => false
def folGo (m : Int) : Int → Rat → List D → Bool
  | _, acc, [] => decide (acc = 1)
  | ah, acc, x :: r => match folOf x with
    | none => false
    | some (s, q) => decide (ah < s) && decide (s < m) && decide (0 < q) && folGo m s (acc + q) r
def isFols (m : Int) : D → Bool
  | .lst xs => !xs.isEmpty && folGo m (-1) 0 xs
  | _ => false
def isDeed (k m : Int) : D → Bool
  | .tup [w, f] => isWorth k w && isFols m f
  | _ => false
def isState (k m : Int) : D → Bool
  | .tup [c, e, .lst ds] => isPlace k c && isWorth k e && ds.all (isDeed k m)
  | _ => false
def isLand : D → Bool
  | .tup [.int k, .lst sts] => decide (1 ≤ k) && decide (k ≤ 4) && !sts.isEmpty && sts.all (isState k sts.length)
  | _ => false
@[irreducible] def sp_is_place : ASp := fun ds R => ∃ d m, ds = [d, .int m] ∧ (tyD d).isSome = true ∧ R (.bl (isPlace m d)) 0 []
@[irreducible] def sp_is_follower : ASp := fun ds R => ∃ d m L B j, ds = [d, .int m] ∧ small L B ∧ d.dab L B j ∧ R (.bl (isFol m d)) 0 []
@[irreducible] def sp_are_followers : ASp := fun ds R => ∃ d m L B j, ds = [d, .int m] ∧ small L B ∧ d.dab L B j ∧ R (.bl (isFols m d)) 0 []
@[irreducible] def sp_is_deed : ASp := fun ds R => ∃ k d m L B j, ds = [.int k, d, .int m] ∧ small L B ∧ d.dab L B j ∧ R (.bl (isDeed k m d)) 0 []
@[irreducible] def sp_is_state : ASp := fun ds R => ∃ k d m L B j, ds = [.int k, d, .int m] ∧ small L B ∧ d.dab L B j ∧ R (.bl (isState k m d)) 0 []
@[irreducible] def sp_is_land : ASp := fun ds R => ∃ d L B j, ds = [d] ∧ small L B ∧ d.dab L B j ∧ R (.bl (isLand d)) 0 []
section
variable {R : RR} {k m : Int} {d : D} {L B j : Nat}
theorem sp_is_place.mk (h : (tyD d).isSome = true) (r : R (.bl (isPlace m d)) 0 []) : sp_is_place [d, .int m] R := by unfold sp_is_place; exact ⟨d, m, rfl, h, r⟩
theorem sp_is_follower.mk (hs : small L B) (h : d.dab L B j) (r : R (.bl (isFol m d)) 0 []) : sp_is_follower [d, .int m] R := by unfold sp_is_follower; exact ⟨d, m, L, B, j, rfl, hs, h, r⟩
theorem sp_are_followers.mk (hs : small L B) (h : d.dab L B j) (r : R (.bl (isFols m d)) 0 []) : sp_are_followers [d, .int m] R := by unfold sp_are_followers; exact ⟨d, m, L, B, j, rfl, hs, h, r⟩
theorem sp_is_deed.mk (hs : small L B) (h : d.dab L B j) (r : R (.bl (isDeed k m d)) 0 []) : sp_is_deed [.int k, d, .int m] R := by unfold sp_is_deed; exact ⟨k, d, m, L, B, j, rfl, hs, h, r⟩
theorem sp_is_state.mk (hs : small L B) (h : d.dab L B j) (r : R (.bl (isState k m d)) 0 []) : sp_is_state [.int k, d, .int m] R := by unfold sp_is_state; exact ⟨k, d, m, L, B, j, rfl, hs, h, r⟩
theorem sp_is_land.mk (hs : small L B) (h : d.dab L B j) (r : R (.bl (isLand d)) 0 []) : sp_is_land [d] R := by unfold sp_is_land; exact ⟨d, L, B, j, rfl, hs, h, r⟩
end
/-! ### followers: the program's way and this model's -/
end VL

namespace VL
open PySem PySem.Spec PyProof.Rows L2

/-! ### sorted, of rows of d ints from 0 on, below B -/
theorem reps_ints {K : Fg} {F : Hp} : ∀ {ns : List Int} {vs : List V}, Reps K F (ns.map .int) vs → vs = ns.map V.int
  | [], _, h => by cases h; rfl
  | n :: ns, _, ⟨v, r, e, h1, h2⟩ => by
    subst e
    cases h1
    rw [reps_ints h2]; rfl
end VL

namespace VL
open PySem PySem.Spec PyProof.Rows L2

/-! ### a def of the row: where it lies, how it is called -/
structure Fx (K : Fg) (mg : Str → Option Value) (x : Str) (st : Stmt) (ps : List Str) where
  f : Addr
  fd : FuncData
  F : Fun K x x st f fd
  m : mg x = some (.ref f)
  b : Binds K fd ps []
abbrev BindArgs (x : Str) (st : Stmt) (ps : List Str) : Prop := ∀ (kV doc pm : Value) (an : Option Addr) (cdv ct : Value) (us : List Value), us.length = ps.length → bindArgs (PySem.W.fnOf x x (defArgs st) (defBody st) (defScope st) .none kV doc pm an cdv ct) ⟨us, []⟩ = pure (ps.zip us)
theorem fx_of {K : Fg} {mg : Str → Option Value} {h : Heap} {x : Str} {st : Stmt} {ps : List Str} {f : Addr} {od an : Option Addr} {sl : Array (Option Value)} {oc kV dc pm cd ct : Value} (hb : BindArgs x st ps) (X : K.In h) (G : h.Ns mainGlobals mg)
    (a : PySem.W.nsIn K mainGlobals x = some (some (.ref f))) (l : K.lookup f = some ⟨oc, od, .func (PySem.W.fnOf x x (defArgs st) (defBody st) (defScope st) .none kV dc pm an cd ct), sl⟩) (c : PySem.W.codeIn K cd x = true) (k : PySem.W.keepIn K (.ref f) = true) : Nonempty (Fx K mg x st ps) := by
  have F := fun_mk (st := st) l c k
  exact ⟨⟨f, _, F, PySem.W.mg_of X G a, F.binds hb⟩⟩
/-- the law's own def -/
theorem fx_law {K : Fg} {mg : Str → Option Value} {h : Heap} {x y : Str} {st : Stmt} {f fa : Addr} {od an : Option Addr} {sl : Array (Option Value)} {oc kV dc pm cd ct : Value} (hb : BindArgs x st [y]) (X : K.In h) (G : h.Ns mainGlobals mg) (hfa : mg x = some (.ref fa))
    (a : PySem.W.nsIn K mainGlobals x = some (some (.ref f))) (l : K.lookup f = some ⟨oc, od, .func (PySem.W.fnOf x x (defArgs st) (defBody st) (defScope st) .none kV dc pm an cd ct), sl⟩) (c : PySem.W.codeIn K cd x = true) (k : PySem.W.keepIn K (.ref f) = true) :
    ∃ fd : FuncData, Fun K x x st fa fd ∧ ∀ (s : Shared) (u : Value), BindsTo s fd ⟨[u], []⟩ [(y, u)] := by
  have e := hfa.symm.trans (PySem.W.mg_of X G a)
  cases e
  exact ⟨_, fun_mk (st := st) l c k, fun s u => .of_eq (hb _ _ _ _ _ _ [u] rfl)⟩

/-! ### the law -/
@[irreducible] def sp_law : ASp := fun ds R => ∃ ns : List Int, ds = [.scr ns] ∧ ns.length ≤ 63 ∧ (∀ n ∈ ns, bl n.natAbs ≤ 2000000) ∧ R (.bl true) 0 []
theorem law_end {K : Fg} {H : Hp} {a : Addr} {ns : List Int} {E : XK} (hl : ns.length ≤ 63) (hb : ∀ z ∈ ns, Builtin.Int.intBits z ≤ 1048576) (hS : SqL K H a (ns.map V.int)) : liftSp K [false] sp_law [.ref a] H (fun v _ => v = .bl true) E := by
  refine ⟨H, [.scr ns], [], fun d k outs => d = .bl true ∧ k = 0, Same.refl H, ⟨.scr ns, .ref a, [], [], rfl, rfl, ⟨a, rfl, hS⟩, rfl, rfl, rfl⟩, .nil, (fun a h => absurd h (List.not_mem_nil)), ?_, ?_⟩
  · unfold sp_law
    refine ⟨ns, rfl, hl, fun n hn => ?_, rfl, rfl⟩
    have h := hb n hn
    unfold Builtin.Int.intBits at h
    unfold bl
    by_cases e : n = 0
    · subst e; decide
    · rw [if_neg (by simpa using e)] at h
      rw [if_neg (by omega)]
      omega
  · rintro v H' ⟨F', d, k, fp, outs, _, _, _, _, _, ho, _, _, _, rfl, rfl⟩
    exact ho.2
end VL

set_option maxHeartbeats 2000000
namespace VL
open PySem PySem.Spec PyProof.Rows L2
local macro_rules | `(tactic| walk_at "v") => `(tactic| repeat (first | refine ⟨rfl, ?_⟩ | refine ⟨_, rfl, ?_⟩))
local macro_rules | `(tactic| walk_at "y") => `(tactic| refine ⟨fun _ => ?_, fun h => Bool.noConfusion (show true = false from h)⟩)
local macro_rules | `(tactic| walk_at "n") => `(tactic| refine ⟨fun h => Bool.noConfusion (show false = true from h), fun _ => ?_⟩)
local macro_rules | `(tactic| walk_at "ty") => `(tactic| refine ⟨_, rfl, by decide, ?_⟩)
local macro_rules | `(tactic| walk_at "tys") => `(tactic| refine ⟨_, rfl, _, rfl, by decide, ?_⟩)
local macro_rules | `(tactic| walk_at "z") => `(tactic| repeat (first | refine ⟨rfl, ?_⟩ | refine ⟨_, rfl, ?_⟩ | refine ⟨fun _ => ?_, fun h => Bool.noConfusion (show true = false from h)⟩ | refine ⟨fun h => Bool.noConfusion (show false = true from h), fun _ => ?_⟩ | refine ⟨tyIn rfl, ?_⟩ | refine ⟨tysIn rfl, ?_⟩ | refine ⟨smallL rfl, ?_⟩ | refine ⟨smallE rfl, ?_⟩))
local macro_rules | `(tactic| walk_at "zz") => `(tactic| repeat ((fail_if_success show forL _ _ _ _ _); first | refine ⟨rfl, ?_⟩ | refine ⟨_, rfl, ?_⟩ | refine ⟨fun _ => ?_, fun h => Bool.noConfusion (show true = false from h)⟩ | refine ⟨fun h => Bool.noConfusion (show false = true from h), fun _ => ?_⟩ | refine ⟨tyIn rfl, ?_⟩ | refine ⟨tysIn rfl, ?_⟩ | refine ⟨smallL rfl, ?_⟩ | refine ⟨smallE rfl, ?_⟩))
/-! ### a land's followers -/
def dF (x : Nat × Rat) : D := .tup [.int x.1, dq x.2]
structure FolOk (n : Nat) (fs : List (Nat × Rat)) : Prop where
  ne : fs ≠ []
  len : fs.length ≤ 4
  lt : ∀ x ∈ fs, x.1 < n
  rise : fs.Pairwise fun x y => x.1 < y.1
  pos : ∀ x ∈ fs, 0 < x.2
  wt : ∀ x ∈ fs, wt x.2 ≤ 6
  sum : qsum (fs.map (·.2)) 0 = 1
@[irreducible] def sp_l_followers : ASp := fun ds R => ∃ (t : Tp) (n m c : Nat), ds = [dT t, .int n, .int m] ∧ 1 ≤ n ∧ n ≤ 8 ∧ 1 ≤ m ∧ m ≤ 4 ∧ t.ok (c + 13) ∧ ∀ fs t', FolOk n fs → t'.ok c → R (.lst (fs.map dF)) 1 [dT t']
theorem sp_l_followers.mk {t : Tp} {n m : Nat} {R : RR} (c : Nat) (h1 : 1 ≤ n) (h2 : n ≤ 8) (h3 : 1 ≤ m) (h4 : m ≤ 4) (ht : t.ok (c + 13)) (h : ∀ fs t', FolOk n fs → t'.ok c → R (.lst (fs.map dF)) 1 [dT t']) : sp_l_followers [dT t, .int n, .int m] R := by
  unfold sp_l_followers
  exact ⟨t, n, m, c, rfl, h1, h2, h3, h4, ht, h⟩
theorem erase_perm {α : Type} : ∀ {xs : List α} {k : Nat} {x : α}, xs[k]? = some x → xs.Perm (x :: xs.eraseIdx k)
  | y :: ys, 0, x, h => by cases h; exact .refl _
  | y :: ys, k + 1, x, h => by
    have h' : ys[k]? = some x := h
    exact (List.Perm.cons y (erase_perm h')).trans (.swap _ _ _)
/-- what stands behind so many turns -/
structure Drw (n : Nat) (left : List Nat) (ws : List (Nat × Nat)) : Prop where
  nd : (left ++ ws.map (·.1)).Nodup
  lt : ∀ i ∈ left ++ ws.map (·.1), i < n
  len : left.length + ws.length = n
  wts : ∀ x ∈ ws, 1 ≤ x.2 ∧ x.2 ≤ 9
theorem Drw.start (n : Nat) : Drw n (List.range n) [] := ⟨by rw [List.map_nil, List.append_nil]; exact List.nodup_range, fun i hi => by rw [List.map_nil, List.append_nil] at hi; exact List.mem_range.mp hi, by rw [List.length_range]; rfl, fun x hx => absurd hx List.not_mem_nil⟩
theorem Drw.next {n : Nat} {left : List Nat} {ws : List (Nat × Nat)} (h : Drw n left ws) {k x w : Nat} (hk : left[k]? = some x) (h1 : 1 ≤ w) (h2 : w ≤ 9) : Drw n (left.eraseIdx k) (ws ++ [(x, w)]) := by
  have hl : k < left.length := (List.getElem?_eq_some_iff.mp hk).1
  have p : (left ++ ws.map (·.1)).Perm (left.eraseIdx k ++ (ws ++ [(x, w)]).map (·.1)) := by
    rw [List.map_append]
    show (left ++ ws.map (·.1)).Perm (left.eraseIdx k ++ (ws.map (·.1) ++ [x]))
    refine ((erase_perm hk).append_right _).trans ?_
    rw [← List.append_assoc]
    show ([x] ++ (left.eraseIdx k ++ ws.map (·.1))).Perm _
    exact List.perm_append_comm
  refine ⟨p.nodup_iff.mp h.nd, fun i hi => h.lt i (p.mem_iff.mpr hi), ?_, fun y hy => ?_⟩
  · rw [List.length_eraseIdx, if_pos hl, List.length_append]
    have := h.len
    show left.length - 1 + (ws.length + 1) = n
    omega
  · rcases List.mem_append.mp hy with hy | hy
    · exact h.wts y hy
    · rw [List.mem_singleton.mp hy]; exact ⟨h1, h2⟩
/-! ### lands -/
structure Deed where
  w : List Rat
  fs : List (Nat × Rat)
structure St where
  c : Nat
  e : List Rat
  ds : List Deed
structure Land where
  k : Nat
  sts : List St
def dDeed (d : Deed) : D := .tup [dw d.w, .lst (d.fs.map dF)]
def dSt (s : St) : D := .tup [.int s.c, dw s.e, .lst (s.ds.map dDeed)]
def dLand (l : Land) : D := .tup [.int l.k, .lst (l.sts.map dSt)]
structure DeedOk (k n : Nat) (d : Deed) : Prop where
  len : d.w.length = k
  wts : allw 21 d.w
  fol : FolOk n d.fs
  dns : dens d.w
structure StOk (k n : Nat) (s : St) : Prop where
  c : s.c < k
  len : s.e.length = k
  wts : allw 21 s.e
  few : s.ds.length ≤ 3
  ds : ∀ d ∈ s.ds, DeedOk k n d
  dns : dens s.e
structure LandOk (l : Land) : Prop where
  k1 : 1 ≤ l.k
  k4 : l.k ≤ 4
  n1 : 1 ≤ l.sts.length
  n8 : l.sts.length ≤ 8
  sts : ∀ s ∈ l.sts, StOk l.k l.sts.length s
/-- .. the first state of which has deeds -/
structure LandGo (l : Land) : Prop extends LandOk l where
  go : ∀ s, l.sts[0]? = some s → s.ds ≠ []
@[irreducible] def sp_l_state : ASp := fun ds R => ∃ (t : Tp) (k n m c : Nat), ds = [dT t, .int k, .int n, .int m] ∧ 1 ≤ k ∧ k ≤ 4 ∧ 1 ≤ n ∧ n ≤ 8 ∧ 1 ≤ m ∧ m ≤ 4 ∧ t.ok (c + 121) ∧ ∀ s t', StOk k n s → t'.ok c → R (dSt s) 0 [dT t']
theorem sp_l_state.mk {t : Tp} {k n m : Nat} {R : RR} (c : Nat) (k1 : 1 ≤ k) (k4 : k ≤ 4) (h1 : 1 ≤ n) (h2 : n ≤ 8) (h3 : 1 ≤ m) (h4 : m ≤ 4) (ht : t.ok (c + 121)) (h : ∀ s t', StOk k n s → t'.ok c → R (dSt s) 0 [dT t']) : sp_l_state [dT t, .int k, .int n, .int m] R := by
  unfold sp_l_state
  exact ⟨t, k, n, m, c, rfl, k1, k4, h1, h2, h3, h4, ht, h⟩
@[irreducible] def sp_l_land : ASp := fun ds R => ∃ (t : Tp) (k m c : Nat), ds = [dT t, .int k, .int m] ∧ 1 ≤ k ∧ k ≤ 4 ∧ 1 ≤ m ∧ m ≤ 4 ∧ t.ok (c + 1003) ∧ ∀ l t', LandGo l → l.k = k → t'.ok c → R (dLand l) 0 [dT t']
theorem sp_l_land.mk {t : Tp} {k m : Nat} {R : RR} (c : Nat) (k1 : 1 ≤ k) (k4 : k ≤ 4) (h3 : 1 ≤ m) (h4 : m ≤ 4) (ht : t.ok (c + 1003)) (h : ∀ l t', LandGo l → l.k = k → t'.ok c → R (dLand l) 0 [dT t']) : sp_l_land [dT t, .int k, .int m] R := by
  unfold sp_l_land
  exact ⟨t, k, m, c, rfl, k1, k4, h3, h4, ht, h⟩
end VL

namespace VL
open PySem PySem.Spec PyProof.Rows L2

/-! ### tuples one behind the other, whichever is empty -/
def gAddA : G2 := fun a b R => match a, b with
  | .int i, .int j => R (.int (i + j)) 0
  | .str x, .str y => x.length + y.length ≤ sizeLine ∧ R (.str (x ++ y)) 0
  | .lst xs, .lst ys => xs.length + ys.length ≤ sizeLine ∧ R (.lst (xs ++ ys)) 1
  | .tup xs, .tup ys => xs.length + ys.length ≤ sizeLine ∧ R (.tup (xs ++ ys)) 0
  | .bl k, .int j => R (.int (bi k + j)) 0
  | .int i, .bl k => R (.int (i + bi k)) 0
  | _, _ => False
def tAddA (K : Fg) : R2 := fun x y H Q => tAddV K x y H Q ∨ rCatA K x y H Q
theorem lk_addA {K : Fg} : Lk2 K (tAddA K) gAddA := fun F H a b x y R Q' s h1 h2 g w => by
  cases a with
  | tup xs =>
    cases b with
    | tup ys =>
      obtain ⟨p, vs, e1, k1, r1⟩ := h1
      obtain ⟨p2, vs2, e2, k2, r2⟩ := h2
      obtain ⟨g1, g⟩ := g
      refine .inr ⟨p, p2, vs, vs2, e1, e2, k1.sq s, k2.sq s, by rw [r1.length, r2.length]; exact g1, fun z => ?_, fun _ z => ?_, fun _ _ q hq => w _ _ _ _ (.tup hq (Reps.app r1 r2)) g⟩
      · subst z
        cases xs with
        | nil => exact w _ _ _ _ (.old (show Rep K F (.tup ys) (.ref p2) from ⟨p2, vs2, rfl, k2, r2⟩)) g
        | cons _ _ => obtain ⟨_, _, e, _⟩ := r1; cases e
      · subst z
        cases ys with
        | nil =>
          rw [List.append_nil] at g
          exact w _ _ _ _ (.old (show Rep K F (.tup xs) (.ref p) from ⟨p, vs, rfl, k1, r1⟩)) g
        | cons _ _ => obtain ⟨_, _, e, _⟩ := r2; cases e
    | _ => exact g.elim
  | int i => cases b <;> first | exact .inl (lk_addV F H _ _ x y R Q' s h1 h2 g w) | exact g.elim
  | bl i => cases b <;> first | exact .inl (lk_addV F H _ _ x y R Q' s h1 h2 g w) | exact g.elim
  | str i => cases b <;> first | exact .inl (lk_addV F H _ _ x y R Q' s h1 h2 g w) | exact g.elim
  | lst i => cases b <;> first | exact .inl (lk_addV F H _ _ x y R Q' s h1 h2 g w) | exact g.elim
  | _ => cases b <;> exact g.elim
theorem ve_addA {X : Cx} {a b : Expr} {pos : Pos} {ra rb : RO} (ha : VO X a ra) (hb : VO X b rb) : VE X (.BinOp a .Add b pos) (rOp2 gAddA ra rb) := ve_op (op_addV.or op_catA) lk_addA ha hb

/-! ### slices of tuples, the whole too -/
def gSlA (d : D) (lo hi : Option Int) (R : D → Nat → Prop) : Prop := match d with
  | .lst ds => R (.lst (cutL ds lo hi)) 1
  | .tup ds => R (.tup (cutL ds lo hi)) 0
  | _ => False
def rSlA2 (ro : RO) (rl rh : RP) : RE := fun ρ Q => ro ρ fun o ρ1 => rl ρ1 fun l ρ2 => rh ρ2 fun u ρ3 => ∃ d, opD ρ3 o = some d ∧ gSlA d l u fun d k => Q d k ρ3
theorem cut_whole {ds : List D} {lo hi : Option Int} (h1 : HT.sIx ds.length 0 lo = 0) (h2 : HT.sIx ds.length ds.length hi = ds.length) : cutL ds lo hi = ds := by
  unfold cutL
  rw [h1, h2, List.drop_zero, Nat.sub_zero, List.take_length]
section
variable {X : Cx} {e : Expr} {pos : Pos}
theorem ve_slA {lo hi : Option Expr} {p2 : Pos} {ro : RO} {rl rh : RP} (ho : VO X e ro) (hl : VP X lo rl) (hh : VP X hi rh) : VE X (.Subscript e (.Slice lo hi none p2) pos) (rSlA2 ro rl rh) := by
  refine PE.weak (pe_slice (sl_list.or sl_tupA) ho hl hh) ?_
  rintro σ H Q' ⟨S, F, ρ, tmp, Q, h, hr, w⟩
  refine tVO.mk h hr fun v H1 ⟨F1, ρ1, o, s1, h1, v1, q1⟩ => ?_
  refine ⟨S, F1, ρ1, tmp, _, h1, q1, fun l H2 ⟨F2, ρ2, s2, h2, q2⟩ => ?_⟩
  refine ⟨S, F2, ρ2, tmp, _, h2, q2, fun u H3 ⟨F3, ρ3, s3, h3, d, e3, q3⟩ => ?_⟩
  have sh := h3.op ((v1.mono s2).mono s3) e3
  have s12 := (s1.trans s2).trans s3
  have sub : Same F3 H3 := by obtain ⟨_, h3⟩ := h3; exact h3.sub
  cases d <;> first | exact q3.elim | skip
  · obtain ⟨p, vs, e1, h5, r⟩ := sh
    refine .inr ⟨p, vs, e1, h5.sq sub, fun z => ?_, fun _ q hq => w _ _ ((Res.post h3 (.tup hq (cutL_reps r)) q3).from s12)⟩
    rw [r.length] at z
    rename_i ds0
    have q3' : Q (.tup (cutL ds0 l u)) 0 ρ3 := q3
    rw [cut_whole z.1 z.2] at q3'
    subst e1
    exact w _ _ ((Res.post h3 (.old (show Rep X.K F3 (.tup _) (.ref p) from ⟨p, vs, rfl, h5, r⟩)) q3').from s12)
  · obtain ⟨p, vs, e1, h5, r⟩ := sh
    exact .inl ⟨p, vs, e1, .inl (.inl h5), fun p hp => w _ _ ((Res.post h3 (.lst hp (cutL_reps r)) q3).from s12)⟩
end
/-! ### a tuple turned about -/
section
variable {prog : Program} {w : World} {A : Around} {E : Value → Shared → Prop} {s : Shared}
theorem fm_congr {α β : Type} {f g : α → Option β} : ∀ {l : List α}, (∀ x ∈ l, f x = g x) → l.filterMap f = l.filterMap g
  | [], _ => rfl
  | x :: l, h => by
    rw [List.filterMap_cons, List.filterMap_cons, h x (by simp), fm_congr fun y hy => h y (by simp [hy])]
theorem rev_pick (xs : Array Value) : ((List.range xs.size).filterMap fun (m : Nat) => xs[(((xs.size : Int) - 1) + (m : Int) * -1).toNat]?).toArray = xs.toList.reverse.toArray := by
  have h := PySem.W.krv_pick xs
  unfold slicePick at h
  rw [PySem.W.krv_bounds] at h
  rw [← h]
  show _ = ((sliceRange ((xs.size : Int) - 1) (-1) (-1)).filterMap (xs[·]?)).toArray
  rw [PySem.W.krv_sliceRange, List.filterMap_map]
  congr 1
  refine fm_congr fun m hm => ?_
  have := List.mem_range.mp hm
  show xs[(((xs.size : Int) - 1) + (m : Int) * -1).toNat]? = xs[xs.size - 1 - m]?
  rw [show (((xs.size : Int) - 1) + (m : Int) * -1).toNat = xs.size - 1 - m by omega]
theorem sliceApplied_rev {sl : Addr} {vl vu vs : Value} {n : Nat} {Q : Int × Int × Nat → Shared → Prop} (hs : s.heap.IsSliceOf sl vl vu vs) (pl : IsPart vl none) (pu : IsPart vu none) (ps : IsPart vs (some (-1)))
    (h : Q ((n : Int) - 1, -1, n) s) : wpAny (model prog w) A (Builtin.Slice.sliceApplied (.ref sl) (pure (n : Int))) Q E s := by
  obtain ⟨os, g1, g2, g3⟩ := hs
  unfold Builtin.Slice.sliceApplied Builtin.Slice.sliceFields
  refine wpAny_bind (wpAny_bind (wpAny_field g1 g3 (x := vl) rfl (wpAny_bind (wpAny_field g1 g3 (x := vu) rfl (wpAny_bind (wpAny_field g1 g3 (x := vs) rfl (wpAny_pure ?_)))))))
  refine wpAny_bind (HT.slicePart_ ps ?_)
  show wpAny _ _ (if ((-1 : Int) == 0) = true then _ else _) _ _ s
  rw [if_neg (by decide)]
  refine wpAny_bind (HT.slicePart_ pl (wpAny_bind (HT.slicePart_ pu (wpAny_bind (wpAny_pure ?_)))))
  have e1 : Builtin.Slice.sliceAdjust none none (-1) (n : Int) = ((n : Int) - 1, -1) := rfl
  have e2 : Builtin.Slice.slicePlaces ((n : Int) - 1) (-1) (-1) = n := by
    unfold Builtin.Slice.slicePlaces
    rw [if_neg (by decide)]
    by_cases hn : (n : Int) - 1 > -1
    · rw [if_pos hn]
      show (((n : Int) - 1 - -1 - 1) / 1 + 1).toNat = n
      rw [Int.ediv_one]
      omega
    · rw [if_neg hn]
      omega
  show wpAny _ _ (match Builtin.Slice.sliceAdjust none none (-1) (n : Int) with | (lo, hi) => pure (lo, (-1 : Int), Builtin.Slice.slicePlaces lo hi (-1))) _ _ s
  rw [e1]
  show wpAny _ _ (pure ((n : Int) - 1, (-1 : Int), Builtin.Slice.slicePlaces ((n : Int) - 1) (-1) (-1))) _ _ s
  rw [e2]
  exact wpAny_pure h
theorem getItem_rev {t sl : Addr} {items : Array Value} {vl vu vs : Value} {Q : Value → Shared → Prop} (ht : IsTup s.heap t items) (hs : s.heap.IsSliceOf sl vl vu vs) (pl : IsPart vl none) (pu : IsPart vu none) (ps : IsPart vs (some (-1)))
    (h : Q (.ref s.heap.objs.size) { s with heap := s.heap.push { cls := .type "tuple", data := .seq items.toList.reverse.toArray } }) (hsz : items.size ≤ sizeLine) : wpAny (model prog w) A (getItem (.ref t) (.ref sl)) Q E s := by
  have hn : sizeOk (.seq items.toList.reverse.toArray) := by
    show items.toList.reverse.toArray.size ≤ sizeLine
    rw [List.size_toArray, List.length_reverse, Array.length_toList]
    exact hsz
  obtain ⟨os, g1, g2, g3⟩ := id hs
  have hT : s.TypeIs (.ref sl) "slice" := ⟨os, g1, g2⟩
  unfold getItem
  try with_reducible refine wpAny_holding ?_
  first | refine wpAny_bind (wpAny_pure ?_) | skip
  refine wpAny_bind (wpAny_sequenceKey ht.typeIs (by decide) ?_)
  refine wpAny_bind (wpAny_callSpecial?_slot (name := Str.ofString "__getitem__") ht.typeIs PyProof.Rows.slot_tuple_getitem (wpAny_call_entry PyProof.Rows.slot_tuple_getitem ht.typeIs entry_tuple_getitem ?_ (args_tuple_getitem _ _)))
  show wpAny _ _ (Builtin.Tuple.tupleItemsOf (.ref t) >>= _) _ _ s
  refine wpAny_bind (tupleItemsOf_ ht ?_)
  refine wpAny_bind (wpAny_typeOf hT ?_)
  rw [if_pos (by decide)]
  refine wpAny_bind (sliceApplied_rev hs pl pu ps ?_)
  have hno : ¬ (((items.size : Int) - 1 == 0 && (-1 : Int) == 1 && items.size == items.size) = true) := by simp
  show wpAny _ _ (if ((items.size : Int) - 1 == 0 && (-1 : Int) == 1 && items.size == items.size) = true then _ else _) _ _ s
  rw [if_neg hno, rev_pick]
  first
    | exact wpAny_bind (m := Builtin.Tuple.tupleExact _) (wpAny_newObj_type (wpAny_pure ⟨_, rfl, wpAny_pure h⟩) hn)
    | exact wpAny_bind (m := Builtin.Tuple.tupleExact _) (wpAny_newObj_type (wpAny_bind (wpAny_pure (wpAny_pure ⟨_, rfl, wpAny_pure h⟩))) hn)
    | exact wpAny_bind (wpAny_bind (m := Builtin.Tuple.tupleExact _) (wpAny_newObj_type (wpAny_pure (wpAny_pure ⟨_, rfl, wpAny_pure h⟩)) hn))
    | exact wpAny_bind (wpAny_bind (m := Builtin.Tuple.tupleExact _) (wpAny_newObj_type (wpAny_pure ⟨_, rfl, wpAny_pure h⟩) hn))
end
section
variable {X : Cx} {e : Expr} {pos : Pos}
theorem PE.or {t t' : TE} (h : PE X e t) (h' : PE X e t') : PE X e (fun σ H Q => t σ H Q ∨ t' σ H Q) := ⟨fun pins s σ H Q I q => q.elim (h.run pins s σ H Q I) (h'.run pins s σ H Q I)⟩
def tRevA (K : Fg) (te : TE) : TE := fun σ H Q => te σ H fun x H1 => (∃ a xs, x = .ref a ∧ SqL K H1 a xs ∧ ∀ p, H1 p = none → Q (.ref p) (upd H1 p (.lst xs.reverse))) ∨ ∃ a xs, x = .ref a ∧ SqT K H1 a xs ∧ ∀ p, H1 p = none → Q (.ref p) (upd H1 p (.tup xs.reverse))
theorem pe_revA {te : TE} {k : Nat} {p1 p2 p3 : Pos} (he : PE X e te) : PE X (.Subscript e (.Slice none none (some (.UnaryOp .USub (.Constant (.int 1) k p1) p2)) p3) pos) (tRevA X.K te) := by
  constructor
  intro pins s σ H Q I h
  refine Subscript_ (thn (he.run pins s σ H _ I h) ?_)
  rintro v s1 ⟨x, H1, I1, r1, q0⟩
  have isR : ∃ a, x = .ref a := by
    rcases q0 with ⟨a, _, e1, _⟩ | ⟨a, _, e1, _⟩ <;> exact ⟨a, e1⟩
  obtain ⟨a, rfl⟩ := isR
  cases r1
  have stp : PO X (some (.UnaryOp .USub (.Constant (.int 1) k p1) p2)) (tPart (tUn (rU fun i => .int (-i)) (tC (.int 1)))) := po_some (pe_un un_neg pe_int)
  refine wpAny_Slice (thn (po_none.run pins s1 σ H1 (fun o G => o = none ∧ G = H1) I1 ⟨rfl, rfl⟩) ?_)
  rintro vl s2 ⟨l, H2, I2, pl, rfl, rfl⟩
  refine thn (po_none.run pins s2 σ H2 (fun o G => o = none ∧ G = H2) I2 ⟨rfl, rfl⟩) ?_
  rintro vu s3 ⟨u, H3, I3, pu, rfl, rfl⟩
  refine thn (stp.run pins s3 σ H3 (fun o G => o = some (-1) ∧ G = H3) I3 ⟨1, rfl, -1, rfl, rfl, rfl⟩) ?_
  rintro vs s4 ⟨o, H4, I4, ps, rfl, rfl⟩
  have I5 : Inv X pins σ H4 { s4 with heap := s4.heap.push { cls := .type "slice", data := .fields #[vl, vu, vs] } } := I4.kept (t' := s4.toks) fun b ob z => Heap.get?_push_of_some _ z
  show wpAny (model X.prog X.w) X.A (subscriptTail e (.Slice none none (some (.UnaryOp .USub (.Constant (.int 1) k p1) p2)) p3) (.ref a) (.ref s4.heap.objs.size)) (EP X pins σ Q) X.xe { s4 with heap := s4.heap.push { cls := .type "slice", data := .fields #[vl, vu, vs] } }
  rcases q0 with ⟨a', xs, e1, hx, q⟩ | ⟨a', xs, e1, hx, q⟩
  · cases e1
    obtain ⟨its, r, ht, hz⟩ := I5.list hx
    have hl := r.length
    refine tail_any (ops := [.ref a, .ref s4.heap.objs.size]) ht.isList.typeIs PySem.slot_list_getitem.lookup ?_ (by with_unfolding_all rfl)
    refine wpAny_getItem_list_slice ht.isList (Heap.IsSliceOf.new _ vl vu vs) pl pu ps (by decide) ?_ (by rw [List.size_toArray]; omega)
    rw [PySem.W.krv_pick]
    refine ⟨.ref _, _, I5.laid (t' := s4.toks) (o := .lst xs.reverse) (fun b ob z => Heap.get?_push_of_some _ z) (Nat.le_refl _) ?_, rfl, q _ (I5.hok.fresh (Nat.le_refl _))⟩
    exact ⟨by rw [List.length_reverse]; exact hz, its.reverse, 0, r.reverse, Heap.get?_push_size _ rfl⟩
  · cases e1
    obtain ⟨its, r, ht, hz⟩ := I5.tuple hx
    have hl := r.length
    refine tail_any (ops := [.ref a, .ref s4.heap.objs.size]) ht.typeIs PyProof.Rows.slot_tuple_getitem.lookup ?_ (by with_unfolding_all rfl)
    refine getItem_rev ht (Heap.IsSliceOf.new _ vl vu vs) pl pu ps ?_ (by rw [List.size_toArray]; omega)
    refine ⟨.ref _, _, I5.laid (t' := s4.toks) (o := .tup xs.reverse) (fun b ob z => Heap.get?_push_of_some _ z) (Nat.le_refl _) ?_, rfl, q _ (I5.hok.fresh (Nat.le_refl _))⟩
    refine ⟨by rw [List.length_reverse]; exact hz, its.reverse, r.reverse, ?_⟩
    exact IsTup.new _ _
/-- xs[::-1], of a list, of a tuple -/
def rRevA (ro : RO) : RE := fun ρ Q => ro ρ fun o ρ1 => ∃ d, opD ρ1 o = some d ∧ match d with
  | .lst ds => Q (.lst ds.reverse) 1 ρ1
  | .tup ds => Q (.tup ds.reverse) 0 ρ1
  | _ => False
theorem ve_revA {k : Nat} {p1 p2 p3 : Pos} {ro : RO} (ho : VO X e ro) : VE X (.Subscript e (.Slice none none (some (.UnaryOp .USub (.Constant (.int 1) k p1) p2)) p3) pos) (rRevA ro) := by
  refine PE.weak (pe_revA ho) ?_
  rintro σ H Q' ⟨S, F, ρ, tmp, Q, h, hr, w⟩
  refine tVO.mk h hr fun v H1 ⟨F1, ρ1, o, s1, h1, v1, d, e1, q1⟩ => ?_
  have sh := h1.op v1 e1
  have sub : Same F1 H1 := by obtain ⟨_, h1⟩ := h1; exact h1.sub
  cases d <;> first | exact q1.elim | skip
  · obtain ⟨p, vs, e2, h5, r⟩ := sh
    exact .inr ⟨p, vs, e2, h5.sq sub, fun p hp => w _ _ ((Res.post h1 (.tup hp r.reverse) q1).from s1)⟩
  · obtain ⟨p, vs, e2, h5, r⟩ := sh
    exact .inl ⟨p, vs, e2, .inl (.inl h5), fun p hp => w _ _ ((Res.post h1 (.lst hp r.reverse) q1).from s1)⟩
end
end VL

set_option maxHeartbeats 2000000
namespace VL
open PySem
open PySem.Sem (wp)

/-! ### zip of a tuple and a list -/
/-- a kind of row: its iterators, the row itself -/
structure Kd (It : Heap → Addr → Addr → Nat → Prop) (Sq : Heap → Addr → Array Value → Prop) : Prop where
  itX : ∀ {g g' : Heap} {c it l : Addr} {i : Nat}, It g it l i → Heap.ExtBut c g g' → it ≠ c → It g' it l i
  sqX : ∀ {g g' : Heap} {c l : Addr} {xs : Array Value}, Sq g l xs → Heap.ExtBut c g g' → l ≠ c → Sq g' l xs
  itAt : ∀ {g g' : Heap} {it l : Addr} {i : Nat}, It g it l i → (∀ o, g.get? it = some o → g'.get? it = some o) → It g' it l i
  itGet : ∀ {g : Heap} {it l : Addr} {i : Nat}, It g it l i → ∃ o, g.get? it = some o ∧ ∀ v, o.data ≠ .cell v
  item : ∀ {prog : Program} {w : World} {A : Around} {E : Value → Shared → Prop} {s : Shared} {it l : Addr} {i : Nat} {items : Array Value} {x : Value} {Q : Value → Shared → Prop}, It s.heap it l i → Sq s.heap l items → items[i]? = some x →
    (∀ g, It g it l (i + 1) → Heap.SameBut it s.heap g → Q x { s with heap := g }) → wpAny (model prog w) A (Builtin.SmallTypes.nextOf (.ref it)) Q E s
  fin : ∀ {prog : Program} {w : World} {A : Around} {E : Value → Shared → Prop} {s : Shared} {it l : Addr} {i : Nat} {items : Array Value} {Q : Value → Shared → Prop}, A.handled = none → It s.heap it l i → Sq s.heap l items → items[i]? = none →
    (∀ g e, Heap.ExtBut it s.heap g → (∃ o, g.get? e = some o ∧ o.cls = .type "StopIteration") → E (.ref e) { s with heap := g }) → wpAny (model prog w) A (Builtin.SmallTypes.nextOf (.ref it)) Q E s
theorem kdL : Kd Heap.IsListIter Heap.IsList :=
  ⟨fun x => x.extBut, fun x => x.extBut, fun x => x.at, fun ⟨o, e, _, d⟩ => ⟨o, e, fun v q => by rw [d] at q; cases q⟩, fun h1 h2 h3 h4 => wpAny_nextOf_list_item h1 h2 h3 h4, fun h0 h1 h2 h3 h4 => wpAny_nextOf_list_end h0 h1 h2 h3 h4⟩
theorem kdT : Kd Heap.IsTupleIter Heap.IsTuple :=
  ⟨fun x => x.extBut, fun x => x.extBut, fun x => x.at, fun ⟨o, e, _, d⟩ => ⟨o, e, fun v q => by rw [d] at q; cases q⟩, fun h1 h2 h3 h4 => RZ.nextOf_tuple_item h1 h2 h3 h4, fun h0 h1 h2 h3 h4 => RZ.nextOf_tuple_end h0 h1 h2 h3 h4⟩
section
variable {prog : Program} {w : World} {A : Around} {E : Value → Shared → Prop} {s : Shared} {It1 It2 : Heap → Addr → Addr → Nat → Prop} {Sq1 Sq2 : Heap → Addr → Array Value → Prop}
theorem zipK_item (k1 : Kd It1 Sq1) (k2 : Kd It2 Sq2) {z TI TO i1 i2 l1 l2 : Addr} {n1 n2 : Nat} {xs ys : Array Value} {x y a b : Value} {Q : Value → Shared → Prop} (D : ZipApart z TI TO i1 i2 l1 l2)
    (hz : IsZip s.heap z TI TO .none) (hTI : IsPair s.heap TI (.ref i1) (.ref i2)) (hTO : IsPair s.heap TO a b) (t1 : It1 s.heap i1 l1 n1) (t2 : It2 s.heap i2 l2 n2) (q1 : Sq1 s.heap l1 xs) (q2 : Sq2 s.heap l2 ys) (hx : xs[n1]? = some x) (hy : ys[n2]? = some y)
    (hQ : ∀ g, IsZip g z TI TO (rawInt s.heap.objs.size) → IsPair g TO x y → It1 g i1 l1 (n1 + 1) → It2 g i2 l2 (n2 + 1) → IsPair g s.heap.objs.size x y → g.objs.size = s.heap.objs.size + 1 →
      (∀ c o, c ≠ z → c ≠ TO → c ≠ i1 → c ≠ i2 → s.heap.get? c = some o → g.get? c = some o) → Q (.ref s.heap.objs.size) { s with heap := g }) :
    wpAny (model prog w) A (Builtin.«zip.__next__» ⟨[.ref z], []⟩) (fun fn s2 => ∃ v, fn = .done (.ret v) ∧ Q v s2) E s := by
  show wpAny _ _ (field (.ref z) 2 >>= _) _ _ _
  refine wpAny_bind (wpAny_field hz rfl (x := .bool false) rfl ?_)
  show wpAny _ _ (field (.ref z) 3 >>= _) _ _ _
  refine wpAny_bind (wpAny_field hz rfl (x := .ref TI) rfl (wpAny_bind (wpAny_seqItems hTI rfl ?_)))
  show wpAny _ _ (Builtin.SmallTypes.ownedTupleIsFree (.ref z) >>= _) _ _ _
  refine wpAny_bind ?_
  unfold Builtin.SmallTypes.ownedTupleIsFree
  refine wpAny_bind (wpAny_field hz rfl (x := .none) rfl (wpAny_pure ?_))
  simp only [if_true]
  refine wpAny_bind (wpAny_rule (wpAny_bind (wpAny_field hz rfl (x := .ref TO) rfl (wpAny_bind (wpAny_setField_rec hz (by simp) ?_)))))
  intro g1 z1 u1
  replace z1 : IsZip g1 z TI TO .ellipsis := z1
  refine wpAny_bind ?_
  simp only [List.zipIdx_cons, List.zipIdx_nil, List.forIn_cons, List.forIn_nil]
  -- the first
  refine wpAny_bind (wpAny_bind (wpAny_onRaise ?_))
  show wpAny _ _ (Builtin.SmallTypes.nextOf (.ref i1) >>= _) _ _ _
  refine wpAny_bind (k1.item (k1.itX t1 u1.extBut D.i1z) (k1.sqX q1 u1.extBut D.l1z) hx ?_)
  intro g2 a2 u2
  refine wpAny_pure ?_
  have o2 : IsPair g2 TO a b := u2.extBut _ _ D.TOi1 (u1.extBut _ _ D.TOz hTO)
  refine wpAny_bind (wpAny_seqItems o2 rfl (wpAny_bind (wpAny_updateSeq_pair o2 ?_)))
  intro g3 o3 u3
  replace o3 : IsPair g3 TO x b := o3
  refine wpAny_bind (wpAny_letGo (wpAny_pure (wpAny_bind (wpAny_bind (wpAny_onRaise ?_)))))
  -- the second
  show wpAny _ _ (Builtin.SmallTypes.nextOf (.ref i2) >>= _) _ _ _
  have t23 := k2.itX (k2.itX (k2.itX t2 u1.extBut D.i2z) u2.extBut D.i12.symm) u3.extBut D.TOi2.symm
  have q23 := k2.sqX (k2.sqX (k2.sqX q2 u1.extBut D.l2z) u2.extBut D.l2i1) u3.extBut D.l2TO
  refine wpAny_bind (k2.item t23 q23 hy ?_)
  intro g4 a4 u4
  refine wpAny_pure ?_
  have o4 : IsPair g4 TO x b := u4.extBut _ _ D.TOi2 o3
  refine wpAny_bind (wpAny_seqItems o4 rfl (wpAny_bind (wpAny_updateSeq_pair o4 ?_)))
  intro g5 o5 u5
  replace o5 : IsPair g5 TO x y := o5
  refine wpAny_bind (wpAny_letGo (wpAny_pure (wpAny_pure (wpAny_bind (wpAny_seqItems o5 rfl (wpAny_bind (wpAny_newTuple ?_)))))))
  have hsz : g5.objs.size = s.heap.objs.size := by rw [u5.1, u4.1, u3.1, u2.1, u1.1]
  have z5 : IsZip g5 z TI TO .ellipsis := u5.extBut _ _ D.TOz.symm (u4.extBut _ _ D.i2z.symm (u3.extBut _ _ D.TOz.symm (u2.extBut _ _ D.i1z.symm z1)))
  have keep5 : ∀ c o, c ≠ z → c ≠ TO → c ≠ i1 → c ≠ i2 → s.heap.get? c = some o → g5.get? c = some o := by
    intro c o c1 c2 c3 c4 m
    exact u5.extBut _ _ c2 (u4.extBut _ _ c4 (u3.extBut _ _ c2 (u2.extBut _ _ c3 (u1.extBut _ _ c1 m))))
  have a5 : It1 g5 i1 l1 (n1 + 1) := k1.itX (k1.itX (k1.itX a2 u3.extBut D.TOi1.symm) u4.extBut D.i12) u5.extBut D.TOi1.symm
  have b5 : It2 g5 i2 l2 (n2 + 1) := k2.itX a4 u5.extBut D.TOi2.symm
  have zlt : z < g5.objs.size := Heap.lt_size z5
  show wpAny _ _ (Builtin.SmallTypes.ownedTupleHandOut (.ref z) (.ref g5.objs.size) >>= _) _ _ _
  refine wpAny_bind ?_
  unfold Builtin.SmallTypes.ownedTupleHandOut
  have z6 : IsZip (g5.push { cls := .type "tuple", data := .seq #[x, y] }) z TI TO .ellipsis := Heap.get?_push_of_some _ z5
  refine wpAny_bind (wpAny_setField_rec z6 (by simp) ?_)
  intro g7 z7 u7
  replace z7 : IsZip g7 z TI TO (rawInt g5.objs.size) := z7
  refine wpAny_setField_rec z7 (by simp) ?_
  intro g8 z8 u8
  replace z8 : IsZip g8 z TI TO (rawInt g5.objs.size) := z8
  have up : ∀ c o, c ≠ z → g5.get? c = some o → g8.get? c = some o := fun c o c1 m => u8.extBut _ _ c1 (u7.extBut _ _ c1 (Heap.get?_push_of_some _ m))
  have p8 : IsPair g8 g5.objs.size x y := u8.extBut _ _ (Nat.ne_of_gt zlt) (u7.extBut _ _ (Nat.ne_of_gt zlt) (Heap.get?_push_size _ rfl))
  have n8 : g8.objs.size = g5.objs.size + 1 := by rw [u8.1, u7.1, Heap.size_push]
  rw [hsz] at z8 p8 n8
  refine wpAny_pure ⟨_, rfl, ?_⟩
  show Q (.ref g5.objs.size) _
  rw [hsz]
  exact hQ g8 z8 (up _ _ D.TOz o5) (k1.itAt a5 fun o m => up _ o D.i1z m) (k2.itAt b5 fun o m => up _ o D.i2z m) p8 n8 fun c o c1 c2 c3 c4 m => up c o c1 (keep5 c o c1 c2 c3 c4 m)
theorem zipK_end (k1 : Kd It1 Sq1) (k2 : Kd It2 Sq2) {z TI TO i1 i2 l1 l2 : Addr} {n1 n2 : Nat} {xs ys : Array Value} {a b : Value} {Q : Fin → Shared → Prop} (hh : A.handled = none) (D : ZipApart z TI TO i1 i2 l1 l2)
    (hz : IsZip s.heap z TI TO .none) (hTI : IsPair s.heap TI (.ref i1) (.ref i2)) (hTO : IsPair s.heap TO a b) (t1 : It1 s.heap i1 l1 n1) (t2 : It2 s.heap i2 l2 n2) (q1 : Sq1 s.heap l1 xs) (q2 : Sq2 s.heap l2 ys) (he : xs[n1]? = none ∨ ys[n2]? = none)
    (hE : ∀ g e, (∀ c o, c ≠ z → c ≠ TO → c ≠ i1 → c ≠ i2 → s.heap.get? c = some o → g.get? c = some o) → (∃ o, g.get? e = some o ∧ o.cls = .type "StopIteration") → E (.ref e) { s with heap := g }) :
    wpAny (model prog w) A (Builtin.«zip.__next__» ⟨[.ref z], []⟩) Q E s := by
  show wpAny _ _ (field (.ref z) 2 >>= _) _ _ _
  refine wpAny_bind (wpAny_field hz rfl (x := .bool false) rfl ?_)
  show wpAny _ _ (field (.ref z) 3 >>= _) _ _ _
  refine wpAny_bind (wpAny_field hz rfl (x := .ref TI) rfl (wpAny_bind (wpAny_seqItems hTI rfl ?_)))
  show wpAny _ _ (Builtin.SmallTypes.ownedTupleIsFree (.ref z) >>= _) _ _ _
  refine wpAny_bind ?_
  unfold Builtin.SmallTypes.ownedTupleIsFree
  refine wpAny_bind (wpAny_field hz rfl (x := .none) rfl (wpAny_pure ?_))
  simp only [if_true]
  refine wpAny_bind (wpAny_rule (wpAny_bind (wpAny_field hz rfl (x := .ref TO) rfl (wpAny_bind (wpAny_setField_rec hz (by simp) ?_)))))
  intro g1 z1 u1
  replace z1 : IsZip g1 z TI TO .ellipsis := z1
  refine wpAny_bind ?_
  simp only [List.zipIdx_cons, List.zipIdx_nil, List.forIn_cons, List.forIn_nil]
  refine wpAny_bind (wpAny_bind (wpAny_onRaise ?_))
  show wpAny _ _ (Builtin.SmallTypes.nextOf (.ref i1) >>= _) _ _ _
  cases hx : xs[n1]? with
  | none =>
    refine wpAny_bind (k1.fin hh (k1.itX t1 u1.extBut D.i1z) (k1.sqX q1 u1.extBut D.l1z) hx ?_)
    rintro g2 e u2 ⟨oe, m1, m2⟩
    have z2 : IsZip g2 z TI TO .ellipsis := u2 _ _ D.i1z.symm z1
    have ez : e ≠ z := by
      rintro rfl
      rw [z2] at m1
      cases m1
      simp at m2
    refine wpAny_setField_rec z2 (by simp) ?_
    intro g3 _ u3
    exact hE g3 e (fun c o c1 _ c3 _ m => u3.extBut _ _ c1 (u2 _ _ c3 (u1.extBut _ _ c1 m))) ⟨oe, u3.extBut _ _ ez m1, m2⟩
  | some x =>
    have hy : ys[n2]? = none := he.resolve_left (by rw [hx]; exact nofun)
    refine wpAny_bind (k1.item (k1.itX t1 u1.extBut D.i1z) (k1.sqX q1 u1.extBut D.l1z) hx ?_)
    intro g2 a2 u2
    refine wpAny_pure ?_
    have o2 : IsPair g2 TO a b := u2.extBut _ _ D.TOi1 (u1.extBut _ _ D.TOz hTO)
    refine wpAny_bind (wpAny_seqItems o2 rfl (wpAny_bind (wpAny_updateSeq_pair o2 ?_)))
    intro g3 o3 u3
    refine wpAny_bind (wpAny_letGo (wpAny_pure (wpAny_bind (wpAny_bind (wpAny_onRaise ?_)))))
    show wpAny _ _ (Builtin.SmallTypes.nextOf (.ref i2) >>= _) _ _ _
    have t23 := k2.itX (k2.itX (k2.itX t2 u1.extBut D.i2z) u2.extBut D.i12.symm) u3.extBut D.TOi2.symm
    have q23 := k2.sqX (k2.sqX (k2.sqX q2 u1.extBut D.l2z) u2.extBut D.l2i1) u3.extBut D.l2TO
    refine wpAny_bind (k2.fin hh t23 q23 hy ?_)
    rintro g4 e u4 ⟨oe, m1, m2⟩
    have z4 : IsZip g4 z TI TO .ellipsis := u4 _ _ D.i2z.symm (u3.extBut _ _ D.TOz.symm (u2.extBut _ _ D.i1z.symm z1))
    have ez : e ≠ z := by
      rintro rfl
      rw [z4] at m1
      cases m1
      simp at m2
    refine wpAny_setField_rec z4 (by simp) ?_
    intro g5 _ u5
    exact hE g5 e (fun c o c1 c2 c3 c4 m => u5.extBut _ _ c1 (u4 _ _ c4 (u3.extBut _ _ c2 (u2.extBut _ _ c3 (u1.extBut _ _ c1 m))))) ⟨oe, u5.extBut _ _ ez m1, m2⟩
theorem nextK_item (k1 : Kd It1 Sq1) (k2 : Kd It2 Sq2) {z TI TO i1 i2 l1 l2 : Addr} {n1 n2 : Nat} {xs ys : Array Value} {x y a b : Value} {Q : Option Value → Shared → Prop} (D : ZipApart z TI TO i1 i2 l1 l2)
    (hz : IsZip s.heap z TI TO .none) (hTI : IsPair s.heap TI (.ref i1) (.ref i2)) (hTO : IsPair s.heap TO a b) (t1 : It1 s.heap i1 l1 n1) (t2 : It2 s.heap i2 l2 n2) (q1 : Sq1 s.heap l1 xs) (q2 : Sq2 s.heap l2 ys) (hx : xs[n1]? = some x) (hy : ys[n2]? = some y)
    (hQ : ∀ g, IsZip g z TI TO (rawInt s.heap.objs.size) → IsPair g TO x y → It1 g i1 l1 (n1 + 1) → It2 g i2 l2 (n2 + 1) → IsPair g s.heap.objs.size x y → g.objs.size = s.heap.objs.size + 1 →
      (∀ c o, c ≠ z → c ≠ TO → c ≠ i1 → c ≠ i2 → s.heap.get? c = some o → g.get? c = some o) → Q (some (.ref s.heap.objs.size)) { s with heap := g }) : wpAny (model prog w) A (pyNext (.ref z)) Q E s := by
  have hT : s.TypeIs (.ref z) "zip" := ⟨_, hz, rfl⟩
  unfold pyNext
  refine wpAny_bind (wpAny_attempt (wpAny_callSpecial?_slot (name := Str.ofString "__next__") hT F.slot_zip_next (wpAny_call_entry F.slot_zip_next hT F.entry_zip_next ?_ (F.args_zip_next_1 _))))
  exact zipK_item k1 k2 D hz hTI hTO t1 t2 q1 q2 hx hy fun g a1 a2 a3 a4 a5 a6 a7 => wpAny_pure (hQ g a1 a2 a3 a4 a5 a6 a7)
theorem nextK_end (k1 : Kd It1 Sq1) (k2 : Kd It2 Sq2) {z TI TO i1 i2 l1 l2 : Addr} {n1 n2 : Nat} {xs ys : Array Value} {a b : Value} {Q : Option Value → Shared → Prop} (hh : A.handled = none) (D : ZipApart z TI TO i1 i2 l1 l2)
    (hz : IsZip s.heap z TI TO .none) (hTI : IsPair s.heap TI (.ref i1) (.ref i2)) (hTO : IsPair s.heap TO a b) (t1 : It1 s.heap i1 l1 n1) (t2 : It2 s.heap i2 l2 n2) (q1 : Sq1 s.heap l1 xs) (q2 : Sq2 s.heap l2 ys) (he : xs[n1]? = none ∨ ys[n2]? = none)
    (hQ : ∀ g, (∀ c o, c ≠ z → c ≠ TO → c ≠ i1 → c ≠ i2 → s.heap.get? c = some o → g.get? c = some o) → Q none { s with heap := g }) : wpAny (model prog w) A (pyNext (.ref z)) Q E s := by
  have hT : s.TypeIs (.ref z) "zip" := ⟨_, hz, rfl⟩
  unfold pyNext
  refine wpAny_bind (wpAny_attempt (wpAny_callSpecial?_slot (name := Str.ofString "__next__") hT F.slot_zip_next (wpAny_call_entry F.slot_zip_next hT F.entry_zip_next ?_ (F.args_zip_next_1 _))))
  refine zipK_end k1 k2 hh D hz hTI hTO t1 t2 q1 q2 he ?_
  rintro g e hk ⟨o, m1, m2⟩
  exact wpAny_bind (wpAny_isInstance (T := "StopIteration") (b := true) ⟨o, m1, m2⟩ isSubtype_stop (wpAny_pure (hQ _ hk)))
end
end VL

set_option maxHeartbeats 2000000
namespace VL
open PySem
open PySem.Sem (wp)
/-! ### zip made of two rows of any kind -/
abbrev zk1 (n1 : String) (g : Heap) (l1 : Addr) : Heap := g.push { cls := .type n1, data := .fields #[.ref l1, .int 0 0] }
abbrev zk2 (n1 n2 : String) (g : Heap) (l1 l2 : Addr) : Heap := (zk1 n1 g l1).push { cls := .type n2, data := .fields #[.ref l2, .int 0 0] }
abbrev zk3 (n1 n2 : String) (g : Heap) (l1 l2 : Addr) : Heap := (zk2 n1 n2 g l1 l2).push { cls := .type "tuple", data := .seq #[.ref g.objs.size, .ref (zk1 n1 g l1).objs.size] }
abbrev zk4 (n1 n2 : String) (g : Heap) (l1 l2 : Addr) : Heap := (zk3 n1 n2 g l1 l2).push { cls := .type "tuple", data := .seq #[.none, .none] }
abbrev zk5 (n1 n2 : String) (g : Heap) (l1 l2 : Addr) : Heap := (zk4 n1 n2 g l1 l2).push { cls := .type "zip", data := .fields #[.none, .bool false, .bool false, .ref (zk2 n1 n2 g l1 l2).objs.size, .ref (zk3 n1 n2 g l1 l2).objs.size] }
theorem zip_newTL (l1 l2 : Addr) (xs ys : Array Value) : Meets (Builtin.«zip.__new__» ⟨[.type "zip", .ref l1, .ref l2], []⟩) (fun _ R s => s.heap.IsTuple l1 xs ∧ s.heap.IsList l2 ys ∧
    R (.ok (.ret (.ref (zk4 "tuple_iterator" "list_iterator" s.heap l1 l2).objs.size))) { s with heap := zk5 "tuple_iterator" "list_iterator" s.heap l1 l2 }) :=
  .of_wp fun prog w A R s h => by
    obtain ⟨g, e1, e2, e3, e4⟩ := s
    obtain ⟨h1, h2, h⟩ := h
    have hsub := sub_zip
    have m1 : Heap.IsTuple (Shared.heap ⟨g, e1, e2, e3, e4⟩) l1 xs := h1
    have m2 : Heap.IsList (Shared.heap ⟨g.push { cls := .type "tuple_iterator", data := .fields #[.ref l1, .int 0 0] }, e1, e2, e3, e4⟩) l2 ys := Heap.IsList.push h2 _
    wp_walk using wpAny_pyIter_tuple m1, wpAny_pyIter_list m2
    exact ⟨_, rfl, h⟩
theorem zip_newLT (l1 l2 : Addr) (xs ys : Array Value) : Meets (Builtin.«zip.__new__» ⟨[.type "zip", .ref l1, .ref l2], []⟩) (fun _ R s => s.heap.IsList l1 xs ∧ s.heap.IsTuple l2 ys ∧
    R (.ok (.ret (.ref (zk4 "list_iterator" "tuple_iterator" s.heap l1 l2).objs.size))) { s with heap := zk5 "list_iterator" "tuple_iterator" s.heap l1 l2 }) :=
  .of_wp fun prog w A R s h => by
    obtain ⟨g, e1, e2, e3, e4⟩ := s
    obtain ⟨h1, h2, h⟩ := h
    have hsub := sub_zip
    have m1 : Heap.IsList (Shared.heap ⟨g, e1, e2, e3, e4⟩) l1 xs := h1
    have m2 : Heap.IsTuple (Shared.heap ⟨g.push { cls := .type "list_iterator", data := .fields #[.ref l1, .int 0 0] }, e1, e2, e3, e4⟩) l2 ys := Heap.IsTuple.push h2 _
    wp_walk using wpAny_pyIter_list m1, wpAny_pyIter_tuple m2
    exact ⟨_, rfl, h⟩
section
variable {prog : Program} {w : World} {A : Around} {E : Value → Shared → Prop} {s : Shared}
/-- how the heap stands behind zip(l1, l2) -/
def ZipMade (n1 n2 : String) (g0 : Heap) (l1 l2 : Addr) (g : Heap) : Prop := IsZip g (g0.objs.size + 4) (g0.objs.size + 2) (g0.objs.size + 3) .none ∧ IsPair g (g0.objs.size + 2) (.ref g0.objs.size) (.ref (g0.objs.size + 1)) ∧ IsPair g (g0.objs.size + 3) .none .none ∧
  (∃ o, g.get? g0.objs.size = some o ∧ o.cls = .type n1 ∧ o.data = .fields #[.ref l1, .int 0 0]) ∧ (∃ o, g.get? (g0.objs.size + 1) = some o ∧ o.cls = .type n2 ∧ o.data = .fields #[.ref l2, .int 0 0]) ∧ ∀ c o, g0.get? c = some o → g.get? c = some o
theorem zip_made (n1 n2 : String) (g0 : Heap) (l1 l2 : Addr) : ZipMade n1 n2 g0 l1 l2 (zk5 n1 n2 g0 l1 l2) ∧ (zk4 n1 n2 g0 l1 l2).objs.size = g0.objs.size + 4 := by
  have s1 : (zk1 n1 g0 l1).objs.size = g0.objs.size + 1 := Heap.size_push ..
  have s2 : (zk2 n1 n2 g0 l1 l2).objs.size = g0.objs.size + 2 := by rw [Heap.size_push, s1]
  have s3 : (zk3 n1 n2 g0 l1 l2).objs.size = g0.objs.size + 3 := by rw [Heap.size_push, s2]
  have s4 : (zk4 n1 n2 g0 l1 l2).objs.size = g0.objs.size + 4 := by rw [Heap.size_push, s3]
  have b5 : (zk5 n1 n2 g0 l1 l2).get? (zk4 n1 n2 g0 l1 l2).objs.size = some _ := Heap.get?_push_size _ rfl
  have b4 : (zk5 n1 n2 g0 l1 l2).get? (zk3 n1 n2 g0 l1 l2).objs.size = some _ := Heap.get?_push_of_some _ (Heap.get?_push_size _ rfl)
  have b3 : (zk5 n1 n2 g0 l1 l2).get? (zk2 n1 n2 g0 l1 l2).objs.size = some _ := Heap.get?_push_of_some _ (Heap.get?_push_of_some _ (Heap.get?_push_size _ rfl))
  have b2 : (zk5 n1 n2 g0 l1 l2).get? (zk1 n1 g0 l1).objs.size = some _ := Heap.get?_push_of_some _ (Heap.get?_push_of_some _ (Heap.get?_push_of_some _ (Heap.get?_push_size _ rfl)))
  have b1 : (zk5 n1 n2 g0 l1 l2).get? g0.objs.size = some _ := Heap.get?_push_of_some _ (Heap.get?_push_of_some _ (Heap.get?_push_of_some _ (Heap.get?_push_of_some _ (Heap.get?_push_size _ rfl))))
  rw [s2, s3, s4] at b5
  rw [s1, s2] at b3
  rw [s3] at b4
  rw [s1] at b2
  exact ⟨⟨b5, b3, b4, ⟨_, b1, rfl, rfl⟩, ⟨_, b2, rfl, rfl⟩, fun c o m => Heap.get?_push_of_some _ (Heap.get?_push_of_some _ (Heap.get?_push_of_some _ (Heap.get?_push_of_some _ (Heap.get?_push_of_some _ m))))⟩, s4⟩
theorem call_zipTL {l1 l2 : Addr} {xs ys : Array Value} {Q : Value → Shared → Prop} (h1 : s.heap.IsTuple l1 xs) (h2 : s.heap.IsList l2 ys) (h : ∀ g, ZipMade "tuple_iterator" "list_iterator" s.heap l1 l2 g → Q (.ref (s.heap.objs.size + 4)) { s with heap := g }) :
    wpAny (model prog w) A (call (.type "zip") [.ref l1, .ref l2]) Q E s := by
  refine callType_new F.called_zip (by decide) (F.typeCall_zip_2 _ _) (F.newCall_zip_2 _ _) (fun obj => F.args_object_init_3 obj _ _) F.entry_zip_new (zip_newTL l1 l2 xs ys) ⟨h1, h2, ?_⟩
  obtain ⟨m, e⟩ := zip_made "tuple_iterator" "list_iterator" s.heap l1 l2
  have hz := m.1
  show _ ∧ _
  rw [e]
  exact ⟨⟨_, hz, rfl⟩, h _ m⟩
theorem call_zipLT {l1 l2 : Addr} {xs ys : Array Value} {Q : Value → Shared → Prop} (h1 : s.heap.IsList l1 xs) (h2 : s.heap.IsTuple l2 ys) (h : ∀ g, ZipMade "list_iterator" "tuple_iterator" s.heap l1 l2 g → Q (.ref (s.heap.objs.size + 4)) { s with heap := g }) :
    wpAny (model prog w) A (call (.type "zip") [.ref l1, .ref l2]) Q E s := by
  refine callType_new F.called_zip (by decide) (F.typeCall_zip_2 _ _) (F.newCall_zip_2 _ _) (fun obj => F.args_object_init_3 obj _ _) F.entry_zip_new (zip_newLT l1 l2 xs ys) ⟨h1, h2, ?_⟩
  obtain ⟨m, e⟩ := zip_made "list_iterator" "tuple_iterator" s.heap l1 l2
  have hz := m.1
  show _ ∧ _
  rw [e]
  exact ⟨⟨_, hz, rfl⟩, h _ m⟩
end
end VL

set_option maxHeartbeats 2000000
namespace VL
open PySem PySem.Spec PyProof.Rows L2
/-- a kind of row, among the tracked ones -/
structure Kv (Sv : Fg → Hp → Addr → List V → Prop) (Sq : Heap → Addr → Array Value → Prop) : Prop where
  to : ∀ {X : Cx} {pins : List (Addr × Obj)} {σ : L2.St} {H : Hp} {s : Shared} {a : Addr} {xs : List V}, Inv X pins σ H s → Sv X.K H a xs → ∃ its, Vals xs its ∧ Sq s.heap a its.toArray ∧ a < s.heap.objs.size
  inj : ∀ {X : Cx} {pins : List (Addr × Obj)} {σ : L2.St} {H : Hp} {s : Shared} {a : Addr} {xs ys : List V}, Inv X pins σ H s → Sv X.K H a xs → Sv X.K H a ys → xs = ys
theorem kvL : Kv SqL Heap.IsList := ⟨fun I h => let ⟨its, r, p, _⟩ := I.list h; ⟨its, r, p.isList, p.lt⟩, fun I h1 h2 => I.list_inj h1 h2⟩
theorem kvT : Kv SqT Heap.IsTuple := ⟨fun I h => let ⟨its, r, p, _⟩ := I.tuple h; ⟨its, r, p, let ⟨o, e, _⟩ := id p; Heap.lt_size e⟩, fun I h1 h2 => I.tuple_inj h1 h2⟩
section
variable {P : Program} {w : World} {K : Fg} {S1 S2 : Fg → Hp → Addr → List V → Prop} {It1 It2 : Heap → Addr → Addr → Nat → Prop} {Sq1 Sq2 : Heap → Addr → Array Value → Prop}
def ItzK (S1 S2 : Fg → Hp → Addr → List V → Prop) (K : Fg) (a b : Addr) : It where
  go := fun i H => ∃ (xs ys : List V) (x y : V), S1 K H a xs ∧ S2 K H b ys ∧ xs[i]? = some x ∧ ys[i]? = some y
  yld := fun i H v H2 => ∃ T x y, v = .ref T ∧ H T = none ∧ H2 = upd H T (.tup [x, y]) ∧ (∀ xs, S1 K H a xs → xs[i]? = some x) ∧ ∀ ys, S2 K H b ys → ys[i]? = some y
  stop := fun i H => ∃ xs ys : List V, S1 K H a xs ∧ S2 K H b ys ∧ (xs.length ≤ i ∨ ys.length ≤ i)
theorem five {z TI TO i1 i2 c : Addr} (h : c ∈ [z, TI, TO, i1, i2]) : c = z ∨ c = TI ∨ c = TO ∨ c = i1 ∨ c = i2 := by simpa using h
theorem turn_zipK (k1 : Kd It1 Sq1) (k2 : Kd It2 Sq2) (v1 : Kv S1 Sq1) (v2 : Kv S2 Sq2) {elts : List Expr} {kk : Nat} {tpos : Pos} {a b z TI TO i1 i2 : Addr} (D : ZipApart z TI TO i1 i2 a b) :
    Turn P w K (.Tuple elts kk tpos) (ItzK S1 S2 K a b) [z, TI, TO, i1, i2] z (fun i g => IsZip g z TI TO .none ∧ IsPair g TI (.ref i1) (.ref i2) ∧ (∃ x y, IsPair g TO x y) ∧ It1 g i1 a i ∧ It2 g i2 b i) where
  mem := by simp
  obj := by
    rintro i g ⟨hz, hI, ⟨x, y, hO⟩, t1, t2⟩ c hc
    rcases five hc with rfl | rfl | rfl | rfl | rfl
    · exact ⟨_, hz, fun v m => nomatch m⟩
    · exact ⟨_, hI, fun v m => nomatch m⟩
    · exact ⟨_, hO, fun v m => nomatch m⟩
    · exact k1.itGet t1
    · exact k2.itGet t2
  keep := by
    rintro i g g' ⟨hz, hI, ⟨x, y, hO⟩, t1, t2⟩ k
    exact ⟨k z (by simp) _ hz, k TI (by simp) _ hI, ⟨x, y, k TO (by simp) _ hO⟩, k1.itAt t1 fun o m => k i1 (by simp) o m, k2.itAt t2 fun o m => k i2 (by simp) o m⟩
  item := by
    intro X hP hw hK hc i pins s σ H E I hf st hg
    subst hP hw hK
    obtain ⟨hz, hI, ⟨x0, y0, hO⟩, t1, t2⟩ := st
    obtain ⟨xs, ys, x, y, sx, sy, gx, gy⟩ := hg
    obtain ⟨us, r1, p1, _⟩ := v1.to I sx
    obtain ⟨ws, r2, p2, _⟩ := v2.to I sy
    obtain ⟨u, hu, ru⟩ := r1.get gx
    obtain ⟨u', hu', ru'⟩ := r2.get gy
    have zl : z < s.heap.objs.size := Heap.lt_size hz
    refine nextK_item k1 k2 D hz hI hO t1 t2 p1 p2 (x := u) (y := u') (by simpa using hu) (by simpa using hu') ?_
    intro g z1 O1 a1 a2 hT hsz hk
    refine ⟨_, rfl, wpAny_letOwnedTupleGo_zip (s := { s with heap := g }) z1 ?_⟩
    intro g2 z2 sb
    have hT2 : g2.get? s.heap.objs.size = some { cls := .type "tuple", data := .seq #[u, u'] } := (sb.2 _ (Nat.ne_of_gt zl)).trans hT
    have new : ObjOk X.prog X.w (upd H s.heap.objs.size (.tup [x, y])) g2 s.heap.objs.size (.tup [x, y]) := ⟨by show 2 ≤ sizeLine; decide, [u, u'], .cons ru (.cons ru' .nil), ⟨_, hT2, rfl, _, rfl⟩⟩
    have I1 : Inv X pins σ (upd H s.heap.objs.size (.tup [x, y])) { s with heap := g2 } := by
      refine I.turnedNew (t' := s.toks) (ch := [z, TI, TO, i1, i2]) (fun c o hb m => ?_) hf (Nat.le_refl _) new
      have n1 : c ≠ z := fun e => hb (by simp [e])
      have n2 : c ≠ TO := fun e => hb (by simp [e])
      have n3 : c ≠ i1 := fun e => hb (by simp [e])
      have n4 : c ≠ i2 := fun e => hb (by simp [e])
      exact (sb.2 c n1).trans (hk c o n1 n2 n3 n4 m)
    refine ⟨.ref s.heap.objs.size, _, I1, rfl, ⟨_, x, y, rfl, I.hok.fresh (Nat.le_refl _), rfl, fun l hl => by rw [v1.inj I hl sx]; exact gx, fun l hl => by rw [v2.inj I hl sy]; exact gy⟩, ⟨z2, ?_, ⟨u, u', ?_⟩, ?_, ?_⟩, fun c hcm => ?_⟩
    · exact (sb.2 _ D.TIz).trans (hk _ _ D.TIz D.TITO D.TIi1 D.TIi2 hI)
    · exact (sb.2 _ D.TOz).trans O1
    · exact k1.itAt a1 fun o m => (sb.2 _ D.i1z).trans m
    · exact k2.itAt a2 fun o m => (sb.2 _ D.i2z).trans m
    · have hlt : c < s.heap.objs.size := by
        rcases five hcm with rfl | rfl | rfl | rfl | rfl
        · exact zl
        · exact Heap.lt_size hI
        · exact Heap.lt_size hO
        · obtain ⟨_, m, _⟩ := k1.itGet t1; exact Heap.lt_size m
        · obtain ⟨_, m, _⟩ := k2.itGet t2; exact Heap.lt_size m
      rw [upd_ne (Nat.ne_of_lt hlt)]
      exact (hf c hcm).1
  done := by
    intro X hP hw hK hc i pins s σ H E I hf st hg
    subst hP hw hK
    obtain ⟨hz, hI, ⟨x0, y0, hO⟩, t1, t2⟩ := st
    obtain ⟨xs, ys, sx, sy, hend⟩ := hg
    obtain ⟨us, r1, p1, _⟩ := v1.to I sx
    obtain ⟨ws, r2, p2, _⟩ := v2.to I sy
    have l1 := r1.length
    have l2 := r2.length
    have he : us.toArray[i]? = none ∨ ws.toArray[i]? = none := hend.imp (fun m => by simp; omega) fun m => by simp; omega
    refine nextK_end k1 k2 (I.ok.hd hc) D hz hI hO t1 t2 p1 p2 he ?_
    intro g hk
    refine ⟨rfl, I.turnedL (t' := s.toks) (ch := [z, TI, TO, i1, i2]) (fun c o hb m => ?_) hf⟩
    exact hk c o (fun e => hb (by simp [e])) (fun e => hb (by simp [e])) (fun e => hb (by simp [e])) (fun e => hb (by simp [e])) m
  self := fun A i s Q E st h => wpAny_pyIter_zip st.1 h
end
def iZipK (K : Fg) (ta : TA) : TI := fun σ H R => ta σ H fun vs H1 => ∃ a b xs ys, vs = [.ref a, .ref b] ∧ ((SqT K H1 a xs ∧ SqL K H1 b ys ∧ R (ItzK SqT SqL K a b) H1) ∨ (SqL K H1 a xs ∧ SqT K H1 b ys ∧ R (ItzK SqL SqT K a b) H1) ∨ (SqL K H1 a xs ∧ SqL K H1 b ys ∧ R (ItzK SqL SqL K a b) H1) ∨ (SqT K H1 a xs ∧ SqT K H1 b ys ∧ R (ItzK SqT SqT K a b) H1))
theorem pi_zipK {X : Cx} {e e2 : Expr} {ta : TA} {p pos tpos : Pos} {elts : List Expr} {kk : Nat} (hg : Gl X "zip") (hm : X.mg "zip" = none) (ha : PA X [e, e2] ta)
    (hs : starEach [e, e2] X.env = (false, eval e X.env) :: starEach [e2] X.env := by rfl) (hpl : (backTo pos (starEach [e2] X.env)).any (·.1) = false := by rfl) : PI X (.Tuple elts kk tpos) (.Call (.Name "zip" p) [e, e2] [] pos) (iZipK X.K ta) := by
  constructor
  intro pins s σ H R I h
  refine Call_ (ld_blt I hg hm PyProof.Rows.boot_zip (PyProof.Rows.callWith_type1 (thn (ha.run pos pins s σ H _ I h) ?_) hs hpl))
  rintro us s1 ⟨vs, H1, I1, r1, a, b, xs, ys, rfl, q1⟩
  cases r1 with
  | cons r rr =>
  cases rr with
  | cons r' rr =>
  cases rr
  cases r
  cases r'
  have fresh : ∀ c, c ∈ [s1.heap.objs.size + 4, s1.heap.objs.size + 2, s1.heap.objs.size + 3, s1.heap.objs.size, s1.heap.objs.size + 1] → FpOk X pins H1 c := by
    intro c hc
    have hle : s1.heap.objs.size ≤ c := by rcases five hc with rfl | rfl | rfl | rfl | rfl <;> omega
    exact I1.fpOk hle (I1.hok.fresh hle)
  rcases q1 with ⟨sx, sy, q⟩ | ⟨sx, sy, q⟩ | ⟨sx, sy, q⟩ | ⟨sx, sy, q⟩
  · obtain ⟨its, rv, p1, n1⟩ := kvT.to I1 sx
    obtain ⟨its2, rv2, p2, n2⟩ := kvL.to I1 sy
    refine call_zipTL p1 p2 ?_
    rintro g ⟨hz, hI, hO, t1, t2, hk⟩
    refine wpAny_pyIter_zip hz ?_
    have I2 : Inv X pins σ H1 { s1 with heap := g } := I1.kept (t' := s1.toks) hk
    exact ⟨s1.heap.objs.size + 4, _, _, _, H1, rfl, I2, turn_zipK kdT kdL kvT kvL (PySem.W.ktu_apart s1.heap.objs.size a b n1 n2), ⟨hz, hI, ⟨_, _, hO⟩, t1, t2⟩, fresh, q⟩
  · obtain ⟨its, rv, p1, n1⟩ := kvL.to I1 sx
    obtain ⟨its2, rv2, p2, n2⟩ := kvT.to I1 sy
    refine call_zipLT p1 p2 ?_
    rintro g ⟨hz, hI, hO, t1, t2, hk⟩
    refine wpAny_pyIter_zip hz ?_
    have I2 : Inv X pins σ H1 { s1 with heap := g } := I1.kept (t' := s1.toks) hk
    exact ⟨s1.heap.objs.size + 4, _, _, _, H1, rfl, I2, turn_zipK kdL kdT kvL kvT (PySem.W.ktu_apart s1.heap.objs.size a b n1 n2), ⟨hz, hI, ⟨_, _, hO⟩, t1, t2⟩, fresh, q⟩
  · obtain ⟨its, rv, p1, n1⟩ := kvL.to I1 sx
    obtain ⟨its2, rv2, p2, n2⟩ := kvL.to I1 sy
    refine call_zip_2 p1 p2 ?_
    intro g hz hI hO t1 t2 _ hk
    refine wpAny_pyIter_zip hz ?_
    have I2 : Inv X pins σ H1 { s1 with heap := g } := I1.kept (t' := s1.toks) hk
    exact ⟨s1.heap.objs.size + 4, _, _, _, H1, rfl, I2, turn_zipK kdL kdL kvL kvL (PySem.W.ktu_apart s1.heap.objs.size a b n1 n2), ⟨hz, hI, ⟨_, _, hO⟩, t1, t2⟩, fresh, q⟩
  · obtain ⟨its, rv, p1, n1⟩ := kvT.to I1 sx
    obtain ⟨its2, rv2, p2, n2⟩ := kvT.to I1 sy
    refine RZ.call_zipT p1 p2 ?_
    intro g hz hI hO t1 t2 _ hk
    refine wpAny_pyIter_zip hz ?_
    have I2 : Inv X pins σ H1 { s1 with heap := g } := I1.kept (t' := s1.toks) hk
    exact ⟨s1.heap.objs.size + 4, _, _, _, H1, rfl, I2, turn_zipK kdT kdT kvT kvT (PySem.W.ktu_apart s1.heap.objs.size a b n1 n2), ⟨hz, hI, ⟨_, _, hO⟩, t1, t2⟩, fresh, q⟩
/-- rows as data: a list, a tuple -/
def RowAt (Sv : Fg → Hp → Addr → List V → Prop) (K : Fg) (F1 : Hp) (p : Addr) (vs : List V) : Prop := ∀ H, Same F1 H → Sv K H p vs
theorem wk_zipK {K : Fg} {F1 : Hp} {S1 S2 : Fg → Hp → Addr → List V → Prop} {Sq1 Sq2 : Heap → Addr → Array Value → Prop} {p q : Addr} {vs us : List V} {ds es : List D} (h : RowAt S1 K F1 p vs) (h' : RowAt S2 K F1 q us) (r : Reps K F1 ds vs) (r' : Reps K F1 es us) : Wk K F1 (zipL ds es) (ItzK S1 S2 K p q) where
  go := fun F H i s1 s2 hi => by
    unfold zipL at hi
    rw [List.length_zipWith] at hi
    have n1 : i < vs.length := by rw [r.length]; omega
    have n2 : i < us.length := by rw [r'.length]; omega
    exact ⟨vs, us, vs[i], us[i], h H (s1.trans s2), h' H (s1.trans s2), by simp [n1], by simp [n2]⟩
  yld := fun F H H' i d x s1 s2 e y => by
    obtain ⟨T, x1, x2, e1, hT, e2, y1, y2⟩ := y
    subst e2
    have q1 := y1 vs (h H (s1.trans s2))
    have q2 := y2 us (h' H (s1.trans s2))
    unfold zipL at e
    rw [List.getElem?_zipWith] at e
    cases z1 : ds[i]? with
    | none => rw [z1] at e; cases e
    | some d1 =>
      cases z2 : es[i]? with
      | none => rw [z1, z2] at e; cases e
      | some d2 =>
        rw [z1, z2] at e
        cases e
        obtain ⟨v, e5, rv⟩ := r.get z1
        obtain ⟨u, e6, ru⟩ := r'.get z2
        rw [q1] at e5
        rw [q2] at e6
        cases e5
        cases e6
        have fT := s2.free hT
        exact ⟨_, .tup hT, T, _, e1, .inl upd_same, _, _, rfl, Rep.mono (s1.trans (Same.upd fT)) _ _ rv, _, _, rfl, Rep.mono (s1.trans (Same.upd fT)) _ _ ru, rfl⟩
  stop := fun F H i s1 s2 hi => by
    unfold zipL at hi
    rw [List.length_zipWith] at hi
    refine ⟨vs, us, h H (s1.trans s2), h' H (s1.trans s2), ?_⟩
    rw [r.length, r'.length]
    omega
def riZipA (r : RF) : RI := fun ρ Q => r ρ fun ds ρ1 => match ds with
  | [.lst xs, .lst ys] => Q (zipL xs ys) ρ1
  | [.tup xs, .tup ys] => Q (zipL xs ys) ρ1
  | [.tup xs, .lst ys] => Q (zipL xs ys) ρ1
  | [.lst xs, .tup ys] => Q (zipL xs ys) ρ1
  | _ => False
theorem vi_zipA {X : Cx} {a b : Expr} {p pos tpos : Pos} {elts : List Expr} {kk : Nat} {r : RF} (hg : Gl X "zip") (hm : X.mg "zip" = none) (ha : VF X [a, b] r)
    (hs : starEach [a, b] X.env = (false, eval a X.env) :: starEach [b] X.env := by rfl) (hpl : (backTo pos (starEach [b] X.env)).any (·.1) = false := by rfl) : VI X (.Tuple elts kk tpos) (.Call (.Name "zip" p) [a, b] [] pos) (riZipA r) := by
  refine PI.weak (pi_zipK hg hm ha hs hpl) ?_
  rintro σ H R ⟨S, F, ρ, tmp, Q, h, hr, w⟩
  refine tVF.mk h hr fun vs H1 ⟨F1, ρ1, ds, s1, h1, v1, q1⟩ => ?_
  have sub : Same F1 H1 := by obtain ⟨_, h1⟩ := h1; exact h1.sub
  cases ds with
  | nil => exact q1.elim
  | cons d r =>
    cases r with
    | nil => cases d <;> exact q1.elim
    | cons d2 r =>
      cases r with
      | cons _ _ => cases d <;> first | exact q1.elim | (cases d2 <;> exact q1.elim)
      | nil =>
        obtain ⟨v, u, e, rv, u2, t, e2, rv2, ru⟩ := v1
        cases ru
        subst e2
        cases d with
        | lst xs =>
          obtain ⟨p1, vs1, e3, hp1, rr1⟩ := rv
          subst e3
          have a1 : RowAt SqL X.K F1 p1 vs1 := fun G sG => .inl (.inl (sG _ _ hp1))
          cases d2 with
          | lst ys =>
            obtain ⟨p2, vs2, e4, hp2, rr2⟩ := rv2
            subst e4
            have a2 : RowAt SqL X.K F1 p2 vs2 := fun G sG => .inl (.inl (sG _ _ hp2))
            exact ⟨p1, p2, vs1, vs2, e, .inr (.inr (.inl ⟨a1 _ sub, a2 _ sub, w _ _ ⟨F1, ρ1, _, s1, h1, wk_zipK (Sq1 := Heap.IsList) (Sq2 := Heap.IsList) a1 a2 rr1 rr2, q1⟩⟩))⟩
          | tup ys =>
            obtain ⟨p2, vs2, e4, hp2, rr2⟩ := rv2
            subst e4
            have a2 : RowAt SqT X.K F1 p2 vs2 := fun G sG => hp2.sq sG
            exact ⟨p1, p2, vs1, vs2, e, .inr (.inl ⟨a1 _ sub, a2 _ sub, w _ _ ⟨F1, ρ1, _, s1, h1, wk_zipK (Sq1 := Heap.IsList) (Sq2 := Heap.IsTuple) a1 a2 rr1 rr2, q1⟩⟩)⟩
          | _ => exact q1.elim
        | tup xs =>
          obtain ⟨p1, vs1, e3, hp1, rr1⟩ := rv
          subst e3
          have a1 : RowAt SqT X.K F1 p1 vs1 := fun G sG => hp1.sq sG
          cases d2 with
          | lst ys =>
            obtain ⟨p2, vs2, e4, hp2, rr2⟩ := rv2
            subst e4
            have a2 : RowAt SqL X.K F1 p2 vs2 := fun G sG => .inl (.inl (sG _ _ hp2))
            exact ⟨p1, p2, vs1, vs2, e, .inl ⟨a1 _ sub, a2 _ sub, w _ _ ⟨F1, ρ1, _, s1, h1, wk_zipK (Sq1 := Heap.IsTuple) (Sq2 := Heap.IsList) a1 a2 rr1 rr2, q1⟩⟩⟩
          | tup ys =>
            obtain ⟨p2, vs2, e4, hp2, rr2⟩ := rv2
            subst e4
            have a2 : RowAt SqT X.K F1 p2 vs2 := fun G sG => hp2.sq sG
            exact ⟨p1, p2, vs1, vs2, e, .inr (.inr (.inr ⟨a1 _ sub, a2 _ sub, w _ _ ⟨F1, ρ1, _, s1, h1, wk_zipK (Sq1 := Heap.IsTuple) (Sq2 := Heap.IsTuple) a1 a2 rr1 rr2, q1⟩⟩))⟩
          | _ => exact q1.elim
        | _ => exact q1.elim
end VL

namespace VL
open PySem PySem.Spec PyProof.Rows L2

/-! ### a test that is one or another -/
section
variable {X : Cx} {c a b : Expr} {pos : Pos}
end
end VL

namespace VL
open PySem PySem.Spec PyProof.Rows L2

/-! ### repr of any plain data -/
def gShowA : GN := g1 fun d R => (∃ B m, B ≤ 1900 ∧ m ≤ 60 ∧ d.dat B m) ∧ d.sz ≤ 16000000 ∧ R (.str d.px.shown) 0
theorem gShowA.to {d : D} {R : D → Nat → Prop} {B m : Nat} (hd : d.dat B m) (hB : B ≤ 1900) (hm : m ≤ 60) (hz : d.sz ≤ 16000000) (h : R (.str d.px.shown) 0) : gShowA [d] R := ⟨⟨B, m, hB, hm, hd⟩, hz, h⟩
theorem cut_mem {ds : List D} {lo hi : Option Int} {d : D} (h : d ∈ cutL ds lo hi) : d ∈ ds := by
  unfold cutL at h
  exact List.mem_of_mem_drop (List.mem_of_mem_take h)
theorem cut_len (ds : List D) (lo hi : Option Int) : (cutL ds lo hi).length ≤ ds.length := by
  unfold cutL
  rw [List.length_take, List.length_drop]
  omega
theorem lit3 {r : RS} {E : EN} {ρ : Ev} {a0 a1 a2 : Sl} (h : ρ = [a0, a1, a2]) (k : r [a0, a1, a2] E) : r ρ E := by rw [h]; exact k
theorem lit5 {r : RS} {E : EN} {ρ : Ev} {a0 a1 a2 a3 a4 : Sl} (h : ρ = [a0, a1, a2, a3, a4]) (k : r [a0, a1, a2, a3, a4] E) : r ρ E := by rw [h]; exact k
theorem lit7 {r : RS} {E : EN} {ρ : Ev} {a0 a1 a2 a3 a4 a5 a6 : Sl} (h : ρ = [a0, a1, a2, a3, a4, a5, a6]) (k : r [a0, a1, a2, a3, a4, a5, a6] E) : r ρ E := by rw [h]; exact k
theorem lit8 {r : RS} {E : EN} {ρ : Ev} {a0 a1 a2 a3 a4 a5 a6 a7 : Sl} (h : ρ = [a0, a1, a2, a3, a4, a5, a6, a7]) (k : r [a0, a1, a2, a3, a4, a5, a6, a7] E) : r ρ E := by rw [h]; exact k
theorem lit9 {r : RS} {E : EN} {ρ : Ev} {a0 a1 a2 a3 a4 a5 a6 a7 a8 : Sl} (h : ρ = [a0, a1, a2, a3, a4, a5, a6, a7, a8]) (k : r [a0, a1, a2, a3, a4, a5, a6, a7, a8] E) : r ρ E := by rw [h]; exact k
theorem lit18 {r : RS} {E : EN} {ρ : Ev} {a0 a1 a2 a3 a4 a5 a6 a7 a8 a9 a10 a11 a12 a13 a14 a15 a16 a17 : Sl} (h : ρ = [a0, a1, a2, a3, a4, a5, a6, a7, a8, a9, a10, a11, a12, a13, a14, a15, a16, a17]) (k : r [a0, a1, a2, a3, a4, a5, a6, a7, a8, a9, a10, a11, a12, a13, a14, a15, a16, a17] E) : r ρ E := by rw [h]; exact k
end VL


set_option maxHeartbeats 2000000
namespace VL
open PySem PySem.Spec PyProof.Rows L2
local macro_rules | `(tactic| walk_at "v") => `(tactic| repeat (first | refine ⟨rfl, ?_⟩ | refine ⟨_, rfl, ?_⟩))
local macro_rules | `(tactic| walk_at "y") => `(tactic| refine ⟨fun _ => ?_, fun h => Bool.noConfusion (show true = false from h)⟩)
local macro_rules | `(tactic| walk_at "n") => `(tactic| refine ⟨fun h => Bool.noConfusion (show false = true from h), fun _ => ?_⟩)
local macro_rules | `(tactic| walk_at "ty") => `(tactic| refine ⟨_, rfl, by decide, ?_⟩)
local macro_rules | `(tactic| walk_at "tys") => `(tactic| refine ⟨_, rfl, _, rfl, by decide, ?_⟩)
local macro_rules | `(tactic| walk_at "z") => `(tactic| repeat (first | refine ⟨rfl, ?_⟩ | refine ⟨_, rfl, ?_⟩ | refine ⟨fun _ => ?_, fun h => Bool.noConfusion (show true = false from h)⟩ | refine ⟨fun h => Bool.noConfusion (show false = true from h), fun _ => ?_⟩ | refine ⟨tyIn rfl, ?_⟩ | refine ⟨tysIn rfl, ?_⟩ | refine ⟨smallL rfl, ?_⟩ | refine ⟨smallE rfl, ?_⟩))
local macro_rules | `(tactic| walk_at "zz") => `(tactic| repeat ((fail_if_success show forL _ _ _ _ _); first | refine ⟨rfl, ?_⟩ | refine ⟨_, rfl, ?_⟩ | refine ⟨fun _ => ?_, fun h => Bool.noConfusion (show true = false from h)⟩ | refine ⟨fun h => Bool.noConfusion (show false = true from h), fun _ => ?_⟩ | refine ⟨tyIn rfl, ?_⟩ | refine ⟨tysIn rfl, ?_⟩ | refine ⟨smallL rfl, ?_⟩ | refine ⟨smallE rfl, ?_⟩))
/-! ### places within a thing -/
def kids : D → List D
  | .tup xs => xs
  | .lst xs => xs
  | _ => []
def atP (d : D) : List Nat → Option D
  | [] => some d
  | i :: p => match (kids d)[i]? with
    | some x => atP x p
    | none => none
def dPt (p : List Nat) : D := .tup (p.map fun (i : Nat) => .int i)
@[irreducible] def sp_l_places : ASp := fun ds R => ∃ (d : D) (L B m : Nat), ds = [d] ∧ d.dab L B m ∧ L ≤ 900 ∧ d.sz ≤ 4000000 ∧ ∀ ps : List (List Nat), ps.length ≤ 16000010 → (∀ p ∈ ps, p ≠ [] ∧ p.length ≤ 8 ∧ ∃ x, atP d p = some x) → R (.lst (ps.map dPt)) 1 []
theorem sp_l_places.mk {d : D} {L B m : Nat} {R : RR} (h1 : d.dab L B m) (h2 : L ≤ 900) (h3 : d.sz ≤ 4000000) (h : ∀ ps : List (List Nat), ps.length ≤ 16000010 → (∀ p ∈ ps, p ≠ [] ∧ p.length ≤ 8 ∧ ∃ x, atP d p = some x) → R (.lst (ps.map dPt)) 1 []) : sp_l_places [d] R := by
  unfold sp_l_places; exact ⟨d, L, B, m, rfl, h1, h2, h3, h⟩
/-- the thing with made ahead of, behind which the rest -/
def wth (d : D) (made : List D) : List Nat → D
  | [] => d
  | i :: p =>
    let r := match p with
      | [] => (kids d).take i ++ made ++ (kids d).drop (i + 1)
      | _ :: _ => match (kids d)[i]? with
        | some x => (kids d).set i (wth x made p)
        | none => []
    match d with
    | .lst _ => .lst r
    | _ => .tup r
@[irreducible] def sp_l_with (m : Nat) : ASp := fun ds R => ∃ (d x : D) (p : List Nat) (made : List D) (L B j : Nat), ds = [d, dPt p, .lst made] ∧ p ≠ [] ∧ p.length ≤ m + 1 ∧ p.length ≤ 100 ∧ d.dab L B j ∧ L ≤ 900 ∧ atP d p = some x ∧ made.length ≤ 2 ∧ R (wth d made p) 0 []
theorem sp_l_with.mk {m : Nat} {d x : D} {p : List Nat} {made : List D} {L B j : Nat} {R : RR} (h1 : p ≠ []) (h2 : p.length ≤ m + 1) (h3 : p.length ≤ 100) (h4 : d.dab L B j) (h5 : L ≤ 900) (h6 : atP d p = some x) (h7 : made.length ≤ 2) (h : R (wth d made p) 0 []) : sp_l_with m [d, dPt p, .lst made] R := by
  unfold sp_l_with; exact ⟨d, x, p, made, L, B, j, rfl, h1, h2, h3, h4, h5, h6, h7, h⟩
@[irreducible] def sp_l_bent_24dffe : ASp := fun ds R => ∃ (t : Tp) (d : D) (n L B m : Nat), ds = [dT t, d] ∧ d.dab L B m ∧ 1 ≤ L ∧ L ≤ 400 ∧ 1 ≤ B ∧ B ≤ 1900 ∧ t.ok (n + 1) ∧ ∀ r t', r.dab (L + 1) (B + 2) (m + 1) → r.sz ≤ 2 * d.sz + 22000 → t'.ok n → R r 0 [dT t']
theorem sp_l_bent_24dffe.mk {t : Tp} {d : D} {R : RR} (n : Nat) {L B m : Nat} (hd : d.dab L B m) (h1 : 1 ≤ L) (h2 : L ≤ 400) (h3 : 1 ≤ B) (h4 : B ≤ 1900) (ht : t.ok (n + 1)) (h : ∀ r t', r.dab (L + 1) (B + 2) (m + 1) → r.sz ≤ 2 * d.sz + 22000 → t'.ok n → R r 0 [dT t']) : sp_l_bent_24dffe [dT t, d] R := by
  unfold sp_l_bent_24dffe; exact ⟨t, d, n, L, B, m, rfl, hd, h1, h2, h3, h4, ht, h⟩
@[irreducible] def sp_l_spoilt : ASp := fun ds R => ∃ (t : Tp) (d : D) (n L B m : Nat), ds = [dT t, d] ∧ d.dab L B m ∧ 1 ≤ L ∧ L ≤ 400 ∧ 1 ≤ B ∧ B ≤ 1900 ∧ d.sz ≤ 4000000 ∧ t.ok (n + 3) ∧ ∀ r t', r.dab (L + 1) (B + 2) (m + 1) → r.sz ≤ 4 * d.sz + 22300 → t'.ok n → R r 0 [dT t']
theorem sp_l_spoilt.mk {t : Tp} {d : D} {R : RR} (n : Nat) {L B m : Nat} (hd : d.dab L B m) (h1 : 1 ≤ L) (h2 : L ≤ 400) (h3 : 1 ≤ B) (h4 : B ≤ 1900) (h5 : d.sz ≤ 4000000) (ht : t.ok (n + 3)) (h : ∀ r t', r.dab (L + 1) (B + 2) (m + 1) → r.sz ≤ 4 * d.sz + 22300 → t'.ok n → R r 0 [dT t']) : sp_l_spoilt [dT t, d] R := by
  unfold sp_l_spoilt; exact ⟨t, d, n, L, B, m, rfl, hd, h1, h2, h3, h4, h5, ht, h⟩
def Lay (d : D) (k : Nat) (qs : List (List Nat × D)) : Prop := ∀ q ∈ qs, q.1.length = k ∧ atP d q.1 = some q.2
theorem Lay.app {d : D} {k : Nat} {a b : List (List Nat × D)} (h1 : Lay d k a) (h2 : Lay d k b) : Lay d k (a ++ b) := fun q hq => (List.mem_append.mp hq).elim (h1 q) (h2 q)
theorem atI_last {α : Type} (xs : List α) (y : α) : atI (xs ++ [y]) (-1) = some y := by
  have e : ixN (xs ++ [y]).length (-1) = some xs.length := by
    unfold ixN
    rw [if_neg (by decide), if_pos (by rw [List.length_append, List.length_singleton]; omega)]
    congr 1
    rw [List.length_append, List.length_singleton]
    omega
  unfold atI
  rw [e]
  show (xs ++ [y])[xs.length]? = some y
  simp
theorem cut_init (xs : List D) (y : D) : cutL (xs ++ [y]) none (some (-1)) = xs := by
  have e : HT.sIx (xs ++ [y]).length (xs ++ [y]).length (some (-1)) = xs.length := by
    show (if (-1 : Int) < 0 then ((-1 : Int) + ((xs ++ [y]).length : Int)).toNat else min (-1 : Int).toNat (xs ++ [y]).length) = _
    rw [if_pos (by decide), List.length_append, List.length_singleton]
    omega
  unfold cutL
  rw [HT.sIx_none, e, List.drop_zero, Nat.sub_zero, List.take_left]
end VL


set_option maxHeartbeats 2000000
namespace VL
open PySem PySem.Spec PyProof.Rows L2
local macro_rules | `(tactic| walk_at "v") => `(tactic| repeat (first | refine ⟨rfl, ?_⟩ | refine ⟨_, rfl, ?_⟩))
local macro_rules | `(tactic| walk_at "y") => `(tactic| refine ⟨fun _ => ?_, fun h => Bool.noConfusion (show true = false from h)⟩)
local macro_rules | `(tactic| walk_at "n") => `(tactic| refine ⟨fun h => Bool.noConfusion (show false = true from h), fun _ => ?_⟩)
local macro_rules | `(tactic| walk_at "ty") => `(tactic| refine ⟨_, rfl, by decide, ?_⟩)
local macro_rules | `(tactic| walk_at "tys") => `(tactic| refine ⟨_, rfl, _, rfl, by decide, ?_⟩)
local macro_rules | `(tactic| walk_at "z") => `(tactic| repeat (first | refine ⟨rfl, ?_⟩ | refine ⟨_, rfl, ?_⟩ | refine ⟨fun _ => ?_, fun h => Bool.noConfusion (show true = false from h)⟩ | refine ⟨fun h => Bool.noConfusion (show false = true from h), fun _ => ?_⟩ | refine ⟨tyIn rfl, ?_⟩ | refine ⟨tysIn rfl, ?_⟩ | refine ⟨smallL rfl, ?_⟩ | refine ⟨smallE rfl, ?_⟩))
local macro_rules | `(tactic| walk_at "zz") => `(tactic| repeat ((fail_if_success show forL _ _ _ _ _); first | refine ⟨rfl, ?_⟩ | refine ⟨_, rfl, ?_⟩ | refine ⟨fun _ => ?_, fun h => Bool.noConfusion (show true = false from h)⟩ | refine ⟨fun h => Bool.noConfusion (show false = true from h), fun _ => ?_⟩ | refine ⟨tyIn rfl, ?_⟩ | refine ⟨tysIn rfl, ?_⟩ | refine ⟨smallL rfl, ?_⟩ | refine ⟨smallE rfl, ?_⟩))
/-! ### a land drawn is a land -/
end VL

namespace VL
open PySem PySem.Spec PyProof.Rows L2

/-! ### lent: all that is owned is read only while an expression runs that tells a number, a truth, a text or None -/
def scal : D → Bool
  | .non => true
  | .bl _ => true
  | .int _ => true
  | .str _ => true
  | _ => false
section
variable {K : Fg} {S : Frm} {F H : Hp} {σ : L2.St} {ρ : Ev} {fps : Nat → List Addr} {tmp : List (Addr × HO)}
end
end VL

namespace VL
open PySem PySem.Spec PyProof.Rows L2

/-! ### lent, where a tuple of such things or a new list of them is told -/
mutual
def flat : D → Bool
  | .non => true
  | .bl _ => true
  | .int _ => true
  | .str _ => true
  | .tup ds => flats ds
  | _ => false
def flats : List D → Bool
  | [] => true
  | d :: ds => flat d && flats ds
end
def flatK : Nat → D → Bool
  | 0, d => flat d
  | 1, .lst ds => flats ds
  | _, d => scal d
theorem OwnR.kind {K : Fg} {F H : Hp} : ∀ (k : Nat) (d : D) (v : V) (fp : List Addr), OwnR K F H k d v fp → ∀ a ∈ fp, ∀ vs, H a ≠ some (.tup vs) := by
  intro k
  induction k with
  | zero => exact fun d v fp h a ha => by rw [h.1] at ha; exact absurd ha List.not_mem_nil
  | succ k ih =>
    intro d v fp h
    cases d with
    | lst ds =>
      obtain ⟨p, vs, fr, e, h, e2, t⟩ := h
      subst e2
      intro a ha
      rcases List.mem_cons.mp ha with z | z
      · subst z; intro us; rw [h]; exact nofun
      · exact OwnL.all (P := fun a => ∀ vs, H a ≠ some (.tup vs)) (fun d v f q => ih d v f q) t a z
    | tup ds =>
      obtain ⟨p, vs, e, h, t⟩ := h
      exact OwnL.all (P := fun a => ∀ vs, H a ≠ some (.tup vs)) (fun d v f q => ih d v f q) t
    | dct ks ds =>
      obtain ⟨p, vs, e, h, e2, t⟩ := h
      subst e2
      intro a ha
      have z : a = p := by simpa using ha
      subst z
      rcases h with ⟨l, h, _⟩ | ⟨l, h, _⟩ <;> (intro us; rw [h]; exact nofun)
    | non => exact fun a ha => by rw [h.1] at ha; exact absurd ha List.not_mem_nil
    | bl _ => exact fun a ha => by rw [h.1] at ha; exact absurd ha List.not_mem_nil
    | int _ => exact fun a ha => by rw [h.1] at ha; exact absurd ha List.not_mem_nil
    | str _ => exact fun a ha => by rw [h.1] at ha; exact absurd ha List.not_mem_nil
    | opq _ => exact fun a ha => by rw [h.1] at ha; exact absurd ha List.not_mem_nil
    | scr _ => exact fun a ha => by rw [h.1] at ha; exact absurd ha List.not_mem_nil
    | pdc _ _ => exact fun a ha => by rw [h.1] at ha; exact absurd ha List.not_mem_nil
section
variable {K : Fg} {S : Frm} {F F2 H H1 : Hp} {σ : L2.St} {ρ : Ev} {fps : Nat → List Addr} {tmp : List (Addr × HO)}
mutual
theorem flat_rep {F F' : Hp} (w : ∀ p vs, F p = some (.tup vs) → F' p = some (.tup vs)) : ∀ (d : D) (v : V), flat d = true → Rep K F d v → Rep K F' d v
  | .non, _, _, h => h
  | .bl _, _, _, h => h
  | .int _, _, _, h => h
  | .str _, _, _, h => h
  | .opq _, _, f, _ => by cases f
  | .scr _, _, f, _ => by cases f
  | .pdc _ _, _, f, _ => by cases f
  | .lst _, _, f, _ => by cases f
  | .dct _ _, _, f, _ => by cases f
  | .tup ds, _, f, ⟨p, vs, e, h, r⟩ => ⟨p, vs, e, h.imp (w p vs) id, flats_reps w ds vs f r⟩
theorem flats_reps {F F' : Hp} (w : ∀ p vs, F p = some (.tup vs) → F' p = some (.tup vs)) : ∀ (ds : List D) (vs : List V), flats ds = true → Reps K F ds vs → Reps K F' ds vs
  | [], _, _, h => h
  | d :: ds, _, f, ⟨v, r, e, h, t⟩ => by
    have f' := Bool.and_eq_true_iff.mp (show (flat d && flats ds) = true from f)
    exact ⟨v, r, e, flat_rep w d v f'.1 h, flats_reps w ds r f'.2 t⟩
end
theorem SRf.kind (h : SRf K S F H σ ρ fps tmp) : ∀ i a, a ∈ fps i → ∀ vs, H a ≠ some (.tup vs) := fun i a ha => by
  obtain ⟨s, e, q⟩ := h.at ha
  cases s with
  | no => rw [show fps i = [] from q] at ha; exact absurd ha List.not_mem_nil
  | fz d => rw [q.1] at ha; exact absurd ha List.not_mem_nil
  | ow k d => obtain ⟨_, v, _, r⟩ := q; exact OwnR.kind k d v _ r a ha
  | io j d => obtain ⟨b, _, _, e4, r⟩ := q; exact OwnR.kind 1 d _ _ r a (by rw [← e4]; exact ha)
open Classical in
theorem SRf.back {F1 : Hp} {ρ2 : Ev} {fps2 : Nat → List Addr} {tm : List (Addr × HO)} {k : Nat} {d : D} {v : V} (h : SRf K S F H σ ρ fps tmp) (hF : ∀ a, F1 a = if ∃ i, a ∈ fps i then H a else F a) (s : Same F1 F2) (h2 : SRf K ⟨H, F1, []⟩ F2 H1 σ ρ2 fps2 (tm ++ [])) (r : OwnR K F2 H1 k d v (tm.map (·.1))) (hk : flatK k d = true) :
    ∃ F', Same F F' ∧ SRf K S F' H1 σ ρ fps (tm ++ tmp) ∧ OwnR K F' H1 k d v (tm.map (·.1)) := by
  have kp : ∀ a o, H a = some o → H1 a = some o := fun a o e => h2.keep a o e List.not_mem_nil
  have inl : ∀ {i a}, a ∈ fps i → (if ∃ i, a ∈ fps i then none else F2 a) = none := fun {i a} ha => if_pos ⟨i, ha⟩
  have out : ∀ {a}, (¬ ∃ i, a ∈ fps i) → (if ∃ i, a ∈ fps i then none else F2 a) = F2 a := fun ha => if_neg ha
  have sF : Same F (fun a => if ∃ i, a ∈ fps i then none else F2 a) := fun a o e => by
    have na : ¬ ∃ i, a ∈ fps i := fun ⟨i, hi⟩ => by rw [h.free i a hi] at e; cases e
    show (if ∃ i, a ∈ fps i then none else F2 a) = some o
    rw [out na]
    exact s a o (by rw [hF a, if_neg na]; exact e)
  have tl : ∀ t ∈ tm, F2 t.1 = none ∧ H t.1 = none ∧ H1 t.1 = some t.2 := fun t ht => h2.freeT t (by rw [List.append_nil]; exact ht)
  have frz : ∀ p vs, F2 p = some (.tup vs) → (if ∃ i, p ∈ fps i then none else F2 p) = some (.tup vs) := fun p vs e => by
    have na : ¬ ∃ i, p ∈ fps i := fun ⟨i, hi⟩ => by
      have e1 := h2.sub _ _ e
      cases q : H p with
      | none => exact h.alive i p hi q
      | some o =>
        have e2 := kp p o q
        rw [e1] at e2
        cases e2
        exact h.kind i p hi vs q
    rw [out na]; exact e
  refine ⟨fun a => if ∃ i, a ∈ fps i then none else F2 a, sF, ⟨fun a o e => ?_, fun a o e => sF _ _ (h.f0 a o e), fun a ha => ?_, fun a o e ni => kp a o (h.keep a o e ni), fun a e => h.live a (h2.live a e), h.len, fun i sl e => ?_, h.off, h.nd, h.dis, fun i a ha => inl ha, ?_, fun i a ha hb => ?_, fun t ht => ?_⟩, ?_⟩
  · have e' : (if ∃ i, a ∈ fps i then none else F2 a) = some o := e
    split at e'
    · cases e'
    · exact h2.sub _ _ e'
  · have ha' : (if ∃ i, a ∈ fps i then none else F2 a) ≠ none := ha
    by_cases na : ∃ i, a ∈ fps i
    · exact absurd (if_pos na) ha'
    · rw [out na] at ha'
      rcases h2.fnew a ha' with z | z
      · have z' : F1 a ≠ none := z
        rw [hF a, if_neg na] at z'
        exact h.fnew a z'
      · exact .inr (h.live a z)
  · refine (h.slot i sl e).mono sF fun a ha => ?_
    cases q : H a with
    | none => exact absurd q (h.alive i a ha)
    | some o => exact kp a o q
  · have n2 := h2.ndT
    rw [List.append_nil] at n2
    rw [List.map_append]
    refine List.nodup_append.mpr ⟨n2, h.ndT, fun a ha b hb z => ?_⟩
    subst z
    obtain ⟨t, ht, e⟩ := List.mem_map.mp ha
    obtain ⟨t2, ht2, e2⟩ := List.mem_map.mp hb
    have z1 := (tl t ht).2.1
    have z2 := (h.freeT t2 ht2).2.2
    rw [e] at z1
    rw [e2, z1] at z2
    cases z2
  · rw [List.map_append] at hb
    rcases List.mem_append.mp hb with hb | hb
    · obtain ⟨t, ht, e⟩ := List.mem_map.mp hb
      have z1 := (tl t ht).2.1
      rw [e] at z1
      exact h.alive i a ha z1
    · exact h.disT i a ha hb
  · rcases List.mem_append.mp ht with ht | ht
    · obtain ⟨z1, z2, z3⟩ := tl t ht
      refine ⟨?_, h.live _ z2, z3⟩
      show (if ∃ i, t.1 ∈ fps i then none else F2 t.1) = none
      split
      · rfl
      · exact z1
    · obtain ⟨z1, z2, z3⟩ := h.freeT t ht
      refine ⟨?_, z2, kp _ _ z3⟩
      show (if ∃ i, t.1 ∈ fps i then none else F2 t.1) = none
      split
      · rfl
      · rename_i na
        cases q : F2 t.1 with
        | none => rfl
        | some o =>
          rcases h2.fnew t.1 (by rw [q]; exact nofun) with z | z
          · have z' : F1 t.1 ≠ none := z
            rw [hF t.1, if_neg na] at z'
            exact absurd z1 z'
          · have z' : H t.1 = none := z
            rw [z3] at z'; cases z'
  · match k, d, hk, r with
    | 0, d, hk, r => exact ⟨r.1, flat_rep frz d v hk r.2⟩
    | 1, .lst ds, hk, r =>
      obtain ⟨p, vs, e1, e2, e3, r⟩ := r.lst1_of
      rw [e1, e3]
      exact OwnR.lst1 e2 (flats_reps frz ds vs hk r)
    | 1, .non, _, r => exact ⟨r.1, r.2⟩
    | 1, .bl _, _, r => exact ⟨r.1, r.2⟩
    | 1, .int _, _, r => exact ⟨r.1, r.2⟩
    | 1, .str _, _, r => exact ⟨r.1, r.2⟩
    | n + 2, .non, _, r => exact ⟨r.1, r.2⟩
    | n + 2, .bl _, _, r => exact ⟨r.1, r.2⟩
    | n + 2, .int _, _, r => exact ⟨r.1, r.2⟩
    | n + 2, .str _, _, r => exact ⟨r.1, r.2⟩
end
end VL

namespace VL
open PySem PySem.Spec PyProof.Rows L2

/-! ### lists of lists, all of them owned -/
section
variable {X : Cx} {e : Expr} {pos : Pos} {K : Fg} {S : Frm} {F H : Hp} {σ : L2.St} {ρ : Ev} {fps : Nat → List Addr} {tmp tm : List (Addr × HO)} {i k : Nat}
theorem OwnL.mono {F F' H H' : Hp} {k : Nat} (s : Same F F') {ds : List D} {vs : List V} {fp : List Addr} (w : ∀ a ∈ fp, H' a = H a) (h : OwnL (OwnR K F H k) ds vs fp) : OwnL (OwnR K F' H' k) ds vs fp := h.imp fun d v f _ hf q => OwnR.mono s k d v f (fun a ha => w a (hf a ha)) q
theorem OwnL.snoc {R : D → V → List Addr → Prop} {d : D} {v : V} {f : List Addr} (hr : R d v f) : ∀ {ds : List D} {vs : List V} {fp : List Addr}, OwnL R ds vs fp → OwnL R (ds ++ [d]) (vs ++ [v]) (fp ++ f)
  | [], _, _, ⟨h, e⟩ => by subst h; subst e; exact ⟨v, [], f, [], rfl, (List.append_nil _).symm, hr, rfl, rfl⟩
  | x :: ds, _, _, ⟨v1, r1, f1, f2, e1, e2, h1, t⟩ => by
    subst e1; subst e2
    exact ⟨v1, r1 ++ [v], f1, f2 ++ f, rfl, by rw [List.append_assoc], h1, t.snoc hr⟩
theorem SRf.deep {j : Nat} {ds : List D} (h : SRf K S F H σ ρ fps tmp) (e : ρ[i]? = some (.ow (j + 1) (.lst ds))) : ∃ p vs, σ[i]? = some (some (.ref p)) ∧ H p = some (.lst vs) := by
  obtain ⟨_, v, e2, p, vs, fr, e3, e4, _⟩ := h.slot i _ e
  subst e3
  refine ⟨p, vs, ?_, e4⟩
  cases q : σ[i]? with
  | none => rw [q] at e2; cases e2
  | some u => rw [q] at e2; simp at e2; rw [e2]
end
end VL

namespace VL
open PySem PySem.Spec PyProof.Rows L2

/-! ### a place within what is owned: x[c][c'] .. by written numbers -/
def Foll (K : Fg) (H : Hp) : List Int → V → V → Prop
  | [], v, w => v = w
  | c :: cs, v, w => ∃ p xs u, v = .ref p ∧ (SqL K H p xs ∨ SqT K H p xs) ∧ atI xs c = some u ∧ Foll K H cs u w
theorem Foll.split {K : Fg} {H : Hp} {c : Int} : ∀ {cs : List Int} {v w : V}, Foll K H (cs ++ [c]) v w → ∃ p xs, Foll K H cs v (.ref p) ∧ (SqL K H p xs ∨ SqT K H p xs) ∧ atI xs c = some w
  | [], v, w, ⟨p, xs, u, e, h, a, q⟩ => by cases (show u = w from q); exact ⟨p, xs, e, h, a⟩
  | _ :: cs, v, w, ⟨p, xs, u, e, h, a, q⟩ => by
    obtain ⟨p2, xs2, f, h2, a2⟩ := Foll.split (cs := cs) q
    exact ⟨p2, xs2, ⟨p, xs, u, e, h, a, f⟩, h2, a2⟩
section
variable {X : Cx} {e a b : Expr} {es : List Expr} {pos apos cpos : Pos} {i : Nat} {c : Int} {cs : List Int}
end

/-! ### the thing at a place, and put anew -/
def dAt : List Int → D → Option D
  | [], d => some d
  | c :: cs, .lst ds => (atI ds c).bind (dAt cs)
  | c :: cs, .tup ds => (atI ds c).bind (dAt cs)
  | _ :: _, _ => none
def dPutL (f : D → D) (ds : List D) (c : Int) : List D := match ixN ds.length c with
  | some j => match ds[j]? with
    | some d => ds.set j (f d)
    | none => ds
  | none => ds
def dPut : List Int → D → D → D
  | [], d', _ => d'
  | c :: cs, d', .lst ds => .lst (dPutL (dPut cs d') ds c)
  | c :: cs, d', .tup ds => .tup (dPutL (dPut cs d') ds c)
  | _ :: _, _, d => d
theorem OwnL.cut {K : Fg} {F H : Hp} {j : Nat} {d : D} : ∀ {n : Nat} {ds : List D} {vs : List V} {fp : List Addr}, OwnL (OwnR K F H j) ds vs fp → ds[n]? = some d →
    ∃ w f1 f2 f3, vs[n]? = some w ∧ fp = f1 ++ (f2 ++ f3) ∧ OwnR K F H j d w f2 ∧
      ∀ (F' H' : Hp) (d' : D) (f2' : List Addr), Same F F' → (∀ a ∈ f1 ++ f3, H' a = H a) → OwnR K F' H' j d' w f2' → OwnL (OwnR K F' H' j) (ds.set n d') vs (f1 ++ (f2' ++ f3))
  | _, [], _, _, _, e => by simp at e
  | 0, x :: ds, _, _, ⟨v, r, f1, f2, e1, e2, h, t⟩, e => by
    cases (show some x = some d from e)
    subst e1; subst e2
    exact ⟨v, [], f1, f2, rfl, rfl, h, fun F' H' d' f2' s w q => ⟨v, r, f2', f2, rfl, rfl, q, OwnL.mono s (fun a ha => w a (by simpa using ha)) t⟩⟩
  | n + 1, x :: ds, _, _, ⟨v, r, f1, f2, e1, e2, h, t⟩, e => by
    subst e1; subst e2
    obtain ⟨w, g1, g2, g3, e3, e4, q, z⟩ := OwnL.cut (n := n) t (show ds[n]? = some d from e)
    subst e4
    refine ⟨w, f1 ++ g1, g2, g3, e3, by simp [List.append_assoc], q, fun F' H' d' f2' s k q' => ?_⟩
    refine ⟨v, r, f1, g1 ++ (f2' ++ g3), rfl, by simp [List.append_assoc], OwnR.mono s j x v f1 (fun a ha => k a ?_) h, z F' H' d' f2' s (fun a ha => k a ?_) q'⟩
    · simp [ha]
    · rcases List.mem_append.mp ha with ha | ha <;> simp [ha]
theorem dPutL_at {f : D → D} {ds : List D} {c : Int} {j : Nat} {d : D} (h1 : ixN ds.length c = some j) (h2 : ds[j]? = some d) : dPutL f ds c = ds.set j (f d) := by
  unfold dPutL
  rw [h1]
  show (match ds[j]? with | some d => ds.set j (f d) | none => ds) = _
  rw [h2]
/-! ### a thing of one depth of owning taken as one of another -/
def canLift : Nat → Nat → D → Bool
  | 0, k', d => k' == 0 || flat d
  | k + 1, k', d => k + 1 == k' || flat d || (match k', d with
    | k' + 1, .lst ds => ds.all (canLift k k')
    | k' + 1, .tup ds => ds.all (canLift k k')
    | _, _ => false)
/-! ### what is pending, in another order -/
section
variable {X : Cx} {e a b o : Expr} {es : List Expr} {pos apos cpos : Pos} {K : Fg} {S : Frm} {F F1 H H1 : Hp} {σ : L2.St} {ρ ρ1 : Ev} {fps : Nat → List Addr} {tmp tmp' tm tA tr tB : List (Addr × HO)} {i k : Nat} {cs : List Int} {v : V} {d : D}
theorem SRf.perm (h : SRf K S F H σ ρ fps tmp) (p : tmp.Perm tmp') : SRf K S F H σ ρ fps tmp' :=
  { h with ndT := (p.map (·.1)).nodup_iff.mp h.ndT, disT := fun i a ha z => h.disT i a ha ((p.map (·.1)).mem_iff.mpr z), freeT := fun t ht => h.freeT t (p.mem_iff.mpr ht) }
/-- x[c]..append(e): e as it is owned, or flat -/
def pathAt (ρ : Ev) (i : Nat) (cs : List Int) : Option (Nat × D × List D) := match ρ[i]? with
  | some (.ow k d) => if decide (cs.length < k) then (match dAt cs d with | some (.lst es) => some (k, d, es) | _ => none) else none
  | _ => none
def rAppP (i : Nat) (cs : List Int) (re : RE) : RE := fun ρ Q => match pathAt ρ i cs with
  | some (k, d, es) => es.length < sizeLine ∧ re (ρ.set i .no) fun d2 k2 ρ1 => noIo ρ1 i = true ∧ canLift k2 (k - cs.length - 1) d2 = true ∧ Q .non 0 (ρ1.set i (mkSl k (dPut cs (.lst (es ++ [d2])) d)))
  | none => False
/-- x[c]..reverse(), x[c]..clear() -/
def rRevP (i : Nat) (cs : List Int) : RE := fun ρ Q => match pathAt ρ i cs with
  | some (k, d, es) => Q .non 0 (ρ.set i (mkSl k (dPut cs (.lst es.reverse) d)))
  | none => False
def rClrP (i : Nat) (cs : List Int) : RE := fun ρ Q => match pathAt ρ i cs with
  | some (k, d, es) => Q .non 0 (ρ.set i (mkSl k (dPut cs (.lst []) d)))
  | none => False
end
end VL

set_option maxHeartbeats 1000000
namespace VL
open PySem
open PySem.Sem (wp)

/-! ### enumerate of a tuple -/
section
variable {prog : Program} {w : World} {A : Around} {E : Value → Shared → Prop} {s : Shared}
end
open PySem.Spec PyProof.Rows L2
end VL

set_option maxHeartbeats 2000000
namespace VL
open PySem PySem.Spec PyProof.Rows L2
local macro_rules | `(tactic| walk_at "v") => `(tactic| repeat (first | refine ⟨rfl, ?_⟩ | refine ⟨_, rfl, ?_⟩))
local macro_rules | `(tactic| walk_at "y") => `(tactic| refine ⟨fun _ => ?_, fun h => Bool.noConfusion (show true = false from h)⟩)
local macro_rules | `(tactic| walk_at "n") => `(tactic| refine ⟨fun h => Bool.noConfusion (show false = true from h), fun _ => ?_⟩)
local macro_rules | `(tactic| walk_at "ty") => `(tactic| refine ⟨_, rfl, by decide, ?_⟩)
local macro_rules | `(tactic| walk_at "tys") => `(tactic| refine ⟨_, rfl, _, rfl, by decide, ?_⟩)
local macro_rules | `(tactic| walk_at "z") => `(tactic| repeat (first | refine ⟨rfl, ?_⟩ | refine ⟨_, rfl, ?_⟩ | refine ⟨fun _ => ?_, fun h => Bool.noConfusion (show true = false from h)⟩ | refine ⟨fun h => Bool.noConfusion (show false = true from h), fun _ => ?_⟩ | refine ⟨tyIn rfl, ?_⟩ | refine ⟨tysIn rfl, ?_⟩ | refine ⟨smallL rfl, ?_⟩ | refine ⟨smallE rfl, ?_⟩))
local macro_rules | `(tactic| walk_at "zz") => `(tactic| repeat ((fail_if_success show forL _ _ _ _ _); first | refine ⟨rfl, ?_⟩ | refine ⟨_, rfl, ?_⟩ | refine ⟨fun _ => ?_, fun h => Bool.noConfusion (show true = false from h)⟩ | refine ⟨fun h => Bool.noConfusion (show false = true from h), fun _ => ?_⟩ | refine ⟨tyIn rfl, ?_⟩ | refine ⟨tysIn rfl, ?_⟩ | refine ⟨smallL rfl, ?_⟩ | refine ⟨smallE rfl, ?_⟩))
/-! ### habits -/
def okH (x : D) (s : St) : Bool := match x with
  | .int i => if s.ds.isEmpty then decide (i = -1) else decide (0 ≤ i) && decide (i < s.ds.length)
  | _ => false
def okHs : List D → List St → Bool
  | x :: xs, s :: ss => okH x s && okHs xs ss
  | [], [] => true
  | _, _ => false
def isHab (l : Land) : D → Bool
  | .tup xs => okHs xs l.sts
  | _ => false
/-- a land's states and deeds, asked by their numbers -/
@[irreducible] def sp_deeds_of : ASp := fun ds R => ∃ (l : Land) (k : Nat) (s : St), ds = [dLand l, .int k] ∧ l.sts[k]? = some s ∧ R (.lst (s.ds.map dDeed)) 0 []
theorem sp_deeds_of.mk {l : Land} {k : Nat} {s : St} {R : RR} (h1 : l.sts[k]? = some s) (h : R (.lst (s.ds.map dDeed)) 0 []) : sp_deeds_of [dLand l, .int k] R := by unfold sp_deeds_of; exact ⟨l, k, s, rfl, h1, h⟩
@[irreducible] def sp_is_ending : ASp := fun ds R => ∃ (l : Land) (k : Nat) (s : St), ds = [dLand l, .int k] ∧ l.sts[k]? = some s ∧ R (.bl s.ds.isEmpty) 0 []
theorem sp_is_ending.mk {l : Land} {k : Nat} {s : St} {R : RR} (h1 : l.sts[k]? = some s) (h : R (.bl s.ds.isEmpty) 0 []) : sp_is_ending [dLand l, .int k] R := by unfold sp_is_ending; exact ⟨l, k, s, rfl, h1, h⟩
def dNs (n : Nat) : List D := (List.range n).map fun (i : Nat) => .int i
@[irreducible] def sp_states_of : ASp := fun ds R => ∃ (l : Land), ds = [dLand l] ∧ l.sts.length ≤ 900 ∧ R (.lst (dNs l.sts.length)) 1 []
theorem sp_states_of.mk {l : Land} {R : RR} (h1 : l.sts.length ≤ 900) (h : R (.lst (dNs l.sts.length)) 1 []) : sp_states_of [dLand l] R := by unfold sp_states_of; exact ⟨l, rfl, h1, h⟩
@[irreducible] def sp_is_choice : ASp := fun ds R => ∃ (l : Land) (k : Nat) (s : St) (d : D), ds = [dLand l, .int k, d] ∧ l.sts[k]? = some s ∧ (tyD d).isSome = true ∧ R (.bl (okH d s)) 0 []
theorem sp_is_choice.mk {l : Land} {k : Nat} {s : St} {d : D} {R : RR} (h1 : l.sts[k]? = some s) (h2 : (tyD d).isSome = true) (h : R (.bl (okH d s)) 0 []) : sp_is_choice [dLand l, .int k, d] R := by unfold sp_is_choice; exact ⟨l, k, s, d, rfl, h1, h2, h⟩
@[irreducible] def sp_is_row : ASp := fun ds R => ∃ (l : Land) (d : D) (L B j : Nat), ds = [dLand l, d] ∧ l.sts.length ≤ 900 ∧ d.dab L B j ∧ L ≤ 900 ∧ R (.bl (isHab l d)) 0 []
theorem sp_is_row.mk {l : Land} {d : D} {L B j : Nat} {R : RR} (h1 : l.sts.length ≤ 900) (h2 : d.dab L B j) (h3 : L ≤ 900) (h : R (.bl (isHab l d)) 0 []) : sp_is_row [dLand l, d] R := by unfold sp_is_row; exact ⟨l, d, L, B, j, rfl, h1, h2, h3, h⟩
def isPlan (l : Land) (n : Int) : D → Bool
  | .lst rows => decide ((rows.length : Int) = n) && rows.all (isHab l)
  | _ => false
@[irreducible] def sp_is_plan : ASp := fun ds R => ∃ (l : Land) (n : Int) (d : D) (L B j : Nat), ds = [dLand l, .int n, d] ∧ l.sts.length ≤ 900 ∧ d.dab L B j ∧ L ≤ 900 ∧ R (.bl (isPlan l n d)) 0 []
theorem sp_is_plan.mk {l : Land} {n : Int} {d : D} {L B j : Nat} {R : RR} (h1 : l.sts.length ≤ 900) (h2 : d.dab L B j) (h3 : L ≤ 900) (h : R (.bl (isPlan l n d)) 0 []) : sp_is_plan [dLand l, .int n, d] R := by unfold sp_is_plan; exact ⟨l, n, d, L, B, j, rfl, h1, h2, h3, h⟩
/-- the first deeds -/
def fstRow (l : Land) : D := .tup (l.sts.map fun s => .int (if s.ds.isEmpty then -1 else 0))
@[irreducible] def sp_first_row : ASp := fun ds R => ∃ (l : Land), ds = [dLand l] ∧ l.sts.length ≤ 900 ∧ R (fstRow l) 0 []
theorem sp_first_row.mk {l : Land} {R : RR} (h1 : l.sts.length ≤ 900) (h : R (fstRow l) 0 []) : sp_first_row [dLand l] R := by unfold sp_first_row; exact ⟨l, rfl, h1, h⟩
@[irreducible] def sp_first_plan : ASp := fun ds R => ∃ (l : Land) (n : Nat), ds = [dLand l, .int n] ∧ l.sts.length ≤ 900 ∧ n ≤ 900 ∧ R (.lst ((List.range n).map fun _ => fstRow l)) 1 []
theorem sp_first_plan.mk {l : Land} {n : Nat} {R : RR} (h1 : l.sts.length ≤ 900) (h2 : n ≤ 900) (h : R (.lst ((List.range n).map fun _ => fstRow l)) 1 []) : sp_first_plan [dLand l, .int n] R := by unfold sp_first_plan; exact ⟨l, n, rfl, h1, h2, h⟩
/-- a plan drawn: rows of choices -/
def dPlan (ps : List (List Int)) : List D := ps.map fun r => .tup (r.map .int)
structure PlanOk (l : Land) (n : Nat) (ps : List (List Int)) : Prop where
  len : ps.length = n
  rows : ∀ r ∈ ps, r.length = l.sts.length ∧ (∀ h ∈ r, -1 ≤ h ∧ h ≤ 2) ∧ isHab l (.tup (r.map .int)) = true
@[irreducible] def sp_l_plan : ASp := fun ds R => ∃ (t : Tp) (l : Land) (k n : Nat), ds = [dT t, dLand l, .int k] ∧ LandOk l ∧ k ≤ 100 ∧ t.ok (n + 8 * k) ∧ ∀ ps t', PlanOk l k ps → t'.ok n → R (.lst (dPlan ps)) 1 [dT t']
theorem sp_l_plan.mk {t : Tp} {l : Land} {k : Nat} {R : RR} (n : Nat) (h1 : LandOk l) (h2 : k ≤ 100) (h3 : t.ok (n + 8 * k)) (h : ∀ ps t', PlanOk l k ps → t'.ok n → R (.lst (dPlan ps)) 1 [dT t']) : sp_l_plan [dT t, dLand l, .int k] R := by unfold sp_l_plan; exact ⟨t, l, k, n, rfl, h1, h2, h3, h⟩
/-- numbers, in rows and tuples: all of them -/
def D.nums : Nat → D → Bool
  | _, .int _ => true
  | m + 1, .tup ds => Nat.ble ds.length 90000 && ds.all (D.nums m)
  | m + 1, .lst ds => Nat.ble ds.length 90000 && ds.all (D.nums m)
  | _, _ => false
@[irreducible] def sp_l_same_d6123a (m : Nat) : ASp := fun ds R => ∃ (d : D) (j : Nat), ds = [d, d] ∧ j ≤ m ∧ j ≤ 60 ∧ d.nums j = true ∧ R (.bl true) 0 []
theorem sp_l_same_d6123a.mk {m : Nat} {d : D} {R : RR} (j : Nat) (hj : j ≤ m) (hj2 : j ≤ 60) (ho : d.nums j = true) (h : R (.bl true) 0 []) : sp_l_same_d6123a m [d, d] R := by unfold sp_l_same_d6123a; exact ⟨d, j, rfl, hj, hj2, ho, h⟩
theorem PlanOk.nil (l : Land) : PlanOk l 0 [] := ⟨rfl, fun r hr => absurd hr List.not_mem_nil⟩
end VL

set_option maxHeartbeats 2000000
namespace VL
open PySem PySem.Spec PyProof.Rows L2
local macro_rules | `(tactic| walk_at "n") => `(tactic| refine ⟨fun h => Bool.noConfusion (show false = true from h), fun _ => ?_⟩)
local macro_rules | `(tactic| walk_at "ty") => `(tactic| refine ⟨_, rfl, by decide, ?_⟩)
local macro_rules | `(tactic| walk_at "tys") => `(tactic| refine ⟨_, rfl, _, rfl, by decide, ?_⟩)
local macro_rules | `(tactic| walk_at "v") => `(tactic| repeat (first | refine ⟨rfl, ?_⟩ | refine ⟨_, rfl, ?_⟩))
local macro_rules | `(tactic| walk_at "y") => `(tactic| refine ⟨fun _ => ?_, fun h => Bool.noConfusion (show true = false from h)⟩)
local macro_rules | `(tactic| walk_at "z") => `(tactic| repeat (first | refine ⟨rfl, ?_⟩ | refine ⟨_, rfl, ?_⟩ | refine ⟨fun _ => ?_, fun h => Bool.noConfusion (show true = false from h)⟩ | refine ⟨fun h => Bool.noConfusion (show false = true from h), fun _ => ?_⟩ | refine ⟨tyIn rfl, ?_⟩ | refine ⟨tysIn rfl, ?_⟩ | refine ⟨smallL rfl, ?_⟩ | refine ⟨smallE rfl, ?_⟩))
local macro_rules | `(tactic| walk_at "zz") => `(tactic| repeat ((fail_if_success show forL _ _ _ _ _); first | refine ⟨rfl, ?_⟩ | refine ⟨_, rfl, ?_⟩ | refine ⟨fun _ => ?_, fun h => Bool.noConfusion (show true = false from h)⟩ | refine ⟨fun h => Bool.noConfusion (show false = true from h), fun _ => ?_⟩ | refine ⟨tyIn rfl, ?_⟩ | refine ⟨tysIn rfl, ?_⟩ | refine ⟨smallL rfl, ?_⟩ | refine ⟨smallE rfl, ?_⟩))
/-! ### worths of all states, what plans have -/
def dWs (ws : List (List Rat)) : D := .lst (ws.map dw)
def Land.ends (l : Land) : List (List Rat) := l.sts.map (·.e)
def hadBy (d : Deed) (later : List (List Rat)) : List Rat := d.fs.foldl (fun f x => qadd f (qscale (later.getD x.1 []) x.2)) d.w
def hadSt (s : St) (i : Int) (later : List (List Rat)) : List Rat := if s.ds.isEmpty then s.e else match s.ds[i.toNat]? with
  | some d => hadBy d later
  | none => []
def hadRow (l : Land) (row : List Int) (later : List (List Rat)) : List (List Rat) := (l.sts.zip row).map fun x => hadSt x.1 x.2 later
def sumsFrom (l : Land) : List (List Rat) → List (List Int) → List (List (List Rat))
  | later, [] => [later]
  | later, r :: ps => later :: sumsFrom l (hadRow l r later) ps
def sumsL (l : Land) (ps : List (List Int)) : List (List (List Rat)) := sumsFrom l l.ends ps
def lastRow (l : Land) : List (List Rat) → List (List Int) → List (List Rat)
  | later, [] => later
  | later, r :: ps => lastRow l (hadRow l r later) ps
/-- rows of worths: n of them, k kinds, numbers to c bits -/
def WOk (n k c : Nat) (ws : List (List Rat)) : Prop := ws.length = n ∧ ∀ w ∈ ws, w.length = k ∧ allw c w
theorem WOk.le {n k c c' : Nat} {ws : List (List Rat)} (h : WOk n k c ws) (l : c ≤ c') : WOk n k c' ws := ⟨h.1, fun w hw => ⟨(h.2 w hw).1, allw_le (h.2 w hw).2 l⟩⟩
theorem WOk.at {n k c i : Nat} {ws : List (List Rat)} (h : WOk n k c ws) (hi : i < n) : ∃ w, ws[i]? = some w ∧ ws.getD i [] = w ∧ w.length = k ∧ allw c w := by
  have hi' : i < ws.length := by rw [h.1]; exact hi
  have e : ws[i]? = some ws[i] := List.getElem?_eq_getElem hi'
  exact ⟨ws[i], e, by rw [List.getD_eq_getElem?_getD, e]; rfl, (h.2 _ (List.getElem_mem hi')).1, (h.2 _ (List.getElem_mem hi')).2⟩
/-- a row of choices for a land -/
def RowOk (l : Land) (row : List Int) : Prop := row.length = l.sts.length ∧ (∀ h ∈ row, -1 ≤ h ∧ h ≤ 2) ∧ isHab l (.tup (row.map .int)) = true
theorem okHs_at : ∀ {row : List Int} {ss : List St} {i : Nat} {s : St} {h : Int}, okHs (row.map .int) ss = true → ss[i]? = some s → row[i]? = some h → okH (.int h) s = true
  | [], ss, i, s, h, _, _, e => by simp at e
  | r :: row, [], i, s, h, ho, _, _ => by cases ho
  | r :: row, x :: ss, 0, s, h, ho, e1, e2 => by
    have ho' : (okH (.int r) x && okHs (row.map .int) ss) = true := ho
    rw [Bool.and_eq_true] at ho'
    cases (show some x = some s from e1)
    cases (show some r = some h from e2)
    exact ho'.1
  | r :: row, x :: ss, i + 1, s, h, ho, e1, e2 => by
    have ho' : (okH (.int r) x && okHs (row.map .int) ss) = true := ho
    rw [Bool.and_eq_true] at ho'
    exact okHs_at (i := i) ho'.2 e1 e2
theorem RowOk.at {l : Land} {row : List Int} {i : Nat} {s : St} (h : RowOk l row) (hs : l.sts[i]? = some s) : ∃ z, row[i]? = some z ∧ okH (.int z) s = true := by
  have hi : i < row.length := by rw [h.1]; exact (List.getElem?_eq_some_iff.mp hs).1
  have e : row[i]? = some row[i] := List.getElem?_eq_getElem hi
  exact ⟨_, e, okHs_at h.2.2 hs e⟩
theorem LandOk.st {l : Land} {i : Nat} {s : St} (h : LandOk l) (hs : l.sts[i]? = some s) : StOk l.k l.sts.length s := h.sts s (List.mem_of_getElem? hs)
theorem PlanOk.row {l : Land} {n : Nat} {ps : List (List Int)} (h : PlanOk l n ps) : ∀ r ∈ ps, RowOk l r := h.rows
@[irreducible] def sp_end_of : ASp := fun ds R => ∃ (l : Land) (k : Nat) (s : St), ds = [dLand l, .int k] ∧ l.sts[k]? = some s ∧ R (dw s.e) 0 []
theorem sp_end_of.mk {l : Land} {k : Nat} {s : St} {R : RR} (h1 : l.sts[k]? = some s) (h : R (dw s.e) 0 []) : sp_end_of [dLand l, .int k] R := by unfold sp_end_of; exact ⟨l, k, s, rfl, h1, h⟩
@[irreducible] def sp_ends : ASp := fun ds R => ∃ (l : Land), ds = [dLand l] ∧ l.sts.length ≤ 900 ∧ R (dWs l.ends) 1 []
theorem sp_ends.mk {l : Land} {R : RR} (h1 : l.sts.length ≤ 900) (h : R (dWs l.ends) 1 []) : sp_ends [dLand l] R := by unfold sp_ends; exact ⟨l, rfl, h1, h⟩
@[irreducible] def sp_had_by : ASp := fun ds R => ∃ (d : Deed) (later : List (List Rat)) (n k c : Nat), ds = [dDeed d, dWs later] ∧ DeedOk k n d ∧ k ≤ 900 ∧ WOk n k c later ∧ c ≤ 5000000 ∧ R (dw (hadBy d later)) 0 []
theorem sp_had_by.mk {d : Deed} {later : List (List Rat)} {R : RR} (n k c : Nat) (h1 : DeedOk k n d) (h2 : k ≤ 900) (h3 : WOk n k c later) (h4 : c ≤ 5000000) (h : R (dw (hadBy d later)) 0 []) : sp_had_by [dDeed d, dWs later] R := by unfold sp_had_by; exact ⟨d, later, n, k, c, rfl, h1, h2, h3, h4, h⟩
@[irreducible] def sp_had_by_row : ASp := fun ds R => ∃ (l : Land) (row : List Int) (later : List (List Rat)) (c : Nat), ds = [dLand l, .tup (row.map .int), dWs later] ∧ LandOk l ∧ RowOk l row ∧ WOk l.sts.length l.k c later ∧ c ≤ 5000000 ∧ R (dWs (hadRow l row later)) 1 []
theorem sp_had_by_row.mk {l : Land} {row : List Int} {later : List (List Rat)} {R : RR} (c : Nat) (h1 : LandOk l) (h2 : RowOk l row) (h3 : WOk l.sts.length l.k c later) (h4 : c ≤ 5000000) (h : R (dWs (hadRow l row later)) 1 []) : sp_had_by_row [dLand l, .tup (row.map .int), dWs later] R := by unfold sp_had_by_row; exact ⟨l, row, later, c, rfl, h1, h2, h3, h4, h⟩
def dSums (l : Land) (ps : List (List Int)) : D := .lst ((sumsL l ps).map dWs)
@[irreducible] def sp_sums : ASp := fun ds R => ∃ (l : Land) (ps : List (List Int)) (n : Nat), ds = [dLand l, .lst (dPlan ps)] ∧ LandOk l ∧ PlanOk l n ps ∧ n ≤ 6 ∧ R (dSums l ps) 2 []
theorem sp_sums.mk {l : Land} {ps : List (List Int)} {R : RR} (n : Nat) (h1 : LandOk l) (h2 : PlanOk l n ps) (h3 : n ≤ 6) (h : R (dSums l ps) 2 []) : sp_sums [dLand l, .lst (dPlan ps)] R := by unfold sp_sums; exact ⟨l, ps, n, rfl, h1, h2, h3, h⟩
@[irreducible] def sp_had : ASp := fun ds R => ∃ (l : Land) (ps : List (List Int)) (n k : Nat), ds = [dLand l, .lst (dPlan ps), .int k] ∧ LandOk l ∧ PlanOk l n ps ∧ n ≤ 6 ∧ k < l.sts.length ∧ R (dw ((lastRow l l.ends ps).getD k [])) 0 []
theorem sp_had.mk {l : Land} {ps : List (List Int)} {k : Nat} {R : RR} (n : Nat) (h1 : LandOk l) (h2 : PlanOk l n ps) (h3 : n ≤ 6) (h4 : k < l.sts.length) (h : R (dw ((lastRow l l.ends ps).getD k [])) 0 []) : sp_had [dLand l, .lst (dPlan ps), .int k] R := by unfold sp_had; exact ⟨l, ps, n, k, rfl, h1, h2, h3, h4, h⟩
@[irreducible] def sp_l_sums : ASp := fun ds R => ∃ (l : Land) (ps : List (List Int)) (n : Nat), ds = [dLand l, .lst (dPlan ps)] ∧ LandOk l ∧ PlanOk l n ps ∧ n ≤ 6 ∧ R (dSums l ps) 1 []
theorem sp_l_sums.mk {l : Land} {ps : List (List Int)} {R : RR} (n : Nat) (h1 : LandOk l) (h2 : PlanOk l n ps) (h3 : n ≤ 6) (h : R (dSums l ps) 1 []) : sp_l_sums [dLand l, .lst (dPlan ps)] R := by unfold sp_l_sums; exact ⟨l, ps, n, rfl, h1, h2, h3, h⟩
/-- a loop over things made of xs: the state is st of what is carried -/
theorem forL_fold {α β : Type} {rg : RG} {rb : RS} {E : EN} {g : α → D} {st : β → Ev} {f : β → α → β} {P : β → List α → Prop}
    (step : ∀ (a : β) (z : α) (zs : List α) (N : Ev → Prop), P a (z :: zs) → (P (f a z) zs → N (st (f a z))) → rg (g z) (st a) fun ρ1 => rb ρ1 { nx := N, rt := E.rt, ct := N, bk := E.nx }) :
    ∀ (xs : List α) (a : β), P a xs → (P (xs.foldl f a) [] → E.nx (st (xs.foldl f a))) → forL rg rb (xs.map g) (st a) E
  | [], a, h, fin => fin h
  | x :: xs, a, h, fin => step a x xs _ h fun h2 => forL_fold step xs (f a x) h2 fin
theorem atI_mp {α : Type} {g : α → D} {xs : List α} {i : Nat} {x : α} (h : xs[i]? = some x) : atI (xs.map g) (i : Int) = some (g x) := atI_nat (by rw [List.getElem?_map, h]; rfl)
theorem atI_lst1 {α : Type} {xs : List α} {x : α} (h : xs[xs.length - 1]? = some x) : atI xs (-1) = some x := by
  have hl : 0 < xs.length := by
    cases xs with
    | nil => simp at h
    | cons y ys => exact Nat.succ_pos _
  unfold atI ixN
  rw [if_neg (by decide), if_pos (by omega)]
  show xs[(-1 + (xs.length : Int)).toNat]? = _
  rw [show (-1 + (xs.length : Int)).toNat = xs.length - 1 by omega]
  exact h
end VL

set_option maxHeartbeats 2000000
namespace VL
open PySem PySem.Spec PyProof.Rows L2
/-! ### told things changed -/
section
variable {ρ : Ev} {i k : Nat} {cs : List Int} {d : D} {es : List D} {Q : QE} {re : RE}
theorem pathAt.mk (h1 : ρ[i]? = some (.ow k d)) (h2 : cs.length < k) (h3 : dAt cs d = some (.lst es)) : pathAt ρ i cs = some (k, d, es) := by
  unfold pathAt
  rw [h1]
  show (if decide (cs.length < k) then _ else _) = _
  rw [if_pos (decide_eq_true h2), h3]
theorem rRevP.mk (h1 : ρ[i]? = some (.ow k d)) (h2 : cs.length < k) (h3 : dAt cs d = some (.lst es)) (q : Q .non 0 (ρ.set i (mkSl k (dPut cs (.lst es.reverse) d)))) : rRevP i cs ρ Q := by
  unfold rRevP
  rw [pathAt.mk h1 h2 h3]
  exact q
theorem rClrP.mk (h1 : ρ[i]? = some (.ow k d)) (h2 : cs.length < k) (h3 : dAt cs d = some (.lst es)) (q : Q .non 0 (ρ.set i (mkSl k (dPut cs (.lst []) d)))) : rClrP i cs ρ Q := by
  unfold rClrP
  rw [pathAt.mk h1 h2 h3]
  exact q
theorem rAppP.mk (h1 : ρ[i]? = some (.ow k d)) (h2 : cs.length < k) (h3 : dAt cs d = some (.lst es)) (h4 : es.length < sizeLine) (q : re (ρ.set i .no) fun d2 k2 ρ1 => noIo ρ1 i = true ∧ canLift k2 (k - cs.length - 1) d2 = true ∧ Q .non 0 (ρ1.set i (mkSl k (dPut cs (.lst (es ++ [d2])) d)))) : rAppP i cs re ρ Q := by
  unfold rAppP
  rw [pathAt.mk h1 h2 h3]
  exact ⟨h4, q⟩
end
theorem ixN_zero {n : Nat} (h : 0 < n) : ixN n 0 = some 0 := by
  unfold ixN
  rw [if_pos (Int.le_refl _), if_pos (by omega)]
  rfl
theorem ixN_last {n : Nat} (h : 0 < n) : ixN n (-1) = some (n - 1) := by
  unfold ixN
  rw [if_neg (by decide), if_pos (by omega)]
  congr 1
  omega
/-- lists alone, one at least -/
def lls (xs : List D) : Prop := xs ≠ [] ∧ ∀ x ∈ xs, ∃ ys : List D, x = .lst ys ∧ ys.length ≤ 1000
theorem lls.first {xs : List D} (h : lls xs) : ∃ ys, dAt [0] (.lst xs) = some (.lst ys) ∧ ys.length ≤ 1000 ∧ ∀ zs : List D, zs.length ≤ 1000 → ∃ xs', dPut [0] (.lst zs) (.lst xs) = .lst xs' ∧ lls xs' ∧ xs'.length = xs.length := by
  obtain ⟨h1, h2⟩ := h
  cases xs with
  | nil => exact absurd rfl h1
  | cons x xs =>
    obtain ⟨ys, rfl, hy⟩ := h2 x (by simp)
    have hp : 0 < (D.lst ys :: xs).length := Nat.succ_pos _
    refine ⟨ys, ?_, hy, fun zs hz => ⟨.lst zs :: xs, ?_, ⟨nofun, fun x hx => ?_⟩, rfl⟩⟩
    · show (atI (D.lst ys :: xs) 0).bind (dAt []) = _
      unfold atI
      rw [ixN_zero hp]
      rfl
    · show D.lst (dPutL (dPut [] (.lst zs)) (D.lst ys :: xs) 0) = _
      rw [dPutL_at (ixN_zero hp) (d := .lst ys) rfl]
      rfl
    · rcases List.mem_cons.mp hx with rfl | hx
      · exact ⟨zs, rfl, hz⟩
      · exact h2 x (List.mem_cons_of_mem _ hx)
theorem lls.last {xs : List D} (h : lls xs) : ∃ ys, dAt [-1] (.lst xs) = some (.lst ys) ∧ ys.length ≤ 1000 ∧ ∀ zs : List D, zs.length ≤ 1001 → ∃ xs', dPut [-1] (.lst zs) (.lst xs) = .lst xs' ∧ xs'.length = xs.length := by
  obtain ⟨h1, h2⟩ := h
  have hp : 0 < xs.length := by
    cases xs with
    | nil => exact absurd rfl h1
    | cons x xs => exact Nat.succ_pos _
  have hl : xs[xs.length - 1]? = some xs[xs.length - 1] := List.getElem?_eq_getElem (by omega)
  obtain ⟨ys, e, hy⟩ := h2 _ (List.mem_of_getElem? hl)
  rw [e] at hl
  refine ⟨ys, ?_, hy, fun zs _ => ⟨xs.set (xs.length - 1) (.lst zs), ?_, List.length_set⟩⟩
  · show (atI xs (-1)).bind (dAt []) = _
    unfold atI
    rw [ixN_last hp]
    show (xs[xs.length - 1]?).bind _ = _
    rw [hl]
    rfl
  · show D.lst (dPutL (dPut [] (.lst zs)) xs (-1)) = _
    rw [dPutL_at (ixN_last hp) hl]
    rfl
end VL

set_option maxHeartbeats 2000000
namespace VL
open PySem PySem.Spec PyProof.Rows L2
local macro_rules | `(tactic| walk_at "n") => `(tactic| refine ⟨fun h => Bool.noConfusion (show false = true from h), fun _ => ?_⟩)
local macro_rules | `(tactic| walk_at "ty") => `(tactic| refine ⟨_, rfl, by decide, ?_⟩)
local macro_rules | `(tactic| walk_at "tys") => `(tactic| refine ⟨_, rfl, _, rfl, by decide, ?_⟩)
local macro_rules | `(tactic| walk_at "v") => `(tactic| repeat (first | refine ⟨rfl, ?_⟩ | refine ⟨_, rfl, ?_⟩))
local macro_rules | `(tactic| walk_at "y") => `(tactic| refine ⟨fun _ => ?_, fun h => Bool.noConfusion (show true = false from h)⟩)
local macro_rules | `(tactic| walk_at "z") => `(tactic| repeat (first | refine ⟨rfl, ?_⟩ | refine ⟨_, rfl, ?_⟩ | refine ⟨fun _ => ?_, fun h => Bool.noConfusion (show true = false from h)⟩ | refine ⟨fun h => Bool.noConfusion (show false = true from h), fun _ => ?_⟩ | refine ⟨tyIn rfl, ?_⟩ | refine ⟨tysIn rfl, ?_⟩ | refine ⟨smallL rfl, ?_⟩ | refine ⟨smallE rfl, ?_⟩))
local macro_rules | `(tactic| walk_at "zz") => `(tactic| repeat ((fail_if_success show forL _ _ _ _ _); first | refine ⟨rfl, ?_⟩ | refine ⟨_, rfl, ?_⟩ | refine ⟨fun _ => ?_, fun h => Bool.noConfusion (show true = false from h)⟩ | refine ⟨fun h => Bool.noConfusion (show false = true from h), fun _ => ?_⟩ | refine ⟨tyIn rfl, ?_⟩ | refine ⟨tysIn rfl, ?_⟩ | refine ⟨smallL rfl, ?_⟩ | refine ⟨smallE rfl, ?_⟩))
/-! ### chances of standing -/
section
variable {α β : Type} {f : β → α → β} {b : β} {x : α} {xs : List α}
def scanL (f : β → α → β) : β → List α → List β
  | b, [] => [b]
  | b, x :: xs => b :: scanL f (f b x) xs
end
def sumR (f : Nat → Rat) : Nat → Rat
  | 0 => 0
  | n + 1 => sumR f n + f n
/-- one's numbers by what each is worth -/
def dot (n : Nat) (cs : List Rat) (v : Nat → Rat) : Rat := sumR (fun i => cs.getD i 0 * v i) n
def addAt (xs : List Rat) (i : Nat) (q : Rat) : List Rat := xs.set i (xs.getD i 0 + q)
theorem len_addAt {xs : List Rat} {i : Nat} {q : Rat} : (addAt xs i q).length = xs.length := List.length_set ..
def pour (c : Rat) (acc : List Rat) (fs : List (Nat × Rat)) : List Rat := fs.foldl (fun a x => addAt a x.1 (c * x.2)) acc
/-- where a state's choice leads -/
def deedAt (l : Land) (row : List Int) (i : Nat) : Option Deed := match l.sts[i]?, row[i]? with
  | some s, some z => if s.ds.isEmpty then none else s.ds[z.toNat]?
  | _, _ => none
def outAt (l : Land) (row : List Int) (i : Nat) : List (Nat × Rat) := match deedAt l row i with
  | some d => d.fs
  | none => [(i, 1)]
def goneN (l : Land) (cs : List Rat) (row : List Int) (n : Nat) : List Rat := (List.range n).foldl (fun acc i => pour (cs.getD i 0) acc (outAt l row i)) (List.replicate l.sts.length 0)
def goneOn (l : Land) (cs : List Rat) (row : List Int) : List Rat := goneN l cs row l.sts.length
def begun (n k : Nat) : List Rat := (List.range n).map fun i => if i = k then 1 else 0
/-- what is told of standing -/
def standsL (l : Land) (k : Nat) (ps : List (List Int)) : List (List Rat) := scanL (goneOn l) (begun l.sts.length k) ps.reverse
/-- one row's worths by chances, put to what was found -/
def onceN (l : Land) (row : List Int) (cs : List Rat) (f : List Rat) (n : Nat) : List Rat := (List.range n).foldl (fun f i => match deedAt l row i with
  | some d => qadd f (qscale d.w (cs.getD i 0))
  | none => f) f
def onceL (l : Land) (f : List Rat) (x : List Int × List Rat) : List Rat := onceN l x.1 x.2 f l.sts.length
def endsN (l : Land) (cs : List Rat) (f : List Rat) (n : Nat) : List Rat := (List.range n).foldl (fun f i => qadd f (qscale (l.ends.getD i []) (cs.getD i 0))) f
def chHad (l : Land) (ps : List (List Int)) (rows : List (List Rat)) : List Rat := endsN l (rows.getLastD []) ((ps.reverse.zip rows).foldl (onceL l) (List.replicate l.k 0)) l.sts.length
/-! ### how long the chances' numbers are -/
def K63 : Nat := 591133442051411133755680800
def FrN (Q B : Nat) (q : Rat) : Prop := ∃ z : Int, q = Rat.divInt z (Q : Nat) ∧ z.natAbs ≤ B
section
variable {Q Q' B B' : Nat} {p q r : Rat}
theorem FrN.le (h : FrN Q B q) (l : B ≤ B') : FrN Q B' q := by obtain ⟨z, a, b⟩ := h; exact ⟨z, a, Nat.le_trans b l⟩
theorem FrN.add (hQ : 0 < Q) (h1 : FrN Q B q) (h2 : FrN Q B' r) : FrN Q (B + B') (q + r) := by
  obtain ⟨y, rfl, b1⟩ := h1
  obtain ⟨z, rfl, b2⟩ := h2
  refine ⟨y + z, ?_, Nat.le_trans (Int.natAbs_add_le _ _) (Nat.add_le_add b1 b2)⟩
  have hq : (Q : Int) ≠ 0 := by omega
  rw [Rat.divInt_add_divInt _ _ hq hq, ← Int.add_mul, Rat.divInt_mul_right hq]
theorem FrN.mul (h1 : FrN Q B q) (h2 : FrN Q' B' r) : FrN (Q * Q') (B * B') (q * r) := by
  obtain ⟨y, rfl, b1⟩ := h1
  obtain ⟨z, rfl, b2⟩ := h2
  refine ⟨y * z, ?_, by rw [Int.natAbs_mul]; exact Nat.mul_le_mul b1 b2⟩
  rw [Rat.divInt_mul_divInt]
  rfl
theorem FrN.wtle (hQ : 0 < Q) (h : FrN Q B q) : wt q ≤ max (bl B) (bl Q) := by
  obtain ⟨z, rfl, b⟩ := h
  have := divInt_wt z (Q : Int) (by omega)
  have e := bl_mono b
  rw [show ((Q : Nat) : Int).natAbs = Q from rfl] at this
  omega
theorem FrN.zero : FrN Q B 0 := ⟨0, by rw [Rat.zero_divInt], Nat.zero_le _⟩
theorem fr63 (h : wt p ≤ 6) : FrN K63 (63 * K63) p := by
  have h1 := Nat.lt_of_lt_of_le (lt_bl p.num.natAbs) (Nat.pow_le_pow_right (by decide) (Nat.le_trans (wt_num p) h))
  have h2 := Nat.lt_of_lt_of_le (lt_bl p.den) (Nat.pow_le_pow_right (by decide) (Nat.le_trans (wt_den p) h))
  have h3 := p.den_pos
  have hd : p.den ∣ K63 := (show ∀ d : Fin 64, 0 < d.val → d.val ∣ K63 by decide +kernel) ⟨p.den, h2⟩ h3
  obtain ⟨m, hm⟩ := hd
  have hm0 : (m : Int) ≠ 0 := by
    intro e
    have : m = 0 := by omega
    rw [this, Nat.mul_zero] at hm
    exact absurd hm (by decide)
  refine ⟨p.num * m, ?_, ?_⟩
  · rw [hm, Int.natCast_mul, Rat.divInt_mul_right hm0, Rat.num_divInt_den]
  · rw [Int.natAbs_mul]
    refine Nat.mul_le_mul (by omega) ?_
    rw [hm]
    exact Nat.le_mul_of_pos_left _ h3
end
def AccOk (n Q B : Nat) (cs : List Rat) : Prop := cs.length = n ∧ ∀ c ∈ cs, FrN Q B c
section
variable {n Q B B' i : Nat} {cs : List Rat} {q : Rat}
theorem AccOk.le (h : AccOk n Q B cs) (l : B ≤ B') : AccOk n Q B' cs := ⟨h.1, fun c hc => (h.2 c hc).le l⟩
theorem AccOk.get (h : AccOk n Q B cs) : FrN Q B (cs.getD i 0) := by
  rw [List.getD_eq_getElem?_getD]
  cases e : cs[i]? with
  | none => exact FrN.zero
  | some x => exact h.2 x (List.mem_of_getElem? e)
theorem AccOk.add (hQ : 0 < Q) (h : AccOk n Q B cs) (hq : FrN Q B' q) : AccOk n Q (B + B') (addAt cs i q) := by
  refine ⟨by rw [len_addAt, h.1], fun c hc => ?_⟩
  unfold addAt at hc
  rcases List.mem_or_eq_of_mem_set hc with hc | rfl
  · exact (h.2 c hc).le (Nat.le_add_right _ _)
  · exact FrN.add hQ h.get hq
theorem AccOk.pour {c : Rat} {B0 : Nat} (hQ : 0 < Q) (hc : FrN Q B0 c) : ∀ {fs : List (Nat × Rat)} {acc : List Rat} {B : Nat}, AccOk n (Q * K63) B acc → (∀ x ∈ fs, wt x.2 ≤ 6) → AccOk n (Q * K63) (B + fs.length * (B0 * (63 * K63))) (pour c acc fs)
  | [], acc, B, h, _ => h.le (Nat.le_add_right _ _)
  | x :: fs, acc, B, h, hw => by
    have := AccOk.pour hQ hc (h.add (i := x.1) (Nat.mul_pos hQ (by decide)) (hc.mul (fr63 (hw x (by simp))))) fun y hy => hw y (List.mem_cons_of_mem _ hy)
    refine AccOk.le this ?_
    have e : (fs.length + 1) * (B0 * (63 * K63)) = fs.length * (B0 * (63 * K63)) + B0 * (63 * K63) := Nat.succ_mul _ _
    rw [List.length_cons]
    omega
end
def ChOk (n j : Nat) (cs : List Rat) : Prop := AccOk n (K63 ^ j) ((2016 * K63) ^ j) cs
theorem FrN.bits {j : Nat} {q : Rat} {B : Nat} (h : FrN (K63 ^ j) B q) (hj : j ≤ 7) (hB : B ≤ (2016 * K63) ^ 7) : wt q ≤ 800 := by
  have := h.wtle (Nat.pow_pos (by decide))
  have e1 : bl B ≤ 800 := bl_le (Nat.lt_of_le_of_lt hB (by decide +kernel))
  have e2 : bl (K63 ^ j) ≤ 800 := bl_le (Nat.lt_of_le_of_lt (Nat.pow_le_pow_right (by decide) hj) (by decide +kernel))
  omega
theorem ChOk.bits {n j : Nat} {cs : List Rat} (h : ChOk n j cs) (hj : j ≤ 7) : allw 800 cs := fun c hc => (h.2 c hc).bits hj (Nat.pow_le_pow_right (by decide) hj)
def dC (cs : List Rat) : D := .lst (cs.map dq)
def dStands (l : Land) (k : Nat) (ps : List (List Int)) : D := .lst ((standsL l k ps).map dC)
@[irreducible] def sp_begun_in : ASp := fun ds R => ∃ (l : Land) (k : Nat), ds = [dLand l, .int k] ∧ l.sts.length ≤ 900 ∧ R (dC (begun l.sts.length k)) 1 []
theorem sp_begun_in.mk {l : Land} {k : Nat} {R : RR} (h1 : l.sts.length ≤ 900) (h : R (dC (begun l.sts.length k)) 1 []) : sp_begun_in [dLand l, .int k] R := by unfold sp_begun_in; exact ⟨l, k, rfl, h1, h⟩
@[irreducible] def sp_gone_on : ASp := fun ds R => ∃ (l : Land) (row : List Int) (cs : List Rat) (j : Nat), ds = [dLand l, .tup (row.map .int), dC cs] ∧ LandOk l ∧ RowOk l row ∧ ChOk l.sts.length j cs ∧ j ≤ 6 ∧ R (dC (goneOn l cs row)) 1 []
theorem sp_gone_on.mk {l : Land} {row : List Int} {cs : List Rat} {R : RR} (j : Nat) (h1 : LandOk l) (h2 : RowOk l row) (h3 : ChOk l.sts.length j cs) (h4 : j ≤ 6) (h : R (dC (goneOn l cs row)) 1 []) : sp_gone_on [dLand l, .tup (row.map .int), dC cs] R := by unfold sp_gone_on; exact ⟨l, row, cs, j, rfl, h1, h2, h3, h4, h⟩
@[irreducible] def sp_stands : ASp := fun ds R => ∃ (l : Land) (ps : List (List Int)) (n k : Nat), ds = [dLand l, .lst (dPlan ps), .int k] ∧ LandOk l ∧ PlanOk l n ps ∧ n ≤ 6 ∧ k < l.sts.length ∧ R (dStands l k ps) 2 []
theorem sp_stands.mk {l : Land} {ps : List (List Int)} {k : Nat} {R : RR} (n : Nat) (h1 : LandOk l) (h2 : PlanOk l n ps) (h3 : n ≤ 6) (h4 : k < l.sts.length) (h : R (dStands l k ps) 2 []) : sp_stands [dLand l, .lst (dPlan ps), .int k] R := by unfold sp_stands; exact ⟨l, ps, n, k, rfl, h1, h2, h3, h4, h⟩
@[irreducible] def sp_l_stands : ASp := fun ds R => ∃ (l : Land) (ps : List (List Int)) (n k : Nat), ds = [dLand l, .lst (dPlan ps), .int k] ∧ LandOk l ∧ PlanOk l n ps ∧ n ≤ 6 ∧ k < l.sts.length ∧ R (dStands l k ps) 1 []
theorem sp_l_stands.mk {l : Land} {ps : List (List Int)} {k : Nat} {R : RR} (n : Nat) (h1 : LandOk l) (h2 : PlanOk l n ps) (h3 : n ≤ 6) (h4 : k < l.sts.length) (h : R (dStands l k ps) 1 []) : sp_l_stands [dLand l, .lst (dPlan ps), .int k] R := by unfold sp_l_stands; exact ⟨l, ps, n, k, rfl, h1, h2, h3, h4, h⟩
@[irreducible] def sp_l_had : ASp := fun ds R => ∃ (l : Land) (ps : List (List Int)) (n k : Nat), ds = [dLand l, .lst (dPlan ps), dStands l k ps] ∧ LandOk l ∧ PlanOk l n ps ∧ n ≤ 6 ∧ k < l.sts.length ∧ R (dw (chHad l ps (standsL l k ps))) 0 []
theorem sp_l_had.mk {l : Land} {ps : List (List Int)} {k : Nat} {R : RR} (n : Nat) (h1 : LandOk l) (h2 : PlanOk l n ps) (h3 : n ≤ 6) (h4 : k < l.sts.length) (h : R (dw (chHad l ps (standsL l k ps))) 0 []) : sp_l_had [dLand l, .lst (dPlan ps), dStands l k ps] R := by unfold sp_l_had; exact ⟨l, ps, n, k, rfl, h1, h2, h3, h4, h⟩
end VL

set_option maxHeartbeats 2000000
namespace VL
open PySem PySem.Spec PyProof.Rows L2
local macro_rules | `(tactic| walk_at "n") => `(tactic| refine ⟨fun h => Bool.noConfusion (show false = true from h), fun _ => ?_⟩)
local macro_rules | `(tactic| walk_at "ty") => `(tactic| refine ⟨_, rfl, by decide, ?_⟩)
local macro_rules | `(tactic| walk_at "tys") => `(tactic| refine ⟨_, rfl, _, rfl, by decide, ?_⟩)
local macro_rules | `(tactic| walk_at "v") => `(tactic| repeat (first | refine ⟨rfl, ?_⟩ | refine ⟨_, rfl, ?_⟩))
local macro_rules | `(tactic| walk_at "y") => `(tactic| refine ⟨fun _ => ?_, fun h => Bool.noConfusion (show true = false from h)⟩)
local macro_rules | `(tactic| walk_at "z") => `(tactic| repeat (first | refine ⟨rfl, ?_⟩ | refine ⟨_, rfl, ?_⟩ | refine ⟨fun _ => ?_, fun h => Bool.noConfusion (show true = false from h)⟩ | refine ⟨fun h => Bool.noConfusion (show false = true from h), fun _ => ?_⟩ | refine ⟨tyIn rfl, ?_⟩ | refine ⟨tysIn rfl, ?_⟩ | refine ⟨smallL rfl, ?_⟩ | refine ⟨smallE rfl, ?_⟩))
local macro_rules | `(tactic| walk_at "zz") => `(tactic| repeat ((fail_if_success show forL _ _ _ _ _); first | refine ⟨rfl, ?_⟩ | refine ⟨_, rfl, ?_⟩ | refine ⟨fun _ => ?_, fun h => Bool.noConfusion (show true = false from h)⟩ | refine ⟨fun h => Bool.noConfusion (show false = true from h), fun _ => ?_⟩ | refine ⟨tyIn rfl, ?_⟩ | refine ⟨tysIn rfl, ?_⟩ | refine ⟨smallL rfl, ?_⟩ | refine ⟨smallE rfl, ?_⟩))
theorem forL_rel {α τ : Type} {rg : RG} {rb : RS} {E : EN} {g : α → D} {st : τ → Ev} {P : τ → List α → Prop}
    (step : ∀ (t : τ) (z : α) (zs : List α) (N : Ev → Prop), P t (z :: zs) → (∀ t', P t' zs → N (st t')) → rg (g z) (st t) fun ρ1 => rb ρ1 { nx := N, rt := E.rt, ct := N, bk := E.nx }) :
    ∀ (xs : List α) (t : τ), P t xs → (∀ t', P t' [] → E.nx (st t')) → forL rg rb (xs.map g) (st t) E
  | [], t, h, fin => fin t h
  | x :: xs, t, h, fin => step t x xs _ h fun t' h2 => forL_rel step xs t' h2 fin
theorem lcL_fold {α β τ : Type} {ivs : List Nat} {rg : RG} {rt : RT} {re : RE} {Q : List D → Ev → Prop} {g : α → D} {f : β → D} {st : τ → Ev} {P : τ → List β → List α → Prop}
    (hlen : ∀ t ys x xs, P t ys (x :: xs) → ys.length ≤ 100000)
    (step : ∀ (t : τ) (ys : List β) (x : α) (xs : List α) (n : Nat) (K : D → Ev → Prop) (N : Ev → Prop), n < sizeLine → P t ys (x :: xs) → (∀ t' y, P t' (ys ++ [y]) xs → ∀ ρ', wipeE ivs ρ' = st t' → K (f y) ρ') → rg (g x) (st t) fun ρ1 => rt ρ1 fun c ρ2 => way c (re ρ2 fun y _ ρ3 => n < sizeLine ∧ K y ρ3) (N ρ2))
    (xs : List α) (t : τ) (ρ : Ev) (hP : P t [] xs) (h0 : wipeE ivs ρ = st t) (fin : ∀ t ys ρ, P t ys [] → wipeE ivs ρ = st t → Q (ys.map f) ρ) : lcL ivs rg rt re (xs.map g) ρ [] Q := by
  refine lcL_inv (I := fun items acc ρ => ∃ t ys zs, wipeE ivs ρ = st t ∧ items = zs.map g ∧ acc = ys.map f ∧ P t ys zs) (fun acc ρ hI => ?_) (fun d ds acc ρ K N hK hN hI => ?_) _ _ _ ⟨t, [], xs, h0, rfl, rfl, hP⟩
  · obtain ⟨t, ys, zs, h, e2, e3, hp⟩ := hI
    cases zs with
    | cons z zs => cases e2
    | nil => rw [e3]; exact fin t ys ρ hp h
  · obtain ⟨t, ys, zs, h, e2, e3, hp⟩ := hI
    cases zs with
    | nil => cases e2
    | cons z zs =>
      rw [List.map_cons] at e2
      cases e2
      rw [h]
      subst e3
      have big : (100000 : Nat) < sizeLine := by decide
      refine step t ys z zs (ys.map f).length K N (by rw [List.length_map]; have := hlen t ys z zs hp; omega) hp fun t' y hp' ρ' h' => ?_
      exact hK (f y) ρ' ⟨t', ys ++ [y], zs, h', rfl, by rw [List.map_append]; rfl, hp'⟩
end VL

namespace VL
open PySem PySem.Spec PyProof.Rows L2
/-! ### a place of a list as a target -/
section
variable {X : Cx} {o ix : Expr} {p : Pos} {i : Nat} {ri : RE}
def rgIx (i : Nat) (ri : RE) : RG := fun d ρ Q => (lstAt ρ i).isSome = true ∧ ri ρ fun di _ ρ2 => match di with
  | .int k => ∃ ds, lstAt ρ2 i = some ds ∧ ∃ j, ixN ds.length k = some j ∧ Q (putO ρ2 i (.lst (ds.set j d)))
  | _ => False
theorem vg_ix (ho : PE X o (tVar i)) (hi : VE X ix ri)
    (ha : ∀ v, assign (.Subscript o ix p) X.env v = (do
      let ov ← holding [v] (eval o X.env)
      let iv ← holding [v, ov] (eval ix X.env)
      standAt p
      holding [v, ov, iv] (setItem ov iv v)
      release [v, ov, iv] []) := by intro _; rfl) : VG X [] (.Subscript o ix p) (rgIx i ri) := by
  refine PG.weak (pg_sub ho hi set_list ha) ?_
  rintro v σ H Q' ⟨S, F, ρ, tmp, Q, d, ⟨fps1, h1⟩, r1, ⟨q0, q1⟩, w⟩
  obtain ⟨ds0, e0⟩ := Option.isSome_iff_exists.mp q0
  obtain ⟨p0, vs0, e3, _⟩ := h1.lref e0
  refine ⟨_, e3, tV.mk ⟨fps1, h1⟩ q1 fun iv H2 q => ?_⟩
  obtain ⟨F2, ρ2, di, k2, s2, ⟨fps, h2⟩, r2, q2⟩ := q.fz
  cases di with
  | int z =>
    obtain ⟨ds, e1, j, e2, q2⟩ := q2
    obtain ⟨p, vs, e4, e5, e6, rr⟩ := h2.lref e1
    rw [e3] at e4
    cases e4
    cases r2
    exact ⟨_, vs, z, j, rfl, rfl, e6, by rw [rr.length]; exact e2, w _ _ ⟨rfl, fun _ _ => rfl⟩ ⟨F2, _, s2, ⟨fps, h2.setL e1 e3 e5 (Reps.set (Rep.mono s2 _ _ r1) j rr)⟩, q2⟩⟩
  | _ => exact q2.elim
end
end VL

namespace VL
open PySem PySem.Spec PyProof.Rows L2
/-! ### tuples of owned things: made, and one of them taken -/
section
variable {X : Cx} {a b : Expr} {pos : Pos} {i : Nat} {ra rb re : RE} {c : Int}
end
end VL

set_option maxHeartbeats 4000000
namespace VL
open PySem PySem.Spec PyProof.Rows L2
/-! ### xs[3::-1] of fiveL -/
section
variable {X : Cx} {e : Expr} {pos : Pos}
theorem fiveL {α : Type} : ∀ {xs : List α}, xs.length = 5 → ∃ a b c d e, xs = [a, b, c, d, e]
  | [a, b, c, d, e], _ => ⟨a, b, c, d, e, rfl⟩
  | [], h => by cases h
  | [_], h => by cases h
  | [_, _], h => by cases h
  | [_, _, _], h => by cases h
  | [_, _, _, _], h => by cases h
  | _ :: _ :: _ :: _ :: _ :: _ :: _, h => by simp at h
end
end VL

set_option maxHeartbeats 2000000
namespace VL
open PySem PySem.Spec PyProof.Rows L2
/-! ### zip of three rows of any kind -/
section
variable {P : Program} {w : World} {K : Fg} {S1 S2 S3 : Fg → Hp → Addr → List V → Prop} {It1 It2 It3 : Heap → Addr → Addr → Nat → Prop} {Sq1 Sq2 Sq3 : Heap → Addr → Array Value → Prop} {ob1 ob2 ob3 : Addr → Obj}
end
end VL

namespace VL
open PySem PySem.Spec PyProof.Rows L2
/-! ### statements that touch just the slots that are named; lent while they run -/
theorem Kept.refl {ws : List Nat} {σ : L2.St} : Kept ws σ σ := ⟨rfl, fun _ _ => rfl⟩
theorem Kept.tr {ws : List Nat} {σ σ' σ2 : L2.St} (a : Kept ws σ σ') (b : Kept ws σ' σ2) : Kept ws σ σ2 := ⟨b.1.trans a.1, fun m h => (b.2 m h).trans (a.2 m h)⟩
theorem Kept.sub {is ws : List Nat} {σ σ' : L2.St} (a : Kept is σ σ') (h : ∀ m ∈ is, m ∈ ws) : Kept ws σ σ' := ⟨a.1, fun m z => a.2 m fun q => z (h m q)⟩
structure EOkK (K : Fg) (S : Frm) (F : Hp) (σ : L2.St) (ws : List Nat) (E : EN) (D : Ends) : Prop where
  nx : ∀ σ' H', Kept ws σ σ' → NPost K S F E.nx σ' H' → D.nx σ' H'
  rt : ∀ v H', RPost K S F E.rt v H' → D.rt v H'
  bk : ∀ σ' H', Kept ws σ σ' → NPost K S F E.bk σ' H' → D.bk σ' H'
  ct : ∀ σ' H', Kept ws σ σ' → NPost K S F E.ct σ' H' → D.ct σ' H'
section
variable {X : Cx} {ws : List Nat} {st : Stmt} {sts rest : List Stmt} {e a b c : Expr} {es : List Expr} {pos p : Pos} {K : Fg} {S : Frm} {F F' F1 H H' : Hp} {σ σ' : L2.St} {ρ ρ' : Ev} {fps : Nat → List Addr} {tmp : List (Addr × HO)} {r u : RS}
theorem EOkK.from {E : EN} {D : Ends} (s : Same F F1) (h : EOkK K S F σ ws E D) : EOkK K S F1 σ ws E D := ⟨fun _ _ k q => h.nx _ _ k (q.from s), fun _ _ q => h.rt _ _ (q.from s), fun _ _ k q => h.bk _ _ k (q.from s), fun _ _ k q => h.ct _ _ k (q.from s)⟩
end
end VL

namespace VL
open PySem PySem.Spec PyProof.Rows L2
/-! ### a lent statement that leaves one thing without lists -/
mutual
def noLst : D → Bool
  | .non => true
  | .bl _ => true
  | .int _ => true
  | .str _ => true
  | .opq _ => true
  | .scr _ => false
  | .pdc _ _ => false
  | .tup ds => noLsts ds
  | .lst _ => false
  | .dct _ _ => false
def noLsts : List D → Bool
  | [] => true
  | d :: ds => noLst d && noLsts ds
end
mutual
theorem Rep.tups {K : Fg} {F F' : Hp} (s : ∀ a vs, F a = some (.tup vs) → F' a = some (.tup vs)) : ∀ (d : D) (v : V), noLst d = true → Rep K F d v → Rep K F' d v
  | .non, _, _, h => h
  | .bl _, _, _, h => h
  | .int _, _, _, h => h
  | .str _, _, _, h => h
  | .opq _, _, _, h => h
  | .scr _, _, n, _ => Bool.noConfusion n
  | .pdc _ _, _, n, _ => Bool.noConfusion n
  | .tup ds, _, n, ⟨p, vs, e, h, r⟩ => ⟨p, vs, e, h.elim (fun z => .inl (s _ _ z)) .inr, Reps.tups s ds vs n r⟩
  | .lst _, _, n, _ => Bool.noConfusion n
  | .dct _ _, _, n, _ => Bool.noConfusion n
theorem Reps.tups {K : Fg} {F F' : Hp} (s : ∀ a vs, F a = some (.tup vs) → F' a = some (.tup vs)) : ∀ (ds : List D) (vs : List V), noLsts ds = true → Reps K F ds vs → Reps K F' ds vs
  | [], _, _, h => h
  | d :: ds, _, n, ⟨v, r, e, h, t⟩ => by
    have n' : (noLst d && noLsts ds) = true := n
    rw [Bool.and_eq_true] at n'
    exact ⟨v, r, e, Rep.tups s d v n'.1 h, Reps.tups s ds r n'.2 t⟩
end
section
variable {K : Fg} {S : Frm} {F H : Hp} {σ : L2.St} {ρ : Ev} {fps : Nat → List Addr} {tmp : List (Addr × HO)}
theorem SRf.put {j : Nat} {d : D} {v : V} (h : SRf K S F H σ ρ fps tmp) (e : ρ[j]? = some Sl.no) (hv : (σ[j]?).join = some v) (r : Rep K F d v) : SRf K S F H σ (ρ.set j (.fz d)) fps tmp := by
  have hj : j < ρ.length := (List.getElem?_eq_some_iff.mp e).1
  refine h.change [] (Same.refl F) h.sub (fun a q => .inl q) (fun a o e _ => e) (fun a q => q) (fun a ha => absurd ha List.not_mem_nil) (List.length_set ..) fun i s es => ?_
  by_cases q : i = j
  · subst q
    rw [List.getElem?_set_self hj] at es
    cases es
    exact .inr ⟨h.slot i _ e, v, hv, r⟩
  · rw [List.getElem?_set_ne (fun z => q z.symm)] at es
    exact .inl ⟨es, fun a _ z => absurd z List.not_mem_nil⟩
end
end VL

namespace VL
open PySem PySem.Spec PyProof.Rows L2
/-! ### dicts of ints to True, filled step by step, sorted -/
section
variable {X : Cx} {K : Fg} {S : Frm} {F H : Hp} {σ : L2.St} {ρ : Ev} {fps : Nat → List Addr} {tmp : List (Addr × HO)} {i : Nat}
end
theorem hu1 {n : Nat} (h : n + 64 < cLine) : n + 1 < cLine := by omega
end VL

namespace VL
open PySem PySem.Spec PyProof.Rows L2
/-! ### some slots lent while a statement runs -/
def flatL : D → Bool
  | .lst ds => noLsts ds
  | .dct _ ds => noLsts ds
  | _ => false
def okS : Sl → Prop
  | .no => True
  | .fz d => noLst d = true
  | .ow 1 d => flatL d = true
  | _ => False
def isFz : Sl → Bool
  | .fz _ => true
  | _ => false
def BackS (ws js : List Nat) (i : Nat) (o n r : Sl) : Prop := r = .no ∨ (i ∉ ws ∧ i ∈ js ∧ r = o) ∨ (i ∉ ws ∧ isFz o = true ∧ r = o) ∨ (i ∉ js ∧ r = n ∧ okS n)
def Back (ws js : List Nat) : Nat → Ev → Ev → Ev → Prop
  | i, o :: os, n :: ns, r :: rs => BackS ws js i o n r ∧ Back ws js (i + 1) os ns rs
  | _, [], [], [] => True
  | _, _, _, _ => False
theorem Back.at {ws js : List Nat} : ∀ {k : Nat} {os ns rs : Ev}, Back ws js k os ns rs → os.length = rs.length ∧ ns.length = rs.length ∧ ∀ i r, rs[i]? = some r → ∃ o n, os[i]? = some o ∧ ns[i]? = some n ∧ BackS ws js (k + i) o n r
  | _, [], [], [], _ => ⟨rfl, rfl, fun i r e => by simp at e⟩
  | k, o :: os, n :: ns, r :: rs, h => by
    obtain ⟨h1, h2⟩ := h
    obtain ⟨a, b, c⟩ := Back.at h2
    refine ⟨by simp [a], by simp [b], fun i r' e => ?_⟩
    cases i with
    | zero => cases e; exact ⟨o, n, rfl, rfl, h1⟩
    | succ i =>
      obtain ⟨o', n', e1, e2, e3⟩ := c i r' e
      exact ⟨o', n', e1, e2, by rw [show k + (i + 1) = k + 1 + i by omega]; exact e3⟩
  | _, [], [], _ :: _, h => h.elim
  | _, [], _ :: _, _, h => h.elim
  | _, _ :: _, [], _, h => h.elim
  | _, _ :: _, _ :: _, [], h => h.elim
theorem OwnR.flat {K : Fg} {F F' H : Hp} {d : D} {v : V} {fp : List Addr} (s : ∀ a vs, F a = some (.tup vs) → F' a = some (.tup vs)) (hf : flatL d = true) (h : OwnR K F H 1 d v fp) : OwnR K F' H 1 d v fp := by
  cases d with
  | lst ds =>
    obtain ⟨p, vs, fr, e, h, e2, t⟩ := h
    refine ⟨p, vs, fr, e, h, e2, ?_⟩
    have hn : noLsts ds = true := hf
    clear h e e2 hf
    induction ds generalizing vs fr with
    | nil => exact t
    | cons d ds ih =>
      obtain ⟨v, r, f1, f2, e1, e2, h, t⟩ := t
      have hn' : (noLst d && noLsts ds) = true := hn
      rw [Bool.and_eq_true] at hn'
      exact ⟨v, r, f1, f2, e1, e2, ⟨h.1, Rep.tups s d v hn'.1 h.2⟩, ih _ _ t hn'.2⟩
  | dct ks ds =>
    obtain ⟨p, vs, e, h, e2, t⟩ := h
    exact ⟨p, vs, e, h, e2, Reps.tups s ds vs hf t⟩
  | _ => cases hf
section
variable {K : Fg} {S : Frm} {F H : Hp} {σ : L2.St} {ρ : Ev} {fps : Nat → List Addr}
end
end VL

namespace VL
open PySem PySem.Spec PyProof.Rows L2
/-! ### x = found[k], an inner list by its own name, changed in place while the block runs -/
section
variable {K : Fg} {S : Frm} {F H : Hp} {σ : L2.St} {ρ : Ev} {fps : Nat → List Addr} {i x j : Nat} {p q : Addr} {ds es : List D} {f1 f3 : List Addr} {vs : List V}
theorem OwnL.zero : ∀ {ds : List D} {vs : List V} {fr : List Addr}, OwnL (OwnR K F H 0) ds vs fr → fr = []
  | [], _, _, h => h.2
  | d :: ds, _, _, ⟨v, r, f1, f2, e1, e2, h, t⟩ => by rw [e2, h.1, OwnL.zero t]; rfl
end
end VL

namespace VL
open PySem PySem.Spec PyProof.Rows L2
/-! ### a comprehension whose items stay owned -/
section
variable {K : Fg}
variable {X : Cx} {pos : Pos}
end
end VL

namespace VL
open PySem PySem.Spec PyProof.Rows L2
/-! ### dicts whose keys are pairs of ints: dict(..) of a comprehension, sorted, [..] -/
def mergeT (kvs more : List (List Key × V)) : List (List Key × V) := more.foldl (fun acc kv => putK acc kv.1 kv.2) kvs
theorem kt_mergeT {H : Hp} : ∀ {more : List (List Key × V)} {ps : List (List Key × Addr × Value)} {kvs : List (List Key × V)} {xs : List (List Key × Addr × Value)}, KT H more ps → KT H kvs xs → KT H (mergeT kvs more) (storedAllH xs ps)
  | [], _, _, _, h, r => by cases h; exact r
  | kv :: more, _, kvs, xs, .cons (b := q) (l₂ := ps) h t, r => by
    obtain ⟨h1, h2, h3⟩ := h
    have z := KT.put r kv.1 h2 h3
    show KT H (mergeT (putK kvs kv.1 kv.2) more) (storedAllH (storedH xs q.1 q.2.1 q.2.2) ps)
    refine kt_mergeT t ?_
    rw [h1] at z ⊢
    exact z
theorem length_putT (kvs : List (List Key × V)) (k : List Key) (v : V) : (putK kvs k v).length ≤ kvs.length + 1 := by
  unfold putK
  split
  · rw [List.length_map]; omega
  · rw [List.length_append, List.length_singleton]; omega
theorem length_mergeT : ∀ (more kvs : List (List Key × V)), (mergeT kvs more).length ≤ kvs.length + more.length
  | [], kvs => Nat.le_refl _
  | p :: r, kvs => by
    have h1 := length_mergeT r (putK kvs p.1 p.2)
    have h2 := length_putT kvs p.1 p.2
    show (mergeT (putK kvs p.1 p.2) r).length ≤ _
    rw [List.length_cons]
    omega
section
variable {X : Cx}
/-- a pair of a key tuple and a value -/
def KvAt (H : Hp) (T : Addr) (kv : List Key × V) : Prop := ∃ b, H T = some (.tup [.ref b, kv.2]) ∧ H b = some (.tup (kv.1.map kV))
theorem kvs_of {pins : List (Addr × Obj)} {σ : L2.St} {H : Hp} {s : Shared} (I : Inv X pins σ H s) : ∀ {ts : List Addr} {kvs : List (List Key × V)}, Paired (KvAt H) ts kvs →
    ∃ ps : List (List Key × Addr × Value), KT H kvs ps ∧ ps.length = ts.length ∧ ∀ (j : Nat) (q : List Key × Addr × Value), ps[j]? = some q → ∃ T, ts[j]? = some T ∧ IsTup s.heap T #[.ref q.2.1, q.2.2] ∧ (tupleKind (mixKind X.prog X.w)).is s.heap q.1 q.2.1 ∧ ∃ v, H T = some (.tup [.ref q.2.1, v])
  | _, _, .nil => ⟨[], .nil, rfl, fun j q e => by simp at e⟩
  | _, _, .cons (a := T) (b := kv) h t => by
    obtain ⟨ps, r, hl, hp⟩ := kvs_of I t
    obtain ⟨b, h1, h2⟩ := h
    obtain ⟨its, rv, ht, _⟩ := I.tuple (xs := [.ref b, kv.2]) (.inl (.inl h1))
    obtain ⟨u, y, ei, ru, ry⟩ := vals2 rv
    subst ei
    cases (show u = Value.ref b from ru)
    refine ⟨(kv.1, b, y) :: ps, .cons ⟨rfl, h2, ry⟩ r, by rw [List.length_cons, List.length_cons, hl], fun j q e => ?_⟩
    cases j with
    | zero =>
      have e' : (kv.1, b, y) = q := Option.some.inj e
      subst e'
      exact ⟨T, rfl, ht, key_of I.hok h2, _, h1⟩
    | succ j =>
      obtain ⟨T', e1, e2, e3, e4⟩ := hp j q (by simpa using e)
      exact ⟨T', by simpa using e1, e2, e3, e4⟩
def rDictT (K : Fg) : List V → Hp → VK → Prop := fun xs H Q => ∃ (a : Addr) (ts : List Addr) (kvs : List (List Key × V)), xs = [.ref a] ∧ SqL K H a (ts.map V.ref) ∧ Paired (KvAt H) ts kvs ∧
    ∀ (p : Addr) (o : Obj) (es : Array DictEntry) (ep : Nat) (bs : List Addr), H p = none → o.data = .dict es ep → es.toList.map (·.key) = bs.map Value.ref → Paired (fun (kv : List Key × V) b => H b = some (.tup (kv.1.map kV))) (mergeT [] kvs) bs → (∀ b ∈ bs, ∃ T v, T ∈ ts ∧ H T = some (.tup [.ref b, v])) →
      Q (.ref p) (upd H p (.frz o (.dT (mergeT [] kvs))))
theorem cr_dictT (hcalm : X.calm = true) (hu : X.A.units + 64 < cLine) : CallR X (.type "dict") (rDictT X.K) := by
  intro pins s σ H xs us Q I r q
  obtain ⟨a, ts, kvs, ex, hq, hp, q⟩ := q
  subst ex
  obtain ⟨u, eu, rx⟩ := vals1 r
  subst eu
  cases rx
  obtain ⟨its, rv, pl, hz⟩ := I.list hq
  have ei := refs_at rv
  subst ei
  rw [List.length_map] at hz
  obtain ⟨ps, rel, hl, hpr⟩ := kvs_of I hp
  obtain ⟨o, n, ho, hc, hd, hdat⟩ := pl
  have hm : (s.heap.objs.size == sysModules) = false := beq_eq_false_iff_ne.mpr (Nat.ne_of_gt I.big)
  have hlk : kvs.length = ps.length := Paired.length rel
  refine PySem.call_dict_pairsH (knd := tupleKind (mixKind X.prog X.w)) (ps := ps) (PySem.PairArg.list a (ts.map Value.ref).toArray (fun j => ts.getD j 0) (ps.map fun q => (Value.ref q.2.1, q.2.2))) (I.ok.hd hcalm) ?_ ⟨⟨o, n, ho, hc, hd, hdat⟩, ?_, fun j k v e => ?_⟩ ⟨?_, fun i key v e => ?_⟩ (fun h' hk x hx => ?_) ?_ fun h' tk hD hk => ?_
  · exact tupleKind_room_in1 (A := X.A.in1) (by show X.A.in1.units + 1 < cLine; have : X.A.in1.units = X.A.units + 1 := rfl; omega)
  · rw [List.size_toArray, List.length_map, List.length_map, hl]
  · rw [List.getElem?_map] at e
    obtain ⟨x, e1, e2⟩ := Option.map_eq_some_iff.mp e
    cases e2
    obtain ⟨T, t1, t2, t3, _⟩ := hpr j x e1
    show (ts.map Value.ref).toArray[j]? = some (Value.ref (ts.getD j 0)) ∧ PySem.PairAt s.heap (ts.getD j 0) _ _
    refine ⟨?_, .inl ?_⟩
    · have : ts.getD j 0 = T := by rw [List.getD_eq_getElem?_getD, t1]; rfl
      rw [this, List.getElem?_toArray, List.getElem?_map, t1]
      rfl
    · have : ts.getD j 0 = T := by rw [List.getD_eq_getElem?_getD, t1]; rfl
      rw [this]
      exact t2
  · rw [List.length_map]
  · rw [show (PySem.PairRel (ps.map fun q => (Value.ref q.2.1, q.2.2)) i key v) = ((ps.map fun q => (Value.ref q.2.1, q.2.2))[i]? = some (key, v)) from rfl, List.getElem?_map] at e
    obtain ⟨x, e1, e2⟩ := Option.map_eq_some_iff.mp e
    cases e2
    exact ⟨x.1, x.2.1, e1, rfl⟩
  · obtain ⟨j, hj⟩ := List.mem_iff_getElem?.mp hx
    obtain ⟨T, t1, t2, t3, _⟩ := hpr j x hj
    exact tupleKind_stays.stays (fun b o vs m e q => hk b o (Nat.ne_of_lt (Heap.lt_size e)) (fun z => nomatch z) e) t3
  · rw [List.length_map, hl]; exact hz
  · obtain ⟨od, es, ep, h1, h2, h3, h4, _, h5⟩ := hD
    have kt : KT H (mergeT [] kvs) (storedAllH [] ps) := kt_mergeT rel .nil
    have hn := I.hok.fresh (Nat.le_refl s.heap.objs.size)
    have hlen : (mergeT [] kvs).length ≤ sizeLine := by
      have := length_mergeT kvs []
      rw [List.length_nil, Nat.zero_add, hlk, hl] at this
      exact Nat.le_trans this hz
    have hk' : ∀ b o, s.heap.get? b = some o → h'.get? b = some o := fun b o e => hk b o (fun z => nomatch z) e
    refine ⟨.ref s.heap.objs.size, upd H s.heap.objs.size (.frz od (.dT (mergeT [] kvs))), I.laid (t' := tk) hk' (Nat.le_refl _) ?_, rfl, q _ od es ep ((storedAllH [] ps).map fun x => x.2.1) hn h3 ?_ ?_ ?_⟩
    · refine ⟨h1, hlen, hm, storedAllH [] ps, KT.keeps kt fun b ys e => ?_, od, es, ep, h1, h2, h3, h4, h5⟩
      rw [upd_ne (fun z => by rw [z, hn] at e; cases e)]
      exact e
    · rw [h4, List.map_map, List.map_map]
      rfl
    · generalize mergeT [] kvs = l at kt
      generalize storedAllH [] ps = m at kt
      induction kt with
      | nil => exact .nil
      | cons h t ih => exact .cons h.2.1 ih
    · intro b hb
      obtain ⟨x, hx, rfl⟩ := List.mem_map.mp hb
      exact storedAllH_keys (P := fun _ b => ∃ T v, T ∈ ts ∧ H T = some (.tup [.ref b, v])) (xs := []) (fun x hx => absurd hx List.not_mem_nil) (fun x hx => by
        obtain ⟨j, hj⟩ := List.mem_iff_getElem?.mp hx
        obtain ⟨T, t1, _, _, v, t4⟩ := hpr j x hj
        exact ⟨T, v, List.mem_of_getElem? t1, t4⟩) x hx

/-! sorted -/
def pairAt (H : Hp) (b : Addr) : Int × Int := match H b with
  | some (.tup [.int x, .int y]) => (x, y)
  | _ => (0, 0)
theorem pairAt_of {H : Hp} {b : Addr} {x y : Int} (h : H b = some (.tup [.int x, .int y])) : pairAt H b = (x, y) := by unfold pairAt; rw [h]
def unRef : Value → Addr
  | .ref a => a
  | _ => 0
def rSortedDT (K : Fg) : List V → Hp → VK → Prop := fun xs H Q => ∃ (a : Addr) (o : Obj) (es : Array DictEntry) (ep : Nat) (l : List (List Key × V)) (bs : List Addr), xs = [.ref a] ∧ Rd H a (.dT l) ∧ H a = some (.frz o (.dT l)) ∧ o.data = .dict es ep ∧ es.toList.map (·.key) = bs.map Value.ref ∧
  (∀ b ∈ bs, ∃ x y, H b = some (.tup [.int x, .int y])) ∧
  ∀ (cs : List Addr) (p : Addr), cs.Perm bs → cs.Pairwise (fun b c => SrtO.lexB (pairAt H c) (pairAt H b) = false) → H p = none → Q (.ref p) (upd H p (.lst (cs.map V.ref)))
theorem cr_sortedDT (hcalm : X.calm = true) : CallR X (.builtin "sorted") (rSortedDT X.K) := by
  intro pins s σ H xs us Q I r q
  obtain ⟨a, o, es, ep, l, bs, ex, hrd, hfr, hdat, hbs, hpr, q⟩ := q
  subst ex
  obtain ⟨u, eu, rx⟩ := vals1 r
  subst eu
  cases rx
  obtain ⟨z, hs, ks, pr, o', es', ep', ho', hx, hdt, he, hn⟩ := (show ObjOk X.prog X.w H s.heap a (.dT l) from hrd.ok I.hok)
  obtain ⟨ho, _⟩ := (show s.heap.get? a = some o ∧ _ from I.hok a _ hfr)
  have eo : o' = o := Option.some.inj (ho'.symm.trans ho)
  subst eo
  rw [hdat] at hdt
  cases hdt
  have l1 : es.size = bs.length := by
    have := congrArg List.length hbs
    rw [List.length_map, List.length_map, Array.length_toList] at this
    exact this
  have l2 : es.size = ks.length := size_of_entries he
  have l3 : l.length = ks.length := Paired.length pr
  have hz : es.size ≤ sizeLine := by rw [l2, ← l3]; exact z
  refine Calls.call_function_entry PyProof.Rows.kind_sorted PyProof.Rows.plain_sorted PyProof.Rows.entry_sorted (PyProof.Rows.args_sorted1 _) ?_
  unfold Builtin.«sorted»
  refine wpAny_bind (m := checkCount "sorted" 1 1 _) (wpAny_pure ?_)
  refine wpAny_bind (PySem.W.kdu_collect (A := X.A.in1) (kdl_raw hs hx hdat) (I.ok.hd hcalm) ho hz fun h' tk acc hk it => ?_)
  have ea : acc.toList = bs.map Value.ref := by
    rw [← hbs]
    apply List.ext_getElem?
    intro j
    have hl : acc.toList.length = es.size := by rw [Array.length_toList, it.1]
    rw [List.getElem?_map]
    cases hj : acc.toList[j]? with
    | none =>
      have h1 := List.getElem?_eq_none_iff.mp hj
      rw [List.getElem?_eq_none (by rw [Array.length_toList]; omega)]
      rfl
    | some v =>
      obtain ⟨en, hen, hv⟩ := it.2 j v (by rw [← Array.getElem?_toList]; exact hj)
      rw [Array.getElem?_toList, hen, hv]
      rfl
  have I1 : Inv X pins σ H { s with heap := h', toks := tk } := I.kept hk
  have hzl : acc.toList.length ≤ sizeLine := by rw [ea, List.length_map, ← l1]; exact hz
  refine wpAny_bind (wpAny_newList ?_ hzl)
  have hoL : (h'.push (seqObj "list" acc.toList.toArray 0)).get? h'.objs.size = some (seqObj "list" acc.toList.toArray 0) := Heap.get?_push_size _ rfl
  show wpAny _ _ _ _ _ { s with heap := h'.push (seqObj "list" acc.toList.toArray 0), toks := tk }
  have hpair : ∀ v ∈ acc.toList, Srt.IsPair h' v (pairAt H (unRef v)).1 (pairAt H (unRef v)).2 := fun v hv => by
    rw [ea] at hv
    obtain ⟨b, hb, rfl⟩ := List.mem_map.mp hv
    obtain ⟨x, y, hxy⟩ := hpr b hb
    show Srt.IsPair h' _ (pairAt H b).1 (pairAt H b).2
    rw [pairAt_of hxy]
    obtain ⟨_, its2, r2, ob, hob, hcb, nb, hdb⟩ := I1.hok _ _ hxy
    obtain ⟨u1, u2, rfl, ri, rj⟩ := vals2 r2
    obtain ⟨t1, rfl⟩ := ri
    obtain ⟨t2, rfl⟩ := rj
    exact ⟨b, ob, t1, t2, nb, rfl, hob, hcb, hdb⟩
  refine wpAny_bind (wpAny_holding (wpAny_call_entry PyProof.Rows.slot_list_sort ⟨_, hoL, rfl⟩ PyProof.Rows.entry_list_sort
    (SrtO.list_sort_ord (s := { s with heap := h'.push (seqObj "list" acc.toList.toArray 0), toks := tk }) (SrtO.swo_lex fun v => pairAt H (unRef v)) hoL hzl (fun h2 => ?_) fun out g1 g2 => ⟨_, rfl, ?_⟩) (PyProof.Rows.args_list_sort _)))
  · refine SrtO.pairs_sortableO (k := fun v => pairAt H (unRef v)) (s := { s with heap := h'.push (seqObj "list" acc.toList.toArray 0), toks := tk }) (by omega) (fun v hm => (hpair v hm).keeps fun b o e _ => Heap.get?_push_of_some _ e) fun o e => ?_
    have e' : some o = some (seqObj "list" acc.toList.toArray 0) := e.symm.trans hoL
    cases e'
    intro c
    exact absurd (Value.type.inj c) (by decide)
  · have hpm : out.Perm (bs.map Value.ref) := by rw [← ea]; exact g2.perm
    have eout : out = (out.map unRef).map Value.ref := by
      have hm : ∀ u ∈ out, ∃ b, u = Value.ref b := fun u hu => by
        obtain ⟨b, _, e⟩ := List.mem_map.mp (hpm.mem_iff.mp hu)
        exact ⟨b, e.symm⟩
      clear g1 g2 hpm
      induction out with
      | nil => rfl
      | cons u out ih =>
        obtain ⟨b, rfl⟩ := hm u (by simp)
        rw [List.map_cons, List.map_cons, ← ih fun u hu => hm u (List.mem_cons_of_mem _ hu)]
        rfl
    have e2 : (out.map unRef).Perm bs := by
      have := hpm.map unRef
      rw [List.map_map] at this
      have e3 : bs.map (unRef ∘ Value.ref) = bs := by
        have : (unRef ∘ Value.ref) = id := rfl
        rw [this, List.map_id]
      rw [e3] at this
      exact this
    obtain ⟨e', he'⟩ := PyProof.Rows.sortedHeap_at (vs := acc.toList) (out := out.toArray) hoL
    have hlen : ((out.map unRef).map V.ref).length ≤ sizeLine := by
      rw [List.length_map, e2.length_eq, ← l1]
      exact hz
    refine wpAny_pure ⟨_, rfl, .ref h'.objs.size, upd H h'.objs.size (.lst ((out.map unRef).map V.ref)), I1.laid (t' := tk) (fun b u e => ?_) (Nat.le_refl _)
      (show ObjOk X.prog X.w _ _ _ (.lst ((out.map unRef).map V.ref)) from ⟨hlen, out, e', ?_, he'⟩), rfl, q _ _ e2 ?_ (I1.hok.fresh (Nat.le_refl _))⟩
    · have hb : b < h'.objs.size := Heap.lt_size e
      rw [PyProof.Rows.sortedHeap_old (Nat.ne_of_lt hb) (by rw [size_push']; exact Nat.lt_succ_of_lt hb)]
      exact Heap.get?_push_of_some _ e
    · rw [eout]
      have := vals_refs (out.map unRef)
      rw [← eout] at this ⊢
      exact this
    · exact List.pairwise_map.mpr g1
/-- d[k], k a tuple -/
def rIxDT (K : Fg) : R2 := fun x y H Q => ∃ (a b : Addr) (kvs : List (List Key × V)) (k : List Key) (v : V), x = .ref a ∧ y = .ref b ∧ Rd H a (.dT kvs) ∧ SqT K H b (k.map kV) ∧ valV kvs k = some v ∧ Q v H
theorem ix_dictT (hu : X.A.units + 1 < cLine) : IxR X (rIxDT X.K) := by
  intro value slice pins s σ H x y v u Q I rx ry h hs
  obtain ⟨a, b, kvs, k, r, rfl, rfl, hrd, hk, e, q⟩ := h
  obtain rfl : v = Value.ref a := rx
  obtain rfl : u = Value.ref b := ry
  obtain ⟨z, hd, xs, rel, dd⟩ := dt_rd I.hok hrd
  obtain ⟨w', hw, rw'⟩ := RelO.some_of (v := r) (o := (atKey xs k).map (·.2)) (by rw [← e]; exact rel.val k)
  obtain ⟨p, hp, hp2⟩ := Option.map_eq_some_iff.mp hw
  obtain ⟨its, rv, ⟨o, h1, h2, n, h3⟩, _⟩ := I.tuple hk
  have hkey : (tupleKind (mixKind X.prog X.w)).is s.heap k b := ⟨o, its.toArray, n, h1, h2, h3, by simpa using items_are rv⟩
  have hty : s.TypeIs (.ref a) "dict" := by
    obtain ⟨o, es, ep, ho, hx, _⟩ := dd
    exact ⟨o, ho, hx.1⟩
  refine tail_any hty slot_dict_getitem.lookup (wpAny_getItem_heap (tupleKind_room_in1 hu) hkey dd hp ?_) hs
  rw [hp2]
  exact ⟨r, H, I.tok _, rw', q⟩
end

/-! ### on the data's level -/
abbrev PI := Int × Int
def kP (k : PI) : List Key := [.inl k.1, .inl k.2]
def dPi (k : PI) : D := .tup [.int k.1, .int k.2]
def dPd (l : List (PI × D)) : D := .pdc (l.map fun x => x.1) (l.map fun x => x.2)
def putP {α : Type} (l : List (PI × α)) (k : PI) (d : α) : List (PI × α) := if (l.any fun x => decide (x.1 = k)) = true then l.map (fun x => if x.1 = k then (x.1, d) else x) else l ++ [(k, d)]
def mergeP {α : Type} (l more : List (PI × α)) : List (PI × α) := more.foldl (fun a x => putP a x.1 x.2) l
theorem kP_inj {k j : PI} : kP k = kP j ↔ k = j := by
  constructor
  · intro h
    have h1 := (List.cons.inj h)
    have h2 := List.cons.inj h1.2
    exact Prod.ext (Sum.inl.inj h1.1) (Sum.inl.inj h2.1)
  · rintro rfl; rfl
def tK (l : List (PI × V)) : List (List Key × V) := l.map fun x => (kP x.1, x.2)
theorem putK_P (l : List (PI × V)) (k : PI) (v : V) : putK (tK l) (kP k) v = tK (putP l k v) := by
  have ea : ((tK l).any fun kv => decide (kv.1 = kP k)) = l.any fun x => decide (x.1 = k) := by
    unfold tK
    rw [List.any_map]
    refine congrArg (fun f => l.any f) (funext fun x => ?_)
    show decide (kP x.1 = kP k) = _
    rw [decide_eq_decide]
    exact kP_inj
  unfold putK putP
  rw [ea]
  split
  · unfold tK
    rw [List.map_map, List.map_map]
    refine List.map_congr_left fun x _ => ?_
    show (if kP x.1 = kP k then (kP x.1, v) else (kP x.1, x.2)) = _
    by_cases c : x.1 = k
    · rw [if_pos (kP_inj.mpr c)]; show _ = (fun x : PI × V => (kP x.1, x.2)) (if x.1 = k then (x.1, v) else x); rw [if_pos c]
    · rw [if_neg (fun z => c (kP_inj.mp z))]; show _ = (fun x : PI × V => (kP x.1, x.2)) (if x.1 = k then (x.1, v) else x); rw [if_neg c]
  · unfold tK
    rw [List.map_append]; rfl
theorem mergeT_P : ∀ (more l : List (PI × V)), mergeT (tK l) (tK more) = tK (mergeP l more)
  | [], _ => rfl
  | x :: more, l => by
    show mergeT (putK (tK l) (kP x.1) x.2) (tK more) = _
    rw [putK_P, mergeT_P more]; rfl
abbrev PR (K : Fg) (F : Hp) : List (PI × D) → List (PI × V) → Prop := Paired fun a b => a.1 = b.1 ∧ Rep K F a.2 b.2
theorem PR.repl {K : Fg} {F : Hp} {l : List (PI × D)} {m : List (PI × V)} (h : PR K F l m) (k : PI) {d : D} {v : V} (r : Rep K F d v) : PR K F (l.map fun x => if x.1 = k then (x.1, d) else x) (m.map fun x => if x.1 = k then (x.1, v) else x) := by
  induction h with
  | nil => exact .nil
  | @cons a b l m h t ih =>
    refine .cons ?_ ih
    show (if a.1 = k then (a.1, d) else a).1 = (if b.1 = k then (b.1, v) else b).1 ∧ Rep K F (if a.1 = k then (a.1, d) else a).2 (if b.1 = k then (b.1, v) else b).2
    by_cases c : a.1 = k
    · rw [if_pos c, if_pos (h.1.symm.trans c)]; exact ⟨h.1, r⟩
    · rw [if_neg c, if_neg (fun z => c (h.1.trans z))]; exact h
theorem PR.any {K : Fg} {F : Hp} {l : List (PI × D)} {m : List (PI × V)} (h : PR K F l m) (k : PI) : (l.any fun x => decide (x.1 = k)) = m.any fun x => decide (x.1 = k) := by
  induction h with
  | nil => rfl
  | @cons a b l m h t ih => rw [List.any_cons, List.any_cons, ih, h.1]
theorem PR.put {K : Fg} {F : Hp} {l : List (PI × D)} {m : List (PI × V)} (h : PR K F l m) (k : PI) {d : D} {v : V} (r : Rep K F d v) : PR K F (putP l k d) (putP m k v) := by
  unfold putP
  rw [h.any k]
  split
  · exact h.repl k r
  · exact Paired.snoc h ⟨rfl, r⟩
theorem PR.merge {K : Fg} {F : Hp} : ∀ {more : List (PI × D)} {mv : List (PI × V)} {l : List (PI × D)} {m : List (PI × V)}, PR K F more mv → PR K F l m → PR K F (mergeP l more) (mergeP m mv)
  | [], _, _, _, h, t => by cases h; exact t
  | x :: more, _, l, m, h, t => by
    cases h with
    | cons h hs =>
      show PR K F (mergeP (putP l _ _) _) (mergeP (putP m _ _) _)
      refine PR.merge hs ?_
      rw [h.1]
      exact t.put _ h.2
theorem PR.mono {K : Fg} {F F' : Hp} (s : Same F F') {l : List (PI × D)} {m : List (PI × V)} (h : PR K F l m) : PR K F' l m := Paired.mapP h fun _ _ z => ⟨z.1, Rep.mono s _ _ z.2⟩
theorem PR.reps {K : Fg} {F : Hp} {l : List (PI × D)} {m : List (PI × V)} (h : PR K F l m) : Reps K F (l.map fun x => x.2) (m.map fun x => x.2) := by
  induction h with
  | nil => exact rfl
  | cons h t ih => exact ⟨_, _, rfl, h.2, ih⟩
theorem PR.keys {K : Fg} {F : Hp} {l : List (PI × D)} {m : List (PI × V)} (h : PR K F l m) : l.map (fun x => x.1) = m.map (fun x => x.1) := by
  induction h with
  | nil => rfl
  | cons h t ih => rw [List.map_cons, List.map_cons, ih, h.1]
theorem zip_two (m : List (PI × V)) : ((m.map fun x => x.1).zip (m.map fun x => x.2)).map (fun x => (([.inl x.1.1, .inl x.1.2] : List Key), x.2)) = tK m := by
  induction m with
  | nil => rfl
  | cons x m ih => rw [List.map_cons, List.map_cons, List.zip_cons_cons, List.map_cons, ih]; rfl
/-- the items of a list of ((x, y), v) -/
def ItA (K : Fg) (F : Hp) (x : PI × D) (v : V) : Prop := ∃ p b vv, v = .ref p ∧ F p = some (.tup [.ref b, vv]) ∧ F b = some (.tup [.int x.1.1, .int x.1.2]) ∧ Rep K F x.2 vv
abbrev ItK (K : Fg) (F : Hp) : List (PI × D) → List V → Prop := Paired (ItA K F)
theorem ItA.mono {K : Fg} {F F' : Hp} (s : Same F F') {x : PI × D} {v : V} (h : ItA K F x v) : ItA K F' x v := by
  obtain ⟨p, b, vv, e, h1, h2, r⟩ := h
  exact ⟨p, b, vv, e, s _ _ h1, s _ _ h2, Rep.mono s _ _ r⟩
abbrev QKV := PI → D → Ev → Prop
abbrev RKV := Ev → QKV → Prop
def KPost (K : Fg) (S : Frm) (F : Hp) (σ : L2.St) (tmp : List (Addr × HO)) (Q : QKV) : VK := fun v H' => ∃ F' ρ' k d, Same F F' ∧ SR K S F' H' σ ρ' tmp ∧ ItA K F' (k, d) v ∧ Q k d ρ'
def tKV (K : Fg) (r : RKV) : TE := fun σ H Q' => ∃ S F ρ tmp Q, SR K S F H σ ρ tmp ∧ r ρ Q ∧ ∀ v H', KPost K S F σ tmp Q v H' → Q' v H'
def VKV (X : Cx) (e : Expr) (r : RKV) : Prop := PE X e (tKV X.K r)
def rKV (rk : RF) (rv : RE) : RKV := fun ρ Q => rk ρ fun ds ρ1 => ds.length = 2 ∧ rv ρ1 fun d _ ρ2 => ∃ x y, ds = [.int x, .int y] ∧ Q (x, y) d ρ2
theorem ve_kv {X : Cx} {a b c : Expr} {x1 x2} {p1 p2 : Pos} {rk : RF} {rv : RE} (hk : VF X [a, b] rk) (hv : VE X c rv) (h1 : starEach [.Tuple [a, b] x1 p1, c] X.env = (false, eval (.Tuple [a, b] x1 p1) X.env) :: starEach [c] X.env := by rfl) (h2 : starEach [c] X.env = (false, eval c X.env) :: starEach [] X.env := by rfl) :
    VKV X (.Tuple [.Tuple [a, b] x1 p1, c] x2 p2) (rKV rk rv) := by
  refine PE.weak (pe_tup (pa_cons (pe_tup hk) (pa_cons hv pa_nil h2) h1)) ?_
  rintro σ H Q' ⟨S, F, ρ, tmp, Q, h, hr, w⟩
  refine tVF.mk h hr fun vs H1 ⟨F1, ρ1, ds, s1, h1, v1, q0, q1⟩ => ⟨?_, fun b hb => ?_⟩
  · rw [v1.length, q0]; exact short_line (by decide)
  · obtain ⟨fps1, h1⟩ := h1
    have f1 := h1.free_at hb
    refine tV.mk ⟨fps1, h1.allocF (o := .tup vs) hb⟩ q1 fun vv H2 q => ?_
    obtain ⟨F2, ρ2, d, k, s2, ⟨fps2, h2⟩, r2, x, y, rfl, q2⟩ := q.fz
    refine ⟨by show 2 ≤ sizeLine; exact short_line (by decide), fun p hp => ?_⟩
    have f2 := h2.free_at hp
    have ev := reps_ints (ns := [x, y]) v1
    subst ev
    refine w _ _ ⟨_, ρ2, (x, y), d, s1.trans ((Same.upd f1).trans (s2.trans (Same.upd f2))), ⟨fps2, h2.allocF (o := .tup [.ref b, vv]) hp⟩, ⟨p, b, vv, rfl, upd_same, Same.upd f2 _ _ (s2 _ _ upd_same), Rep.mono (Same.upd f2) _ _ r2⟩, q2⟩
def lcLK (ivs : List Nat) (rg : RG) (rt : RT) (re : RKV) : List D → Ev → List (PI × D) → (List (PI × D) → Ev → Prop) → Prop
  | [], ρ, acc, Q => Q acc ρ
  | d :: ds, ρ, acc, Q => rg d (wipeE ivs ρ) fun ρ1 => rt ρ1 fun c ρ2 => way c (re ρ2 fun k y ρ3 => acc.length < sizeLine ∧ lcLK ivs rg rt re ds ρ3 (acc ++ [(k, y)]) Q) (lcLK ivs rg rt re ds ρ2 acc Q)
def rDictP (ivs : List Nat) (ri : RI) (rg : RG) (rt : RT) (re : RKV) : RE := fun ρ Q => ri ρ fun items ρ1 => wipeOk ivs ρ1 = true ∧ lcLK ivs rg rt re items ρ1 [] fun l ρ2 => Q (dPd (mergeP [] l)) 0 (restE ivs ρ1 ρ2)
def KLPost (K : Fg) (S : Frm) (F : Hp) (σ : L2.St) (tmp : List (Addr × HO)) (Q : List (PI × D) → Ev → Prop) : VK := fun v H' => ∃ F' ρ' l vs L, Same F F' ∧ SR K S F' H' σ ρ' ((L, .lst vs) :: tmp) ∧ v = .ref L ∧ ItK K F' l vs ∧ Q l ρ'
theorem tLc.ofK {K : Fg} {ivs : List Nat} {is : List Nat} {ri : RI} {rg : RG} {rt : RT} {re : RKV} (his : ∀ m ∈ is, m ∈ ivs) (σ : L2.St) (H : Hp) (Q' : VK) {S : Frm} {F : Hp} {ρ : Ev} {tmp : List (Addr × HO)} {Q : List (PI × D) → Ev → Prop} (h : SR K S F H σ ρ tmp)
    (hr : ri ρ fun items ρ1 => wipeOk ivs ρ1 = true ∧ lcLK ivs rg rt re items ρ1 [] fun l ρ2 => Q l (restE ivs ρ1 ρ2)) (w : ∀ v H', KLPost K S F σ tmp Q v H' → Q' v H') : tLc (tVI K ri) (gV K is rg) (tVT K rt) (tKV K re) ivs σ H Q' := by
  refine ⟨S, F, ρ, tmp, _, h, hr, fun J H1 ⟨F1, ρ1, items, s1, ⟨fps1, h1⟩, wk, wo, q1⟩ L hL => ?_⟩
  have hs0 : SRf K S F1 H1 σ (restE ivs ρ1 ρ1) fps1 tmp := by rw [restE_self wo]; exact h1
  refine ⟨fun i m H => ∃ F' ρ' acc accV fps', Same F1 F' ∧ SRf K S F' H σ (restE ivs ρ1 ρ') fps' ((L, .lst accV) :: tmp) ∧ ρ'.length = ρ1.length ∧ ItK K F' acc accV ∧ lcLK ivs rg rt re (items.drop i) ρ' acc (fun l ρ2 => Q l (restE ivs ρ1 ρ2)) ∧ m = items.length - i ∧ i ≤ items.length,
    ⟨_, F1, ρ1, [], [], fps1, Same.refl F1, hs0.allocT hL, rfl, .nil, q1, rfl, Nat.zero_le _⟩, ?_⟩
  rintro i m H2 ⟨F2, ρ2, acc, accV, fps2, s2, h2, l2, ra, q2, rfl, hi⟩
  by_cases hlt : i < items.length
  · refine .inr ⟨wk.go F2 H2 i s2 h2.sub hlt, fun H' => ∃ F' ρ' acc accV fps', Same F1 F' ∧ SRf K S F' H' σ (restE ivs ρ1 ρ') fps' ((L, .lst accV) :: tmp) ∧ ρ'.length = ρ1.length ∧ ItK K F' acc accV ∧ lcLK ivs rg rt re (items.drop (i + 1)) ρ' acc (fun l ρ2 => Q l (restE ivs ρ1 ρ2)), fun H' ⟨F', ρ', a, av, f', z1, z2, z3, z4, z5⟩ => ⟨items.length - (i + 1), by omega, F', ρ', a, av, f', z1, z2, z3, z4, z5, rfl, hlt⟩, fun x H3 y => ?_⟩
    have ed : items.drop i = items[i] :: items.drop (i + 1) := List.drop_eq_getElem_cons hlt
    obtain ⟨F3, fx, rx⟩ := wk.yld F2 H2 H3 i items[i] x s2 h2.sub (List.getElem?_eq_getElem hlt) y
    rw [ed] at q2
    obtain ⟨s3, h3⟩ := fx.sr h2
    have h3i := h3.into
    refine ⟨S, F3, _, _, _, items[i], ⟨_, h3i⟩, rx, q2, fun σ4 H4 k4 ⟨F4, ρ4, s4, h4, q4⟩ => ⟨?_, ?_⟩⟩
    · exact wipe_same (k4.1.trans (wipe_length σ ivs)) fun m hm => k4.2 m fun z => hm (his m z)
    · have kk : ∀ m, m ∉ ivs → σ4[m]? = σ[m]? := fun m hm => (k4.2 m fun z => hm (his m z)).trans (wipe_out hm)
      have l4 : σ4.length = σ.length := k4.1.trans (wipe_length σ ivs)
      have lr : ρ1.length = σ.length := h1.len
      have back : ∀ {F5 H5 : Hp} {ρ5 : Ev} {tmp5 : List (Addr × HO)}, Same F3 F5 → SR K S F5 H5 σ4 ρ5 tmp5 → ρ5.length = ρ1.length ∧ ∃ fps5, SRf K S F5 H5 σ (restE ivs ρ1 ρ5) fps5 tmp5 := fun {F5 H5 ρ5 tmp5} s5 ⟨fps5, h5⟩ => by
        have e : ρ5.length = ρ1.length := by rw [h5.len, l4, lr]
        exact ⟨e, _, SRf.outof h3 s5 (by rw [e, l2]) kk h5⟩
      refine ⟨S, F4, ρ4, _, _, h4, q4, fun b H5 ⟨F5, ρ5, s5, h5, q5⟩ => way.if ⟨fun e => ?_, fun e => ?_⟩⟩
      · refine ⟨S, F5, ρ5, _, _, h5, q5.1 e, fun v H6 ⟨F6, ρ6, k6, d6, s6, h6, r6, la, q6⟩ => ?_⟩
        have s36 := (s4.trans s5).trans s6
        obtain ⟨l6, fps6, h6'⟩ := back s36 h6
        refine ⟨accV, (h6'.freeT (L, _) (by simp)).2.2, by rw [← Paired.length ra]; exact la, F6, ρ6, acc ++ [(k6, d6)], accV ++ [v], fps6, s2.trans (s3.trans s36), h6'.tmpUpd, l6, Paired.snoc (Paired.mapP ra fun _ _ z => z.mono (s3.trans s36)) r6, q6⟩
      · have s35 := s4.trans s5
        obtain ⟨l5, fps5, h5'⟩ := back s35 h5
        exact ⟨F5, ρ5, acc, accV, fps5, s2.trans (s3.trans s35), h5', l5, Paired.mapP ra fun _ _ z => z.mono (s3.trans s35), q5.2 e⟩
  · have e : i = items.length := by omega
    subst e
    rw [List.drop_length] at q2
    exact .inl ⟨wk.stop F2 H2 _ s2 h2.sub (Nat.le_refl _), w _ _ ⟨F2, _, acc, accV, L, s1.trans s2, ⟨fps2, h2⟩, rfl, ra, q2⟩⟩
theorem itK_split {K : Fg} {F H : Hp} (s : Same F H) : ∀ {l : List (PI × D)} {vs : List V}, ItK K F l vs → ∃ (ts : List Addr) (m : List (PI × V)), vs = ts.map V.ref ∧ Paired (KvAt H) ts (tK m) ∧ PR K F l m ∧ ∀ T ∈ ts, ∃ b v x y, F T = some (.tup [.ref b, v]) ∧ F b = some (.tup [.int x, .int y])
  | [], _, h => by cases h; exact ⟨[], [], rfl, .nil, .nil, fun T h => nomatch h⟩
  | x :: l, _, h => by
    cases h with
    | cons h t =>
      obtain ⟨p, b, vv, rfl, h1, h2, r⟩ := h
      obtain ⟨ts, m, e, pr, q, a⟩ := itK_split s t
      refine ⟨p :: ts, (x.1, vv) :: m, by rw [e]; rfl, .cons ⟨b, s _ _ h1, s _ _ h2⟩ pr, .cons ⟨rfl, r⟩ q, fun T hT => ?_⟩
      rcases List.mem_cons.mp hT with rfl | hT
      · exact ⟨b, vv, _, _, h1, h2⟩
      · exact a T hT
theorem ve_dictP {X : Cx} {is : List Nat} {elt tg iter : Expr} {ifs : List Expr} {scope : Scope} {own : List (Str × Nat)} {ri : RI} {rg : RG} {rt : RT} {re : RKV} {pos lpos npos : Pos} (hu : X.A.units + 64 < cLine) (hgd : Gl X "dict") (hmd : X.mg "dict" = none) (hbd : bootBuiltins ("dict" : Str) = some (.type "dict"))
    (hc : X.calm = true) (hN : X.N.Nodup) (hi : VI X tg iter ri) (ok : BlkOk X.N X.env.scope scope own) (his : ∀ m ∈ is, m ∈ own.map (·.2))
    (hg : ∀ (s : Shared) (H : Hp) (C : Addr) (cl : List (Str × Addr)) (fp : List Addr), VG (X.blk s H scope (compEnvC scope cl C X.env) fp) is tg rg) (ht : ∀ (s : Shared) (H : Hp) (C : Addr) (cl : List (Str × Addr)) (fp : List Addr), VTs (X.blk s H scope (compEnvC scope cl C X.env) fp) ifs rt)
    (he : ∀ (s : Shared) (H : Hp) (C : Addr) (cl : List (Str × Addr)) (fp : List Addr), VKV (X.blk s H scope (compEnvC scope cl C X.env) fp) elt re) (hs : ∀ x, foldedSetIterable iter X.env x = pure x := by intro _; rfl)
    (hst : starEach [.ListComp elt [⟨tg, iter, ifs, 0⟩] scope lpos] X.env = (false, eval (.ListComp elt [⟨tg, iter, ifs, 0⟩] scope lpos) X.env) :: starEach [] X.env := by rfl) (hpl : (backTo pos (starEach [] X.env)).any (·.1) = false := by rfl) :
    VE X (.Call (.Name "dict" npos) [.ListComp elt [⟨tg, iter, ifs, 0⟩] scope lpos] [] pos) (rDictP (own.map (·.2)) ri rg rt re) := by
  refine PE.weak (pe_callTy (cr_dictT hc hu) hgd hmd hbd (pa_cons (pe_lc (g := gV X.K is rg) (tt := tVT X.K rt) (te := tKV X.K re) hc hN hi ok hg ht he hs) pa_nil hst) (he := hst) (hpl := hpl)) fun σ H Q' h => ?_
  obtain ⟨S, F, ρ, tmp, Q, h, hr, w⟩ := h
  show tLc (tVI X.K ri) (gV X.K is rg) (tVT X.K rt) (tKV X.K re) (own.map (·.2)) σ H fun v H1 => rDictT X.K [v] H1 Q'
  refine tLc.ofK (Q := fun l ρ2 => Q (dPd (mergeP [] l)) 0 ρ2) his σ H _ h hr fun v H1 hp => ?_
  obtain ⟨F1, ρ1, l, vs, L, s1, h1, ev, it, q1⟩ := hp
  subst ev
  obtain ⟨fps1, h1⟩ := h1
  obtain ⟨ts, m, evs, pr, rel, ats⟩ := itK_split h1.sub it
  subst evs
  refine ⟨L, ts, tK m, rfl, .inl (.inl (h1.freeT (L, _) (by simp)).2.2), pr, fun p o es ep bs hp hd hk hb hT => ?_⟩
  have h2 : SRf X.K S F1 H1 σ ρ1 fps1 tmp := SRf.drop (tm := [(L, _)]) h1
  have f1 := h2.free_at hp
  have emt : mergeT [] (tK m) = tK (mergeP [] m) := mergeT_P m []
  rw [emt] at hb ⊢
  have rel2 : PR X.K F1 (mergeP [] l) (mergeP [] m) := rel.merge .nil
  generalize mergeP [] m = mm at hb rel2 ⊢
  have hF : ∀ b ∈ bs, ∃ x y, F1 b = some (.tup [.int x, .int y]) := fun b hb => by
    obtain ⟨T, v, hT1, hT2⟩ := hT b hb
    obtain ⟨b0, v0, x, y, g1, g2⟩ := ats T hT1
    have := h1.sub _ _ g1
    rw [hT2] at this
    cases this
    exact ⟨x, y, g2⟩
  refine w _ _ (VPost.of (s1.trans (Same.upd f1)) ⟨fps1, h2.allocF (o := .frz o (.dT (tK mm))) hp⟩ (show Rep X.K _ (dPd (mergeP [] l)) (.ref p) from ⟨p, mm.map fun x => x.2, rfl, ⟨o, es, ep, bs, ?_, ?_, hd, hk, ?_⟩, Reps.mono (Same.upd f1) _ _ rel2.reps⟩) q1)
  · rw [rel2.keys, zip_two]
    exact upd_same
  · rw [rel2.keys, List.length_map, List.length_map]
  · rw [rel2.keys]
    clear rel2 hd hT emt
    generalize hbb : bs = bs' at hb
    have hF2 : ∀ b ∈ bs', ∃ x y, F1 b = some (.tup [.int x, .int y]) := fun b hb => hF b (by rw [hbb]; exact hb)
    have sU := Same.upd (o := HO.frz o (.dT (tK mm))) f1
    generalize upd F1 p (.frz o (.dT (tK mm))) = FF at sU ⊢
    clear hbb hk hF
    induction mm generalizing bs' with
    | nil => cases hb; exact .nil
    | cons x mm ih =>
      cases hb with
      | @cons kv b ls cs h t =>
        refine .cons ?_ (ih _ t fun b hb => hF2 b (List.mem_cons_of_mem _ hb))
        obtain ⟨i, j, g⟩ := hF2 b (by simp)
        have e := h1.sub _ _ g
        rw [h] at e
        have e2 : V.int x.1.1 = V.int i ∧ V.int x.1.2 = V.int j := by
          have := HO.tup.inj (Option.some.inj e)
          exact ⟨(List.cons.inj this).1, (List.cons.inj (List.cons.inj this).2).1⟩
        rw [sU _ _ g, e2.1, e2.2]
theorem zip_tK (ks : List PI) (vs : List V) : ((ks.zip vs).map fun x => (([.inl x.1.1, .inl x.1.2] : List Key), x.2)) = tK (ks.zip vs) := rfl
theorem pd_shal {K : Fg} {F H : Hp} {l : List (PI × D)} {v : V} (s : Same F H) (h : Shal K F H (dPd l) v) : ∃ (p : Addr) (m : List (PI × V)) (o : Obj) (es : Array DictEntry) (ep : Nat) (bs : List Addr), v = .ref p ∧ H p = some (.frz o (.dT (tK m))) ∧ PR K F l m ∧ o.data = .dict es ep ∧ es.toList.map (·.key) = bs.map Value.ref ∧
    Paired (fun (x : PI) b => F b = some (.tup [.int x.1, .int x.2])) (l.map fun x => x.1) bs := by
  obtain ⟨p, us, e, ⟨o, es, ep, bs, h1, h2, h3, h4, h5⟩, r⟩ := h
  refine ⟨p, (l.map fun x => x.1).zip us, o, es, ep, bs, e, ?_, ?_, h3, h4, h5⟩
  · rw [← zip_tK]
    exact s _ _ h1
  · clear h1 h2 h3 h4 h5 e
    induction l generalizing us with
    | nil => cases r; exact .nil
    | cons x l ih =>
      obtain ⟨v', r', e, g1, g2⟩ := r
      subst e
      exact .cons ⟨rfl, g1⟩ (ih _ g2)
def gSortP : GN := g1 fun e R => ∃ l : List (PI × D), e = dPd l ∧ ∀ ys : List PI, ys.Perm (l.map fun x => x.1) → ys.Pairwise (fun a b => SrtO.lexB b a = false) → R (.lst (ys.map dPi)) 1
theorem lk_sortP {K : Fg} : LkN K (rSortedDT K) gSortP := fun F H ds vs R Q' s h g w => by
  obtain ⟨e, e0, g⟩ := g.of
  subst e0
  obtain ⟨l, el, gg⟩ := g
  subst el
  obtain ⟨v, ev, hs⟩ := h.one
  subst ev
  obtain ⟨p, m, o, es, ep, bs, e, hp, pm, h3, h4, h5⟩ := pd_shal s hs
  subst e
  have hF : ∀ b ∈ bs, F b = some (.tup [.int (pairAt F b).1, .int (pairAt F b).2]) := by
    clear h4
    generalize (l.map fun x => x.1) = ks at h5
    induction h5 with
    | nil => exact fun b hb => absurd hb List.not_mem_nil
    | cons h t ih =>
      intro b hb
      rcases List.mem_cons.mp hb with rfl | hb
      · rw [pairAt_of h]; exact h
      · exact ih b hb
  have ek : bs.map (pairAt F) = l.map fun x => x.1 := by
    clear h4 hF gg
    generalize (l.map fun x => x.1) = ks at h5 ⊢
    induction h5 with
    | nil => rfl
    | cons h t ih => rw [List.map_cons, ih, pairAt_of h]
  have eH : ∀ b ∈ bs, pairAt H b = pairAt F b := fun b hb => pairAt_of (s _ _ (hF b hb))
  refine ⟨p, o, es, ep, tK m, bs, rfl, .inr ⟨_, hp⟩, hp, h3, h4, fun b hb => ⟨_, _, s _ _ (hF b hb)⟩, fun cs q hpm hpw hq => ?_⟩
  refine w _ _ _ _ (.lst hq (ds := (cs.map (pairAt F)).map dPi) ?_) (gg _ ?_ ?_)
  · have hc : ∀ b ∈ cs, F b = some (.tup [.int (pairAt F b).1, .int (pairAt F b).2]) := fun b hb => hF b (hpm.mem_iff.mp hb)
    clear hpm hpw
    induction cs with
    | nil => rfl
    | cons b cs ih => exact ⟨_, _, rfl, ⟨b, _, rfl, .inl (hc b (by simp)), _, _, rfl, rfl, _, _, rfl, rfl, rfl⟩, ih fun b hb => hc b (List.mem_cons_of_mem _ hb)⟩
  · rw [← ek]; exact hpm.map _
  · rw [List.pairwise_map]
    refine List.Pairwise.imp_of_mem (fun {a b} ha hb h => ?_) hpw
    rw [← eH a (hpm.mem_iff.mp ha), ← eH b (hpm.mem_iff.mp hb)]
    exact h
/-- d[k] -/
def gGetP : G2 := fun a b R => ∃ (l : List (PI × D)) (k : PI) (d : D), a = dPd l ∧ b = dPi k ∧ (l.find? fun x => decide (x.1 = k)).map (fun x => x.2) = some d ∧ R d 0
theorem lk_getP {K : Fg} : Lk2 K (rIxDT K) gGetP := fun F H d1 d2 x y R Q' s h1 h2 gg w => by
  obtain ⟨l, k, d, e1, e2, hd, r⟩ := gg
  subst e1 e2
  obtain ⟨p, m, o, es, ep, bs, e, hp, pm, h3, h4, h5⟩ := pd_shal s h1
  obtain ⟨q, us, e2, hq, t⟩ := h2
  have eu := reps_ints (ns := [k.1, k.2]) t
  subst eu
  have key : ∃ v, valV (tK m) (kP k) = some v ∧ Rep K F d v := by
    clear hp h1 h3 h4 h5 e
    induction pm with
    | nil => cases hd
    | @cons a b l m h t ih =>
      by_cases c : a.1 = k
      · rw [List.find?_cons, decide_eq_true c] at hd
        cases hd
        exact ⟨b.2, valV_pos (p := (kP b.1, b.2)) (by show kP b.1 = kP k; rw [← h.1, c]), h.2⟩
      · rw [List.find?_cons, decide_eq_false c] at hd
        obtain ⟨v, e1, e2⟩ := ih hd
        refine ⟨v, ?_, e2⟩
        show valV ((kP b.1, b.2) :: tK m) (kP k) = some v
        rw [valV_neg (p := (kP b.1, b.2)) (fun z => c (h.1.trans (kP_inj.mp z)))]
        exact e1
  obtain ⟨v, e3, rv⟩ := key
  exact ⟨p, q, tK m, kP k, v, e, e2, .inr ⟨_, hp⟩, hq.sq s, e3, w _ _ _ _ (.old rv) r⟩
end VL

namespace VL
open PySem PySem.Spec PyProof.Rows L2
/-! ### str of any plain data -/
def strOf : D → Str
  | .str x => x
  | d => d.px.shown
def gStrA : GN := g1 fun d R => (∃ B m, B ≤ 1900 ∧ m ≤ 60 ∧ d.dat B m) ∧ d.sz ≤ 16000000 ∧ R (.str (strOf d)) 0
theorem gStrA.to {d : D} {R : D → Nat → Prop} {B m : Nat} (hd : d.dat B m) (hB : B ≤ 1900) (hm : m ≤ 60) (hz : d.sz ≤ 16000000) (h : R (.str (strOf d)) 0) : gStrA [d] R := ⟨⟨B, m, hB, hm, hd⟩, hz, h⟩
end VL

namespace VL
open PySem PySem.Spec PyProof.Rows L2
/-! ### for x in found: each inner list by its own name, changed in place -/
/-! ### a new list of several lists, all of them owned -/
end VL

namespace VL
open PySem PySem.Spec PyProof.Rows L2
/-! ### an item of a new list, which it alone has -/
end VL

namespace VL
open PySem PySem.Spec PyProof.Rows L2
/-! ### a, b, c = a list of that length -/
end VL

namespace VL
open PySem PySem.Spec PyProof.Rows L2
/-! ### x = found[k], an inner list by its own name, while two statements run -/
section
variable {K : Fg} {S : Frm} {F H : Hp} {σ : L2.St} {ρ : Ev} {i x : Nat}
end
end VL

namespace VL
open PySem PySem.Spec PyProof.Rows L2
/-! ### a tuple and the empty one -/
section
variable {X : Cx}
end
end VL

namespace VL
open PySem PySem.Spec PyProof.Rows L2
/-! ### the place of the first like item -/
/-! ### a comparison that runs while all owned lists stand read-only, as a test -/
end VL

namespace VL
open PySem PySem.Spec PyProof.Rows L2
/-! ### the set of a list of ints, told sorted -/
section
variable {P : Program} {w : World} {A : Around} {R : Result → Shared → Prop} {I : Addr} {fp wr : List Addr} {G : Array GenState → Array GenState → Prop} {n : Nat} {Pv : Nat → Value → Prop} {St : Nat → Shared → Prop}
end

section
variable {P : Program} {w : World} {A : Around} {E : Value → Shared → Prop} {s : Shared}
end
end VL

namespace VL
open PySem PySem.Spec PyProof.Rows L2
theorem hu65 {A : Around} {k : Nat} (hr : Room k A) : A.units + 65 < cLine := by have := hr.un; omega
section
end
end VL

namespace VL
open PySem PySem.Spec PyProof.Rows L2
/-! ### x in xs, of told data -/
def gInD : G2 := fun a b R => match b with
  | .lst ds => a.ok 64 = true ∧ (D.lst ds).ok 64 = true ∧ R (.bl (ds.any fun z => eqb z a)) 0
  | _ => False
theorem pys_any (a : D) : ∀ ds : List D, (D.pys ds).any (fun z => PyData.eqv z a.py) = ds.any fun z => eqb z a
  | [] => rfl
  | d :: ds => by
    show (PyData.eqv d.py a.py || (D.pys ds).any _) = (eqb d a || ds.any _)
    rw [pys_any a ds]; rfl
theorem lk_inD {K : Fg} : Lk2 K (rInD K) gInD := fun F H a b x y R Q' s h1 h2 g w => by
  cases b with
  | lst ds =>
    obtain ⟨o1, o2, r⟩ := g
    refine ⟨a.py, D.pys ds, h1.dp s o1, Shal.dp s o2 h2, shaped_ok o1, shaped_ok o2, ?_⟩
    rw [pys_any]
    exact w _ _ _ _ .bl r
  | _ => exact g.elim
end VL

set_option maxHeartbeats 2000000
namespace VL
open PySem PySem.Spec PyProof.Rows L2
local macro_rules | `(tactic| walk_at "n") => `(tactic| refine ⟨fun h => Bool.noConfusion (show false = true from h), fun _ => ?_⟩)
local macro_rules | `(tactic| walk_at "ty") => `(tactic| refine ⟨_, rfl, by decide, ?_⟩)
local macro_rules | `(tactic| walk_at "tys") => `(tactic| refine ⟨_, rfl, _, rfl, by decide, ?_⟩)
local macro_rules | `(tactic| walk_at "v") => `(tactic| repeat (first | refine ⟨rfl, ?_⟩ | refine ⟨_, rfl, ?_⟩))
local macro_rules | `(tactic| walk_at "y") => `(tactic| refine ⟨fun _ => ?_, fun h => Bool.noConfusion (show true = false from h)⟩)
local macro_rules | `(tactic| walk_at "z") => `(tactic| repeat (first | refine ⟨rfl, ?_⟩ | refine ⟨_, rfl, ?_⟩ | refine ⟨fun _ => ?_, fun h => Bool.noConfusion (show true = false from h)⟩ | refine ⟨fun h => Bool.noConfusion (show false = true from h), fun _ => ?_⟩ | refine ⟨tyIn rfl, ?_⟩ | refine ⟨tysIn rfl, ?_⟩ | refine ⟨smallL rfl, ?_⟩ | refine ⟨smallE rfl, ?_⟩))
local macro_rules | `(tactic| walk_at "zz") => `(tactic| repeat ((fail_if_success show forL _ _ _ _ _); first | refine ⟨rfl, ?_⟩ | refine ⟨_, rfl, ?_⟩ | refine ⟨fun _ => ?_, fun h => Bool.noConfusion (show true = false from h)⟩ | refine ⟨fun h => Bool.noConfusion (show false = true from h), fun _ => ?_⟩ | refine ⟨tyIn rfl, ?_⟩ | refine ⟨tysIn rfl, ?_⟩ | refine ⟨smallL rfl, ?_⟩ | refine ⟨smallE rfl, ?_⟩))
end VL

set_option maxHeartbeats 2000000
namespace VL
open PySem PySem.Spec PyProof.Rows L2
local macro_rules | `(tactic| walk_at "n") => `(tactic| refine ⟨fun h => Bool.noConfusion (show false = true from h), fun _ => ?_⟩)
local macro_rules | `(tactic| walk_at "ty") => `(tactic| refine ⟨_, rfl, by decide, ?_⟩)
local macro_rules | `(tactic| walk_at "tys") => `(tactic| refine ⟨_, rfl, _, rfl, by decide, ?_⟩)
local macro_rules | `(tactic| walk_at "v") => `(tactic| repeat (first | refine ⟨rfl, ?_⟩ | refine ⟨_, rfl, ?_⟩))
local macro_rules | `(tactic| walk_at "y") => `(tactic| refine ⟨fun _ => ?_, fun h => Bool.noConfusion (show true = false from h)⟩)
local macro_rules | `(tactic| walk_at "z") => `(tactic| repeat (first | refine ⟨rfl, ?_⟩ | refine ⟨_, rfl, ?_⟩ | refine ⟨fun _ => ?_, fun h => Bool.noConfusion (show true = false from h)⟩ | refine ⟨fun h => Bool.noConfusion (show false = true from h), fun _ => ?_⟩ | refine ⟨tyIn rfl, ?_⟩ | refine ⟨tysIn rfl, ?_⟩ | refine ⟨smallL rfl, ?_⟩ | refine ⟨smallE rfl, ?_⟩))
local macro_rules | `(tactic| walk_at "zz") => `(tactic| repeat ((fail_if_success show forL _ _ _ _ _); first | refine ⟨rfl, ?_⟩ | refine ⟨_, rfl, ?_⟩ | refine ⟨fun _ => ?_, fun h => Bool.noConfusion (show true = false from h)⟩ | refine ⟨fun h => Bool.noConfusion (show false = true from h), fun _ => ?_⟩ | refine ⟨tyIn rfl, ?_⟩ | refine ⟨tysIn rfl, ?_⟩ | refine ⟨smallL rfl, ?_⟩ | refine ⟨smallE rfl, ?_⟩))
/-! ### mixes -/
abbrev MixT := List (List (List Rat))
def dMRow (r : List (List Rat)) : D := .tup (r.map dw)
def dMx (m : MixT) : D := .lst (m.map dMRow)
/-- a row of shares for a land's states -/
structure MRowOk (l : Land) (r : List (List Rat)) : Prop where
  len : r.length = l.sts.length
  at_ : ∀ (i : Nat) (s : St) (ps : List Rat), l.sts[i]? = some s → r[i]? = some ps → ps.length = s.ds.length ∧ allw 6 ps
structure MixOk (l : Land) (n : Nat) (m : MixT) : Prop where
  len : m.length = n
  rows : ∀ r ∈ m, MRowOk l r
@[irreducible] def sp_l_shares : ASp := fun ds R => ∃ (t : Tp) (m n : Nat), ds = [dT t, .int m] ∧ m ≤ 3 ∧ t.ok (n + 6) ∧ ∀ ps t', ps.length = m → allw 6 ps → t'.ok n → R (dw ps) 0 [dT t']
theorem sp_l_shares.mk {t : Tp} {m : Nat} {R : RR} (n : Nat) (h1 : m ≤ 3) (ht : t.ok (n + 6)) (h : ∀ ps t', ps.length = m → allw 6 ps → t'.ok n → R (dw ps) 0 [dT t']) : sp_l_shares [dT t, .int m] R := by unfold sp_l_shares; exact ⟨t, m, n, rfl, h1, ht, h⟩
@[irreducible] def sp_l_mix : ASp := fun ds R => ∃ (t : Tp) (l : Land) (k n : Nat), ds = [dT t, dLand l, .int k] ∧ LandOk l ∧ k ≤ 6 ∧ t.ok (n + 48 * k) ∧ ∀ m t', MixOk l k m → t'.ok n → R (dMx m) 1 [dT t']
theorem sp_l_mix.mk {t : Tp} {l : Land} {k : Nat} {R : RR} (n : Nat) (h1 : LandOk l) (h2 : k ≤ 6) (ht : t.ok (n + 48 * k)) (h : ∀ m t', MixOk l k m → t'.ok n → R (dMx m) 1 [dT t']) : sp_l_mix [dT t, dLand l, .int k] R := by unfold sp_l_mix; exact ⟨t, l, k, n, rfl, h1, h2, ht, h⟩
end VL

set_option maxHeartbeats 2000000
namespace VL
open PySem PySem.Spec PyProof.Rows L2
local macro_rules | `(tactic| walk_at "n") => `(tactic| refine ⟨fun h => Bool.noConfusion (show false = true from h), fun _ => ?_⟩)
local macro_rules | `(tactic| walk_at "ty") => `(tactic| refine ⟨_, rfl, by decide, ?_⟩)
local macro_rules | `(tactic| walk_at "tys") => `(tactic| refine ⟨_, rfl, _, rfl, by decide, ?_⟩)
local macro_rules | `(tactic| walk_at "v") => `(tactic| repeat (first | refine ⟨rfl, ?_⟩ | refine ⟨_, rfl, ?_⟩))
local macro_rules | `(tactic| walk_at "y") => `(tactic| refine ⟨fun _ => ?_, fun h => Bool.noConfusion (show true = false from h)⟩)
local macro_rules | `(tactic| walk_at "z") => `(tactic| repeat (first | refine ⟨rfl, ?_⟩ | refine ⟨_, rfl, ?_⟩ | refine ⟨fun _ => ?_, fun h => Bool.noConfusion (show true = false from h)⟩ | refine ⟨fun h => Bool.noConfusion (show false = true from h), fun _ => ?_⟩ | refine ⟨tyIn rfl, ?_⟩ | refine ⟨tysIn rfl, ?_⟩ | refine ⟨smallL rfl, ?_⟩ | refine ⟨smallE rfl, ?_⟩))
local macro_rules | `(tactic| walk_at "zz") => `(tactic| repeat ((fail_if_success show forL _ _ _ _ _); first | refine ⟨rfl, ?_⟩ | refine ⟨_, rfl, ?_⟩ | refine ⟨fun _ => ?_, fun h => Bool.noConfusion (show true = false from h)⟩ | refine ⟨fun h => Bool.noConfusion (show false = true from h), fun _ => ?_⟩ | refine ⟨tyIn rfl, ?_⟩ | refine ⟨tysIn rfl, ?_⟩ | refine ⟨smallL rfl, ?_⟩ | refine ⟨smallE rfl, ?_⟩))
/-! ### what mixes have -/
/-- parts of deeds' worths together, put to what was found -/
def mixFold (later : List (List Rat)) (f : List Rat) (xs : List (Deed × Rat)) : List Rat := xs.foldl (fun f x => qadd f (qscale (hadBy x.1 later) x.2)) f
def mixSt (k : Nat) (s : St) (ps : List Rat) (later : List (List Rat)) : List Rat := if s.ds.isEmpty then s.e else mixFold later (List.replicate k 0) (s.ds.zip ps)
def mixRow (l : Land) (r : List (List Rat)) (later : List (List Rat)) : List (List Rat) := (l.sts.zip r).map fun x => mixSt l.k x.1 x.2 later
def mixStep2 (l : Land) (later : List (List Rat)) (r : List (List Rat)) : List (List Rat) := mixRow l r later
def mixSums (l : Land) (m : MixT) : List (List (List Rat)) := scanL (mixStep2 l) l.ends m
def mixLast (l : Land) (m : MixT) : List (List Rat) := m.foldl (mixStep2 l) l.ends
/-- where a state's shares lead -/
def outMx (s : St) (i : Nat) (ps : List Rat) : List (Nat × Rat) := if s.ds.isEmpty then [(i, 1)] else (s.ds.zip ps).flatMap fun x => x.1.fs.map fun y => (y.1, x.2 * y.2)
def outMAt (l : Land) (r : List (List Rat)) (i : Nat) : List (Nat × Rat) := match l.sts[i]? with
  | some s => outMx s i (r.getD i [])
  | none => []
def goneMN (l : Land) (cs : List Rat) (r : List (List Rat)) (n : Nat) : List Rat := (List.range n).foldl (fun acc i => pour (cs.getD i 0) acc (outMAt l r i)) (List.replicate l.sts.length 0)
def goneM (l : Land) (cs : List Rat) (r : List (List Rat)) : List Rat := goneMN l cs r l.sts.length
/-! ### bounds of chances by shares -/
def K2 : Nat := K63 * K63
def Y2 : Nat := 96 * (63 * K63 * (63 * K63))
def Ch2 (n j : Nat) (cs : List Rat) : Prop := AccOk n (K2 ^ j) (Y2 ^ j) cs
theorem FrN.bits2 {j : Nat} {q : Rat} {B : Nat} (h : FrN (K2 ^ j) B q) (hj : j ≤ 6) (hB : B ≤ Y2 ^ 6) : wt q ≤ 1300 := by
  have := h.wtle (Nat.pow_pos (by decide))
  have e1 : bl B ≤ 1300 := bl_le (Nat.lt_of_le_of_lt hB (by decide +kernel))
  have e2 : bl (K2 ^ j) ≤ 1300 := bl_le (Nat.lt_of_le_of_lt (Nat.pow_le_pow_right (by decide) hj) (by decide +kernel))
  omega
theorem Ch2.bits {n j : Nat} {cs : List Rat} (h : Ch2 n j cs) (hj : j ≤ 6) : allw 1300 cs := fun c hc => (h.2 c hc).bits2 hj (Nat.pow_le_pow_right (by decide) hj)
theorem Ch2.wt {n j i : Nat} {cs : List Rat} (h : Ch2 n j cs) (hj : j ≤ 6) : VL.wt (cs.getD i 0) ≤ 1300 := (AccOk.get h).bits2 hj (Nat.pow_le_pow_right (by decide) hj)
def mStands (l : Land) (k : Nat) (m : MixT) : List (List Rat) := scanL (goneM l) (begun l.sts.length k) m.reverse
/-! ### what is gained on the way -/
def gainZ (f : List Rat) (c : Rat) (xs : List (Deed × Rat)) : List Rat := xs.foldl (fun f x => qadd f (qscale x.1.w (c * x.2))) f
def gainSt (l : Land) (r : List (List Rat)) (f : List Rat) (c : Rat) (i : Nat) : List Rat := match l.sts[i]? with
  | some s => gainZ f c (s.ds.zip (r.getD i []))
  | none => f
def gainRow (l : Land) (f : List Rat) (x : List (List Rat) × List Rat) : List Rat := (List.range l.sts.length).foldl (fun f i => gainSt l x.1 f (x.2.getD i 0) i) f
def mGained (l : Land) (k : Nat) (m : MixT) : List Rat := endsN l (m.reverse.foldl (goneM l) (begun l.sts.length k)) ((m.reverse.zip (mStands l k m)).foldl (gainRow l) (List.replicate l.k 0)) l.sts.length
/-! ### a plan's mix -/
def alone (z : Int) (m : Nat) : List Rat := (List.range m).map fun (i : Nat) => if (i : Int) = z then 1 else 0
def planRow (l : Land) (row : List Int) : List (List Rat) := (l.sts.zip row).map fun x => alone x.2 x.1.ds.length
def planMx (l : Land) (ps : List (List Int)) : MixT := ps.map (planRow l)
end VL

set_option maxHeartbeats 2000000
namespace VL
open PySem PySem.Spec PyProof.Rows L2
local macro_rules | `(tactic| walk_at "n") => `(tactic| refine ⟨fun h => Bool.noConfusion (show false = true from h), fun _ => ?_⟩)
local macro_rules | `(tactic| walk_at "ty") => `(tactic| refine ⟨_, rfl, by decide, ?_⟩)
local macro_rules | `(tactic| walk_at "tys") => `(tactic| refine ⟨_, rfl, _, rfl, by decide, ?_⟩)
local macro_rules | `(tactic| walk_at "v") => `(tactic| repeat (first | refine ⟨rfl, ?_⟩ | refine ⟨_, rfl, ?_⟩))
local macro_rules | `(tactic| walk_at "y") => `(tactic| refine ⟨fun _ => ?_, fun h => Bool.noConfusion (show true = false from h)⟩)
local macro_rules | `(tactic| walk_at "z") => `(tactic| repeat (first | refine ⟨rfl, ?_⟩ | refine ⟨_, rfl, ?_⟩ | refine ⟨fun _ => ?_, fun h => Bool.noConfusion (show true = false from h)⟩ | refine ⟨fun h => Bool.noConfusion (show false = true from h), fun _ => ?_⟩ | refine ⟨tyIn rfl, ?_⟩ | refine ⟨tysIn rfl, ?_⟩ | refine ⟨smallL rfl, ?_⟩ | refine ⟨smallE rfl, ?_⟩))
local macro_rules | `(tactic| walk_at "zz") => `(tactic| repeat ((fail_if_success show forL _ _ _ _ _); first | refine ⟨rfl, ?_⟩ | refine ⟨_, rfl, ?_⟩ | refine ⟨fun _ => ?_, fun h => Bool.noConfusion (show true = false from h)⟩ | refine ⟨fun h => Bool.noConfusion (show false = true from h), fun _ => ?_⟩ | refine ⟨tyIn rfl, ?_⟩ | refine ⟨tysIn rfl, ?_⟩ | refine ⟨smallL rfl, ?_⟩ | refine ⟨smallE rfl, ?_⟩))
/-! ### mixes: what is asked -/
def dMs (l : Land) (m : MixT) : D := .lst ((mixSums l m).map dWs)
def dMSt (l : Land) (k : Nat) (m : MixT) : D := .lst ((mStands l k m).map dC)
@[irreducible] def sp_one_alone : ASp := fun ds R => ∃ (z : Int) (m : Nat), ds = [.int z, .int m] ∧ m ≤ 900 ∧ R (dw (alone z m)) 0 []
theorem sp_one_alone.mk {z : Int} {m : Nat} {R : RR} (h1 : m ≤ 900) (h : R (dw (alone z m)) 0 []) : sp_one_alone [.int z, .int m] R := by unfold sp_one_alone; exact ⟨z, m, rfl, h1, h⟩
@[irreducible] def sp_mix_row : ASp := fun ds R => ∃ (l : Land) (row : List Int), ds = [dLand l, .tup (row.map .int)] ∧ LandOk l ∧ RowOk l row ∧ R (dMRow (planRow l row)) 0 []
theorem sp_mix_row.mk {l : Land} {row : List Int} {R : RR} (h1 : LandOk l) (h2 : RowOk l row) (h : R (dMRow (planRow l row)) 0 []) : sp_mix_row [dLand l, .tup (row.map .int)] R := by unfold sp_mix_row; exact ⟨l, row, rfl, h1, h2, h⟩
@[irreducible] def sp_mix_of_plan : ASp := fun ds R => ∃ (l : Land) (ps : List (List Int)) (n : Nat), ds = [dLand l, .lst (dPlan ps)] ∧ LandOk l ∧ PlanOk l n ps ∧ n ≤ 6 ∧ R (dMx (planMx l ps)) 1 []
theorem sp_mix_of_plan.mk {l : Land} {ps : List (List Int)} {R : RR} (n : Nat) (h1 : LandOk l) (h2 : PlanOk l n ps) (h3 : n ≤ 6) (h : R (dMx (planMx l ps)) 1 []) : sp_mix_of_plan [dLand l, .lst (dPlan ps)] R := by unfold sp_mix_of_plan; exact ⟨l, ps, n, rfl, h1, h2, h3, h⟩
@[irreducible] def sp_had_by_parts : ASp := fun ds R => ∃ (l : Land) (i : Nat) (s : St) (ps : List Rat) (later : List (List Rat)) (c : Nat), ds = [dLand l, .int i, dw ps, dWs later] ∧ LandOk l ∧ l.sts[i]? = some s ∧ ps.length = s.ds.length ∧ allw 6 ps ∧ WOk l.sts.length l.k c later ∧ c ≤ 1000000 ∧ R (dw (mixFold later (List.replicate l.k 0) (s.ds.zip ps))) 0 []
theorem sp_had_by_parts.mk {l : Land} {i : Nat} {s : St} {ps : List Rat} {later : List (List Rat)} {R : RR} (c : Nat) (h1 : LandOk l) (h2 : l.sts[i]? = some s) (h3 : ps.length = s.ds.length) (h4 : allw 6 ps) (h5 : WOk l.sts.length l.k c later) (h6 : c ≤ 1000000) (h : R (dw (mixFold later (List.replicate l.k 0) (s.ds.zip ps))) 0 []) : sp_had_by_parts [dLand l, .int i, dw ps, dWs later] R := by unfold sp_had_by_parts; exact ⟨l, i, s, ps, later, c, rfl, h1, h2, h3, h4, h5, h6, h⟩
@[irreducible] def sp_mix_sums : ASp := fun ds R => ∃ (l : Land) (m : MixT) (n : Nat), ds = [dLand l, dMx m] ∧ LandOk l ∧ MixOk l n m ∧ n ≤ 5 ∧ R (dMs l m) 2 []
theorem sp_mix_sums.mk {l : Land} {m : MixT} {R : RR} (n : Nat) (h1 : LandOk l) (h2 : MixOk l n m) (h3 : n ≤ 5) (h : R (dMs l m) 2 []) : sp_mix_sums [dLand l, dMx m] R := by unfold sp_mix_sums; exact ⟨l, m, n, rfl, h1, h2, h3, h⟩
@[irreducible] def sp_mix_had : ASp := fun ds R => ∃ (l : Land) (m : MixT) (n k : Nat), ds = [dLand l, dMx m, .int k] ∧ LandOk l ∧ MixOk l n m ∧ n ≤ 5 ∧ k < l.sts.length ∧ R (dw ((mixLast l m).getD k [])) 0 []
theorem sp_mix_had.mk {l : Land} {m : MixT} {k : Nat} {R : RR} (n : Nat) (h1 : LandOk l) (h2 : MixOk l n m) (h3 : n ≤ 5) (h4 : k < l.sts.length) (h : R (dw ((mixLast l m).getD k [])) 0 []) : sp_mix_had [dLand l, dMx m, .int k] R := by unfold sp_mix_had; exact ⟨l, m, n, k, rfl, h1, h2, h3, h4, h⟩
@[irreducible] def sp_gone_by_parts : ASp := fun ds R => ∃ (l : Land) (r : List (List Rat)) (cs : List Rat) (j : Nat), ds = [dLand l, dMRow r, dC cs] ∧ LandOk l ∧ MRowOk l r ∧ Ch2 l.sts.length j cs ∧ j ≤ 5 ∧ R (dC (goneM l cs r)) 1 []
theorem sp_gone_by_parts.mk {l : Land} {r : List (List Rat)} {cs : List Rat} {R : RR} (j : Nat) (h1 : LandOk l) (h2 : MRowOk l r) (h3 : Ch2 l.sts.length j cs) (h4 : j ≤ 5) (h : R (dC (goneM l cs r)) 1 []) : sp_gone_by_parts [dLand l, dMRow r, dC cs] R := by unfold sp_gone_by_parts; exact ⟨l, r, cs, j, rfl, h1, h2, h3, h4, h⟩
@[irreducible] def sp_mix_stands : ASp := fun ds R => ∃ (l : Land) (m : MixT) (n k : Nat), ds = [dLand l, dMx m, .int k] ∧ LandOk l ∧ MixOk l n m ∧ n ≤ 5 ∧ k < l.sts.length ∧ R (dMSt l k m) 2 []
theorem sp_mix_stands.mk {l : Land} {m : MixT} {k : Nat} {R : RR} (n : Nat) (h1 : LandOk l) (h2 : MixOk l n m) (h3 : n ≤ 5) (h4 : k < l.sts.length) (h : R (dMSt l k m) 2 []) : sp_mix_stands [dLand l, dMx m, .int k] R := by unfold sp_mix_stands; exact ⟨l, m, n, k, rfl, h1, h2, h3, h4, h⟩
@[irreducible] def sp_l_mix_sums : ASp := fun ds R => ∃ (l : Land) (m : MixT) (n : Nat), ds = [dLand l, dMx m] ∧ LandOk l ∧ MixOk l n m ∧ n ≤ 5 ∧ R (dMs l m) 1 []
theorem sp_l_mix_sums.mk {l : Land} {m : MixT} {R : RR} (n : Nat) (h1 : LandOk l) (h2 : MixOk l n m) (h3 : n ≤ 5) (h : R (dMs l m) 1 []) : sp_l_mix_sums [dLand l, dMx m] R := by unfold sp_l_mix_sums; exact ⟨l, m, n, rfl, h1, h2, h3, h⟩
@[irreducible] def sp_l_stands_251014 : ASp := fun ds R => ∃ (l : Land) (m : MixT) (n k : Nat), ds = [dLand l, dMx m, .int k] ∧ LandOk l ∧ MixOk l n m ∧ n ≤ 5 ∧ k < l.sts.length ∧ R (.tup [dMSt l k m, dw (mGained l k m)]) 0 []
theorem sp_l_stands_251014.mk {l : Land} {m : MixT} {k : Nat} {R : RR} (n : Nat) (h1 : LandOk l) (h2 : MixOk l n m) (h3 : n ≤ 5) (h4 : k < l.sts.length) (h : R (.tup [dMSt l k m, dw (mGained l k m)]) 0 []) : sp_l_stands_251014 [dLand l, dMx m, .int k] R := by unfold sp_l_stands_251014; exact ⟨l, m, n, k, rfl, h1, h2, h3, h4, h⟩
end VL

set_option maxHeartbeats 2000000
namespace VL
open PySem PySem.Spec PyProof.Rows L2
local macro_rules | `(tactic| walk_at "n") => `(tactic| refine ⟨fun h => Bool.noConfusion (show false = true from h), fun _ => ?_⟩)
local macro_rules | `(tactic| walk_at "ty") => `(tactic| refine ⟨_, rfl, by decide, ?_⟩)
local macro_rules | `(tactic| walk_at "tys") => `(tactic| refine ⟨_, rfl, _, rfl, by decide, ?_⟩)
local macro_rules | `(tactic| walk_at "v") => `(tactic| repeat (first | refine ⟨rfl, ?_⟩ | refine ⟨_, rfl, ?_⟩))
local macro_rules | `(tactic| walk_at "y") => `(tactic| refine ⟨fun _ => ?_, fun h => Bool.noConfusion (show true = false from h)⟩)
local macro_rules | `(tactic| walk_at "z") => `(tactic| repeat (first | refine ⟨rfl, ?_⟩ | refine ⟨_, rfl, ?_⟩ | refine ⟨fun _ => ?_, fun h => Bool.noConfusion (show true = false from h)⟩ | refine ⟨fun h => Bool.noConfusion (show false = true from h), fun _ => ?_⟩ | refine ⟨tyIn rfl, ?_⟩ | refine ⟨tysIn rfl, ?_⟩ | refine ⟨smallL rfl, ?_⟩ | refine ⟨smallE rfl, ?_⟩))
local macro_rules | `(tactic| walk_at "zz") => `(tactic| repeat ((fail_if_success show forL _ _ _ _ _); first | refine ⟨rfl, ?_⟩ | refine ⟨_, rfl, ?_⟩ | refine ⟨fun _ => ?_, fun h => Bool.noConfusion (show true = false from h)⟩ | refine ⟨fun h => Bool.noConfusion (show false = true from h), fun _ => ?_⟩ | refine ⟨tyIn rfl, ?_⟩ | refine ⟨tysIn rfl, ?_⟩ | refine ⟨smallL rfl, ?_⟩ | refine ⟨smallE rfl, ?_⟩))
/-! ### shares that are 1 together -/
def rsum : List Rat → Rat
  | [] => 0
  | q :: qs => q + rsum qs
def ShOk (m : Nat) (ps : List Rat) : Prop := ps.length = m ∧ allw 6 ps ∧ (∀ q ∈ ps, 0 ≤ q) ∧ (m ≠ 0 → rsum ps = 1)
structure MRowS (l : Land) (r : List (List Rat)) : Prop where
  len : r.length = l.sts.length
  at_ : ∀ (i : Nat) (s : St) (ps : List Rat), l.sts[i]? = some s → r[i]? = some ps → ShOk s.ds.length ps
structure MixS (l : Land) (n : Nat) (m : MixT) : Prop where
  len : m.length = n
  rows : ∀ r ∈ m, MRowS l r
theorem MRowS.ok {l : Land} {r : List (List Rat)} (h : MRowS l r) : MRowOk l r := ⟨h.len, fun i s ps hs hp => ⟨(h.at_ i s ps hs hp).1, (h.at_ i s ps hs hp).2.1⟩⟩
theorem MixS.ok {l : Land} {n : Nat} {m : MixT} (h : MixS l n m) : MixOk l n m := ⟨h.len, fun r hr => (h.rows r hr).ok⟩
@[irreducible] def sp_l_sharesS : ASp := fun ds R => ∃ (t : Tp) (m n : Nat), ds = [dT t, .int m] ∧ m ≤ 3 ∧ t.ok (n + 6) ∧ ∀ ps t', ShOk m ps → t'.ok n → R (dw ps) 0 [dT t']
theorem sp_l_sharesS.mk {t : Tp} {m : Nat} {R : RR} (n : Nat) (h1 : m ≤ 3) (ht : t.ok (n + 6)) (h : ∀ ps t', ShOk m ps → t'.ok n → R (dw ps) 0 [dT t']) : sp_l_sharesS [dT t, .int m] R := by unfold sp_l_sharesS; exact ⟨t, m, n, rfl, h1, ht, h⟩
@[irreducible] def sp_l_mixS : ASp := fun ds R => ∃ (t : Tp) (l : Land) (k n : Nat), ds = [dT t, dLand l, .int k] ∧ LandOk l ∧ k ≤ 6 ∧ t.ok (n + 48 * k) ∧ ∀ m t', MixS l k m → t'.ok n → R (dMx m) 1 [dT t']
theorem sp_l_mixS.mk {t : Tp} {l : Land} {k : Nat} {R : RR} (n : Nat) (h1 : LandOk l) (h2 : k ≤ 6) (ht : t.ok (n + 48 * k)) (h : ∀ m t', MixS l k m → t'.ok n → R (dMx m) 1 [dT t']) : sp_l_mixS [dT t, dLand l, .int k] R := by unfold sp_l_mixS; exact ⟨t, l, k, n, rfl, h1, h2, ht, h⟩
end VL

set_option maxHeartbeats 2000000
namespace VL
open PySem PySem.Spec PyProof.Rows L2
local macro_rules | `(tactic| walk_at "n") => `(tactic| refine ⟨fun h => Bool.noConfusion (show false = true from h), fun _ => ?_⟩)
local macro_rules | `(tactic| walk_at "ty") => `(tactic| refine ⟨_, rfl, by decide, ?_⟩)
local macro_rules | `(tactic| walk_at "tys") => `(tactic| refine ⟨_, rfl, _, rfl, by decide, ?_⟩)
local macro_rules | `(tactic| walk_at "v") => `(tactic| repeat (first | refine ⟨rfl, ?_⟩ | refine ⟨_, rfl, ?_⟩))
local macro_rules | `(tactic| walk_at "y") => `(tactic| refine ⟨fun _ => ?_, fun h => Bool.noConfusion (show true = false from h)⟩)
local macro_rules | `(tactic| walk_at "z") => `(tactic| repeat (first | refine ⟨rfl, ?_⟩ | refine ⟨_, rfl, ?_⟩ | refine ⟨fun _ => ?_, fun h => Bool.noConfusion (show true = false from h)⟩ | refine ⟨fun h => Bool.noConfusion (show false = true from h), fun _ => ?_⟩ | refine ⟨tyIn rfl, ?_⟩ | refine ⟨tysIn rfl, ?_⟩ | refine ⟨smallL rfl, ?_⟩ | refine ⟨smallE rfl, ?_⟩))
local macro_rules | `(tactic| walk_at "zz") => `(tactic| repeat ((fail_if_success show forL _ _ _ _ _); first | refine ⟨rfl, ?_⟩ | refine ⟨_, rfl, ?_⟩ | refine ⟨fun _ => ?_, fun h => Bool.noConfusion (show true = false from h)⟩ | refine ⟨fun h => Bool.noConfusion (show false = true from h), fun _ => ?_⟩ | refine ⟨tyIn rfl, ?_⟩ | refine ⟨tysIn rfl, ?_⟩ | refine ⟨smallL rfl, ?_⟩ | refine ⟨smallE rfl, ?_⟩))
/-! ### what one can gain, and choosing by turns -/
theorem wt_getD {c j : Nat} {w : List Rat} (h : allw c w) (h1 : 1 ≤ c) : wt (w.getD j 0) ≤ c := by
  rw [List.getD_eq_getElem?_getD]
  cases e : w[j]? with
  | none => exact Nat.le_trans (show wt 0 ≤ 1 by decide) h1
  | some x => exact h x (List.mem_of_getElem? e)
/-- what a deed has of a kind -/
def dgain (κ : Nat) (d : Deed) (row : List Rat) : Rat := d.fs.foldl (fun a x => a + row.getD x.1 0 * x.2) (d.w.getD κ 0)
def maxF (a : Rat) (xs : List Rat) : Rat := xs.foldl (fun b g => if b < g then g else b) a
def bestG (κ : Nat) (row : List Rat) (s : St) (z : Int) : Rat := match s.ds with
  | [] => s.e.getD κ 0
  | d :: ds => if s.c = κ then maxF (dgain κ d row) (ds.map fun d => dgain κ d row) else match (d :: ds)[z.toNat]? with
    | some d => dgain κ d row
    | none => 0
def gRow (l : Land) (κ : Nat) (row : List Rat) (zs : List Int) : List Rat := (l.sts.zip zs).map fun x => bestG κ row x.1 x.2
def kEnds (l : Land) (κ : Nat) : List Rat := l.sts.map fun s => s.e.getD κ 0
def gainL (l : Land) (κ : Nat) (ps : List (List Int)) : List Rat := ps.foldl (gRow l κ) (kEnds l κ)
/-- the first with the most -/
def turnStep (c : Nat) (ws : List (List Rat)) (p : Int × Rat) (i : Nat) : Int × Rat := if p.1 < 0 ∨ p.2 < (ws.getD i []).getD c 0 then ((i : Int), (ws.getD i []).getD c 0) else p
def turnBest (c : Nat) (ws : List (List Rat)) : Int × Rat := (List.range ws.length).foldl (turnStep c ws) (-1, 0)
def turnD (later : List (List Rat)) (s : St) : Int := (turnBest s.c (s.ds.map fun d => hadBy d later)).1
def turnRow (l : Land) (later : List (List Rat)) : List Int := l.sts.map (turnD later)
def turnP (l : Land) : Nat → List (List Int)
  | 0 => []
  | n + 1 => turnP l n ++ [turnRow l (lastRow l l.ends (turnP l n))]
/-! ### the gains against the sums -/
def ownL (l : Land) (κ : Nat) (ws : List (List Rat)) : List Rat := ws.map fun w => w.getD κ 0
/-! ### how long the gains' parts are -/
def prodN (xs : List Nat) : Nat := xs.foldr (· * ·) 1
theorem prodN_pos : ∀ {xs : List Nat}, (∀ x ∈ xs, 0 < x) → 0 < prodN xs
  | [], _ => Nat.one_pos
  | x :: xs, h => Nat.mul_pos (h x (by simp)) (prodN_pos fun y hy => h y (List.mem_cons_of_mem _ hy))
theorem prodN_le {C : Nat} : ∀ {xs : List Nat}, (∀ x ∈ xs, x ≤ C) → prodN xs ≤ C ^ xs.length
  | [], _ => Nat.le_refl _
  | x :: xs, h => by
    rw [List.length_cons, Nat.pow_succ, Nat.mul_comm]
    exact Nat.mul_le_mul (h x (by simp)) (prodN_le fun y hy => h y (List.mem_cons_of_mem _ hy))
def densOf (l : Land) (κ : Nat) : List Nat := l.sts.flatMap fun s => (s.e.getD κ 0).den :: s.ds.map fun d => (d.w.getD κ 0).den
theorem den_ok {c j : Nat} {w : List Rat} (h : allw c w) (h1 : 1 ≤ c) : 0 < (w.getD j 0).den ∧ (w.getD j 0).den ≤ 2 ^ c := by
  refine ⟨(w.getD j 0).den_pos, Nat.le_of_lt ?_⟩
  exact Nat.lt_of_lt_of_le (lt_bl _) (Nat.pow_le_pow_right (by decide) (Nat.le_trans (wt_den _) (wt_getD h h1)))
theorem dens_ok {l : Land} {κ : Nat} (h : LandOk l) : ∀ x ∈ densOf l κ, 0 < x ∧ x ≤ 2 ^ 21 := fun x hx => by
  obtain ⟨s, hs, hx⟩ := List.mem_flatMap.mp hx
  rcases List.mem_cons.mp hx with rfl | hx
  · exact den_ok (h.sts s hs).wts (by decide)
  · obtain ⟨d, hd, rfl⟩ := List.mem_map.mp hx
    exact den_ok ((h.sts s hs).ds d hd).wts (by decide)
theorem flat_len4 : ∀ {ss : List St} {κ : Nat}, (∀ s ∈ ss, s.ds.length ≤ 3) → (ss.flatMap fun s => (s.e.getD κ 0).den :: s.ds.map fun d => (d.w.getD κ 0).den).length ≤ ss.length * 4
  | [], _, _ => Nat.zero_le _
  | s :: ss, κ, h => by
    have ih := flat_len4 (ss := ss) (κ := κ) fun x hx => h x (List.mem_cons_of_mem _ hx)
    have := h s (by simp)
    rw [List.flatMap_cons, List.length_append, List.length_cons, List.length_map, List.length_cons]
    omega
def lcd (l : Land) (κ : Nat) : Nat := prodN (densOf l κ)
theorem lcd_pos {l : Land} {κ : Nat} (h : LandOk l) : 0 < lcd l κ := prodN_pos fun x hx => (dens_ok h x hx).1
theorem lcd_le {l : Land} {κ : Nat} (h : LandOk l) : lcd l κ ≤ 2 ^ 672 := by
  have a := flat_len4 (ss := l.sts) (κ := κ) fun s hs => (h.sts s hs).few
  have h8 := h.n8
  refine Nat.le_trans (prodN_le (C := 2 ^ 21) fun x hx => (dens_ok h x hx).2) ?_
  rw [← Nat.pow_mul]
  refine Nat.pow_le_pow_right (by decide) ?_
  show 21 * (densOf l κ).length ≤ 672
  have : (densOf l κ).length ≤ 32 := Nat.le_trans a (by omega)
  omega
def gQ (l : Land) (κ j : Nat) : Nat := lcd l κ * K63 ^ j
def gB (l : Land) (κ j : Nat) : Nat := 2 ^ 21 * 253 ^ j * gQ l κ j
theorem gQ_pos {l : Land} {κ j : Nat} (h : LandOk l) : 0 < gQ l κ j := Nat.mul_pos (lcd_pos h) (Nat.pow_pos (by decide))
def GOkR (l : Land) (κ j : Nat) (row : List Rat) : Prop := AccOk l.sts.length (gQ l κ j) (gB l κ j) row
theorem GOkR.bits {l : Land} {κ j : Nat} {row : List Rat} (h : LandOk l) (hr : GOkR l κ j row) (hj : j ≤ 6) : allw 1300 row := fun q hq => by
  have a := (hr.2 q hq).wtle (gQ_pos h)
  have q1 : gQ l κ j ≤ 2 ^ 672 * K63 ^ 6 := Nat.mul_le_mul (lcd_le h) (Nat.pow_le_pow_right (by decide) hj)
  have e2 : bl (gQ l κ j) ≤ 1300 := bl_le (Nat.lt_of_le_of_lt q1 (by decide +kernel))
  have e1 : bl (gB l κ j) ≤ 1300 := bl_le (Nat.lt_of_le_of_lt (Nat.mul_le_mul (Nat.mul_le_mul_left (2 ^ 21) (Nat.pow_le_pow_right (by decide) hj)) q1) (by decide +kernel))
  omega
end VL

set_option maxHeartbeats 2000000
namespace VL
open PySem PySem.Spec PyProof.Rows L2
local macro_rules | `(tactic| walk_at "n") => `(tactic| refine ⟨fun h => Bool.noConfusion (show false = true from h), fun _ => ?_⟩)
local macro_rules | `(tactic| walk_at "ty") => `(tactic| refine ⟨_, rfl, by decide, ?_⟩)
local macro_rules | `(tactic| walk_at "tys") => `(tactic| refine ⟨_, rfl, _, rfl, by decide, ?_⟩)
local macro_rules | `(tactic| walk_at "v") => `(tactic| repeat (first | refine ⟨rfl, ?_⟩ | refine ⟨_, rfl, ?_⟩))
local macro_rules | `(tactic| walk_at "y") => `(tactic| refine ⟨fun _ => ?_, fun h => Bool.noConfusion (show true = false from h)⟩)
local macro_rules | `(tactic| walk_at "z") => `(tactic| repeat (first | refine ⟨rfl, ?_⟩ | refine ⟨_, rfl, ?_⟩ | refine ⟨fun _ => ?_, fun h => Bool.noConfusion (show true = false from h)⟩ | refine ⟨fun h => Bool.noConfusion (show false = true from h), fun _ => ?_⟩ | refine ⟨tyIn rfl, ?_⟩ | refine ⟨tysIn rfl, ?_⟩ | refine ⟨smallL rfl, ?_⟩ | refine ⟨smallE rfl, ?_⟩))
local macro_rules | `(tactic| walk_at "zz") => `(tactic| repeat ((fail_if_success show forL _ _ _ _ _); first | refine ⟨rfl, ?_⟩ | refine ⟨_, rfl, ?_⟩ | refine ⟨fun _ => ?_, fun h => Bool.noConfusion (show true = false from h)⟩ | refine ⟨fun h => Bool.noConfusion (show false = true from h), fun _ => ?_⟩ | refine ⟨tyIn rfl, ?_⟩ | refine ⟨tysIn rfl, ?_⟩ | refine ⟨smallL rfl, ?_⟩ | refine ⟨smallE rfl, ?_⟩))
/-! ### what one can gain: what is asked -/
@[irreducible] def sp_deed_gain : ASp := fun ds R => ∃ (d : Deed) (κ k n c : Nat) (row : List Rat), ds = [dDeed d, .int κ, dC row] ∧ DeedOk k n d ∧ κ < k ∧ row.length = n ∧ allw c row ∧ c ≤ 100000 ∧ R (dq (dgain κ d row)) 0 []
theorem sp_deed_gain.mk {d : Deed} {κ : Nat} {row : List Rat} {R : RR} (k n c : Nat) (h1 : DeedOk k n d) (h2 : κ < k) (h3 : row.length = n) (h4 : allw c row) (h5 : c ≤ 100000) (h : R (dq (dgain κ d row)) 0 []) : sp_deed_gain [dDeed d, .int κ, dC row] R := by unfold sp_deed_gain; exact ⟨d, κ, k, n, c, row, rfl, h1, h2, h3, h4, h5, h⟩
@[irreducible] def sp_l_deed_part : ASp := fun ds R => ∃ (d : Deed) (κ k n c : Nat) (row : List Rat), ds = [dDeed d, .int κ, dC row] ∧ DeedOk k n d ∧ κ < k ∧ row.length = n ∧ allw c row ∧ c ≤ 100000 ∧ R (dq (dgain κ d row)) 0 []
theorem sp_l_deed_part.mk {d : Deed} {κ : Nat} {row : List Rat} {R : RR} (k n c : Nat) (h1 : DeedOk k n d) (h2 : κ < k) (h3 : row.length = n) (h4 : allw c row) (h5 : c ≤ 100000) (h : R (dq (dgain κ d row)) 0 []) : sp_l_deed_part [dDeed d, .int κ, dC row] R := by unfold sp_l_deed_part; exact ⟨d, κ, k, n, c, row, rfl, h1, h2, h3, h4, h5, h⟩
@[irreducible] def sp_best_gain : ASp := fun ds R => ∃ (s : St) (z : Int) (κ k n c : Nat) (row : List Rat), ds = [dSt s, .int z, .int κ, dC row] ∧ StOk k n s ∧ okH (.int z) s = true ∧ κ < k ∧ row.length = n ∧ allw c row ∧ c ≤ 20000 ∧ R (dq (bestG κ row s z)) 0 []
theorem sp_best_gain.mk {s : St} {z : Int} {κ : Nat} {row : List Rat} {R : RR} (k n c : Nat) (h1 : StOk k n s) (h2 : okH (.int z) s = true) (h3 : κ < k) (h4 : row.length = n) (h5 : allw c row) (h6 : c ≤ 20000) (h : R (dq (bestG κ row s z)) 0 []) : sp_best_gain [dSt s, .int z, .int κ, dC row] R := by unfold sp_best_gain; exact ⟨s, z, κ, k, n, c, row, rfl, h1, h2, h3, h4, h5, h6, h⟩
@[irreducible] def sp_gain_by : ASp := fun ds R => ∃ (l : Land) (ps : List (List Int)) (n κ : Nat), ds = [dLand l, .lst (dPlan ps), .int κ] ∧ LandOk l ∧ PlanOk l n ps ∧ n ≤ 6 ∧ κ < l.k ∧ R (dC (gainL l κ ps)) 1 []
theorem sp_gain_by.mk {l : Land} {ps : List (List Int)} {κ : Nat} {R : RR} (n : Nat) (h1 : LandOk l) (h2 : PlanOk l n ps) (h3 : n ≤ 6) (h4 : κ < l.k) (h : R (dC (gainL l κ ps)) 1 []) : sp_gain_by [dLand l, .lst (dPlan ps), .int κ] R := by unfold sp_gain_by; exact ⟨l, ps, n, κ, rfl, h1, h2, h3, h4, h⟩
@[irreducible] def sp_l_gain : ASp := fun ds R => ∃ (l : Land) (ps : List (List Int)) (n κ : Nat), ds = [dLand l, .lst (dPlan ps), .int κ] ∧ LandOk l ∧ PlanOk l n ps ∧ n ≤ 6 ∧ κ < l.k ∧ R (dC (gainL l κ ps)) 0 []
theorem sp_l_gain.mk {l : Land} {ps : List (List Int)} {κ : Nat} {R : RR} (n : Nat) (h1 : LandOk l) (h2 : PlanOk l n ps) (h3 : n ≤ 6) (h4 : κ < l.k) (h : R (dC (gainL l κ ps)) 0 []) : sp_l_gain [dLand l, .lst (dPlan ps), .int κ] R := by unfold sp_l_gain; exact ⟨l, ps, n, κ, rfl, h1, h2, h3, h4, h⟩
@[irreducible] def sp_l_deed_worth : ASp := fun ds R => ∃ (d : Deed) (later : List (List Rat)) (n k c : Nat), ds = [dDeed d, dq 1, dWs later] ∧ DeedOk k n d ∧ k ≤ 900 ∧ WOk n k c later ∧ c ≤ 5000000 ∧ R (dw (hadBy d later)) 0 []
theorem sp_l_deed_worth.mk {d : Deed} {later : List (List Rat)} {R : RR} (n k c : Nat) (h1 : DeedOk k n d) (h2 : k ≤ 900) (h3 : WOk n k c later) (h4 : c ≤ 5000000) (h : R (dw (hadBy d later)) 0 []) : sp_l_deed_worth [dDeed d, dq 1, dWs later] R := by unfold sp_l_deed_worth; exact ⟨d, later, n, k, c, rfl, h1, h2, h3, h4, h⟩
def dTurns (l : Land) (n : Nat) : D := .tup [.lst (dPlan (turnP l n)), dSums l (turnP l n)]
@[irreducible] def sp_l_turns : ASp := fun ds R => ∃ (l : Land) (n : Nat), ds = [dLand l, .int n] ∧ LandOk l ∧ n ≤ 6 ∧ R (dTurns l n) 0 []
theorem sp_l_turns.mk {l : Land} {n : Nat} {R : RR} (h1 : LandOk l) (h2 : n ≤ 6) (h : R (dTurns l n) 0 []) : sp_l_turns [dLand l, .int n] R := by unfold sp_l_turns; exact ⟨l, n, rfl, h1, h2, h⟩
end VL

set_option maxHeartbeats 2000000
namespace VL
open PySem PySem.Spec PyProof.Rows L2
local macro_rules | `(tactic| walk_at "n") => `(tactic| refine ⟨fun h => Bool.noConfusion (show false = true from h), fun _ => ?_⟩)
local macro_rules | `(tactic| walk_at "ty") => `(tactic| refine ⟨_, rfl, by decide, ?_⟩)
local macro_rules | `(tactic| walk_at "tys") => `(tactic| refine ⟨_, rfl, _, rfl, by decide, ?_⟩)
local macro_rules | `(tactic| walk_at "v") => `(tactic| repeat (first | refine ⟨rfl, ?_⟩ | refine ⟨_, rfl, ?_⟩))
local macro_rules | `(tactic| walk_at "y") => `(tactic| refine ⟨fun _ => ?_, fun h => Bool.noConfusion (show true = false from h)⟩)
local macro_rules | `(tactic| walk_at "z") => `(tactic| repeat (first | refine ⟨rfl, ?_⟩ | refine ⟨_, rfl, ?_⟩ | refine ⟨fun _ => ?_, fun h => Bool.noConfusion (show true = false from h)⟩ | refine ⟨fun h => Bool.noConfusion (show false = true from h), fun _ => ?_⟩ | refine ⟨tyIn rfl, ?_⟩ | refine ⟨tysIn rfl, ?_⟩ | refine ⟨smallL rfl, ?_⟩ | refine ⟨smallE rfl, ?_⟩))
local macro_rules | `(tactic| walk_at "zz") => `(tactic| repeat ((fail_if_success show forL _ _ _ _ _); first | refine ⟨rfl, ?_⟩ | refine ⟨_, rfl, ?_⟩ | refine ⟨fun _ => ?_, fun h => Bool.noConfusion (show true = false from h)⟩ | refine ⟨fun h => Bool.noConfusion (show false = true from h), fun _ => ?_⟩ | refine ⟨tyIn rfl, ?_⟩ | refine ⟨tysIn rfl, ?_⟩ | refine ⟨smallL rfl, ?_⟩ | refine ⟨smallE rfl, ?_⟩))
/-! ### plans that fit -/
def fitSt (later : List (List Rat)) (x : St × Int) : Bool := x.1.ds.all fun d => !decide ((hadSt x.1 x.2 later).getD x.1.c 0 < (hadBy d later).getD x.1.c 0)
def fitRow (l : Land) (later : List (List Rat)) (zs : List Int) : Bool := (l.sts.zip zs).all (fitSt later)
def fitL (l : Land) : List (List Rat) → List (List Int) → Bool
  | _, [] => true
  | later, r :: ps => fitRow l later r && fitL l (hadRow l r later) ps
def rowOf : D → List Int
  | .tup xs => xs.map fun d => match d with | .int i => i | _ => 0
  | _ => []
def planOf : D → List (List Int)
  | .lst rows => rows.map rowOf
  | _ => []
def fitD (l : Land) (n : Nat) (d : D) : Bool := isPlan l n d && fitL l l.ends (planOf d)
@[irreducible] def sp_deed_worth : ASp := fun ds R => ∃ (d : Deed) (later : List (List Rat)) (n k c : Nat), ds = [dDeed d, dWs later] ∧ DeedOk k n d ∧ k ≤ 900 ∧ WOk n k c later ∧ c ≤ 5000000 ∧ R (dw (hadBy d later)) 0 []
theorem sp_deed_worth.mk {d : Deed} {later : List (List Rat)} {R : RR} (n k c : Nat) (h1 : DeedOk k n d) (h2 : k ≤ 900) (h3 : WOk n k c later) (h4 : c ≤ 5000000) (h : R (dw (hadBy d later)) 0 []) : sp_deed_worth [dDeed d, dWs later] R := by unfold sp_deed_worth; exact ⟨d, later, n, k, c, rfl, h1, h2, h3, h4, h⟩
@[irreducible] def sp_shows_fit : ASp := fun ds R => ∃ (l : Land) (n : Nat) (d : D) (L B j : Nat), ds = [dLand l, .int n, d] ∧ LandOk l ∧ n ≤ 5 ∧ d.dab L B j ∧ L ≤ 900 ∧ R (.bl (fitD l n d)) 0 []
theorem sp_shows_fit.mk {l : Land} {n : Nat} {d : D} {L B j : Nat} {R : RR} (h1 : LandOk l) (h2 : n ≤ 5) (h3 : d.dab L B j) (h4 : L ≤ 900) (h : R (.bl (fitD l n d)) 0 []) : sp_shows_fit [dLand l, .int n, d] R := by unfold sp_shows_fit; exact ⟨l, n, d, L, B, j, rfl, h1, h2, h3, h4, h⟩
@[irreducible] def sp_l_fits : ASp := fun ds R => ∃ (l : Land) (n : Nat) (d : D) (L B j : Nat), ds = [dLand l, .int n, d] ∧ LandOk l ∧ n ≤ 5 ∧ d.dab L B j ∧ L ≤ 900 ∧ R (.bl (fitD l n d)) 0 []
theorem sp_l_fits.mk {l : Land} {n : Nat} {d : D} {L B j : Nat} {R : RR} (h1 : LandOk l) (h2 : n ≤ 5) (h3 : d.dab L B j) (h4 : L ≤ 900) (h : R (.bl (fitD l n d)) 0 []) : sp_l_fits [dLand l, .int n, d] R := by unfold sp_l_fits; exact ⟨l, n, d, L, B, j, rfl, h1, h2, h3, h4, h⟩
end VL

namespace VL
/-! ### points, turns, figures: plain -/
abbrev P2 := Rat × Rat
/-- how much v is to the left of u -/
def cr (u v : P2) : Rat := u.1 * v.2 - u.2 * v.1
def sb (a b : P2) : P2 := (a.1 - b.1, a.2 - b.2)
def crs (a b c : P2) : Rat := (b.1 - a.1) * (c.2 - a.2) - (b.2 - a.2) * (c.1 - a.1)
def ps (u : P2) : Prop := 0 < u.1 ∨ u.1 = 0 ∧ 0 < u.2
def lx (a b : P2) : Prop := a.1 < b.1 ∨ a.1 = b.1 ∧ a.2 < b.2
theorem lx_ps {a b : P2} : lx a b → ps (sb b a) := by
  unfold lx ps sb
  rintro (h | ⟨h, k⟩)
  · left; show 0 < b.1 - a.1; grind
  · right; exact ⟨by show b.1 - a.1 = 0; grind, by show 0 < b.2 - a.2; grind⟩
theorem lx_irr {a : P2} : ¬ lx a a := by unfold lx; grind
theorem lx_tr {a b c : P2} : lx a b → lx b c → lx a c := by unfold lx; grind
theorem lx_tri (a b : P2) : lx a b ∨ a = b ∨ lx b a := by
  unfold lx
  by_cases h1 : a.1 < b.1
  · exact .inl (.inl h1)
  · by_cases h2 : b.1 < a.1
    · exact .inr (.inr (.inl h2))
    · have e : a.1 = b.1 := by grind
      by_cases h3 : a.2 < b.2
      · exact .inl (.inr ⟨e, h3⟩)
      · by_cases h4 : b.2 < a.2
        · exact .inr (.inr (.inr ⟨e.symm, h4⟩))
        · exact .inr (.inl (Prod.ext e (by grind)))
theorem lx_asy {a b : P2} (h : lx a b) (k : lx b a) : False := lx_irr (lx_tr h k)
theorem pos_of_mul {a b : Rat} (ha : 0 < a) (h : 0 < a * b) : 0 < b := by
  by_cases c : 0 < b
  · exact c
  · exfalso
    have : 0 ≤ a * (-b) := Rat.mul_nonneg (by grind) (by grind)
    grind
theorem nn_of_mul {a b : Rat} (ha : 0 < a) (h : 0 ≤ a * b) : 0 ≤ b := by
  by_cases c : 0 ≤ b
  · exact c
  · exfalso
    have : 0 < a * (-b) := Rat.mul_pos ha (by grind)
    grind
/-- turns of vectors to the right hand are carried on -/
theorem cr_tr {u v w : P2} (pu : ps u) (pv : ps v) (pw : ps w) (h1 : 0 ≤ cr u v) (h2 : 0 ≤ cr v w) : 0 ≤ cr u w := by
  unfold cr at *
  have id1 : v.1 * (u.1 * w.2 - u.2 * w.1) = u.1 * (v.1 * w.2 - v.2 * w.1) + w.1 * (u.1 * v.2 - u.2 * v.1) := by grind
  have u0 : 0 ≤ u.1 := by unfold ps at pu; grind
  have w0 : 0 ≤ w.1 := by unfold ps at pw; grind
  rcases pv with pv | ⟨pv, pv2⟩
  · refine nn_of_mul pv ?_
    rw [id1]
    have a := Rat.mul_nonneg u0 h2
    have b := Rat.mul_nonneg w0 h1
    grind
  · rw [pv] at h1 h2
    have hw : 0 ≤ v.2 * (-w.1) := by grind
    have hw := nn_of_mul pv2 hw
    have ew : w.1 = 0 := by grind
    rw [ew]
    rcases pw with pw | ⟨_, pw⟩
    · grind
    · have := Rat.mul_nonneg u0 (Rat.le_of_lt pw)
      grind
theorem cr_tr1 {u v w : P2} (pu : ps u) (pv : ps v) (pw : ps w) (h1 : 0 < cr u v) (h2 : 0 ≤ cr v w) : 0 < cr u w := by
  unfold cr at *
  have id1 : v.1 * (u.1 * w.2 - u.2 * w.1) = u.1 * (v.1 * w.2 - v.2 * w.1) + w.1 * (u.1 * v.2 - u.2 * v.1) := by grind
  have u0 : 0 ≤ u.1 := by unfold ps at pu; grind
  have w0 : 0 ≤ w.1 := by unfold ps at pw; grind
  rcases pv with pv | ⟨pv, pv2⟩
  · refine pos_of_mul pv ?_
    rw [id1]
    have a := Rat.mul_nonneg u0 h2
    rcases pw with pw | ⟨pw, pw2⟩
    · have b := Rat.mul_pos pw h1
      grind
    · rw [pw]
      -- w is upright: u isn't, v isn't
      have : 0 < u.1 := by
        rcases pu with pu | ⟨pu, pu2⟩
        · exact pu
        · exfalso
          rw [pu] at h1
          have := Rat.mul_pos pu2 pv
          grind
      have b := Rat.mul_pos this (Rat.mul_pos pv pw2)
      grind
  · rw [pv] at h1 h2
    have hw : 0 ≤ v.2 * (-w.1) := by grind
    have hw := nn_of_mul pv2 hw
    have ew : w.1 = 0 := by grind
    rw [ew]
    have hu : 0 < v.2 * u.1 := by grind
    have hu := pos_of_mul pv2 hu
    rcases pw with pw | ⟨_, pw⟩
    · grind
    · have := Rat.mul_pos hu pw
      grind
theorem cr_tr2 {u v w : P2} (pu : ps u) (pv : ps v) (pw : ps w) (h1 : 0 ≤ cr u v) (h2 : 0 < cr v w) : 0 < cr u w := by
  unfold cr at *
  have id1 : v.1 * (u.1 * w.2 - u.2 * w.1) = u.1 * (v.1 * w.2 - v.2 * w.1) + w.1 * (u.1 * v.2 - u.2 * v.1) := by grind
  have u0 : 0 ≤ u.1 := by unfold ps at pu; grind
  have w0 : 0 ≤ w.1 := by unfold ps at pw; grind
  rcases pv with pv | ⟨pv, pv2⟩
  · refine pos_of_mul pv ?_
    rw [id1]
    have b := Rat.mul_nonneg w0 h1
    rcases pu with pu | ⟨pu, pu2⟩
    · have a := Rat.mul_pos pu h2
      grind
    · rw [pu] at h1
      exfalso
      have := Rat.mul_pos pu2 pv
      grind
  · rw [pv] at h2
    have : 0 < v.2 * (-w.1) := by grind
    have := pos_of_mul pv2 this
    grind
theorem crs_u (a b c : P2) : crs a b c = cr (sb b a) (sb c b) := by unfold crs cr sb; grind
theorem crs_v (a b c : P2) : crs a b c = cr (sb b a) (sb c a) := by unfold crs cr sb; grind
theorem cr_neg (u v : P2) : cr u v = - cr v u := by unfold cr; grind

/-! ### the chain -/
def popW : List P2 → P2 → List P2
  | c :: b :: r, p => if 0 < crs b c p then c :: b :: r else popW (b :: r) p
  | st, _ => st
def halfR : List P2 → List P2 → List P2
  | st, [] => st
  | st, p :: qs => halfR (p :: popW st p) qs
/-- the corners to the right, the first one first -/
def halfQ (qs : List P2) : List P2 := (halfR [] qs).reverse
/-- a chain (the last one first) with nothing of done to its right -/
def Sup (done : List P2) : List P2 → Prop
  | c :: b :: r => lx b c ∧ (∀ p ∈ done, 0 ≤ crs b c p) ∧ (match r with | a :: _ => 0 < crs a b c | [] => True) ∧ Sup done (b :: r)
  | _ => True
theorem Sup.tail {done : List P2} {c : P2} {st : List P2} (h : Sup done (c :: st)) : Sup done st := by
  cases st with
  | nil => exact True.intro
  | cons b r => exact h.2.2.2
structure Chain (done st : List P2) : Prop where
  sup : Sup done st
  sub : ∀ c ∈ st, c ∈ done
  top : ∃ c r, st = c :: r ∧ ∀ p ∈ done, p = c ∨ lx p c
  bot : ∃ c r, st = r ++ [c] ∧ ∀ p ∈ done, p = c ∨ lx c p
theorem sup_left {done : List P2} {q : P2} : ∀ {st : List P2} {c b : P2} {r : List P2}, st = c :: b :: r → Sup done st → lx c q → 0 < crs b c q → Sup (done ++ [q]) st
  | st, c, b, r, e, h, hq, hc => by
    subst e
    obtain ⟨h1, h2, h3, h4⟩ := h
    refine ⟨h1, fun p hp => ?_, h3, ?_⟩
    · rcases List.mem_append.mp hp with hp | hp
      · exact h2 p hp
      · rw [List.mem_singleton.mp hp]; exact Rat.le_of_lt hc
    · cases r with
      | nil => exact True.intro
      | cons a r =>
        have h3 : 0 < crs a b c := h3
        have hab : lx a b := h4.1
        refine sup_left rfl h4 (lx_tr h1 hq) ?_
        rw [crs_u] at h3 ⊢
        rw [crs_v] at hc
        exact cr_tr1 (lx_ps hab) (lx_ps h1) (lx_ps (lx_tr h1 hq)) h3 (Rat.le_of_lt hc)
/-- what is on the way while corners are put away: the top, and what stood on it -/
def Way (done : List P2) (q : P2) (c : P2) : Prop := (∀ p ∈ done, p = c ∨ lx p c) ∨ ∃ c', lx c c' ∧ (∀ p ∈ done, 0 ≤ crs c c' p) ∧ crs c c' q ≤ 0
theorem chain_pop {done : List P2} {q : P2} (hq : ∀ p ∈ done, lx p q) : ∀ {st : List P2} {c : P2} {r : List P2}, st = c :: r → Sup done st → (∀ c ∈ st, c ∈ done) → (∃ c r, st = r ++ [c] ∧ ∀ p ∈ done, p = c ∨ lx c p) → Way done q c →
    Chain (done ++ [q]) (q :: popW st q)
  | st, c, [], e, hs, hsub, hb, hw => by
    subst e
    obtain ⟨c0, r0, e0, hb⟩ := hb
    have ec : c0 = c ∧ r0 = [] := by
      cases r0 with
      | nil => exact ⟨by simpa using e0.symm, rfl⟩
      | cons x r0 => simp at e0
    obtain ⟨rfl, rfl⟩ := ec
    have hcq := hq c0 (hsub c0 (by simp))
    refine ⟨⟨hcq, fun p hp => ?_, True.intro, True.intro⟩, ?_, ⟨q, _, rfl, ?_⟩, ⟨c0, [q], rfl, ?_⟩⟩
    · rcases List.mem_append.mp hp with hp | hp
      · rcases hb p hp with rfl | h
        · unfold crs; grind
        · rcases hw with hw | ⟨c', h1, h2, h3⟩
          · rcases hw p hp with rfl | h'
            · unfold crs; grind
            · exact absurd h' (fun z => lx_asy h z)
          · have g1 := h2 p hp
            rw [crs_v] at g1 h3 ⊢
            rw [cr_neg] at h3
            exact cr_tr (lx_ps hcq) (lx_ps h1) (lx_ps h) (by grind) g1
      · rw [List.mem_singleton.mp hp]; unfold crs; grind
    · intro x hx
      rcases List.mem_cons.mp hx with rfl | hx
      · simp
      · exact List.mem_append_left _ (hsub x hx)
    · intro p hp
      rcases List.mem_append.mp hp with hp | hp
      · exact .inr (hq p hp)
      · exact .inl (List.mem_singleton.mp hp)
    · intro p hp
      rcases List.mem_append.mp hp with hp | hp
      · exact hb p hp
      · rw [List.mem_singleton.mp hp]; exact .inr hcq
  | st, c, b :: r, e, hs, hsub, hb, hw => by
    subst e
    have hcq := hq c (hsub c (by simp))
    unfold popW
    by_cases hc : 0 < crs b c q
    · rw [if_pos hc]
      have hbc : lx b c := hs.1
      refine ⟨⟨hcq, fun p hp => ?_, hc, sup_left rfl hs hcq hc⟩, ?_, ⟨q, _, rfl, ?_⟩, ?_⟩
      · rcases List.mem_append.mp hp with hp | hp
        · rcases lx_tri p c with h | rfl | h
          · have g1 := hs.2.1 p hp
            have g2 := hc
            rw [crs_u] at g1 g2 ⊢
            have e1 : cr (sb c b) (sb p c) = cr (sb c p) (sb c b) := by unfold cr sb; grind
            have e2 : cr (sb q c) (sb p q) = cr (sb c p) (sb q c) := by unfold cr sb; grind
            rw [e1] at g1
            rw [e2]
            exact Rat.le_of_lt (cr_tr2 (lx_ps h) (lx_ps hbc) (lx_ps hcq) g1 g2)
          · unfold crs; grind
          · rcases hw with hw | ⟨c', h1, h2, h3⟩
            · rcases hw p hp with rfl | h'
              · unfold crs; grind
              · exact absurd h' (fun z => lx_asy h z)
            · have g1 := h2 p hp
              rw [crs_v] at g1 h3 ⊢
              rw [cr_neg] at h3
              exact cr_tr (lx_ps hcq) (lx_ps h1) (lx_ps h) (by grind) g1
        · rw [List.mem_singleton.mp hp]; unfold crs; grind
      · intro x hx
        rcases List.mem_cons.mp hx with rfl | hx
        · simp
        · exact List.mem_append_left _ (hsub x hx)
      · intro p hp
        rcases List.mem_append.mp hp with hp | hp
        · exact .inr (hq p hp)
        · exact .inl (List.mem_singleton.mp hp)
      · obtain ⟨c0, r0, e0, hb⟩ := hb
        refine ⟨c0, q :: r0, by rw [List.cons_append, ← e0], fun p hp => ?_⟩
        rcases List.mem_append.mp hp with hp | hp
        · exact hb p hp
        · rw [List.mem_singleton.mp hp]
          have : c0 ∈ c :: b :: r := by rw [e0]; simp
          exact .inr (hq c0 (hsub c0 this))
    · rw [if_neg hc]
      refine chain_pop hq rfl hs.2.2.2 (fun x hx => hsub x (List.mem_cons_of_mem _ hx)) ?_ (.inr ⟨c, hs.1, hs.2.1, by grind⟩)
      obtain ⟨c0, r0, e0, hb⟩ := hb
      cases r0 with
      | nil => simp at e0
      | cons x r0 =>
        rw [List.cons_append] at e0
        exact ⟨c0, r0, (List.cons.inj e0).2, hb⟩
theorem Chain.step {done st : List P2} {q : P2} (h : Chain done st) (hq : ∀ p ∈ done, lx p q) : Chain (done ++ [q]) (q :: popW st q) := by
  obtain ⟨c, r, e, ht⟩ := h.top
  exact chain_pop hq e h.sup h.sub h.bot (.inl ht)
theorem Chain.run : ∀ {qs done st : List P2}, Chain done st → (done ++ qs).Pairwise lx → Chain (done ++ qs) (halfR st qs)
  | [], done, st, h, _ => by rw [List.append_nil]; exact h
  | q :: qs, done, st, h, hp => by
    have e : done ++ q :: qs = (done ++ [q]) ++ qs := by rw [List.append_assoc]; rfl
    rw [e] at hp ⊢
    refine Chain.run (h.step fun p hpd => ?_) hp
    have := (List.pairwise_append.mp hp).1
    exact (List.pairwise_append.mp this).2.2 p hpd q (by simp)
theorem chain_half {q : P2} {qs : List P2} (hp : (q :: qs).Pairwise lx) : Chain (q :: qs) (halfR [q] qs) :=
  Chain.run (done := [q]) ⟨True.intro, fun c h => h, ⟨q, [], rfl, fun p hp => .inl (List.mem_singleton.mp hp)⟩, ⟨q, [], rfl, fun p hp => .inl (List.mem_singleton.mp hp)⟩⟩ hp
end VL

namespace VL
/-! ### figures: edges, one figure alone for some points -/
def lerp (a b : P2) (t : Rat) : P2 := (a.1 + t * (b.1 - a.1), a.2 + t * (b.2 - a.2))
def Onto (a b p : P2) : Prop := ∃ t, 0 ≤ t ∧ t ≤ 1 ∧ p = lerp a b t
structure Edge (pts : List P2) (a b : P2) : Prop where
  ne : a ≠ b
  lf : ∀ p ∈ pts, 0 < crs a b p ∨ Onto a b p
theorem onto_crs {a b p : P2} (h : Onto a b p) : crs a b p = 0 := by
  obtain ⟨t, _, _, rfl⟩ := h
  unfold crs lerp
  grind
theorem onto_a (a b : P2) : Onto a b a := ⟨0, by decide, by decide, by unfold lerp; ext <;> grind⟩
/-- a follows straight b -/
def Nx (l : List P2) (a b : P2) : Prop := ∃ s t, l = s ++ a :: b :: t
theorem nx_nil {a b : P2} : ¬ Nx [] a b := by rintro ⟨s, t, h⟩; simp at h
theorem nx_cons {x : P2} {l : List P2} {a b : P2} : Nx (x :: l) a b ↔ (a = x ∧ l.head? = some b) ∨ Nx l a b := by
  constructor
  · rintro ⟨s, t, h⟩
    cases s with
    | nil =>
      have := List.cons.inj h
      exact .inl ⟨this.1.symm, by rw [this.2]; rfl⟩
    | cons y s => exact .inr ⟨s, t, (List.cons.inj h).2⟩
  · rintro (⟨rfl, h⟩ | ⟨s, t, rfl⟩)
    · cases l with
      | nil => cases h
      | cons y l => cases h; exact ⟨[], l, rfl⟩
    · exact ⟨x :: s, t, rfl⟩
theorem nx_rev {l : List P2} {a b : P2} : Nx l.reverse a b ↔ Nx l b a := by
  have key : ∀ {l : List P2} {a b : P2}, Nx l a b → Nx l.reverse b a := by
    rintro l a b ⟨s, t, rfl⟩
    exact ⟨t.reverse, s.reverse, by simp⟩
  exact ⟨fun h => by simpa using key h, key⟩
theorem nx_app {l r : List P2} {g a b : P2} : Nx (l ++ g :: r) a b → Nx (l ++ [g]) a b ∨ Nx (g :: r) a b := by
  induction l with
  | nil => exact .inr
  | cons x l ih =>
    intro h
    rw [List.cons_append] at h ⊢
    rcases nx_cons.mp h with ⟨e, h2⟩ | h
    · refine .inl (nx_cons.mpr (.inl ⟨e, ?_⟩))
      cases l <;> simpa using h2
    · rcases ih h with h | h
      · exact .inl (nx_cons.mpr (.inr h))
      · exact .inr h
theorem nx_mem {l : List P2} {a b : P2} (h : Nx l a b) : a ∈ l ∧ b ∈ l := by
  obtain ⟨s, t, rfl⟩ := h
  exact ⟨by simp, by simp⟩
/-- a chain's pairs are edges -/
theorem sup_at {done : List P2} : ∀ {s st : List P2}, Sup done (s ++ st) → Sup done st
  | [], _, h => h
  | x :: s, st, h => sup_at (s := s) (Sup.tail h)
theorem div_le_one {x d : Rat} (hd : 0 < d) (h : x ≤ d) : x / d ≤ 1 := by
  have e : d * (1 - x / d) = d - x := by grind
  have := nn_of_mul hd (b := 1 - x / d) (by rw [e]; grind)
  grind
theorem onto_of {b c p : P2} (hbc : lx b c) (h0 : crs b c p = 0) (h1 : ¬ lx p b) (h2 : ¬ lx c p) : Onto b c p := by
  unfold crs at h0
  unfold lx at hbc h1 h2
  by_cases e : b.1 = c.1
  · have h3 : b.2 < c.2 := by grind
    have hd : 0 < c.2 - b.2 := by grind
    have e1 : p.1 = b.1 := by
      have h4 : (c.2 - b.2) * (p.1 - b.1) = 0 := by rw [e] at h0 ⊢; grind
      have := Rat.mul_eq_zero.mp h4
      grind
    refine ⟨(p.2 - b.2) / (c.2 - b.2), ?_, ?_, ?_⟩
    · rw [Rat.div_def]; exact Rat.mul_nonneg (by grind) (Rat.le_of_lt (Rat.inv_pos.mpr hd))
    · exact div_le_one hd (by grind)
    · unfold lerp
      ext
      · show p.1 = b.1 + _ * (c.1 - b.1); rw [e1, e]; grind
      · show p.2 = b.2 + (p.2 - b.2) / (c.2 - b.2) * (c.2 - b.2); grind
  · have h3 : b.1 < c.1 := by grind
    have hd : 0 < c.1 - b.1 := by grind
    refine ⟨(p.1 - b.1) / (c.1 - b.1), ?_, ?_, ?_⟩
    · rw [Rat.div_def]; exact Rat.mul_nonneg (by grind) (Rat.le_of_lt (Rat.inv_pos.mpr hd))
    · exact div_le_one hd (by grind)
    · unfold lerp
      ext
      · show p.1 = b.1 + (p.1 - b.1) / (c.1 - b.1) * (c.1 - b.1); grind
      · show p.2 = b.2 + (p.1 - b.1) / (c.1 - b.1) * (c.2 - b.2)
        have : (c.1 - b.1) * (p.2 - b.2) = (p.1 - b.1) * (c.2 - b.2) := by grind
        have e2 : p.2 - b.2 = (p.1 - b.1) * (c.2 - b.2) / (c.1 - b.1) := by grind
        grind
theorem Chain.edge {done st : List P2} (h : Chain done st) {b c : P2} (hn : Nx st c b) : Edge done b c ∧ lx b c := by
  obtain ⟨s, t, e⟩ := hn
  have hs := h.sup
  rw [e] at hs
  have h1 := sup_at hs
  obtain ⟨hbc, hp, ht, _⟩ := h1
  refine ⟨⟨fun z => lx_irr (z ▸ hbc), fun p hpd => ?_⟩, hbc⟩
  by_cases c0 : 0 < crs b c p
  · exact .inl c0
  · have e0 : crs b c p = 0 := by have := hp p hpd; grind
    refine .inr (onto_of hbc e0 (fun hl => ?_) (fun hl => ?_))
    · -- p ahead of b
      cases t with
      | nil =>
        obtain ⟨c0', r0, e0', hb⟩ := h.bot
        rw [e] at e0'
        have : b = c0' := by
          have := congrArg List.getLast? e0'
          simpa using this
        subst this
        rcases hb p hpd with rfl | hh
        · exact lx_irr hl
        · exact lx_asy hl hh
      | cons a t =>
        have ht : 0 < crs a b c := ht
        have h2 := Sup.tail (sup_at hs)
        have g1 := h2.2.1 p hpd
        rw [crs_u] at g1 ht e0
        have e1 : cr (sb b a) (sb p b) = cr (sb b p) (sb b a) := by unfold cr sb; grind
        rw [e1] at g1
        have g2 := cr_tr2 (lx_ps hl) (lx_ps h2.1) (lx_ps hbc) g1 ht
        have e2 : cr (sb c b) (sb p c) = cr (sb b p) (sb c b) := by unfold cr sb; grind
        rw [e2] at e0
        rw [e0] at g2
        exact absurd g2 (by decide)
    · -- p behind c
      rcases List.eq_nil_or_concat s with rfl | ⟨s', c', rfl⟩
      · obtain ⟨c0', r0, e0', hb⟩ := h.top
        rw [e] at e0'
        have := (List.cons.inj e0').1
        subst this
        rcases hb p hpd with rfl | hh
        · exact lx_irr hl
        · exact lx_asy hl hh
      · rw [List.concat_eq_append, List.append_assoc] at hs
        have h2 := sup_at hs
        have ht2 : 0 < crs b c c' := h2.2.2.1
        have g1 := h2.2.1 p hpd
        rw [crs_v] at g1
        rw [crs_u] at ht2 e0
        have g2 := cr_tr1 (lx_ps hbc) (lx_ps h2.1) (lx_ps hl) ht2 g1
        rw [e0] at g2
        exact absurd g2 (by decide)

/-! ### turned about -/
theorem popW_map {f : P2 → P2} (hf : ∀ a b c, (0 < crs (f a) (f b) (f c)) ↔ 0 < crs a b c) (p : P2) : ∀ st : List P2, popW (st.map f) (f p) = (popW st p).map f
  | [] => rfl
  | [x] => rfl
  | c :: b :: r => by
    show (if 0 < crs (f b) (f c) (f p) then _ else popW ((b :: r).map f) (f p)) = _
    have e : popW (c :: b :: r) p = if 0 < crs b c p then c :: b :: r else popW (b :: r) p := rfl
    rw [e]
    by_cases h : 0 < crs b c p
    · rw [if_pos h, if_pos ((hf _ _ _).mpr h)]; rfl
    · rw [if_neg h, if_neg (fun z => h ((hf _ _ _).mp z))]; exact popW_map hf p (b :: r)
theorem halfR_map {f : P2 → P2} (hf : ∀ a b c, (0 < crs (f a) (f b) (f c)) ↔ 0 < crs a b c) : ∀ (qs st : List P2), halfR (st.map f) (qs.map f) = (halfR st qs).map f
  | [], st => rfl
  | q :: qs, st => by
    show halfR (f q :: popW (st.map f) (f q)) (qs.map f) = _
    rw [popW_map hf]
    exact halfR_map hf qs (q :: popW st q)
def ng (p : P2) : P2 := (-p.1, -p.2)
theorem ng_ng (p : P2) : ng (ng p) = p := by unfold ng; ext <;> grind
theorem crs_ng (a b c : P2) : crs (ng a) (ng b) (ng c) = crs a b c := by unfold crs ng; grind
theorem lx_ng {a b : P2} : lx (ng a) (ng b) ↔ lx b a := by unfold lx ng; grind
theorem onto_ng {a b p : P2} (h : Onto (ng a) (ng b) (ng p)) : Onto a b p := by
  obtain ⟨t, h0, h1, e⟩ := h
  refine ⟨t, h0, h1, ?_⟩
  unfold ng lerp at *
  have e1 := congrArg Prod.fst e
  have e2 := congrArg Prod.snd e
  dsimp only at e1 e2
  ext <;> grind
theorem edge_ng {pts : List P2} {a b : P2} (h : Edge (pts.map ng) (ng a) (ng b)) : Edge pts a b := by
  refine ⟨fun z => h.ne (by rw [z]), fun p hp => ?_⟩
  rcases h.lf (ng p) (List.mem_map_of_mem hp) with h | h
  · rw [crs_ng] at h; exact .inl h
  · exact .inr (onto_ng h)
theorem edge_set {p1 p2 : List P2} {a b : P2} (hs : ∀ p ∈ p2, p ∈ p1) (h : Edge p1 a b) : Edge p2 a b := ⟨h.ne, fun p hp => h.lf p (hs p hp)⟩

/-! ### the figure of points -/
structure Fig (pts L : List P2) : Prop where
  ex : ∃ a t, L = a :: t ∧ (∀ p ∈ pts, p = a ∨ lx a p) ∧ a ∉ t ∧ (t ≠ [] → ∀ x y, Nx (a :: t ++ [a]) x y → Edge pts x y)
  sub : ∀ c ∈ L, c ∈ pts
  one : L.length = 1 → ∀ p ∈ pts, p ∈ L
theorem edge_fun {pts : List P2} {a b c : P2} (hb : b ∈ pts) (hc : c ∈ pts) (h1 : Edge pts a b) (h2 : Edge pts a c) : b = c := by
  have e : crs a c b = - crs a b c := by unfold crs; grind
  rcases h1.lf c hc with k | k
  · rcases h2.lf b hb with j | j
    · grind
    · have := onto_crs j; grind
  · rcases h2.lf b hb with j | j
    · have := onto_crs k; grind
    · obtain ⟨t, t0, t1, ht⟩ := k
      obtain ⟨s, s0, s1, hs⟩ := j
      unfold lerp at ht hs
      have a1 := congrArg Prod.fst ht
      have a2 := congrArg Prod.snd ht
      have b1 := congrArg Prod.fst hs
      have b2 := congrArg Prod.snd hs
      dsimp only at a1 a2 b1 b2
      have c1 : (1 - s * t) * (b.1 - a.1) = 0 := by grind
      have c2 : (1 - s * t) * (b.2 - a.2) = 0 := by grind
      have hst : s * t = 1 := by
        by_cases z : 1 - s * t = 0
        · grind
        · exfalso
          have d1 := (Rat.mul_eq_zero.mp c1).resolve_left z
          have d2 := (Rat.mul_eq_zero.mp c2).resolve_left z
          exact h1.ne (Prod.ext (by grind) (by grind))
      have t1' : t = 1 := by
        have : 0 ≤ (1 - s) * t := Rat.mul_nonneg (by grind) t0
        grind
      ext
      · rw [a1, t1']; grind
      · rw [a2, t1']; grind
theorem follow_uniq {pts : List P2} {a : P2} (ha : a ∈ pts) : ∀ {t u : List P2} {x : P2}, (∀ c ∈ t, c ∈ pts) → (∀ c ∈ u, c ∈ pts) → a ∉ t → a ∉ u → (∀ y z, Nx (x :: t ++ [a]) y z → Edge pts y z) → (∀ y z, Nx (x :: u ++ [a]) y z → Edge pts y z) → t = u
  | [], [], _, _, _, _, _, _, _ => rfl
  | [], z :: u, x, _, hu, _, au, h1, h2 => by
    have e1 := h1 x a (nx_cons.mpr (.inl ⟨rfl, rfl⟩))
    have e2 := h2 x z (nx_cons.mpr (.inl ⟨rfl, rfl⟩))
    have := edge_fun ha (hu z (by simp)) e1 e2
    exact absurd (by rw [this]; simp) au
  | y :: t, [], x, ht, _, at', _, h1, h2 => by
    have e1 := h1 x y (nx_cons.mpr (.inl ⟨rfl, rfl⟩))
    have e2 := h2 x a (nx_cons.mpr (.inl ⟨rfl, rfl⟩))
    have := edge_fun (ht y (by simp)) ha e1 e2
    exact absurd (by rw [← this]; simp) at'
  | y :: t, z :: u, x, ht, hu, at', au, h1, h2 => by
    have e1 := h1 x y (nx_cons.mpr (.inl ⟨rfl, rfl⟩))
    have e2 := h2 x z (nx_cons.mpr (.inl ⟨rfl, rfl⟩))
    have e := edge_fun (ht y (by simp)) (hu z (by simp)) e1 e2
    subst e
    rw [follow_uniq (x := y) ha (fun c hc => ht c (List.mem_cons_of_mem _ hc)) (fun c hc => hu c (List.mem_cons_of_mem _ hc)) (fun z => at' (List.mem_cons_of_mem _ z)) (fun z => au (List.mem_cons_of_mem _ z))
      (fun p q h => h1 p q (nx_cons.mpr (.inr h))) (fun p q h => h2 p q (nx_cons.mpr (.inr h)))]
theorem Fig.uniq {pts L M : List P2} (h1 : Fig pts L) (h2 : Fig pts M) : L = M := by
  obtain ⟨a, t, rfl, ha, at', et⟩ := h1.ex
  obtain ⟨b, u, rfl, hb, bu, eu⟩ := h2.ex
  have hap := h1.sub a (by simp)
  have hbp := h2.sub b (by simp)
  have e : a = b := by
    rcases ha b hbp with h | h
    · exact h.symm
    · rcases hb a hap with k | k
      · exact k
      · exact (lx_asy h k).elim
  subst e
  have one : ∀ {t u : List P2}, Fig pts (a :: t) → Fig pts (a :: u) → a ∉ u → t = [] → u = [] := fun {t u} h1 h2 au e => by
    subst e
    cases u with
    | nil => rfl
    | cons z u =>
      have := h1.one rfl z (h2.sub z (by simp))
      exact absurd (by rw [List.mem_singleton.mp this]; simp) au
  by_cases ht : t = []
  · rw [ht, one h1 h2 bu ht]
  · have hu : u ≠ [] := fun z => ht (one h2 h1 at' z)
    rw [follow_uniq hap (fun c hc => h1.sub c (List.mem_cons_of_mem _ hc)) (fun c hc => h2.sub c (List.mem_cons_of_mem _ hc)) at' bu (et ht) (eu hu)]
/-- the points of another list within -/
def Within (L : List P2) (p : P2) : Prop := match L with
  | [] => False
  | [a] => p = a
  | a :: t => (p = a ∨ lx a p) ∧ ∀ x y, Nx (a :: t ++ [a]) x y → 0 < crs x y p ∨ Onto x y p
theorem Fig.within {pts L : List P2} (h : Fig pts L) : ∀ p ∈ pts, Within L p := by
  obtain ⟨a, t, rfl, ha, at', et⟩ := h.ex
  intro p hp
  cases t with
  | nil => exact List.mem_singleton.mp (h.one rfl p hp)
  | cons b t => exact ⟨ha p hp, fun x y hn => (et (by simp) x y hn).lf p hp⟩
theorem Fig.of_within {pts qts L : List P2} (h : Fig pts L) (hs : ∀ c ∈ L, c ∈ qts) (hw : ∀ p ∈ qts, Within L p) : Fig qts L := by
  obtain ⟨a, t, rfl, ha, at', et⟩ := h.ex
  cases t with
  | nil => exact ⟨⟨a, [], rfl, fun p hp => .inl (hw p hp), at', fun z => absurd rfl z⟩, hs, fun _ p hp => List.mem_singleton.mpr (hw p hp)⟩
  | cons b t => exact ⟨⟨a, b :: t, rfl, fun p hp => (hw p hp).1, at', fun _ x y hn => ⟨(et (by simp) x y hn).ne, fun p hp => (hw p hp).2 x y hn⟩⟩, hs, fun e => absurd e (by simp)⟩
theorem Fig.same {pts qts L : List P2} (h : Fig pts L) (h1 : ∀ p ∈ pts, p ∈ qts) (h2 : ∀ p ∈ qts, p ∈ pts) : Fig qts L :=
  h.of_within (fun c hc => h1 c (h.sub c hc)) fun p hp => h.within p (h2 p hp)

/-! ### the hull of sorted points -/
def hullW (ws : List P2) : List P2 := match ws with
  | [w] => [w]
  | _ => (halfQ ws).dropLast ++ (halfQ ws.reverse).dropLast
theorem chain_half' {ws : List P2} (h0 : ws ≠ []) (hp : ws.Pairwise lx) : Chain ws (halfR [] ws) := by
  cases ws with
  | nil => exact absurd rfl h0
  | cons w ws => exact chain_half hp
theorem fig_hullW {ws : List P2} (h0 : ws ≠ []) (hp : ws.Pairwise lx) : Fig ws (hullW ws) := by
  cases ws with
  | nil => exact absurd rfl h0
  | cons w ws =>
    cases ws with
    | nil => exact ⟨⟨w, [], rfl, fun p hp => .inl (List.mem_singleton.mp hp), by simp, fun z => absurd rfl z⟩, fun c hc => hc, fun _ p hp => hp⟩
    | cons v ws =>
      generalize hW : w :: v :: ws = W at *
      have hW2 : hullW W = (halfQ W).dropLast ++ (halfQ W.reverse).dropLast := by rw [← hW]; rfl
      have ch := chain_half' h0 hp
      have hp' : (W.reverse.map ng).Pairwise lx := by
        rw [List.pairwise_map, List.pairwise_reverse]
        exact hp.imp fun h => lx_ng.mpr h
      have cu := chain_half' (ws := W.reverse.map ng) (by intro z; exact h0 (by simpa using z)) hp'
      have eu : halfR [] (W.reverse.map ng) = (halfR [] W.reverse).map ng := halfR_map (f := ng) (fun a b c => by rw [crs_ng]) W.reverse []
      rw [eu] at cu
      obtain ⟨g, rl, el, hg⟩ := ch.top
      obtain ⟨a, rl2, el2, ha⟩ := ch.bot
      -- the upper one
      have hu0 : ∃ g' ru2, halfR [] W.reverse = ru2 ++ [g'] ∧ ∀ p ∈ W, p = g' ∨ lx p g' := by
        obtain ⟨c, r, e, hc⟩ := cu.bot
        rcases List.eq_nil_or_concat (halfR [] W.reverse) with z | ⟨r', c', z⟩
        · rw [z] at e; simp at e
        · rw [z, List.concat_eq_append, List.map_append] at e
          have e1 : ng c' = c := by
            have := congrArg List.getLast? e
            simpa using this
          refine ⟨c', r', by rw [z, List.concat_eq_append], fun p hp => ?_⟩
          have hm : ng p ∈ W.reverse.map ng := List.mem_map_of_mem (List.mem_reverse.mpr hp)
          rcases hc _ hm with k | k
          · left
            rw [← e1] at k
            have := congrArg ng k
            rwa [ng_ng, ng_ng] at this
          · right
            rw [← e1] at k
            exact lx_ng.mp k
      have hu1 : ∃ a' ru, halfR [] W.reverse = a' :: ru ∧ ∀ p ∈ W, p = a' ∨ lx a' p := by
        obtain ⟨c, r, e, hc⟩ := cu.top
        cases z : halfR [] W.reverse with
        | nil => rw [z] at e; simp at e
        | cons c' r' =>
          rw [z] at e
          have e1 : ng c' = c := (List.cons.inj e).1
          refine ⟨c', r', rfl, fun p hp => ?_⟩
          have hm : ng p ∈ W.reverse.map ng := List.mem_map_of_mem (List.mem_reverse.mpr hp)
          rcases hc _ hm with k | k
          · left
            rw [← e1] at k
            have := congrArg ng k
            rwa [ng_ng, ng_ng] at this
          · right
            rw [← e1] at k
            exact lx_ng.mp k
      obtain ⟨g', ru2, eu2, hg'⟩ := hu0
      obtain ⟨a', ru, eu1, ha'⟩ := hu1
      have subl : ∀ c ∈ halfR [] W, c ∈ W := ch.sub
      have subu : ∀ c ∈ halfR [] W.reverse, c ∈ W := fun c hc => by
        have := cu.sub (ng c) (List.mem_map_of_mem hc)
        obtain ⟨x, hx, e⟩ := List.mem_map.mp this
        have := congrArg ng e
        rw [ng_ng, ng_ng] at this
        rw [← this]
        exact List.mem_reverse.mp hx
      have gW : g ∈ W := subl g (by rw [el]; simp)
      have aW : a ∈ W := subl a (by rw [el2]; simp)
      have gW' : g' ∈ W := subu g' (by rw [eu2]; simp)
      have aW' : a' ∈ W := subu a' (by rw [eu1]; simp)
      have eg : g' = g := by
        rcases hg g' gW' with h | h
        · exact h
        · rcases hg' g gW with k | k
          · exact k.symm
          · exact (lx_asy h k).elim
      have ea : a' = a := by
        rcases ha a' aW' with h | h
        · exact h
        · rcases ha' a aW with k | k
          · exact k.symm
          · exact (lx_asy h k).elim
      subst eg ea
      have ne : a' ≠ g' := by
        intro z
        have w1 : w ∈ W := by rw [← hW]; simp
        have v1 : v ∈ W := by rw [← hW]; simp
        have wv : lx w v := by
          rw [← hW] at hp
          exact (List.pairwise_cons.mp hp).1 v (by simp)
        have : ∀ p ∈ W, p = a' := fun p hp => by
          rcases ha p hp with h | h
          · exact h
          · rcases hg p hp with k | k
            · rw [k, ← z]
            · rw [← z] at k; exact (lx_asy h k).elim
        rw [this w w1, this v v1] at wv
        exact lx_irr wv
      have lowE : ∀ b c, Nx (halfR [] W).reverse b c → Edge W b c ∧ lx b c := fun b c hn => ch.edge (nx_rev.mp hn)
      have upE : ∀ b c, Nx (halfR [] W.reverse).reverse b c → Edge W b c ∧ lx c b := fun b c hn => by
        obtain ⟨s, t, e⟩ := nx_rev.mp hn
        have : Nx ((halfR [] W.reverse).map ng) (ng c) (ng b) := ⟨s.map ng, t.map ng, by rw [e]; simp⟩
        obtain ⟨k1, k2⟩ := cu.edge this
        exact ⟨edge_ng (edge_set (fun p hp => by simpa using hp) k1), lx_ng.mp k2⟩
      -- the list
      have q1 : (halfQ W).dropLast = rl.reverse := by unfold halfQ; rw [el, List.reverse_cons, List.dropLast_concat]
      have q2 : (halfQ W.reverse).dropLast = ru.reverse := by unfold halfQ; rw [eu1, List.reverse_cons, List.dropLast_concat]
      have r1 : ∃ t, rl = t ++ [a'] := by
        rw [el] at el2
        cases rl2 with
        | nil => exact absurd (List.cons.inj el2).1.symm ne
        | cons x rl2 => exact ⟨rl2, (List.cons.inj el2).2⟩
      obtain ⟨tl, etl⟩ := r1
      have r2 : ∃ t, ru = t ++ [g'] := by
        rw [eu1] at eu2
        cases ru2 with
        | nil => exact absurd (List.cons.inj eu2).1 ne
        | cons x ru2 => exact ⟨ru2, (List.cons.inj eu2).2⟩
      obtain ⟨tu, etu⟩ := r2
      have eL : hullW W = a' :: (tl.reverse ++ g' :: tu.reverse) := by
        rw [hW2, q1, q2, etl, etu]; simp
      have gt : ∀ {l : List P2}, (∀ b c, Nx (a' :: l) b c → lx b c) → ∀ x ∈ l, lx a' x := by
        intro l h
        have : ∀ (l : List P2) (x : P2), (x = a' ∨ lx a' x) → (∀ b c, Nx (x :: l) b c → lx b c) → ∀ y ∈ l, lx a' y := by
          intro l
          induction l with
          | nil => exact fun _ _ _ y hy => absurd hy List.not_mem_nil
          | cons z l ih =>
            intro x hx h y hy
            have xz := h x z (nx_cons.mpr (.inl ⟨rfl, rfl⟩))
            have az : lx a' z := by
              rcases hx with rfl | hx
              · exact xz
              · exact lx_tr hx xz
            rcases List.mem_cons.mp hy with rfl | hy
            · exact az
            · exact ih z (.inr az) (fun b c hn => h b c (nx_cons.mpr (.inr hn))) y hy
        exact this l a' (.inl rfl) h
      have lowgt : ∀ x ∈ tl.reverse, lx a' x := fun x hx => by
        refine gt (l := tl.reverse ++ [g']) (fun b c hn => (lowE b c ?_).2) x (List.mem_append_left _ hx)
        rw [el, etl]; simpa using hn
      have upgt : ∀ x ∈ g' :: tu.reverse, lx a' x := fun x hx => by
        have : (halfR [] W.reverse) = a' :: (tu ++ [g']) := by rw [eu1, etu]
        refine gt (l := tu ++ [g']) (fun b c hn => (upE c b ?_).2) x (by simpa [or_comm] using hx)
        rw [this]
        exact nx_rev.mpr hn
      rw [eL]
      refine ⟨⟨a', _, rfl, ha, fun z => ?_, fun _ x y hn => ?_⟩, fun c hc => ?_, fun e => ?_⟩
      · rcases List.mem_append.mp z with z | z
        · exact lx_irr (lowgt _ z)
        · exact lx_irr (upgt _ z)
      · have e1 : a' :: (tl.reverse ++ g' :: tu.reverse) ++ [a'] = (a' :: tl.reverse) ++ g' :: (tu.reverse ++ [a']) := by simp
        rw [e1] at hn
        rcases nx_app hn with hn | hn
        · refine (lowE x y ?_).1
          rw [el, etl]; simpa using hn
        · refine (upE x y ?_).1
          rw [eu1, etu]; simpa using hn
      · rcases List.mem_cons.mp hc with rfl | hc
        · exact aW
        · rcases List.mem_append.mp hc with hc | hc
          · exact subl c (by rw [el, etl]; simp at hc; simp [hc])
          · exact subu c (by rw [eu1, etu]; simp at hc; simp [hc, or_comm])
      · simp at e
end VL


set_option maxHeartbeats 2000000
set_option pp.maxSteps 400
namespace VL
open PySem PySem.Spec PyProof.Rows L2
local macro_rules | `(tactic| walk_at "n") => `(tactic| refine ⟨fun h => Bool.noConfusion (show false = true from h), fun _ => ?_⟩)
local macro_rules | `(tactic| walk_at "ty") => `(tactic| refine ⟨_, rfl, by decide, ?_⟩)
local macro_rules | `(tactic| walk_at "tys") => `(tactic| refine ⟨_, rfl, _, rfl, by decide, ?_⟩)
local macro_rules | `(tactic| walk_at "v") => `(tactic| repeat (first | refine ⟨rfl, ?_⟩ | refine ⟨_, rfl, ?_⟩))
local macro_rules | `(tactic| walk_at "y") => `(tactic| refine ⟨fun _ => ?_, fun h => Bool.noConfusion (show true = false from h)⟩)
local macro_rules | `(tactic| walk_at "z") => `(tactic| repeat (first | refine ⟨rfl, ?_⟩ | refine ⟨_, rfl, ?_⟩ | refine ⟨fun _ => ?_, fun h => Bool.noConfusion (show true = false from h)⟩ | refine ⟨fun h => Bool.noConfusion (show false = true from h), fun _ => ?_⟩ | refine ⟨tyIn rfl, ?_⟩ | refine ⟨tysIn rfl, ?_⟩ | refine ⟨smallL rfl, ?_⟩ | refine ⟨smallE rfl, ?_⟩))
local macro_rules | `(tactic| walk_at "zz") => `(tactic| repeat ((fail_if_success show forL _ _ _ _ _); first | refine ⟨rfl, ?_⟩ | refine ⟨_, rfl, ?_⟩ | refine ⟨fun _ => ?_, fun h => Bool.noConfusion (show true = false from h)⟩ | refine ⟨fun h => Bool.noConfusion (show false = true from h), fun _ => ?_⟩ | refine ⟨tyIn rfl, ?_⟩ | refine ⟨tysIn rfl, ?_⟩ | refine ⟨smallL rfl, ?_⟩ | refine ⟨smallE rfl, ?_⟩))
/-! ### points by whole numbers -/
def dpt (p : P2) : D := dw [p.1, p.2]
def botF (b : Nat) (p : P2) : Nat := Nat.lcm (Nat.lcm b p.1.den) p.2.den
def bot (pts : List P2) : Nat := pts.foldl botF 1
def pw (pts : List P2) : Nat := (pts.map fun p => wt p.1 + wt p.2 + 1).sum
def Dv (B : Nat) (p : P2) : Prop := p.1.den ∣ B ∧ p.2.den ∣ B
def wh (B : Nat) (p : P2) : PI := (p.1.num * ((B / p.1.den : Nat) : Int), p.2.num * ((B / p.2.den : Nat) : Int))
theorem pw_cons (p : P2) (ps : List P2) : pw (p :: ps) = wt p.1 + wt p.2 + 1 + pw ps := by unfold pw; rw [List.map_cons, List.sum_cons]
theorem pw_len (ps : List P2) : ps.length ≤ pw ps := by
  induction ps with
  | nil => exact Nat.zero_le _
  | cons p ps ih => rw [pw_cons, List.length_cons]; omega
theorem pw_mem {p : P2} {ps : List P2} (h : p ∈ ps) : wt p.1 + wt p.2 + 1 ≤ pw ps := by
  induction ps with
  | nil => cases h
  | cons q ps ih =>
    rw [pw_cons]
    rcases List.mem_cons.mp h with rfl | h
    · omega
    · have := ih h; omega
theorem lcm_pos {a b : Nat} (ha : 0 < a) (hb : 0 < b) : 0 < Nat.lcm a b := Nat.lcm_pos ha hb
theorem bl_lcm (a b : Nat) (hb : 0 < b) : bl (Nat.lcm a b) ≤ bl a + bl b := by
  refine Nat.le_trans (bl_mono ?_) (bl_mul a b)
  unfold Nat.lcm
  exact Nat.div_le_self _ _
theorem botF_pos {b : Nat} {p : P2} (h : 0 < b) : 0 < botF b p := lcm_pos (lcm_pos h p.1.den_pos) p.2.den_pos
theorem bl_botF (b : Nat) (p : P2) : bl (botF b p) ≤ bl b + (wt p.1 + wt p.2) := by
  have h1 := bl_lcm (Nat.lcm b p.1.den) p.2.den p.2.den_pos
  have h2 := bl_lcm b p.1.den p.1.den_pos
  have h3 := wt_den p.1
  have h4 := wt_den p.2
  unfold botF
  omega
theorem botF_dvd (b : Nat) (p : P2) : b ∣ botF b p := Nat.dvd_trans (Nat.dvd_lcm_left _ _) (Nat.dvd_lcm_left _ _)
theorem botF_dv (b : Nat) (p : P2) : Dv (botF b p) p := ⟨Nat.dvd_trans (Nat.dvd_lcm_right _ _) (Nat.dvd_lcm_left _ _), Nat.dvd_lcm_right _ _⟩
theorem Dv.mono {a b : Nat} {p : P2} (h : Dv a p) (hd : a ∣ b) : Dv b p := ⟨Nat.dvd_trans h.1 hd, Nat.dvd_trans h.2 hd⟩
theorem fold_bot : ∀ (ps : List P2) (b : Nat), 0 < b → 0 < ps.foldl botF b ∧ b ∣ ps.foldl botF b ∧ (∀ p ∈ ps, Dv (ps.foldl botF b) p) ∧ bl (ps.foldl botF b) ≤ bl b + pw ps
  | [], b, h => ⟨h, Nat.dvd_refl _, fun p hp => absurd hp List.not_mem_nil, Nat.le_add_right _ _⟩
  | p :: ps, b, h => by
    obtain ⟨h1, h2, h3, h4⟩ := fold_bot ps (botF b p) (botF_pos h)
    refine ⟨h1, Nat.dvd_trans (botF_dvd b p) h2, fun q hq => ?_, ?_⟩
    · rcases List.mem_cons.mp hq with rfl | hq
      · exact (botF_dv b q).mono h2
      · exact h3 q hq
    · have := bl_botF b p
      rw [pw_cons, List.foldl_cons]
      omega
theorem bot_pos (ps : List P2) : 0 < bot ps := (fold_bot ps 1 (by decide)).1
theorem bot_dv (ps : List P2) : ∀ p ∈ ps, Dv (bot ps) p := (fold_bot ps 1 (by decide)).2.2.1
theorem bl_bot (ps : List P2) : bl (bot ps) ≤ 1 + pw ps := (fold_bot ps 1 (by decide)).2.2.2
theorem num_eq (q : Rat) : (q.num : Rat) = q * (q.den : Rat) := by
  have h := Rat.num_divInt_den q
  rw [Rat.divInt_eq_div] at h
  have d0 : ((q.den : Int) : Rat) ≠ 0 := by
    have := q.den_pos
    intro z
    have : ((q.den : Int)) = 0 := by exact_mod_cast z
    omega
  rw [Rat.intCast_natCast] at h d0
  have : (q.num : Rat) / (q.den : Rat) * (q.den : Rat) = q.num := by grind
  rw [← this, h]
theorem wh_one {B : Nat} {q : Rat} (h : q.den ∣ B) : ((q.num * ((B / q.den : Nat) : Int) : Int) : Rat) = q * (B : Rat) := by
  obtain ⟨k, rfl⟩ := h
  rw [Nat.mul_div_cancel_left k q.den_pos]
  have h1 := num_eq q
  rw [Rat.intCast_mul, h1]
  have h2 : ((q.den * k : Nat) : Rat) = (q.den : Rat) * (k : Rat) := Rat.natCast_mul _ _
  rw [h2]
  have h3 : (((k : Nat) : Int) : Rat) = (k : Rat) := Rat.intCast_natCast k
  rw [h3]
  grind
def cz (k : PI) : P2 := ((k.1 : Rat), (k.2 : Rat))
theorem cz_wh {B : Nat} {p : P2} (h : Dv B p) : cz (wh B p) = (p.1 * (B : Rat), p.2 * (B : Rat)) := Prod.ext (wh_one h.1) (wh_one h.2)
theorem natR_pos {B : Nat} (h : 0 < B) : 0 < (B : Rat) := by exact_mod_cast h
theorem wh_inj {B : Nat} (hB : 0 < B) {p q : P2} (hp : Dv B p) (hq : Dv B q) (h : wh B p = wh B q) : p = q := by
  have e := congrArg cz h
  rw [cz_wh hp, cz_wh hq] at e
  have b := natR_pos hB
  have h1 := congrArg Prod.fst e
  have h2 := congrArg Prod.snd e
  dsimp only at h1 h2
  have c1 : (B : Rat) * (p.1 - q.1) = 0 := by grind
  have c2 : (B : Rat) * (p.2 - q.2) = 0 := by grind
  have d1 := (Rat.mul_eq_zero.mp c1).resolve_left (by grind)
  have d2 := (Rat.mul_eq_zero.mp c2).resolve_left (by grind)
  exact Prod.ext (by grind) (by grind)
/-- turns of whole numbers -/
def crz (a b c : PI) : Int := (b.1 - a.1) * (c.2 - a.2) - (b.2 - a.2) * (c.1 - a.1)
theorem crz_cz (a b c : PI) : ((crz a b c : Int) : Rat) = crs (cz a) (cz b) (cz c) := by
  unfold crz crs cz
  simp [Rat.intCast_sub, Rat.intCast_mul]
theorem crz_wh {B : Nat} {a b c : P2} (ha : Dv B a) (hb : Dv B b) (hc : Dv B c) : ((crz (wh B a) (wh B b) (wh B c) : Int) : Rat) = (B : Rat) * (B : Rat) * crs a b c := by
  rw [crz_cz, cz_wh ha, cz_wh hb, cz_wh hc]
  unfold crs
  grind
theorem crz_pos {B : Nat} (hB : 0 < B) {a b c : P2} (ha : Dv B a) (hb : Dv B b) (hc : Dv B c) : 0 < crz (wh B a) (wh B b) (wh B c) ↔ 0 < crs a b c := by
  have e := crz_wh ha hb hc
  have b1 := natR_pos hB
  have bb := Rat.mul_pos b1 b1
  constructor
  · intro h
    have h' : (0 : Rat) < ((crz (wh B a) (wh B b) (wh B c) : Int) : Rat) := by exact_mod_cast h
    rw [e] at h'
    exact pos_of_mul bb h'
  · intro h
    have h' := Rat.mul_pos bb h
    rw [← e] at h'
    exact_mod_cast h'
theorem lexB_wh {B : Nat} (hB : 0 < B) {a b : P2} (ha : Dv B a) (hb : Dv B b) : SrtO.lexB (wh B a) (wh B b) = true ↔ lx a b := by
  rw [SrtO.lexB_iff]
  have b1 := natR_pos hB
  have e1 := cz_wh ha
  have e2 := cz_wh hb
  unfold cz at e1 e2
  have x1 := congrArg Prod.fst e1
  have y1 := congrArg Prod.snd e1
  have x2 := congrArg Prod.fst e2
  have y2 := congrArg Prod.snd e2
  dsimp only at x1 y1 x2 y2
  have lt : ∀ {i j : Int} {p q : Rat}, (i : Rat) = p * B → (j : Rat) = q * B → (i < j ↔ p < q) := by
    intro i j p q e f
    have h : i < j ↔ (i : Rat) < (j : Rat) := by constructor <;> intro h <;> exact_mod_cast h
    rw [h, e, f]
    constructor
    · intro h
      have : 0 < (B : Rat) * (q - p) := by grind
      have := pos_of_mul b1 this
      grind
    · intro h
      have := Rat.mul_pos b1 (show 0 < q - p by grind)
      grind
  have eq : ∀ {i j : Int} {p q : Rat}, (i : Rat) = p * B → (j : Rat) = q * B → (i = j ↔ p = q) := by
    intro i j p q e f
    have l1 := lt e f
    have l2 := lt f e
    constructor
    · intro h
      subst h
      have n1 : ¬ p < q := fun z => Int.lt_irrefl _ (l1.mpr z)
      have n2 : ¬ q < p := fun z => Int.lt_irrefl _ (l2.mpr z)
      grind
    · intro h
      have n1 : ¬ i < j := fun z => by have := l1.mp z; grind
      have n2 : ¬ j < i := fun z => by have := l2.mp z; grind
      omega
  unfold lx
  rw [lt x1 x2, eq x1 x2, lt y1 y2]
/-! ### the chain of whole numbers -/
def leftZ (a b c : PI) : Bool := decide ((b.2 - a.2) * (c.1 - a.1) < (b.1 - a.1) * (c.2 - a.2))
theorem leftZ_iff {a b c : PI} : leftZ a b c = true ↔ 0 < crz a b c := by
  unfold leftZ crz
  rw [decide_eq_true_eq]
  omega
def popZ : List PI → PI → List PI
  | c :: b :: r, p => if leftZ b c p = true then c :: b :: r else popZ (b :: r) p
  | st, _ => st
def halfRZ : List PI → List PI → List PI
  | st, [] => st
  | st, p :: qs => halfRZ (p :: popZ st p) qs
def halfZ (ws : List PI) : List PI := (halfRZ [] ws).reverse
theorem popW_sub {p : P2} : ∀ {st : List P2} {x : P2}, x ∈ popW st p → x ∈ st
  | [], _, h => h
  | [_], _, h => h
  | c :: b :: r, x, h => by
    have e : popW (c :: b :: r) p = if 0 < crs b c p then c :: b :: r else popW (b :: r) p := rfl
    rw [e] at h
    split at h
    · exact h
    · exact List.mem_cons_of_mem _ (popW_sub h)
theorem popZ_wh {B : Nat} (hB : 0 < B) {p : P2} (hp : Dv B p) : ∀ (st : List P2), (∀ x ∈ st, Dv B x) → popZ (st.map (wh B)) (wh B p) = (popW st p).map (wh B)
  | [], _ => rfl
  | [x], _ => rfl
  | c :: b :: r, h => by
    have e : popW (c :: b :: r) p = if 0 < crs b c p then c :: b :: r else popW (b :: r) p := rfl
    show (if leftZ (wh B b) (wh B c) (wh B p) = true then _ else popZ ((b :: r).map (wh B)) (wh B p)) = _
    have k : leftZ (wh B b) (wh B c) (wh B p) = true ↔ 0 < crs b c p := leftZ_iff.trans (crz_pos hB (h b (by simp)) (h c (by simp)) hp)
    rw [e]
    by_cases z : 0 < crs b c p
    · rw [if_pos z, if_pos (k.mpr z)]; rfl
    · rw [if_neg z, if_neg (fun y => z (k.mp y))]; exact popZ_wh hB hp (b :: r) fun x hx => h x (List.mem_cons_of_mem _ hx)
theorem halfRZ_wh {B : Nat} (hB : 0 < B) : ∀ (qs st : List P2), (∀ x ∈ qs, Dv B x) → (∀ x ∈ st, Dv B x) → halfRZ (st.map (wh B)) (qs.map (wh B)) = (halfR st qs).map (wh B)
  | [], st, _, _ => rfl
  | q :: qs, st, hq, hs => by
    show halfRZ (wh B q :: popZ (st.map (wh B)) (wh B q)) (qs.map (wh B)) = _
    rw [popZ_wh hB (hq q (by simp)) st hs]
    exact halfRZ_wh hB qs (q :: popW st q) (fun x hx => hq x (List.mem_cons_of_mem _ hx)) fun x hx => by
      rcases List.mem_cons.mp hx with rfl | hx
      · exact hq x (by simp)
      · exact hs x (popW_sub hx)
theorem halfZ_wh {B : Nat} (hB : 0 < B) {qs : List P2} (h : ∀ x ∈ qs, Dv B x) : halfZ (qs.map (wh B)) = (halfQ qs).map (wh B) := by
  unfold halfZ halfQ
  rw [show ([] : List PI) = ([] : List P2).map (wh B) from rfl, halfRZ_wh hB qs [] h (fun x hx => absurd hx List.not_mem_nil), List.map_reverse]
/-! ### a table of points by whole numbers -/
def tabD (B : Nat) (ps : List P2) : List (PI × D) := ps.map fun p => (wh B p, dpt p)
def ddp (ps : List P2) : List P2 := ps.foldl (fun a p => if p ∈ a then a else a ++ [p]) []
theorem ddp_aux : ∀ (ps a : List P2), a.Nodup → (ps.foldl (fun a p => if p ∈ a then a else a ++ [p]) a).Nodup ∧ ∀ q, q ∈ ps.foldl (fun a p => if p ∈ a then a else a ++ [p]) a ↔ q ∈ a ∨ q ∈ ps
  | [], a, h => ⟨h, fun q => by simp⟩
  | p :: ps, a, h => by
    rw [List.foldl_cons]
    by_cases c : p ∈ a
    · rw [if_pos c]
      obtain ⟨h1, h2⟩ := ddp_aux ps a h
      refine ⟨h1, fun q => ?_⟩
      rw [h2 q, List.mem_cons]
      constructor
      · rintro (z | z) <;> simp [z]
      · rintro (z | rfl | z)
        · exact .inl z
        · exact .inl c
        · exact .inr z
    · rw [if_neg c]
      obtain ⟨h1, h2⟩ := ddp_aux ps (a ++ [p]) (by rw [List.nodup_append]; exact ⟨h, by simp, fun x hx y hy => by rw [List.mem_singleton.mp hy]; exact fun z => c (z ▸ hx)⟩)
      refine ⟨h1, fun q => ?_⟩
      rw [h2 q]
      simp only [List.mem_append, List.mem_cons, List.not_mem_nil, or_false]
      constructor
      · rintro ((z | z) | z) <;> simp [z]
      · rintro (z | z | z) <;> simp [z]
theorem ddp_nd (ps : List P2) : (ddp ps).Nodup := (ddp_aux ps [] .nil).1
theorem ddp_mem (ps : List P2) (q : P2) : q ∈ ddp ps ↔ q ∈ ps := by
  have := (ddp_aux ps [] .nil).2 q
  unfold ddp
  rw [this]
  simp
theorem merge_tab {B : Nat} (hB : 0 < B) : ∀ (ps a : List P2), (∀ p ∈ ps, Dv B p) → (∀ p ∈ a, Dv B p) → mergeP (tabD B a) (tabD B ps) = tabD B (ps.foldl (fun a p => if p ∈ a then a else a ++ [p]) a)
  | [], a, _, _ => rfl
  | p :: ps, a, hp, ha => by
    have pB := hp p (by simp)
    have e : putP (tabD B a) (wh B p) (dpt p) = tabD B (if p ∈ a then a else a ++ [p]) := by
      have ea : ((tabD B a).any fun x => decide (x.1 = wh B p)) = decide (p ∈ a) := by
        rw [Bool.eq_iff_iff, List.any_eq_true, decide_eq_true_iff]
        constructor
        · rintro ⟨x, hx, h⟩
          obtain ⟨q, hq, rfl⟩ := List.mem_map.mp hx
          rw [← wh_inj hB (ha q hq) pB (of_decide_eq_true h)]
          exact hq
        · intro h
          exact ⟨(wh B p, dpt p), List.mem_map.mpr ⟨p, h, rfl⟩, decide_eq_true rfl⟩
      unfold putP
      rw [ea]
      by_cases c : p ∈ a
      · rw [decide_eq_true c, if_pos rfl, if_pos c]
        unfold tabD
        rw [List.map_map]
        refine List.map_congr_left fun q hq => ?_
        show (if wh B q = wh B p then (wh B q, dpt p) else (wh B q, dpt q)) = (wh B q, dpt q)
        split
        · rename_i z; rw [wh_inj hB (ha q hq) pB z]
        · rfl
      · rw [decide_eq_false c, if_neg (by decide), if_neg c]
        unfold tabD
        rw [List.map_append]; rfl
    show mergeP (putP (tabD B a) (wh B p) (dpt p)) (tabD B ps) = _
    rw [e]
    refine merge_tab hB ps _ (fun q hq => hp q (List.mem_cons_of_mem _ hq)) fun q hq => ?_
    split at hq
    · exact ha q hq
    · rcases List.mem_append.mp hq with hq | hq
      · exact ha q hq
      · rw [List.mem_singleton.mp hq]; exact pB
theorem merge_ddp {B : Nat} (hB : 0 < B) {ps : List P2} (hp : ∀ p ∈ ps, Dv B p) : mergeP [] (tabD B ps) = tabD B (ddp ps) := merge_tab hB ps [] hp fun p hp => absurd hp List.not_mem_nil
theorem tab_find {B : Nat} (hB : 0 < B) : ∀ {ps : List P2} {p : P2}, (∀ p ∈ ps, Dv B p) → p ∈ ps → ((tabD B ps).find? fun x => decide (x.1 = wh B p)).map (fun x => x.2) = some (dpt p)
  | q :: ps, p, hd, hp => by
    show (((wh B q, dpt q) :: tabD B ps).find? _).map _ = _
    by_cases c : wh B q = wh B p
    · rw [List.find?_cons, decide_eq_true c]
      have hpB : Dv B p := hd p hp
      rw [← wh_inj hB (hd q (by simp)) hpB c]
      rfl
    · rw [List.find?_cons, decide_eq_false c]
      rcases List.mem_cons.mp hp with rfl | hp
      · exact absurd rfl c
      · exact tab_find hB (fun x hx => hd x (List.mem_cons_of_mem _ hx)) hp
theorem tab_keys (B : Nat) (ps : List P2) : (tabD B ps).map (fun x => x.1) = ps.map (wh B) := by unfold tabD; rw [List.map_map]; rfl
/-- a rearrangement of images comes from one -/
theorem perm_map_of {α β : Type} (f : α → β) {ys zs : List β} (h : ys.Perm zs) : ∀ {xs : List α}, zs = xs.map f → ∃ ws : List α, ys = ws.map f ∧ ws.Perm xs := by
  induction h with
  | nil => intro xs e; exact ⟨[], rfl, by rw [List.map_eq_nil_iff.mp e.symm]⟩
  | cons x _ ih =>
    intro xs e
    cases xs with
    | nil => cases e
    | cons y xs =>
      obtain ⟨ws, e1, p⟩ := ih (List.cons.inj e).2
      exact ⟨y :: ws, by rw [e1, (List.cons.inj e).1]; rfl, p.cons y⟩
  | swap x y l =>
    intro xs e
    match xs, e with
    | a :: b :: xs, e =>
      have e1 := List.cons.inj e
      have e2 := List.cons.inj e1.2
      exact ⟨b :: a :: xs, by rw [e1.1, e2.1, e2.2]; rfl, .swap _ _ _⟩
  | trans _ _ ih1 ih2 =>
    intro xs e
    obtain ⟨ws, e1, p⟩ := ih2 e
    obtain ⟨us, e2, q⟩ := ih1 e1
    exact ⟨us, e2, q.trans p⟩
theorem sorted_wh {B : Nat} (hB : 0 < B) {ps : List P2} (hd : ∀ p ∈ ps, Dv B p) {ys : List PI} (hp : ys.Perm ((ddp ps).map (wh B))) (hs : ys.Pairwise fun a b => SrtO.lexB b a = false) :
    ∃ W : List P2, ys = W.map (wh B) ∧ (∀ p, p ∈ W ↔ p ∈ ps) ∧ W.Pairwise lx := by
  obtain ⟨W, e, p⟩ := perm_map_of (wh B) hp rfl
  subst e
  have hm : ∀ q, q ∈ W ↔ q ∈ ps := fun q => (p.mem_iff).trans (ddp_mem ps q)
  have nd : W.Nodup := p.nodup_iff.mpr (ddp_nd ps)
  refine ⟨W, rfl, hm, ?_⟩
  rw [List.pairwise_map] at hs
  refine (hs.and nd).imp_of_mem fun {a b} ha hb ⟨h1, h2⟩ => ?_
  rcases lx_tri a b with h | h | h
  · exact h
  · exact absurd h h2
  · have := (lexB_wh hB (hd b ((hm b).mp hb)) (hd a ((hm a).mp ha))).mpr h
    rw [this] at h1
    cases h1
/-! ### figures: what the defs tell -/
@[irreducible] def sp_shared_bottom : ASp := fun ds R => ∃ ps : List P2, ds = [.lst (ps.map dpt)] ∧ pw ps ≤ 1000000 ∧ R (.int (bot ps)) 0 []
theorem sp_shared_bottom.mk {ps : List P2} {R : RR} (h1 : pw ps ≤ 1000000) (h : R (.int (bot ps)) 0 []) : sp_shared_bottom [.lst (ps.map dpt)] R := by unfold sp_shared_bottom; exact ⟨ps, rfl, h1, h⟩
@[irreducible] def sp_by_whole : ASp := fun ds R => ∃ ps : List P2, ds = [.lst (ps.map dpt)] ∧ pw ps ≤ 1000000 ∧ R (dPd (tabD (bot ps) (ddp ps))) 0 []
theorem sp_by_whole.mk {ps : List P2} {R : RR} (h1 : pw ps ≤ 1000000) (h : R (dPd (tabD (bot ps) (ddp ps))) 0 []) : sp_by_whole [.lst (ps.map dpt)] R := by unfold sp_by_whole; exact ⟨ps, rfl, h1, h⟩
def zb (k : PI) : Nat := max (bl k.1.natAbs) (bl k.2.natAbs)
@[irreducible] def sp_is_left : ASp := fun ds R => ∃ a b c : PI, ds = [dPi a, dPi b, dPi c] ∧ zb a ≤ 4000000 ∧ zb b ≤ 4000000 ∧ zb c ≤ 4000000 ∧ R (.bl (leftZ a b c)) 0 []
theorem sp_is_left.mk {a b c : PI} {R : RR} (h1 : zb a ≤ 4000000) (h2 : zb b ≤ 4000000) (h3 : zb c ≤ 4000000) (h : R (.bl (leftZ a b c)) 0 []) : sp_is_left [dPi a, dPi b, dPi c] R := by unfold sp_is_left; exact ⟨a, b, c, rfl, h1, h2, h3, h⟩
@[irreducible] def sp_half_of : ASp := fun ds R => ∃ ws : List PI, ds = [.lst (ws.map dPi)] ∧ ws.length ≤ 1000000 ∧ (∀ w ∈ ws, zb w ≤ 4000000) ∧ R (.lst ((halfZ ws).map dPi)) 1 []
theorem sp_half_of.mk {ws : List PI} {R : RR} (h1 : ws.length ≤ 1000000) (h2 : ∀ w ∈ ws, zb w ≤ 4000000) (h : R (.lst ((halfZ ws).map dPi)) 1 []) : sp_half_of [.lst (ws.map dPi)] R := by unfold sp_half_of; exact ⟨ws, rfl, h1, h2, h⟩
@[irreducible] def sp_hull : ASp := fun ds R => ∃ ps : List P2, ds = [.lst (ps.map dpt)] ∧ ps ≠ [] ∧ ps.length ≤ 40000 ∧ pw ps ≤ 1000000 ∧ ∀ L, Fig ps L → R (.lst (L.map dpt)) 1 []
theorem sp_hull.mk {ps : List P2} {R : RR} (h0 : ps ≠ []) (hn : ps.length ≤ 40000) (h1 : pw ps ≤ 1000000) (h : ∀ L, Fig ps L → R (.lst (L.map dpt)) 1 []) : sp_hull [.lst (ps.map dpt)] R := by unfold sp_hull; exact ⟨ps, rfl, h0, hn, h1, h⟩
def rb_shared_bottom_4 : RS := (rSet 1 (rOp2 gFd (roE (rOp2 gMul (roV 1) (roV 4))) (roE (rCall [false, false] sp_divisor_of (rgAv (rVar 1) (rgAv (rVar 4) rgA0))))))
@[irreducible] def rd_shared_bottom_4 : RS := rb_shared_bottom_4
theorem rx_shared_bottom_4 : rb_shared_bottom_4 = rd_shared_bottom_4 := by unfold rd_shared_bottom_4; rfl
def rb_shared_bottom_3 : RS := (rFor (rIW [3, 4] (riSeq (rVar 2))) (rgTup 2 (rgCons (rgName 3) (rgCons (rgName 4) rgNil))) (rBW [3, 4] rd_shared_bottom_4))
@[irreducible] def rd_shared_bottom_3 : RS := rb_shared_bottom_3
theorem rx_shared_bottom_3 : rb_shared_bottom_3 = rd_shared_bottom_3 := by unfold rd_shared_bottom_3; rfl
def rb_shared_bottom_5 : RS := (rRet (rMove 1))
@[irreducible] def rd_shared_bottom_5 : RS := rb_shared_bottom_5
theorem rx_shared_bottom_5 : rb_shared_bottom_5 = rd_shared_bottom_5 := by unfold rd_shared_bottom_5; rfl
def rb_shared_bottom_2 : RS := (rSeq (rFor (rIW [2, 3, 4] (riSeq (rVar 0))) (rgName 2) (rBW [2, 3, 4] rd_shared_bottom_3))
  rd_shared_bottom_5)
@[irreducible] def rd_shared_bottom_2 : RS := rb_shared_bottom_2
theorem rx_shared_bottom_2 : rb_shared_bottom_2 = rd_shared_bottom_2 := by unfold rd_shared_bottom_2; rfl
def rd_shared_bottom : RS := (rSeq (rSet 1 (rC (.int 1)))
  rd_shared_bottom_2)
def rd_by_whole : RS := (rSeq (rSet 1 (rCall [false] sp_shared_bottom (rgAv (rVar 0) rgA0)))
  (rRet (rDictP [2, 3] (riSeq (rVar 0)) (rgTup 2 (rgCons (rgName 2) (rgCons (rgName 3) rgNil))) rYes (rKV (rfCons (rOp2 gMul (roE (rOp2 gIx (roV 2) (roE (rC (.int 0))))) (roE (rOp2 gFd (roV 1) (roE (rOp2 gIx (roV 2) (roE (rC (.int 1)))))))) (rfCons (rOp2 gMul (roE (rOp2 gIx (roV 3) (roE (rC (.int 0))))) (roE (rOp2 gFd (roV 1) (roE (rOp2 gIx (roV 3) (roE (rC (.int 1)))))))) rfNil)) (rTup1 (rfCons (rVar 2) (rfCons (rVar 3) rfNil)))))))
def rd_is_left : RS := (rRet (rOp2 gGtI (roE (rOp2 gMul (roE (rOp2 gSub (roE (rOp2 gIx (roV 1) (roE (rC (.int 0))))) (roE (rOp2 gIx (roV 0) (roE (rC (.int 0))))))) (roE (rOp2 gSub (roE (rOp2 gIx (roV 2) (roE (rC (.int 1))))) (roE (rOp2 gIx (roV 0) (roE (rC (.int 1))))))))) (roE (rOp2 gMul (roE (rOp2 gSub (roE (rOp2 gIx (roV 1) (roE (rC (.int 1))))) (roE (rOp2 gIx (roV 0) (roE (rC (.int 1))))))) (roE (rOp2 gSub (roE (rOp2 gIx (roV 2) (roE (rC (.int 0))))) (roE (rOp2 gIx (roV 0) (roE (rC (.int 0)))))))))))
def rb_half_of_4 : RS := (rDrop (rMet 1 gPop raNil))
@[irreducible] def rd_half_of_4 : RS := rb_half_of_4
theorem rx_half_of_4 : rb_half_of_4 = rd_half_of_4 := by unfold rd_half_of_4; rfl
def rb_half_of_5 : RS := (rDrop (rMetF 1 gApp (rfCons (rVar 2) rfNil)))
@[irreducible] def rd_half_of_5 : RS := rb_half_of_5
theorem rx_half_of_5 : rb_half_of_5 = rd_half_of_5 := by unfold rd_half_of_5; rfl
def rb_half_of_3 : RS := (rSeq (rWhile (rAnd (rTb (rOp2 gGtI (roE (rCB gLen (raCons (roV 1) raNil))) (roE (rC (.int 1))))) (rNot (rTb (rCall [false, false, false] sp_is_left (rgAv (rOp2 gIx (roV 1) (roE (rNeg (rC (.int 2))))) (rgAv (rOp2 gIx (roV 1) (roE (rNeg (rC (.int 1))))) (rgAv (rVar 2) rgA0))))))) rd_half_of_4)
  rd_half_of_5)
@[irreducible] def rd_half_of_3 : RS := rb_half_of_3
theorem rx_half_of_3 : rb_half_of_3 = rd_half_of_3 := by unfold rd_half_of_3; rfl
def rb_half_of_6 : RS := (rRet (rMove 1))
@[irreducible] def rd_half_of_6 : RS := rb_half_of_6
theorem rx_half_of_6 : rb_half_of_6 = rd_half_of_6 := by unfold rd_half_of_6; rfl
def rb_half_of_2 : RS := (rSeq (rFor (rIW [2] (riSeq (rVar 0))) (rgName 2) (rBW [2] rd_half_of_3))
  rd_half_of_6)
@[irreducible] def rd_half_of_2 : RS := rb_half_of_2
theorem rx_half_of_2 : rb_half_of_2 = rd_half_of_2 := by unfold rd_half_of_2; rfl
def rd_half_of : RS := (rSeq (rSet 1 (rLst1 rfNil))
  rd_half_of_2)
def rd_hull : RS := (rSeq (rSet 1 (rCall [false] sp_by_whole (rgAv (rVar 0) rgA0)))
  (rSeq (rSet 2 (rCB gSortP (raCons (roV 1) raNil)))
  (rSeq (rIf (rTb (rOp2 gEq (roE (rCB gLen (raCons (roV 2) raNil))) (roE (rC (.int 1))))) (rRet (rLst1 (rfCons (rOp2 gGetP (roV 1) (roE (rOp2 gIx (roV 2) (roE (rC (.int 0)))))) rfNil))) rNext)
  (rSeq (rSet 3 (rOp2 gAddA (roE (rSlA2 (roE (rCall [false] sp_half_of (rgAv (rVar 2) rgA0))) rpNone (rpSome (rNeg (rC (.int 1)))))) (roE (rSlA2 (roE (rCall [false] sp_half_of (rgAv (rRevA (roV 2)) rgA0))) rpNone (rpSome (rNeg (rC (.int 1))))))))
  (rRet (rLc [4] (riSeq (rVar 3)) (rgName 4) rYes (rOp2 gGetP (roV 1) (roV 4))))))))
theorem fdiv_nat (a b : Nat) : Int.fdiv (a : Int) (b : Int) = ((a / b : Nat) : Int) := by
  rw [Int.fdiv_eq_ediv_of_nonneg _ (by omega)]
  rfl
theorem small6 {n : Nat} (h : n ≤ 2000000) : n < sizeLine := Nat.lt_of_le_of_lt h (by decide)
theorem lcm_step (b d : Nat) : Int.fdiv ((b : Int) * (d : Int)) ((Nat.gcd b d : Nat) : Int) = ((Nat.lcm b d : Nat) : Int) := by
  rw [← Int.natCast_mul, fdiv_nat]
  rfl
theorem bl_nat (n : Nat) : bl ((n : Int)).natAbs = bl n := by rw [Int.natAbs_natCast]
theorem mul_nat {a b : Nat} (h : bl a + bl b < 134000000) : MulOk (a : Int) (b : Int) := MulOk.bl (by rw [bl_nat, bl_nat]; exact h)
theorem gcd_ne {b d : Nat} (hd : 0 < d) : ((Nat.gcd b d : Nat) : Int) ≠ 0 := by
  have := Nat.gcd_pos_of_pos_right b hd
  omega
theorem rp_shared_bottom (ds : List D) (R : RR) (hl : ds.length = 1) (h : sp_shared_bottom ds R) : rd_shared_bottom (rho0 [false] 0 ds ++ List.replicate (5 - 1) .no) (endsOf [false] R) := by
  unfold sp_shared_bottom at h
  obtain ⟨ps, rfl, hp, h⟩ := h
  walk_at "z"
  refine lit5 rfl ?_
  rw [← rx_shared_bottom_2]
  walk_at "zz"
  refine forL_fold (g := dpt) (st := fun b : Nat => [.fz (.lst (ps.map dpt)), .fz (.int b), .no, .no, .no]) (f := botF) (P := fun b zs => bl b + pw zs ≤ 1 + pw ps) (fun b p zs N hP hN => ?_) ps 1 (by show bl 1 + _ ≤ _; exact Nat.le_refl _) (fun _ => ?_)
  · have hN := hN (by have := bl_botF b p; rw [pw_cons] at hP; omega)
    rw [pw_cons] at hP
    have w1 := wt_den p.1
    have w2 := wt_den p.2
    have b2 := bl_lcm b p.1.den p.1.den_pos
    unfold dpt dw
    walk_at "zz"
    refine lit5 rfl ?_
    rw [← rx_shared_bottom_3]
    walk_at "z"
    refine lit5 rfl ?_
    rw [← rx_shared_bottom_4]
    walk_at "z"
    refine ⟨mul_nat (by omega), ?_⟩
    walk_at "z"
    refine sp_divisor_of.mk ?_
    walk_at "z"
    refine ⟨gcd_ne p.1.den_pos, ?_⟩
    rw [lcm_step]
    walk_at "z"
    refine ⟨mul_nat (by omega), ?_⟩
    walk_at "z"
    refine sp_divisor_of.mk ?_
    walk_at "z"
    refine ⟨gcd_ne p.2.den_pos, ?_⟩
    rw [lcm_step]
    walk_at "z"
    exact hN
  · rw [← rx_shared_bottom_5]
    walk_at "z"
    exact h
theorem div_step {B : Nat} {q : Rat} : Int.fdiv (B : Int) (q.den : Int) = ((B / q.den : Nat) : Int) := fdiv_nat _ _
theorem den_ne' (q : Rat) : ((q.den : Nat) : Int) ≠ 0 := by have := q.den_pos; omega
theorem lcLK_tab {ivs : List Nat} {rg : RG} {rt : RT} {re : RKV} {B : Nat} {ρw : Ev} {Q : List (PI × D) → Ev → Prop} {ps : List P2} (hl : ps.length ≤ 2000000)
    (step : ∀ p ∈ ps, ∀ (n : Nat) (P : PI → D → Ev → Prop) (N : Ev → Prop), n < sizeLine → (∀ ρ3, wipeE ivs ρ3 = ρw → P (wh B p) (dpt p) ρ3) → rg (dpt p) ρw fun ρ1 => rt ρ1 fun c ρ2 => way c (re ρ2 fun k y ρ3 => n < sizeLine ∧ P k y ρ3) (N ρ2))
    {ρ : Ev} (h0 : wipeE ivs ρ = ρw) (fin : ∀ ρ', wipeE ivs ρ' = ρw → Q (tabD B ps) ρ') : lcLK ivs rg rt re (ps.map dpt) ρ [] Q := by
  have key : ∀ (zs ys : List P2) (ρ : Ev), ps = ys ++ zs → wipeE ivs ρ = ρw → lcLK ivs rg rt re (zs.map dpt) ρ (tabD B ys) Q := by
    intro zs
    induction zs with
    | nil =>
      intro ys ρ e h
      rw [List.append_nil] at e
      rw [← e]
      exact fin ρ h
    | cons z zs ih =>
      intro ys ρ e h
      show rg (dpt z) (wipeE ivs ρ) _
      rw [h]
      have ln : (tabD B ys).length < sizeLine := by
        unfold tabD
        rw [List.length_map]
        rw [e, List.length_append] at hl
        exact small6 (by omega)
      refine step z (by rw [e]; simp) _ (fun k y ρ3 => lcLK ivs rg rt re (zs.map dpt) ρ3 (tabD B ys ++ [(k, y)]) Q) (fun ρ2 => lcLK ivs rg rt re (zs.map dpt) ρ2 (tabD B ys) Q) ln fun ρ3 h3 => ?_
      have e2 : tabD B ys ++ [(wh B z, dpt z)] = tabD B (ys ++ [z]) := by unfold tabD; rw [List.map_append]; rfl
      rw [e2]
      exact ih (ys ++ [z]) ρ3 (by rw [e, List.append_assoc]; rfl) h3
  exact key ps [] ρ rfl h0
theorem rp_by_whole (ds : List D) (R : RR) (hl : ds.length = 1) (h : sp_by_whole ds R) : rd_by_whole (rho0 [false] 0 ds ++ List.replicate (4 - 1) .no) (endsOf [false] R) := by
  unfold sp_by_whole at h
  obtain ⟨ps, rfl, hp, h⟩ := h
  have hB := bot_pos ps
  have bB := bl_bot ps
  walk_at "z"
  refine sp_shared_bottom.mk hp ?_
  walk_at "z"
  refine lcLK_tab (B := bot ps) (ρw := [.fz (.lst (ps.map dpt)), .fz (.int (bot ps)), .no, .no]) (by have := pw_len ps; omega) (fun p hpp n P N hn hP => ?_) rfl fun ρ' hρ => ?_
  · have w := pw_mem hpp
    have w1 := wt_den p.1
    have w2 := wt_den p.2
    have g1 := wt_num p.1
    have g2 := wt_num p.2
    have d1 : bl (bot ps / p.1.den) ≤ bl (bot ps) := bl_mono (Nat.div_le_self _ _)
    have d2 : bl (bot ps / p.2.den) ≤ bl (bot ps) := bl_mono (Nat.div_le_self _ _)
    unfold dpt dw
    walk_at "z"
    refine ⟨den_ne' p.1, ?_⟩
    rw [div_step]
    walk_at "z"
    refine ⟨MulOk.bl (by rw [bl_nat]; omega), ?_⟩
    walk_at "z"
    refine ⟨den_ne' p.2, ?_⟩
    rw [div_step]
    walk_at "z"
    refine ⟨MulOk.bl (by rw [bl_nat]; omega), ?_⟩
    walk_at "z"
    exact ⟨_, _, rfl, hn, hP _ rfl⟩
  · rw [restE_wipe, hρ, merge_ddp hB (bot_dv ps)]
    exact ⟨_, rfl, h⟩
theorem zb1 (k : PI) : bl k.1.natAbs ≤ zb k := Nat.le_max_left _ _
theorem zb2 (k : PI) : bl k.2.natAbs ≤ zb k := Nat.le_max_right _ _
theorem rp_is_left (ds : List D) (R : RR) (hl : ds.length = 3) (h : sp_is_left ds R) : rd_is_left (rho0 [false, false, false] 0 ds ++ List.replicate (3 - 3) .no) (endsOf [false, false, false] R) := by
  unfold sp_is_left at h
  obtain ⟨a, b, c, rfl, ha, hb, hc, h⟩ := h
  have a1 := zb1 a
  have a2 := zb2 a
  have b1 := zb1 b
  have b2 := zb2 b
  have c1 := zb1 c
  have c2 := zb2 c
  have e1 := bl_isub b.1 a.1
  have e2 := bl_isub b.2 a.2
  have e3 := bl_isub c.1 a.1
  have e4 := bl_isub c.2 a.2
  unfold dPi
  walk_at "z"
  refine ⟨MulOk.bl (by omega), ?_⟩
  walk_at "z"
  refine ⟨MulOk.bl (by omega), ?_⟩
  walk_at "z"
  exact h
theorem atI_m1 {α : Type} (l : List α) (b c : α) : atI (l ++ [b, c]) (-1) = some c := by
  have : l ++ [b, c] = (l ++ [b]) ++ [c] := by simp
  rw [this]
  exact atI_last _ _
theorem atI_m2 {α : Type} (l : List α) (b c : α) : atI (l ++ [b, c]) (-2) = some b := by
  unfold atI ixN
  rw [if_neg (by decide)]
  have hl : (l ++ [b, c]).length = l.length + 2 := by simp
  rw [hl, if_pos (by omega)]
  have e : ∀ k : Int, k = (l.length : Int) → (l ++ [b, c])[k.toNat]? = some b := fun k h => by
    subst h
    simp
  exact e _ (by omega)
def stR (st : List PI) : D := .lst (st.reverse.map dPi)
theorem rp_half_of (ds : List D) (R : RR) (hl : ds.length = 1) (h : sp_half_of ds R) : rd_half_of (rho0 [false] 0 ds ++ List.replicate (3 - 1) .no) (endsOf [false] R) := by
  unfold sp_half_of at h
  obtain ⟨ws, rfl, hw, hb, h⟩ := h
  have popZ_sub : ∀ {st : List PI} {p x : PI}, x ∈ popZ st p → x ∈ st := by
    intro st
    induction st with
    | nil => exact fun h => h
    | cons c st ih =>
      intro p x h
      cases st with
      | nil => exact h
      | cons b r =>
        have e : popZ (c :: b :: r) p = if leftZ b c p = true then c :: b :: r else popZ (b :: r) p := rfl
        rw [e] at h
        split at h
        · exact h
        · exact List.mem_cons_of_mem _ (ih h)
  have popZ_len : ∀ (st : List PI) (p : PI), (popZ st p).length ≤ st.length := by
    intro st
    induction st with
    | nil => exact fun p => Nat.le_refl _
    | cons c st ih =>
      intro p
      cases st with
      | nil => exact Nat.le_refl _
      | cons b r =>
        have e : popZ (c :: b :: r) p = if leftZ b c p = true then c :: b :: r else popZ (b :: r) p := rfl
        rw [e]
        split
        · exact Nat.le_refl _
        · exact Nat.le_trans (ih p) (Nat.le_succ _)
  -- the inner loop
  have key : ∀ (st : List PI) (p : PI) (E : EN), zb p ≤ 4000000 → (∀ w ∈ st, zb w ≤ 4000000) → st.length ≤ 1000000 → E.nx [.fz (.lst (ws.map dPi)), .ow 1 (stR (popZ st p)), .fz (dPi p)] →
      ∃ n, whL (rAnd (rTb (rOp2 gGtI (roE (rCB gLen (raCons (roV 1) raNil))) (roE (rC (.int 1))))) (rNot (rTb (rCall [false, false, false] sp_is_left (rgAv (rOp2 gIx (roV 1) (roE (rNeg (rC (.int 2))))) (rgAv (rOp2 gIx (roV 1) (roE (rNeg (rC (.int 1))))) (rgAv (rVar 2) rgA0))))))) rd_half_of_4 n [.fz (.lst (ws.map dPi)), .ow 1 (stR st), .fz (dPi p)] E := by
    intro st
    induction st with
    | nil =>
      intro p E hp hs hl hE
      refine ⟨1, ?_⟩
      walk_at "z"
      exact hE
    | cons c st ih =>
      intro p E hp hs hl hE
      cases st with
      | nil =>
        refine ⟨1, ?_⟩
        walk_at "z"
        exact hE
      | cons b r =>
        have hr := hs c (by simp)
        have e : popZ (c :: b :: r) p = if leftZ b c p = true then c :: b :: r else popZ (b :: r) p := rfl
        have el : stR (c :: b :: r) = .lst (r.reverse.map dPi ++ [dPi b, dPi c]) := by unfold stR; simp
        have ln : (r.reverse.map dPi ++ [dPi b, dPi c]).length = r.length + 2 := by simp
        cases hz : leftZ b c p with
        | true =>
          rw [e, hz, if_pos rfl] at hE
          refine ⟨1, ?_⟩
          rw [el] at hE ⊢
          walk_at "z"
          refine ⟨fun _ => ?_, fun cc => ?_⟩
          · walk_at "z"
            refine ⟨_, atI_m2 _ _ _, ?_⟩
            walk_at "z"
            refine ⟨_, atI_m1 _ _ _, ?_⟩
            walk_at "z"
            refine sp_is_left.mk (hs b (by simp)) hr hp ?_
            rw [hz]
            walk_at "z"
            exact hE
          · exfalso
            rw [ln] at cc
            exact absurd (of_decide_eq_false cc) (by omega)
        | false =>
          rw [e, hz, if_neg (by decide)] at hE
          obtain ⟨n, hn⟩ := ih p E hp (fun w hw => hs w (List.mem_cons_of_mem _ hw)) (by rw [List.length_cons] at hl; omega) hE
          refine ⟨n + 1, ?_⟩
          rw [el]
          walk_at "z"
          refine ⟨fun _ => ?_, fun cc => ?_⟩
          · walk_at "z"
            refine ⟨_, atI_m2 _ _ _, ?_⟩
            walk_at "z"
            refine ⟨_, atI_m1 _ _ _, ?_⟩
            walk_at "z"
            refine sp_is_left.mk (hs b (by simp)) hr hp ?_
            rw [hz]
            walk_at "z"
            rw [← rx_half_of_4] at hn ⊢
            walk_at "z"
            have e2 : (r.reverse.map dPi ++ [dPi b, dPi c]).dropLast = (b :: r).reverse.map dPi := by
              have : r.reverse.map dPi ++ [dPi b, dPi c] = (r.reverse.map dPi ++ [dPi b]) ++ [dPi c] := by simp
              rw [this, List.dropLast_concat]
              simp
            refine ⟨dPi c, by rw [ln]; simp, ?_⟩
            rw [e2]
            exact hn
          · exfalso
            rw [ln] at cc
            exact absurd (of_decide_eq_false cc) (by omega)
  walk_at "z"
  refine lit3 rfl ?_
  rw [← rx_half_of_2]
  walk_at "zz"
  refine forL_fold (g := dPi) (st := fun st : List PI => [.fz (.lst (ws.map dPi)), .ow 1 (stR st), .no]) (f := fun st p => p :: popZ st p) (P := fun st zs => st.length + zs.length ≤ ws.length ∧ (∀ w ∈ st, zb w ≤ 4000000) ∧ ∀ w ∈ zs, zb w ≤ 4000000) (fun st p zs N hP hN => ?_) ws [] ⟨by simp, fun w hw => absurd hw List.not_mem_nil, hb⟩ (fun _ => ?_)
  · obtain ⟨p1, p2, p3⟩ := hP
    rw [List.length_cons] at p1
    have pl := popZ_len st p
    have hN := hN ⟨by rw [List.length_cons]; omega, fun w hw => by
      rcases List.mem_cons.mp hw with rfl | hw
      · exact p3 w (by simp)
      · exact p2 w (popZ_sub hw), fun w hw => p3 w (List.mem_cons_of_mem _ hw)⟩
    walk_at "z"
    refine lit3 rfl ?_
    rw [← rx_half_of_3]
    refine key st p _ (p3 p (by simp)) p2 (by omega) ?_
    show rd_half_of_5 _ _
    rw [← rx_half_of_5]
    walk_at "z"
    refine ⟨by rw [List.length_map, List.length_reverse]; exact small6 (by omega), ?_⟩
    walk_at "z"
    have e3 : (popZ st p).reverse.map dPi ++ [dPi p] = (p :: popZ st p).reverse.map dPi := by simp
    rw [e3]
    exact hN
  · rw [← rx_half_of_6]
    walk_at "z"
    have e4 : ∀ (qs st : List PI), qs.foldl (fun st p => p :: popZ st p) st = halfRZ st qs := by
      intro qs
      induction qs with
      | nil => exact fun st => rfl
      | cons q qs ih => exact fun st => ih _
    rw [e4]
    exact h

theorem cut_dl (xs : List D) : cutL xs none (some (-1)) = xs.dropLast := by
  rcases List.eq_nil_or_concat xs with rfl | ⟨ys, y, rfl⟩
  · rfl
  · rw [List.concat_eq_append, cut_init, List.dropLast_concat]
theorem zb_wh {B : Nat} {p : P2} : zb (wh B p) ≤ wt p.1 + wt p.2 + bl B := by
  have g1 := wt_num p.1
  have g2 := wt_num p.2
  have d1 : bl (B / p.1.den) ≤ bl B := bl_mono (Nat.div_le_self _ _)
  have d2 : bl (B / p.2.den) ≤ bl B := bl_mono (Nat.div_le_self _ _)
  have e1 := bl_imul p.1.num ((B / p.1.den : Nat) : Int)
  have e2 := bl_imul p.2.num ((B / p.2.den : Nat) : Int)
  rw [bl_nat] at e1 e2
  show max (bl (p.1.num * ((B / p.1.den : Nat) : Int)).natAbs) (bl (p.2.num * ((B / p.2.den : Nat) : Int)).natAbs) ≤ _
  omega
theorem popW_len : ∀ (st : List P2) (p : P2), (popW st p).length ≤ st.length
  | [], _ => Nat.le_refl _
  | [_], _ => Nat.le_refl _
  | c :: b :: r, p => by
    have e : popW (c :: b :: r) p = if 0 < crs b c p then c :: b :: r else popW (b :: r) p := rfl
    rw [e]
    split
    · exact Nat.le_refl _
    · exact Nat.le_trans (popW_len (b :: r) p) (Nat.le_succ _)
theorem halfR_len : ∀ (qs st : List P2), (halfR st qs).length ≤ st.length + qs.length
  | [], st => Nat.le_refl _
  | q :: qs, st => by
    have := halfR_len qs (q :: popW st q)
    have h2 := popW_len st q
    rw [List.length_cons] at this ⊢
    show (halfR (q :: popW st q) qs).length ≤ _
    omega
theorem halfQ_len (qs : List P2) : (halfQ qs).length ≤ qs.length := by
  unfold halfQ
  rw [List.length_reverse]
  have := halfR_len qs []
  rw [List.length_nil, Nat.zero_add] at this
  exact this
theorem ddp_len (ps : List P2) : (ddp ps).length ≤ ps.length := by
  have key : ∀ (ps a : List P2), (ps.foldl (fun a p => if p ∈ a then a else a ++ [p]) a).length ≤ a.length + ps.length := by
    intro ps
    induction ps with
    | nil => exact fun a => Nat.le_refl _
    | cons p ps ih =>
      intro a
      have := ih (if p ∈ a then a else a ++ [p])
      rw [List.foldl_cons]
      have h2 : (if p ∈ a then a else a ++ [p]).length ≤ a.length + 1 := by
        split
        · omega
        · simp
      rw [List.length_cons]
      omega
  have := key ps []
  rw [List.length_nil, Nat.zero_add] at this
  exact this
theorem rp_hull (ds : List D) (R : RR) (hl : ds.length = 1) (h : sp_hull ds R) : rd_hull (rho0 [false] 0 ds ++ List.replicate (5 - 1) .no) (endsOf [false] R) := by
  unfold sp_hull at h
  obtain ⟨ps, rfl, h0, hln, hp, h⟩ := h
  have hB := bot_pos ps
  have hD := bot_dv ps
  have bB := bl_bot ps
  walk_at "z"
  refine sp_by_whole.mk hp ?_
  walk_at "z"
  refine fun ys hperm hsort => ?_
  rw [tab_keys] at hperm
  have lny : ys.length ≤ 40000 := by
    have h1 := hperm.length_eq
    rw [List.length_map] at h1
    have h2 : (ddp ps).length ≤ ps.length := by
      exact ddp_len ps
    omega
  obtain ⟨W, rfl, hm, hpw⟩ := sorted_wh hB hD hperm hsort
  have hDW : ∀ p ∈ W, Dv (bot ps) p := fun p hp => hD p ((hm p).mp hp)
  have hW0 : W ≠ [] := by
    intro z
    cases ps with
    | nil => exact h0 rfl
    | cons p ps => have := (hm p).mpr (by simp); rw [z] at this; cases this
  have fg := fig_hullW hW0 hpw
  have h := h _ (fg.same (fun p hp => (hm p).mp hp) fun p hp => (hm p).mpr hp)
  have zbW : ∀ w ∈ W.map (wh (bot ps)), zb w ≤ 4000000 := fun w hw => by
    obtain ⟨p, hpW, rfl⟩ := List.mem_map.mp hw
    have := pw_mem ((hm p).mp hpW)
    have := zb_wh (B := bot ps) (p := p)
    omega
  rw [List.length_map] at lny
  have find : ∀ p ∈ W, ((tabD (bot ps) (ddp ps)).find? fun x => decide (x.1 = wh (bot ps) p)).map (fun x => x.2) = some (dpt p) := fun p hp =>
    tab_find hB (fun q hq => hD q ((ddp_mem ps q).mp hq)) ((ddp_mem ps p).mpr ((hm p).mp hp))
  walk_at "z"
  refine ⟨fun cc => ?_, fun cc => ?_⟩
  · have e1 : W.length = 1 := by
      have cc : eqb (.int ((W.map (wh (bot ps))).map dPi).length) (.int 1) = true := cc
      rw [eqb_int, List.length_map, List.length_map] at cc
      have := of_decide_eq_true cc
      omega
    obtain ⟨w, rfl⟩ := List.length_eq_one_iff.mp e1
    walk_at "z"
    refine ⟨tabD (bot ps) (ddp ps), wh (bot ps) w, dpt w, rfl, rfl, find w (by simp), ?_⟩
    walk_at "z"
    exact h
  · have e1 : W.length ≠ 1 := by
      intro z
      have cc : eqb (.int ((W.map (wh (bot ps))).map dPi).length) (.int 1) = false := cc
      rw [eqb_int, List.length_map, List.length_map, z] at cc
      exact absurd cc (by decide)
    have eW : hullW W = (halfQ W).dropLast ++ (halfQ W.reverse).dropLast := by
      match W, e1, hW0 with
      | [], _, z => exact absurd rfl z
      | [_], z, _ => exact absurd rfl z
      | a :: b :: r, _, _ => rfl
    walk_at "z"
    refine sp_half_of.mk (by rw [List.length_map]; omega) zbW ?_
    walk_at "z"
    have er : ((W.map (wh (bot ps))).map dPi).reverse = ((W.reverse.map (wh (bot ps))).map dPi) := by simp
    rw [er]
    refine sp_half_of.mk (by rw [List.length_map, List.length_reverse]; omega) (fun w hw => zbW w (by simpa using hw)) ?_
    walk_at "z"
    rw [cut_dl, cut_dl, halfZ_wh hB hDW, halfZ_wh hB (fun p hp => hDW p (List.mem_reverse.mp hp))]
    have eA : (((halfQ W).map (wh (bot ps))).map dPi).dropLast ++ (((halfQ W.reverse).map (wh (bot ps))).map dPi).dropLast = (hullW W).map fun p => dPi (wh (bot ps) p) := by
      rw [eW, List.map_append, List.map_map, List.map_map, List.map_dropLast, List.map_dropLast]
      rfl
    have len1 : ((((halfQ W).map (wh (bot ps))).map dPi).dropLast).length + ((((halfQ W.reverse).map (wh (bot ps))).map dPi).dropLast).length ≤ sizeLine := by
      rw [List.length_dropLast, List.length_dropLast, List.length_map, List.length_map, List.length_map, List.length_map]
      have a := halfQ_len W
      have b := halfQ_len W.reverse
      rw [List.length_reverse] at b
      refine Nat.le_of_lt (small6 (by omega))
    refine ⟨len1, ?_⟩
    rw [eA]
    walk_at "z"
    have hWs : ∀ p ∈ hullW W, p ∈ W := fun p hp => fg.sub p hp
    refine lcL_map' (g := fun p : P2 => dPi (wh (bot ps) p)) (f := dpt) (xs := hullW W) (ρw := [.fz (.lst (ps.map dpt)), .fz (dPd (tabD (bot ps) (ddp ps))), .fz (.lst ((W.map (wh (bot ps))).map dPi)), .fz (.lst ((hullW W).map fun p => dPi (wh (bot ps) p))), .no]) ?_ (fun p hpp n P N hn hP => ?_) rfl fun ρ' hρ => ?_
    · rw [eW, List.length_append, List.length_dropLast, List.length_dropLast]
      have a := halfQ_len W
      have b := halfQ_len W.reverse
      rw [List.length_reverse] at b
      omega
    · walk_at "z"
      refine ⟨tabD (bot ps) (ddp ps), wh (bot ps) p, dpt p, rfl, rfl, find p (hWs p hpp), ?_⟩
      exact ⟨hn, hP _ rfl⟩
    · rw [restE_wipe, hρ]
      exact ⟨_, rfl, h⟩
end VL


set_option maxHeartbeats 2000000
set_option pp.maxSteps 250
namespace VL
open PySem PySem.Spec PyProof.Rows L2
local macro_rules | `(tactic| walk_at "n") => `(tactic| refine ⟨fun h => Bool.noConfusion (show false = true from h), fun _ => ?_⟩)
local macro_rules | `(tactic| walk_at "ty") => `(tactic| refine ⟨_, rfl, by decide, ?_⟩)
local macro_rules | `(tactic| walk_at "tys") => `(tactic| refine ⟨_, rfl, _, rfl, by decide, ?_⟩)
local macro_rules | `(tactic| walk_at "v") => `(tactic| repeat (first | refine ⟨rfl, ?_⟩ | refine ⟨_, rfl, ?_⟩))
local macro_rules | `(tactic| walk_at "y") => `(tactic| refine ⟨fun _ => ?_, fun h => Bool.noConfusion (show true = false from h)⟩)
local macro_rules | `(tactic| walk_at "z") => `(tactic| repeat (first | refine ⟨rfl, ?_⟩ | refine ⟨_, rfl, ?_⟩ | refine ⟨fun _ => ?_, fun h => Bool.noConfusion (show true = false from h)⟩ | refine ⟨fun h => Bool.noConfusion (show false = true from h), fun _ => ?_⟩ | refine ⟨tyIn rfl, ?_⟩ | refine ⟨tysIn rfl, ?_⟩ | refine ⟨smallL rfl, ?_⟩ | refine ⟨smallE rfl, ?_⟩))
local macro_rules | `(tactic| walk_at "zz") => `(tactic| repeat ((fail_if_success show forL _ _ _ _ _); first | refine ⟨rfl, ?_⟩ | refine ⟨_, rfl, ?_⟩ | refine ⟨fun _ => ?_, fun h => Bool.noConfusion (show true = false from h)⟩ | refine ⟨fun h => Bool.noConfusion (show false = true from h), fun _ => ?_⟩ | refine ⟨tyIn rfl, ?_⟩ | refine ⟨tysIn rfl, ?_⟩ | refine ⟨smallL rfl, ?_⟩ | refine ⟨smallE rfl, ?_⟩))
/-! ### going round: the law's own hull -/
theorem nd_len {α : Type} : ∀ {l m : List α}, l.Nodup → (∀ x ∈ l, x ∈ m) → l.length ≤ m.length
  | [], m, _, _ => Nat.zero_le _
  | x :: l, m, h, hs => by
    obtain ⟨s, t, rfl⟩ := List.append_of_mem (hs x (by simp))
    have h1 := List.nodup_cons.mp h
    have := nd_len (l := l) (m := s ++ t) h1.2 fun y hy => by
      have h2 := hs y (List.mem_cons_of_mem _ hy)
      rcases List.mem_append.mp h2 with h2 | h2
      · exact List.mem_append_left _ h2
      · rcases List.mem_cons.mp h2 with rfl | h2
        · exact absurd hy h1.1
        · exact List.mem_append_right _ h2
    rw [List.length_append] at this ⊢
    rw [List.length_cons, List.length_cons]
    omega
theorem path_nd {pts : List P2} {a : P2} (ha : a ∈ pts) : ∀ {t : List P2} {x : P2}, (∀ c ∈ t, c ∈ pts) → a ∉ t → (∀ y z, Nx (x :: t ++ [a]) y z → Edge pts y z) → t.Nodup
  | [], _, _, _, _ => .nil
  | y :: r, x, hs, hn, he => by
    have he' : ∀ p q, Nx (y :: r ++ [a]) p q → Edge pts p q := fun p q h => he p q (nx_cons.mpr (.inr h))
    refine List.nodup_cons.mpr ⟨fun hy => ?_, path_nd ha (x := y) (fun c hc => hs c (List.mem_cons_of_mem _ hc)) (fun z => hn (List.mem_cons_of_mem _ z)) he'⟩
    obtain ⟨u, v, rfl⟩ := List.append_of_mem hy
    have he2 : ∀ p q, Nx (y :: v ++ [a]) p q → Edge pts p q := fun p q ⟨s, t, h⟩ => he' p q ⟨y :: u ++ s, t, by
      have : y :: (u ++ y :: v) ++ [a] = (y :: u) ++ (y :: v ++ [a]) := by simp
      rw [this, h]; simp⟩
    have := follow_uniq ha (t := u ++ y :: v) (u := v) (x := y) (fun c hc => hs c (List.mem_cons_of_mem _ hc)) (fun c hc => hs c (by simp [hc])) (fun z => hn (List.mem_cons_of_mem _ z)) (fun z => hn (by simp [z])) he' he2
    have := congrArg List.length this
    rw [List.length_append, List.length_cons] at this
    omega
theorem Fig.nodup {pts L : List P2} (h : Fig pts L) : L.Nodup := by
  obtain ⟨a, t, rfl, ha, at', et⟩ := h.ex
  refine List.nodup_cons.mpr ⟨at', ?_⟩
  cases t with
  | nil => exact .nil
  | cons b t => exact path_nd (h.sub a (by simp)) (x := a) (fun c hc => h.sub c (List.mem_cons_of_mem _ hc)) at' (et (by simp))
theorem Fig.ne {pts L : List P2} (h : Fig pts L) : L ≠ [] := by
  obtain ⟨a, t, rfl, _⟩ := h.ex
  simp
def outerZ (a b c : PI) : Bool := decide (crz a b c < 0) || (decide (crz a b c = 0) && decide (((b.1 - a.1).natAbs : Int) + (b.2 - a.2).natAbs < ((c.1 - a.1).natAbs : Int) + (c.2 - a.2).natAbs))
/-! ### the laws' own: points, turns, hulls -/
def smallP (c : Nat) (p : P2) : Prop := wt p.1 ≤ c ∧ wt p.2 ≤ c
theorem smallP.le {c d : Nat} {p : P2} (h : smallP c p) (l : c ≤ d) : smallP d p := ⟨Nat.le_trans h.1 l, Nat.le_trans h.2 l⟩
@[irreducible] def sp_l_point : ASp := fun ds R => ∃ t n, ds = [dT t] ∧ t.ok (n + 10) ∧ ∀ (p : P2) (t' : Tp), smallP 21 p → t'.ok n → R (dpt p) 0 [dT t']
theorem sp_l_point.mk {t : Tp} {R : RR} (n : Nat) (ht : t.ok (n + 10)) (h : ∀ (p : P2) (t' : Tp), smallP 21 p → t'.ok n → R (dpt p) 0 [dT t']) : sp_l_point [dT t] R := by unfold sp_l_point; exact ⟨t, n, rfl, ht, h⟩
@[irreducible] def sp_l_points : ASp := fun ds R => ∃ t m n, ds = [dT t, .int (m : Nat)] ∧ 1 ≤ m ∧ m ≤ 1000 ∧ t.ok (n + 22 + 11 * m) ∧ ∀ (ps : List P2) (t' : Tp), 1 ≤ ps.length → ps.length ≤ m → (∀ p ∈ ps, smallP 50 p) → t'.ok n → R (.lst (ps.map dpt)) 1 [dT t']
theorem sp_l_points.mk {t : Tp} {m : Nat} {R : RR} (n : Nat) (h1 : 1 ≤ m) (h2 : m ≤ 1000) (ht : t.ok (n + 22 + 11 * m)) (h : ∀ (ps : List P2) (t' : Tp), 1 ≤ ps.length → ps.length ≤ m → (∀ p ∈ ps, smallP 50 p) → t'.ok n → R (.lst (ps.map dpt)) 1 [dT t']) : sp_l_points [dT t, .int m] R := by unfold sp_l_points; exact ⟨t, m, n, rfl, h1, h2, ht, h⟩
@[irreducible] def sp_l_off : ASp := fun ds R => ∃ p q, ds = [dpt p, dpt q] ∧ smallP 10000000 p ∧ smallP 10000000 q ∧ R (dpt (sb p q)) 0 []
theorem sp_l_off.mk {p q : P2} {R : RR} (h1 : smallP 10000000 p) (h2 : smallP 10000000 q) (h : R (dpt (sb p q)) 0 []) : sp_l_off [dpt p, dpt q] R := by unfold sp_l_off; exact ⟨p, q, rfl, h1, h2, h⟩
@[irreducible] def sp_l_cross : ASp := fun ds R => ∃ p q, ds = [dpt p, dpt q] ∧ smallP 20000000 p ∧ smallP 20000000 q ∧ R (dq (cr p q)) 0 []
theorem sp_l_cross.mk {p q : P2} {R : RR} (h1 : smallP 20000000 p) (h2 : smallP 20000000 q) (h : R (dq (cr p q)) 0 []) : sp_l_cross [dpt p, dpt q] R := by unfold sp_l_cross; exact ⟨p, q, rfl, h1, h2, h⟩
def dot2 (p q : P2) : Rat := p.1 * q.1 + p.2 * q.2
@[irreducible] def sp_l_priced_22395e : ASp := fun ds R => ∃ p q, ds = [dpt p, dpt q] ∧ smallP 10000000 p ∧ smallP 10000000 q ∧ R (dq (dot2 p q)) 0 []
theorem sp_l_priced_22395e.mk {p q : P2} {R : RR} (h1 : smallP 10000000 p) (h2 : smallP 10000000 q) (h : R (dq (dot2 p q)) 0 []) : sp_l_priced_22395e [dpt p, dpt q] R := by unfold sp_l_priced_22395e; exact ⟨p, q, rfl, h1, h2, h⟩
@[irreducible] def sp_l_is_outer : ASp := fun ds R => ∃ a b c : PI, ds = [dPi a, dPi b, dPi c] ∧ zb a ≤ 4000000 ∧ zb b ≤ 4000000 ∧ zb c ≤ 4000000 ∧ R (.bl (outerZ a b c)) 0 []
theorem sp_l_is_outer.mk {a b c : PI} {R : RR} (h1 : zb a ≤ 4000000) (h2 : zb b ≤ 4000000) (h3 : zb c ≤ 4000000) (h : R (.bl (outerZ a b c)) 0 []) : sp_l_is_outer [dPi a, dPi b, dPi c] R := by unfold sp_l_is_outer; exact ⟨a, b, c, rfl, h1, h2, h3, h⟩
def rd_l_point : RS := (rRet (rTup1 (rfCons (rCall [true] sp_l_number (rgAs 0 rgA0)) (rfCons (rCall [true] sp_l_number (rgAs 0 rgA0)) rfNil))))
def rb_l_points_5 : RS := (rIf (rTb (rOp2 gLtI (roV 2) (roE (rC (.int 3))))) (rDrop (rMetF 4 gApp (rfCons (rCall [true] sp_l_point (rgAs 0 rgA0)) rfNil))) (rIf (rTb (rOp2 gLtI (roV 2) (roE (rC (.int 5))))) (rDrop (rMetF 4 gApp (rfCons (rTup1 (rfCons (rVar 8) (rfCons (rTup1 (rfCons (rOp2 gSub (roE (rCall [true, false] sp_l_draw (rgAs 0 (rgAv (rC (.int 4)) rgA0)))) (roE (rC (.int 1)))) (rfCons (rC (.int 1)) rfNil))) rfNil))) rfNil))) (rIf (rTb (rOp2 gEq (roV 2) (roE (rC (.int 5))))) (rDrop (rMetF 4 gApp (rfCons (rCall [false, false] sp_l_added (rgAv (rVar 5) (rgAv (rCall [false, false] sp_l_scaled (rgAv (rVar 6) (rgAv (rVar 8) rgA0))) rgA0))) rfNil))) (rIf (rTb (rOp2 gEq (roV 2) (roE (rC (.int 6))))) (rDrop (rMetF 4 gApp (rfCons (rVar 5) rfNil))) (rDrop (rMetF 4 gApp (rfCons (rTup1 (rfCons (rVar 8) (rfCons (rCall [false, false] sp_l_times (rgAv (rVar 8) (rgAv (rVar 8) rgA0))) rfNil))) rfNil)))))))
@[irreducible] def rd_l_points_5 : RS := rb_l_points_5
theorem rx_l_points_5 : rb_l_points_5 = rd_l_points_5 := by unfold rd_l_points_5; rfl
def rb_l_points_4 : RS := (rSeq (rSet 8 (rTup1 (rfCons (rOp2 gSub (roE (rCall [true, false] sp_l_draw (rgAs 0 (rgAv (rC (.int 4)) rgA0)))) (roE (rC (.int 1)))) (rfCons (rC (.int 1)) rfNil))))
  rd_l_points_5)
@[irreducible] def rd_l_points_4 : RS := rb_l_points_4
theorem rx_l_points_4 : rb_l_points_4 = rd_l_points_4 := by unfold rd_l_points_4; rfl
def rb_l_points_15 : RS := (rRet (rMove 4))
@[irreducible] def rd_l_points_15 : RS := rb_l_points_15
theorem rx_l_points_15 : rb_l_points_15 = rd_l_points_15 := by unfold rd_l_points_15; rfl
def rb_l_points_3 : RS := (rSeq (rFor (rIW [7, 8] (riRng1 (rfCons (rVar 3) rfNil))) (rgName 7) (rBW [7, 8] rd_l_points_4))
  rd_l_points_15)
@[irreducible] def rd_l_points_3 : RS := rb_l_points_3
theorem rx_l_points_3 : rb_l_points_3 = rd_l_points_3 := by unfold rd_l_points_3; rfl
def rb_l_points_2 : RS := (rSeq (rPar 5 6 (rCall [true] sp_l_point (rgAs 0 rgA0)) (rCall [true] sp_l_point (rgAs 0 rgA0)))
  rd_l_points_3)
@[irreducible] def rd_l_points_2 : RS := rb_l_points_2
theorem rx_l_points_2 : rb_l_points_2 = rd_l_points_2 := by unfold rd_l_points_2; rfl
def rd_l_points : RS := (rSeq (rPar3 2 3 4 (rCall [true, false] sp_l_draw (rgAs 0 (rgAv (rC (.int 8)) rgA0))) (rOp2 gAddA (roE (rC (.int 1))) (roE (rCall [true, false] sp_l_draw (rgAs 0 (rgAv (rVar 1) rgA0))))) (rLst1 rfNil))
  rd_l_points_2)
def rb_l_priced_22395e_3 : RS := (rSet 2 (rCall [false, false] sp_l_plus (rgAv (rVar 2) (rgAv (rCall [false, false] sp_l_times (rgAv (rVar 3) (rgAv (rVar 4) rgA0))) rgA0))))
@[irreducible] def rd_l_priced_22395e_3 : RS := rb_l_priced_22395e_3
theorem rx_l_priced_22395e_3 : rb_l_priced_22395e_3 = rd_l_priced_22395e_3 := by unfold rd_l_priced_22395e_3; rfl
def rb_l_priced_22395e_4 : RS := (rRet (rMove 2))
@[irreducible] def rd_l_priced_22395e_4 : RS := rb_l_priced_22395e_4
theorem rx_l_priced_22395e_4 : rb_l_priced_22395e_4 = rd_l_priced_22395e_4 := by unfold rd_l_priced_22395e_4; rfl
def rb_l_priced_22395e_2 : RS := (rSeq (rFor (rIW [3, 4] (riZipA (rfCons (rVar 0) (rfCons (rVar 1) rfNil)))) (rgTup 2 (rgCons (rgName 3) (rgCons (rgName 4) rgNil))) (rBW [3, 4] rd_l_priced_22395e_3))
  rd_l_priced_22395e_4)
@[irreducible] def rd_l_priced_22395e_2 : RS := rb_l_priced_22395e_2
theorem rx_l_priced_22395e_2 : rb_l_priced_22395e_2 = rd_l_priced_22395e_2 := by unfold rd_l_priced_22395e_2; rfl
def rd_l_priced_22395e : RS := (rSeq (rSet 2 (rTup1 (rfCons (rC (.int 0)) (rfCons (rC (.int 1)) rfNil))))
  rd_l_priced_22395e_2)
theorem rp_l_point (ds : List D) (R : RR) (hl : ds.length = 1) (h : sp_l_point ds R) : rd_l_point (rho0 [true] 0 ds ++ List.replicate (1 - 1) .no) (endsOf [true] R) := by
  unfold sp_l_point at h
  obtain ⟨t, n, rfl, ht, h⟩ := h
  walk_at "z"
  refine sp_l_number.mk (n + 5) ht fun x t1 w1 ht1 => ?_
  walk_at "z"
  refine sp_l_number.mk n ht1 fun y t2 w2 ht2 => ?_
  walk_at "z"
  exact h (x, y) t2 ⟨w1, w2⟩ ht2
theorem rp_l_priced_22395e (ds : List D) (R : RR) (hl : ds.length = 2) (h : sp_l_priced_22395e ds R) : rd_l_priced_22395e (rho0 [false, false] 0 ds ++ List.replicate (5 - 2) .no) (endsOf [false, false] R) := by
  unfold sp_l_priced_22395e at h
  obtain ⟨p, q, rfl, ⟨p1, p2⟩, ⟨q1, q2⟩, h⟩ := h
  have w1 := wt_mul p.1 q.1
  have w2 := wt_mul p.2 q.2
  have w3 := wt_add 0 (p.1 * q.1)
  have w0 : wt (0 : Rat) = 1 := by decide
  unfold dpt dw
  walk_at "z"
  refine lit5 rfl ?_
  rw [← rx_l_priced_22395e_2]
  walk_at "z"
  refine lit5 rfl ?_
  rw [← rx_l_priced_22395e_3]
  walk_at "z"
  refine sp_times.mk (by omega) ?_
  walk_at "z"
  show sp_plus [dq 0, dq (p.1 * q.1)] _
  refine sp_plus.mk (by omega) ?_
  walk_at "z"
  refine sp_times.mk (by omega) ?_
  walk_at "z"
  refine sp_plus.mk (by have := wt_add (0 + p.1 * q.1) (p.2 * q.2); omega) ?_
  walk_at "z"
  show rd_l_priced_22395e_4 _ _
  rw [← rx_l_priced_22395e_4]
  walk_at "z"
  have e : 0 + p.1 * q.1 + p.2 * q.2 = dot2 p q := by unfold dot2; grind
  rw [e]
  exact h
def ad (p q : P2) : P2 := (p.1 + q.1, p.2 + q.2)
def sc (p : P2) (c : Rat) : P2 := (p.1 * c, p.2 * c)
theorem allw2 {c : Nat} {p : P2} (h : smallP c p) : allw c [p.1, p.2] := fun q hq => by
  rcases List.mem_cons.mp hq with rfl | hq
  · exact h.1
  · rw [List.mem_singleton.mp hq]; exact h.2
theorem sp_added.pt {p q : P2} {R : RR} (h1 : smallP 40000000 p) (h2 : smallP 40000000 q) (h : R (dpt (ad p q)) 0 []) : sp_added [dpt p, dpt q] R :=
  sp_added.mk (ps := [p.1, p.2]) (qs := [q.1, q.2]) (by show 2 ≤ 900; decide) (allw2 h1) (allw2 h2) h
theorem sp_scaled.pt {p : P2} {c : Rat} {R : RR} (h1 : smallP 40000000 p) (h2 : wt c ≤ 40000000) (h : R (dpt (sc p c)) 0 []) : sp_scaled [dpt p, dq c] R :=
  sp_scaled.mk (ps := [p.1, p.2]) (by show 2 ≤ 900; decide) (allw2 h1) h2 h
theorem qdot2 (p q : P2) : qdot [p.1, p.2] [q.1, q.2] = dot2 p q := by
  show 0 + p.1 * q.1 + p.2 * q.2 = _
  unfold dot2
  grind
theorem sp_priced.pt {p q : P2} {R : RR} (h1 : smallP 4000000 p) (h2 : smallP 4000000 q) (h : R (dq (dot2 p q)) 0 []) : sp_priced [dpt p, dpt q] R :=
  sp_priced.mk (ps := [p.1, p.2]) (qs := [q.1, q.2]) 4000000 (by show 2 ≤ 900; decide) (by show 2 * (2 * 4000000 + 1) ≤ 40000000; decide) (allw2 h1) (allw2 h2) (by rw [qdot2]; exact h)
theorem smallP.ad {c d : Nat} {p q : P2} (h1 : smallP c p) (h2 : smallP d q) : smallP (c + d + 1) (ad p q) := by
  have a := wt_add p.1 q.1
  have b := wt_add p.2 q.2
  obtain ⟨x1, x2⟩ := h1
  obtain ⟨y1, y2⟩ := h2
  exact ⟨by show wt (p.1 + q.1) ≤ _; omega, by show wt (p.2 + q.2) ≤ _; omega⟩
theorem smallP.sb {c d : Nat} {p q : P2} (h1 : smallP c p) (h2 : smallP d q) : smallP (c + d + 1) (sb p q) := by
  have a := wt_sub p.1 q.1
  have b := wt_sub p.2 q.2
  obtain ⟨x1, x2⟩ := h1
  obtain ⟨y1, y2⟩ := h2
  exact ⟨by show wt (p.1 - q.1) ≤ _; omega, by show wt (p.2 - q.2) ≤ _; omega⟩
theorem smallP.sc {c d : Nat} {p : P2} {k : Rat} (h1 : smallP c p) (h2 : wt k ≤ d) : smallP (c + d) (sc p k) := by
  have a := wt_mul p.1 k
  have b := wt_mul p.2 k
  obtain ⟨x1, x2⟩ := h1
  exact ⟨by show wt (p.1 * k) ≤ _; omega, by show wt (p.2 * k) ≤ _; omega⟩
theorem small_near {r : Int} (h0 : 0 ≤ r) (h1 : r < 4) : wt (Rat.ofInt (r - 1)) ≤ 3 := by
  have : r = 0 ∨ r = 1 ∨ r = 2 ∨ r = 3 := by omega
  rcases this with rfl | rfl | rfl | rfl <;> decide
theorem rp_l_points (ds : List D) (R : RR) (hl : ds.length = 2) (h : sp_l_points ds R) : rd_l_points (rho0 [true, false] 0 ds ++ List.replicate (9 - 2) .no) (endsOf [true, false] R) := by
  unfold sp_l_points at h
  obtain ⟨t, m, n, rfl, hm1, hm2, ht, h⟩ := h
  walk_at "z"
  refine sp_l_draw.mk' (n + 21 + 11 * m) (ht.le (by omega)) (by decide) (by decide) fun w t1 w0 w1 ht1 => ?_
  walk_at "z"
  refine sp_l_draw.mk' (n + 20 + 11 * m) (ht1.le (by omega)) (by omega) (by omega) fun k t2 k0 k1 ht2 => ?_
  walk_at "z"
  refine lit9 rfl ?_
  rw [← rx_l_points_2]
  walk_at "z"
  refine sp_l_point.mk (n + 10 + 11 * m) (ht2.le (by omega)) fun bs t3 hbs ht3 => ?_
  walk_at "z"
  refine sp_l_point.mk (n + 11 * m) (ht3.le (by omega)) fun stp t4 hst ht4 => ?_
  walk_at "z"
  refine lit9 rfl ?_
  rw [← rx_l_points_3]
  walk_at "zz"
  refine ⟨⟨by omega, by omega⟩, ?_⟩
  walk_at "zz"
  refine forL_rel (g := fun (i : Nat) => D.int (0 + (i : Int))) (st := fun (s : Tp × List P2) => [.io 0 (dT s.1), .fz (.int m), .fz (.int w), .fz (.int (1 + k)), .ow 1 (.lst (s.2.map dpt)), .fz (dpt bs), .fz (dpt stp), .no, .no])
    (P := fun s zs => s.1.ok (n + 11 * zs.length) ∧ s.2.length + zs.length = (1 + k).toNat ∧ ∀ p ∈ s.2, smallP 50 p) (fun s z zs N hP hN => ?_) (List.range (1 + k).toNat) (t4, []) ⟨?_, ?_, fun p hp => absurd hp List.not_mem_nil⟩ (fun s hP => ?_)
  · obtain ⟨q1, q2, q3⟩ := hP
    rw [List.length_cons] at q1 q2
    have add : ∀ (p : P2) (t' : Tp), smallP 50 p → t'.ok (n + 11 * zs.length) → N [.io 0 (dT t'), .fz (.int m), .fz (.int w), .fz (.int (1 + k)), .ow 1 (.lst ((s.2 ++ [p]).map dpt)), .fz (dpt bs), .fz (dpt stp), .no, .no] := fun p t' hp ht' =>
      hN (t', s.2 ++ [p]) ⟨ht', by rw [List.length_append, List.length_singleton]; omega, fun x hx => by
        rcases List.mem_append.mp hx with hx | hx
        · exact q3 x hx
        · rw [List.mem_singleton.mp hx]; exact hp⟩
    have ll : (s.2.map dpt).length < sizeLine := by rw [List.length_map]; exact small6 (by omega)
    have ea : ∀ p : P2, s.2.map dpt ++ [dpt p] = (s.2 ++ [p]).map dpt := fun p => by rw [List.map_append]; rfl
    walk_at "z"
    refine lit9 rfl ?_
    rw [← rx_l_points_4]
    walk_at "z"
    refine sp_l_draw.mk' (n + 10 + 11 * zs.length) (q1.le (by omega)) (by decide) (by decide) fun r t5 r0 r1 ht5 => ?_
    walk_at "z"
    refine lit9 rfl ?_
    show rd_l_points_5 [.io 0 (dT t5), .fz (.int m), .fz (.int w), .fz (.int (1 + k)), .ow 1 (.lst (s.2.map dpt)), .fz (dpt bs), .fz (dpt stp), .fz (.int (0 + (z : Int))), .fz (dq (Rat.ofInt (r - 1)))] _
    rw [← rx_l_points_5]
    have wn := small_near r0 r1
    generalize Rat.ofInt (r - 1) = nr at wn ⊢
    walk_at "z"
    refine ⟨fun c1 => ?_, fun c1 => ?_⟩
    · walk_at "z"
      refine sp_l_point.mk (n + 11 * zs.length) (ht5.le (by omega)) fun p t6 hp6 ht6 => ?_
      walk_at "z"
      refine ⟨ll, ?_⟩
      rw [ea]
      exact ⟨rfl, add p t6 (hp6.le (by decide)) ht6⟩
    · walk_at "z"
      refine ⟨fun c2 => ?_, fun c2 => ?_⟩
      · walk_at "z"
        refine sp_l_draw.mk' (n + 9 + 11 * zs.length) (ht5.le (by omega)) (by decide) (by decide) fun r2 t6 r20 r21 ht6 => ?_
        walk_at "z"
        refine ⟨ll, ?_⟩
        rw [show s.2.map dpt ++ [D.tup [dq nr, D.tup [D.int (r2 - 1), D.int 1]]] = (s.2 ++ [(nr, Rat.ofInt (r2 - 1))]).map dpt from ea (nr, Rat.ofInt (r2 - 1))]
        have wn2 := small_near r20 r21
        refine ⟨rfl, ?_⟩
        exact add (nr, Rat.ofInt (r2 - 1)) t6 ⟨by show wt nr ≤ _; omega, by show wt (Rat.ofInt (r2 - 1)) ≤ _; omega⟩ (ht6.le (by omega))
      · walk_at "z"
        rw [eqb_int]
        refine ⟨fun c3 => ?_, fun c3 => ?_⟩
        · walk_at "z"
          refine sp_scaled.pt (p := stp) (c := nr) (hst.le (by decide)) (by omega) ?_
          walk_at "z"
          refine sp_added.pt (p := bs) (q := sc stp nr) (hbs.le (by decide)) ((hst.sc (Nat.le_refl _)).le (by omega)) ?_
          walk_at "z"
          refine ⟨ll, ?_⟩
          rw [ea]
          exact ⟨rfl, add _ t5 ((hbs.ad (hst.sc wn)).le (by decide)) (ht5.le (by omega))⟩
        · walk_at "z"
          rw [eqb_int]
          refine ⟨fun c4 => ?_, fun c4 => ?_⟩
          · walk_at "z"
            refine ⟨ll, ?_⟩
            rw [ea]
            exact ⟨rfl, add bs t5 (hbs.le (by decide)) (ht5.le (by omega))⟩
          · walk_at "z"
            refine sp_times.mk (by omega) ?_
            walk_at "z"
            refine ⟨ll, ?_⟩
            have := wt_mul nr nr
            rw [show s.2.map dpt ++ [D.tup [dq nr, dq (nr * nr)]] = (s.2 ++ [(nr, nr * nr)]).map dpt from ea (nr, nr * nr)]
            refine ⟨rfl, ?_⟩
            exact add (nr, nr * nr) t5 ⟨by show wt nr ≤ _; omega, by show wt (nr * nr) ≤ _; omega⟩ (ht5.le (by omega))
  · rw [List.length_range]
    exact ht4.le (by omega)
  · rw [List.length_range]; simp
  · obtain ⟨q1, q2, q3⟩ := hP
    rw [← rx_l_points_15]
    walk_at "z"
    exact h s.2 s.1 (by simp at q2; omega) (by simp at q2; omega) q3 (q1.le (by simp))
theorem Fig.least {pts L : List P2} (h : Fig pts L) {w : P2} {ws : List P2} (e : pts = w :: ws) (hp : pts.Pairwise lx) : ∃ t, L = w :: t := by
  obtain ⟨a, t, rfl, ha, _⟩ := h.ex
  have haw := h.sub a (by simp)
  subst e
  rcases ha w (by simp) with z | z
  · exact ⟨t, by rw [z]⟩
  · rcases List.mem_cons.mp haw with q | q
    · exact ⟨t, by rw [q]⟩
    · exact (lx_asy z ((List.pairwise_cons.mp hp).1 a q)).elim
theorem cut_first (w : D) (ws : List D) : cutL (w :: ws) none (some 1) = [w] := by
  unfold cutL
  have e1 : HT.sIx (w :: ws).length 0 none = 0 := rfl
  have e2 : HT.sIx (w :: ws).length (w :: ws).length (some 1) = 1 := by
    show min 1 (ws.length + 1) = 1
    omega
  rw [e1, e2]
  rfl
end VL


set_option maxHeartbeats 2000000
set_option pp.maxSteps 250
namespace VL
open PySem PySem.Spec PyProof.Rows L2
local macro_rules | `(tactic| walk_at "n") => `(tactic| refine ⟨fun h => Bool.noConfusion (show false = true from h), fun _ => ?_⟩)
local macro_rules | `(tactic| walk_at "ty") => `(tactic| refine ⟨_, rfl, by decide, ?_⟩)
local macro_rules | `(tactic| walk_at "tys") => `(tactic| refine ⟨_, rfl, _, rfl, by decide, ?_⟩)
local macro_rules | `(tactic| walk_at "v") => `(tactic| repeat (first | refine ⟨rfl, ?_⟩ | refine ⟨_, rfl, ?_⟩))
local macro_rules | `(tactic| walk_at "y") => `(tactic| refine ⟨fun _ => ?_, fun h => Bool.noConfusion (show true = false from h)⟩)
local macro_rules | `(tactic| walk_at "z") => `(tactic| repeat (first | refine ⟨rfl, ?_⟩ | refine ⟨_, rfl, ?_⟩ | refine ⟨fun _ => ?_, fun h => Bool.noConfusion (show true = false from h)⟩ | refine ⟨fun h => Bool.noConfusion (show false = true from h), fun _ => ?_⟩ | refine ⟨tyIn rfl, ?_⟩ | refine ⟨tysIn rfl, ?_⟩ | refine ⟨smallL rfl, ?_⟩ | refine ⟨smallE rfl, ?_⟩))
local macro_rules | `(tactic| walk_at "zz") => `(tactic| repeat ((fail_if_success show forL _ _ _ _ _); first | refine ⟨rfl, ?_⟩ | refine ⟨_, rfl, ?_⟩ | refine ⟨fun _ => ?_, fun h => Bool.noConfusion (show true = false from h)⟩ | refine ⟨fun h => Bool.noConfusion (show false = true from h), fun _ => ?_⟩ | refine ⟨tyIn rfl, ?_⟩ | refine ⟨tysIn rfl, ?_⟩ | refine ⟨smallL rfl, ?_⟩ | refine ⟨smallE rfl, ?_⟩))
/-! ### points in figures, points between -/
theorem sq_nn (x : Rat) : 0 ≤ x * x := by
  by_cases h : 0 ≤ x
  · exact Rat.mul_nonneg h h
  · have := Rat.mul_nonneg (show 0 ≤ -x by grind) (show 0 ≤ -x by grind)
    grind
def edL (L : List P2) : List (P2 × P2) := L.zip (L.drop 1 ++ L.take 1)
def hasB (L : List P2) (p : P2) : Bool := match L with
  | [] => false
  | [a] => decide (a = p)
  | a :: b :: r => (edL (a :: b :: r)).all (fun e => decide (0 ≤ crs e.1 e.2 p)) && (!r.isEmpty || (decide (0 ≤ dot2 (sb b a) (sb p a)) && decide (dot2 (sb b a) (sb p a) ≤ dot2 (sb b a) (sb b a))))
theorem zip_nx : ∀ {t : List P2} {a b x y : P2}, (x, y) ∈ (a :: t).zip (t ++ [b]) ↔ Nx (a :: t ++ [b]) x y
  | [], a, b, x, y => by
    show (x, y) ∈ [(a, b)] ↔ Nx ([a, b]) x y
    rw [List.mem_singleton, nx_cons]
    constructor
    · intro h
      cases h
      exact .inl ⟨rfl, rfl⟩
    · rintro (⟨rfl, h⟩ | h)
      · cases h; rfl
      · rcases nx_cons.mp h with ⟨_, h⟩ | h
        · cases h
        · exact absurd h nx_nil
  | z :: t, a, b, x, y => by
    show (x, y) ∈ (a, z) :: (z :: t).zip (t ++ [b]) ↔ Nx (a :: (z :: t ++ [b])) x y
    rw [List.mem_cons, zip_nx (t := t), nx_cons]
    constructor
    · rintro (h | h)
      · cases h; exact .inl ⟨rfl, rfl⟩
      · exact .inr h
    · rintro (⟨rfl, h⟩ | h)
      · cases h; exact .inl rfl
      · exact .inr h
theorem edL_nx {a : P2} {t : List P2} {x y : P2} : (x, y) ∈ edL (a :: t) ↔ Nx (a :: t ++ [a]) x y := by
  show (x, y) ∈ (a :: t).zip (t ++ [a]) ↔ _
  exact zip_nx
theorem within_has {L : List P2} {p : P2} (h : Within L p) : hasB L p = true := by
  match L, h with
  | [a], h => exact decide_eq_true (show a = p from (show p = a from h).symm)
  | a :: b :: r, h =>
    have h2 : ∀ x y, Nx (a :: b :: r ++ [a]) x y → 0 < crs x y p ∨ Onto x y p := h.2
    show (_ && _) = true
    rw [Bool.and_eq_true]
    refine ⟨List.all_eq_true.mpr fun e he => decide_eq_true ?_, ?_⟩
    · rcases h2 e.1 e.2 (edL_nx.mp he) with k | k
      · exact Rat.le_of_lt k
      · rw [onto_crs k]; exact Rat.le_refl
    · cases r with
      | cons c r => rfl
      | nil =>
        have k1 := h2 a b ⟨[], [a], rfl⟩
        have k2 := h2 b a ⟨[a], [], rfl⟩
        have on : Onto a b p := by
          rcases k1 with k1 | k1
          · rcases k2 with k2 | k2
            · have : crs b a p = - crs a b p := by unfold crs; grind
              grind
            · have := onto_crs k2
              have : crs b a p = - crs a b p := by unfold crs; grind
              grind
          · exact k1
        obtain ⟨t, t0, t1, et⟩ := on
        have sq : 0 ≤ dot2 (sb b a) (sb b a) := by
          unfold dot2
          have s1 : 0 ≤ (sb b a).1 * (sb b a).1 := sq_nn _
          have s2 : 0 ≤ (sb b a).2 * (sb b a).2 := sq_nn _
          grind
        have e1 : dot2 (sb b a) (sb p a) = t * dot2 (sb b a) (sb b a) := by
          rw [et]; unfold dot2 sb lerp; grind
        show (false || (_ && _)) = true
        rw [Bool.false_or, Bool.and_eq_true]
        refine ⟨decide_eq_true ?_, decide_eq_true ?_⟩
        · rw [e1]; exact Rat.mul_nonneg t0 sq
        · rw [e1]
          have := Rat.mul_nonneg (show 0 ≤ 1 - t by grind) sq
          grind
/-- a point between points -/
def comb : List P2 → List Rat → P2
  | p :: ps, w :: ws => ad (sc p w) (comb ps ws)
  | _, _ => (0, 0)
def wsumq : List Rat → Rat
  | [] => 0
  | w :: ws => w + wsumq ws
def Conv (ps : List P2) (q : P2) : Prop := ∃ ws : List Rat, ws.length = ps.length ∧ (∀ w ∈ ws, 0 ≤ w) ∧ wsumq ws = 1 ∧ q = comb ps ws
theorem comb_lin (f : P2 → Rat) (c x y : Rat) (hf : ∀ p : P2, f p = c + x * p.1 + y * p.2) : ∀ (ps : List P2) (ws : List Rat), ws.length = ps.length → x * (comb ps ws).1 + y * (comb ps ws).2 + c * wsumq ws = (List.zipWith (fun p w => w * f p) ps ws).foldr (· + ·) 0
  | [], [], _ => by show x * 0 + y * 0 + c * 0 = 0; grind
  | p :: ps, w :: ws, h => by
    have ih := comb_lin f c x y hf ps ws (by simpa using h)
    show x * (p.1 * w + (comb ps ws).1) + y * (p.2 * w + (comb ps ws).2) + c * (w + wsumq ws) = w * f p + _
    rw [← ih, hf p]
    grind
theorem sum_nn : ∀ (ps : List P2) (ws : List Rat) (f : P2 → Rat), (∀ p ∈ ps, 0 ≤ f p) → (∀ w ∈ ws, 0 ≤ w) → 0 ≤ (List.zipWith (fun p w => w * f p) ps ws).foldr (· + ·) 0
  | [], _, _, _, _ => by simp
  | _ :: _, [], _, _, _ => by simp
  | p :: ps, w :: ws, f, h1, h2 => by
    have ih := sum_nn ps ws f (fun p hp => h1 p (List.mem_cons_of_mem _ hp)) (fun w hw => h2 w (List.mem_cons_of_mem _ hw))
    have := Rat.mul_nonneg (h2 w (by simp)) (h1 p (by simp))
    show 0 ≤ w * f p + _
    grind
theorem sum_zero : ∀ (ps : List P2) (ws : List Rat) (f : P2 → Rat), (∀ p ∈ ps, 0 ≤ f p) → (∀ w ∈ ws, 0 ≤ w) → (List.zipWith (fun p w => w * f p) ps ws).foldr (· + ·) 0 = 0 → ∀ pw ∈ ps.zip ws, pw.2 = 0 ∨ f pw.1 = 0
  | [], _, _, _, _, _ => fun _ h => absurd h List.not_mem_nil
  | _ :: _, [], _, _, _, _ => fun _ h => absurd h List.not_mem_nil
  | p :: ps, w :: ws, f, h1, h2, h3 => by
    have a := sum_nn ps ws f (fun p hp => h1 p (List.mem_cons_of_mem _ hp)) (fun w hw => h2 w (List.mem_cons_of_mem _ hw))
    have b := Rat.mul_nonneg (h2 w (by simp)) (h1 p (by simp))
    have h3 : w * f p + (List.zipWith (fun p w => w * f p) ps ws).foldr (· + ·) 0 = 0 := h3
    intro x hx
    rcases List.mem_cons.mp hx with rfl | hx
    · exact Rat.mul_eq_zero.mp (by grind)
    · exact sum_zero ps ws f (fun p hp => h1 p (List.mem_cons_of_mem _ hp)) (fun w hw => h2 w (List.mem_cons_of_mem _ hw)) (by grind) x hx
/-- of points that lie within, the point between lies within -/
theorem conv_lin {ps : List P2} {q : P2} (h : Conv ps q) (f : P2 → Rat) {c x y : Rat} (hf : ∀ p : P2, f p = c + x * p.1 + y * p.2) (h0 : ∀ p ∈ ps, 0 ≤ f p) : 0 ≤ f q ∧ (f q = 0 → Conv (ps.filter fun p => decide (f p = 0)) q) := by
  obtain ⟨ws, hl, hn, h1, e⟩ := h
  have k := comb_lin f c x y hf ps ws hl
  have ef : f q = (List.zipWith (fun p w => w * f p) ps ws).foldr (· + ·) 0 := by
    rw [← k, hf q, h1, e]
    grind
  refine ⟨by rw [ef]; exact sum_nn ps ws f h0 hn, fun hz => ?_⟩
  have z := sum_zero ps ws f h0 hn (by rw [← ef]; exact hz)
  have key : ∀ (ps : List P2) (ws : List Rat), ws.length = ps.length → (∀ w ∈ ws, 0 ≤ w) → (∀ pw ∈ ps.zip ws, pw.2 = 0 ∨ f pw.1 = 0) → ∃ us : List Rat, us.length = (ps.filter fun p => decide (f p = 0)).length ∧ (∀ w ∈ us, 0 ≤ w) ∧ wsumq us = wsumq ws ∧ comb (ps.filter fun p => decide (f p = 0)) us = comb ps ws := by
    intro ps
    induction ps with
    | nil => intro ws hl _ _; cases ws with
      | nil => exact ⟨[], rfl, fun _ h => absurd h List.not_mem_nil, rfl, rfl⟩
      | cons w ws => cases hl
    | cons p ps ih =>
      intro ws hl hn z
      cases ws with
      | nil => cases hl
      | cons w ws =>
        obtain ⟨us, u1, u2, u3, u4⟩ := ih ws (by simpa using hl) (fun w hw => hn w (List.mem_cons_of_mem _ hw)) (fun pw h => z pw (List.mem_cons_of_mem _ h))
        by_cases c : f p = 0
        · rw [List.filter_cons, if_pos (decide_eq_true c)]
          refine ⟨w :: us, by rw [List.length_cons, List.length_cons, u1], fun v hv => ?_, ?_, ?_⟩
          · rcases List.mem_cons.mp hv with rfl | hv
            · exact hn v (by simp)
            · exact u2 v hv
          · show w + wsumq us = w + wsumq ws; rw [u3]
          · show ad (sc p w) (comb _ us) = ad (sc p w) (comb ps ws); rw [u4]
        · have w0 : w = 0 := (z (p, w) (by simp)).resolve_right c
          rw [List.filter_cons, if_neg (by rw [decide_eq_false c]; decide)]
          refine ⟨us, u1, u2, ?_, ?_⟩
          · show wsumq us = w + wsumq ws; rw [u3, w0]; grind
          · rw [u4]
            show comb ps ws = ad (sc p w) (comb ps ws)
            rw [w0]
            unfold ad sc
            ext <;> grind
  obtain ⟨us, u1, u2, u3, u4⟩ := key ps ws hl hn z
  exact ⟨us, u1, u2, by rw [u3, h1], by rw [u4, e]⟩
theorem conv_onto {a b : P2} : ∀ {ps : List P2} {ws : List Rat}, ws.length = ps.length → (∀ w ∈ ws, 0 ≤ w) → (∀ p ∈ ps, Onto a b p) → ∃ s, 0 ≤ s ∧ s ≤ wsumq ws ∧ comb ps ws = (wsumq ws * a.1 + s * (b.1 - a.1), wsumq ws * a.2 + s * (b.2 - a.2))
  | [], [], _, _, _ => ⟨0, by decide, by decide, by show ((0 : Rat), (0 : Rat)) = _; unfold wsumq; ext <;> grind⟩
  | p :: ps, w :: ws, hl, hn, ho => by
    obtain ⟨s, s0, s1, e⟩ := conv_onto (ps := ps) (ws := ws) (a := a) (b := b) (by simpa using hl) (fun w hw => hn w (List.mem_cons_of_mem _ hw)) fun p hp => ho p (List.mem_cons_of_mem _ hp)
    obtain ⟨t, t0, t1, et⟩ := ho p (by simp)
    have hw := hn w (by simp)
    refine ⟨w * t + s, ?_, ?_, ?_⟩
    · have := Rat.mul_nonneg hw t0; grind
    · have := Rat.mul_nonneg hw (show 0 ≤ 1 - t by grind)
      show w * t + s ≤ w + wsumq ws
      grind
    · show ad (sc p w) (comb ps ws) = ((w + wsumq ws) * a.1 + (w * t + s) * (b.1 - a.1), (w + wsumq ws) * a.2 + (w * t + s) * (b.2 - a.2))
      rw [e, et]
      unfold ad sc lerp
      ext <;> grind
theorem conv_on {a b q : P2} {ps : List P2} (h : Conv ps q) (ho : ∀ p ∈ ps, Onto a b p) : Onto a b q := by
  obtain ⟨ws, hl, hn, h1, e⟩ := h
  obtain ⟨s, s0, s1, k⟩ := conv_onto hl hn ho
  refine ⟨s, s0, by rw [h1] at s1; exact s1, ?_⟩
  rw [e, k, h1]
  unfold lerp
  ext <;> grind
theorem conv_within {L ps : List P2} {q : P2} (hw : ∀ p ∈ ps, Within L p) (h : Conv ps q) : Within L q := by
  match L, hw with
  | [], hw =>
    obtain ⟨ws, hl, hn, h1, e⟩ := h
    cases ps with
    | nil =>
      cases ws with
      | nil => exact absurd h1 (by decide)
      | cons w ws => cases hl
    | cons p ps => exact hw p (by simp)
  | [a], hw =>
    have := conv_on (a := a) (b := a) h fun p hp => by rw [show p = a from hw p hp]; exact onto_a a a
    obtain ⟨t, _, _, et⟩ := this
    show q = a
    rw [et]
    unfold lerp
    ext <;> grind
  | a :: b :: r, hw =>
    refine ⟨?_, fun x y hn => ?_⟩
    · have f1 := conv_lin h (fun p => p.1 - a.1) (c := -a.1) (x := 1) (y := 0) (fun p => by grind) (fun p hp => by
        rcases (hw p hp).1 with z | z
        · rw [z]; grind
        · unfold lx at z; grind)
      obtain ⟨g1, g2⟩ := f1
      try dsimp only at g1 g2
      by_cases c : q.1 - a.1 = 0
      · have h2 := g2 c
        have f2 := conv_lin h2 (fun p => p.2 - a.2) (c := -a.2) (x := 0) (y := 1) (fun p => by grind) (fun p hp => by
          obtain ⟨m1, m2⟩ := List.mem_filter.mp hp
          have m2 := of_decide_eq_true m2
          rcases (hw p m1).1 with z | z
          · rw [z]; grind
          · unfold lx at z; grind)
        have f2 := f2.1
        try dsimp only at f2
        by_cases c2 : q.2 - a.2 = 0
        · left; exact Prod.ext (by grind) (by grind)
        · right; right; exact ⟨by grind, by grind⟩
      · right; left; grind
    · have f1 := conv_lin h (fun p => crs x y p) (c := -(y.1 - x.1) * x.2 + (y.2 - x.2) * x.1) (x := -(y.2 - x.2)) (y := y.1 - x.1) (fun p => by unfold crs; grind) (fun p hp => by
        rcases (hw p hp).2 x y hn with z | z
        · exact Rat.le_of_lt z
        · rw [onto_crs z]; exact Rat.le_refl)
      obtain ⟨g1, g2⟩ := f1
      try dsimp only at g1 g2
      by_cases c : crs x y q = 0
      · right
        refine conv_on (g2 c) fun p hp => ?_
        obtain ⟨m1, m2⟩ := List.mem_filter.mp hp
        have m2 := of_decide_eq_true m2
        rcases (hw p m1).2 x y hn with z | z
        · grind
        · exact z
      · left; grind
@[irreducible] def sp_l_has : ASp := fun ds R => ∃ (L : List P2) (p : P2), ds = [.lst (L.map dpt), dpt p] ∧ L ≠ [] ∧ L.length ≤ 40000 ∧ (∀ c ∈ L, smallP 40000 c) ∧ smallP 40000 p ∧ R (.bl (hasB L p)) 0 []
theorem sp_l_has.mk {L : List P2} {p : P2} {R : RR} (h0 : L ≠ []) (h1 : L.length ≤ 40000) (h2 : ∀ c ∈ L, smallP 40000 c) (h3 : smallP 40000 p) (h : R (.bl (hasB L p)) 0 []) : sp_l_has [.lst (L.map dpt), dpt p] R := by unfold sp_l_has; exact ⟨L, p, rfl, h0, h1, h2, h3, h⟩
@[irreducible] def sp_l_between : ASp := fun ds R => ∃ (t : Tp) (ps : List P2) (c n : Nat), ds = [dT t, .lst (ps.map dpt)] ∧ ps ≠ [] ∧ ps.length ≤ 1000 ∧ c ≤ 10000 ∧ (∀ p ∈ ps, smallP c p) ∧ t.ok (n + 2 * ps.length) ∧ ∀ (q : P2) (t' : Tp), Conv ps q → smallP (1 + ps.length * (c + 20)) q → t'.ok n → R (dpt q) 0 [dT t']
theorem sp_l_between.mk {t : Tp} {ps : List P2} {R : RR} (c n : Nat) (h0 : ps ≠ []) (h1 : ps.length ≤ 1000) (hc : c ≤ 10000) (h2 : ∀ p ∈ ps, smallP c p) (ht : t.ok (n + 2 * ps.length)) (h : ∀ (q : P2) (t' : Tp), Conv ps q → smallP (1 + ps.length * (c + 20)) q → t'.ok n → R (dpt q) 0 [dT t']) : sp_l_between [dT t, .lst (ps.map dpt)] R := by unfold sp_l_between; exact ⟨t, ps, c, n, rfl, h0, h1, hc, h2, ht, h⟩
def rb_l_between_7 : RS := (rSet 4 (rCall [false, false] sp_l_added (rgAv (rVar 4) (rgAv (rCall [false, false] sp_l_scaled (rgAv (rVar 5) (rgAv (rCall [false, false] sp_l_part (rgAv (rVar 6) (rgAv (rVar 3) rgA0))) rgA0))) rgA0))))
@[irreducible] def rd_l_between_7 : RS := rb_l_between_7
theorem rx_l_between_7 : rb_l_between_7 = rd_l_between_7 := by unfold rd_l_between_7; rfl
def rb_l_between_8 : RS := (rRet (rMove 4))
@[irreducible] def rd_l_between_8 : RS := rb_l_between_8
theorem rx_l_between_8 : rb_l_between_8 = rd_l_between_8 := by unfold rd_l_between_8; rfl
def rb_l_between_6 : RS := (rSeq (rFor (rIW [5, 6] (riZipA (rfCons (rVar 1) (rfCons (rVar 2) rfNil)))) (rgTup 2 (rgCons (rgName 5) (rgCons (rgName 6) rgNil))) (rBW [5, 6] rd_l_between_7))
  rd_l_between_8)
@[irreducible] def rd_l_between_6 : RS := rb_l_between_6
theorem rx_l_between_6 : rb_l_between_6 = rd_l_between_6 := by unfold rd_l_between_6; rfl
def rb_l_between_5 : RS := (rSeq (rSet 4 (rTup1 (rfCons (rTup1 (rfCons (rC (.int 0)) (rfCons (rC (.int 1)) rfNil))) (rfCons (rTup1 (rfCons (rC (.int 0)) (rfCons (rC (.int 1)) rfNil))) rfNil))))
  rd_l_between_6)
@[irreducible] def rd_l_between_5 : RS := rb_l_between_5
theorem rx_l_between_5 : rb_l_between_5 = rd_l_between_5 := by unfold rd_l_between_5; rfl
def rb_l_between_3 : RS := (rSeq (rIf (rTb (rOp2 gEq (roV 3) (roE (rC (.int 0))))) (rAsg (rTup1 (rfCons (rC (.int 1)) (rfCons (rC (.int 1)) rfNil))) (rgTup 2 (rgCons (rgIx 2 (rC (.int 0))) (rgCons (rgName 3) rgNil)))) rNext)
  rd_l_between_5)
@[irreducible] def rd_l_between_3 : RS := rb_l_between_3
theorem rx_l_between_3 : rb_l_between_3 = rd_l_between_3 := by unfold rd_l_between_3; rfl
def rb_l_between_2 : RS := (rSeq (rSet 3 (rCB gSum (raCons (roV 2) raNil)))
  rd_l_between_3)
@[irreducible] def rd_l_between_2 : RS := rb_l_between_2
theorem rx_l_between_2 : rb_l_between_2 = rd_l_between_2 := by unfold rd_l_between_2; rfl
def rd_l_between : RS := (rSeq (rSet 2 (rLc [5] (riSeq (rVar 1)) (rgName 5) rYes (rOp2 gIx (roE (rLst1 (rfCons (rC (.int 0)) (rfCons (rC (.int 1)) (rfCons (rC (.int 1)) (rfCons (rC (.int 2)) (rfCons (rCall [true, false] sp_l_draw (rgAs 0 (rgAv (rC (.int 9)) rgA0))) rfNil))))))) (roE (rCall [true, false] sp_l_draw (rgAs 0 (rgAv (rC (.int 5)) rgA0)))))))
  rd_l_between_2)
theorem eqb_dpt (a b : P2) : eqb (dpt a) (dpt b) = decide (a = b) := by
  show (eqb (dq a.1) (dq b.1) && (eqb (dq a.2) (dq b.2) && true)) = _
  rw [eqb_dq, eqb_dq, Bool.and_true, Bool.eq_iff_iff, Bool.and_eq_true, decide_eq_true_iff, decide_eq_true_iff, decide_eq_true_iff]
  exact ⟨fun ⟨x, y⟩ => Prod.ext x y, fun h => by subst h; exact ⟨rfl, rfl⟩⟩
theorem cut_from1 (w : D) (ws : List D) : cutL (w :: ws) (some 1) none = ws := by
  unfold cutL
  have e1 : HT.sIx (w :: ws).length 0 (some 1) = 1 := by
    show min 1 (ws.length + 1) = 1
    omega
  have e2 : HT.sIx (w :: ws).length (w :: ws).length none = (w :: ws).length := rfl
  rw [e1, e2]
  show (ws.take (ws.length + 1 - 1)) = ws
  rw [Nat.add_sub_cancel, List.take_length]
theorem zip_map2 (xs ys : List P2) : List.zipWith (fun x y => D.tup [x, y]) (xs.map dpt) (ys.map dpt) = (xs.zip ys).map fun e => D.tup [dpt e.1, dpt e.2] := by
  induction xs generalizing ys with
  | nil => rfl
  | cons x xs ih =>
    cases ys with
    | nil => rfl
    | cons y ys => rw [List.map_cons, List.map_cons, List.zipWith_cons_cons, List.zip_cons_cons, List.map_cons, ih]
theorem wt_dot2 {c d : Nat} {p q : P2} (h1 : smallP c p) (h2 : smallP d q) : wt (dot2 p q) ≤ 2 * (c + d) + 1 := by
  have a := wt_mul p.1 q.1
  have b := wt_mul p.2 q.2
  have e := wt_add (p.1 * q.1) (p.2 * q.2)
  obtain ⟨x1, x2⟩ := h1
  obtain ⟨y1, y2⟩ := h2
  unfold dot2
  omega
theorem fold_comb : ∀ (ps : List P2) (ws : List Rat) (f : P2), (ps.zip ws).foldl (fun f e => ad f (sc e.1 e.2)) f = ad f (comb ps ws)
  | [], ws, f => by cases ws <;> (show f = ad f (0, 0); unfold ad; ext <;> grind)
  | p :: ps, [], f => by show f = ad f (0, 0); unfold ad; ext <;> grind
  | p :: ps, w :: ws, f => by
    rw [List.zip_cons_cons, List.foldl_cons, fold_comb ps ws]
    show ad (ad f (sc p w)) (comb ps ws) = ad f (ad (sc p w) (comb ps ws))
    unfold ad
    ext <;> grind
theorem divs_sum (W : Int) (hW : 0 < W) : ∀ ys : List Int, wsumq (ys.map fun y => Rat.divInt y W) = Rat.divInt ys.sum W
  | [] => by show (0 : Rat) = Rat.divInt 0 W; simp
  | y :: ys => by
    show Rat.divInt y W + wsumq (ys.map fun y => Rat.divInt y W) = Rat.divInt (y + ys.sum) W
    rw [divs_sum W hW ys, Rat.divInt_eq_div, Rat.divInt_eq_div, Rat.divInt_eq_div, Rat.intCast_add]
    have : (W : Rat) ≠ 0 := by
      intro z
      have : W = 0 := by exact_mod_cast z
      omega
    grind
theorem sum_bd {c : Int} : ∀ ys : List Int, (∀ y ∈ ys, 0 ≤ y ∧ y < c) → 0 ≤ ys.sum ∧ ys.sum ≤ ys.length * c ∧ ∀ y ∈ ys, y ≤ ys.sum
  | [], _ => ⟨by decide, by simp, fun _ h => absurd h List.not_mem_nil⟩
  | y :: ys, h => by
    obtain ⟨a, b, d⟩ := sum_bd ys fun z hz => h z (List.mem_cons_of_mem _ hz)
    have hy := h y (by simp)
    rw [List.sum_cons, List.length_cons]
    refine ⟨by omega, ?_, fun z hz => ?_⟩
    · have : ((ys.length + 1 : Nat) : Int) * c = ys.length * c + c := by rw [Int.natCast_add, Int.add_mul]; omega
      rw [this]; omega
    · rcases List.mem_cons.mp hz with rfl | hz
      · omega
      · have := d z hz; omega
theorem zip_dpi (xs : List P2) (ys : List Int) : List.zipWith (fun x y => D.tup [x, y]) (xs.map dpt) (ys.map D.int) = (xs.zip ys).map fun e => D.tup [dpt e.1, .int e.2] := by
  induction xs generalizing ys with
  | nil => rfl
  | cons x xs ih =>
    cases ys with
    | nil => rfl
    | cons y ys => rw [List.map_cons, List.map_cons, List.zipWith_cons_cons, List.zip_cons_cons, List.map_cons, ih]
theorem rp_l_between (ds : List D) (R : RR) (hl : ds.length = 2) (h : sp_l_between ds R) : rd_l_between (rho0 [true, false] 0 ds ++ List.replicate (7 - 2) .no) (endsOf [true, false] R) := by
  unfold sp_l_between at h
  obtain ⟨t, ps, c, n, rfl, h0, h1, hc, h2, ht, h⟩ := h
  walk_at "z"
  refine lcL_fold (g := dpt) (f := fun i : Int => D.int i) (st := fun t : Tp => [.io 0 (dT t), .fz (.lst (ps.map dpt)), .no, .no, .no, .no, .no]) (P := fun t ys zs => t.ok (n + 2 * zs.length) ∧ ys.length + zs.length = ps.length ∧ ∀ y ∈ ys, 0 ≤ y ∧ y < 9)
    (fun t ys x xs hP => by have := hP.2.1; rw [List.length_cons] at this; omega) (fun t ys x xs m K N hm hP hK => ?_) ps t _ ⟨ht, by simp, fun y hy => absurd hy List.not_mem_nil⟩ rfl (fun t ys ρ hP hρ => ?_)
  · obtain ⟨q1, q2, q3⟩ := hP
    rw [List.length_cons] at q1 q2
    walk_at "z"
    refine sp_l_draw.mk' (n + 2 * xs.length + 1) (q1.le (by omega)) (by decide) (by decide) fun a t1 a0 a1 ht1 => ?_
    walk_at "z"
    refine sp_l_draw.mk' (n + 2 * xs.length) (ht1.le (by omega)) (by decide) (by decide) fun b t2 b0 b1 ht2 => ?_
    walk_at "z"
    obtain ⟨d, ed, k, rfl, k0, k1⟩ := atI_of (P := fun d => ∃ k : Int, d = .int k ∧ 0 ≤ k ∧ k < 9) (xs := [D.int 0, D.int 1, D.int 1, D.int 2, D.int a]) (i := b) (fun d hd => by
      simp only [List.mem_cons, List.not_mem_nil, or_false] at hd
      rcases hd with rfl | rfl | rfl | rfl | rfl
      · exact ⟨0, rfl, by decide, by decide⟩
      · exact ⟨1, rfl, by decide, by decide⟩
      · exact ⟨1, rfl, by decide, by decide⟩
      · exact ⟨2, rfl, by decide, by decide⟩
      · exact ⟨a, rfl, a0, a1⟩) b0 (by show b < 5; omega)
    refine ⟨_, ed, ?_⟩
    refine ⟨hm, hK t2 k ⟨ht2, by rw [List.length_append, List.length_singleton]; omega, fun y hy => ?_⟩ _ rfl⟩
    rcases List.mem_append.mp hy with hy | hy
    · exact q3 y hy
    · rw [List.mem_singleton.mp hy]; exact ⟨k0, k1⟩
  · obtain ⟨q1, q2, q3⟩ := hP
    rw [restE_wipe, hρ]
    simp only [List.length_nil, Nat.add_zero, Nat.mul_zero] at q1 q2
    walk_at "z"
    refine lit7 rfl ?_
    show rd_l_between_2 [.io 0 (dT t), .fz (.lst (ps.map dpt)), .ow 1 (.lst (ys.map D.int)), .no, .no, .no, .no] _
    rw [← rx_l_between_2]
    walk_at "z"
    refine ⟨ys, by have := intsOf_map (fun y : Int => y) ys; rw [List.map_id'] at this; exact this, ?_⟩
    obtain ⟨sm0, sm1, sm2⟩ := sum_bd ys q3
    -- from the weights on
    have tail : ∀ (zs : List Int) (W : Int), zs.length = ps.length → (∀ z ∈ zs, 0 ≤ z ∧ z ≤ W) → 0 < W → W ≤ 9000 → zs.sum = W →
        rd_l_between_5 [.io 0 (dT t), .fz (.lst (ps.map dpt)), .ow 1 (.lst (zs.map D.int)), .fz (.int W), .no, .no, .no] (endsOf [true, false] R) := by
      intro zs W hz hzb hW hW2 hs
      rw [← rx_l_between_5]
      walk_at "z"
      refine lit7 rfl ?_
      show rd_l_between_6 [.io 0 (dT t), .fz (.lst (ps.map dpt)), .ow 1 (.lst (zs.map D.int)), .fz (.int W), .fz (dpt (0, 0)), .no, .no] _
      rw [← rx_l_between_6]
      walk_at "zz"
      show forL _ _ (List.zipWith (fun x y => D.tup [x, y]) (ps.map dpt) (zs.map D.int)) _ _
      rw [zip_dpi]
      have wd : ∀ z ∈ zs, wt (Rat.divInt z W) ≤ 14 := fun z hz => by
        have := divInt_wt z W (by omega)
        have h1 := hzb z hz
        have b1 : bl z.natAbs ≤ 14 := bl_small (by omega)
        have b2 : bl W.natAbs ≤ 14 := bl_small (by omega)
        omega
      have z0 : smallP (1 + 0 * (c + 20)) (0, 0) := by
        have e : wt (0 : Rat) = 1 := by decide
        constructor <;> (show wt (0 : Rat) ≤ _; omega)
      refine forL_fold (g := fun e : P2 × Int => D.tup [dpt e.1, .int e.2]) (st := fun f : P2 => [.io 0 (dT t), .fz (.lst (ps.map dpt)), .fz (.lst (zs.map D.int)), .fz (.int W), .fz (dpt f), .no, .no]) (f := fun f e => ad f (sc e.1 (Rat.divInt e.2 W)))
        (P := fun f es => (∃ m, smallP (1 + m * (c + 20)) f ∧ m + es.length ≤ ps.length) ∧ ∀ e ∈ es, smallP c e.1 ∧ e.2 ∈ zs) (fun f e es N hP hN => ?_) (ps.zip zs) (0, 0) ⟨⟨0, z0, by rw [List.length_zip]; omega⟩, fun e he => ⟨h2 _ (List.of_mem_zip he).1, (List.of_mem_zip he).2⟩⟩ (fun hP => ?_)
      · obtain ⟨⟨m, p1, p2⟩, p3⟩ := hP
        obtain ⟨r1, r2⟩ := p3 e (by simp)
        have zb := hzb e.2 r2
        have wz := wd e.2 r2
        rw [List.length_cons] at p2
        have mb : m * (c + 20) ≤ 1000 * 10020 := Nat.mul_le_mul (by omega) (by omega)
        have hN := hN ⟨⟨m + 1, (p1.ad (r1.sc wz)).le (by rw [Nat.succ_mul]; omega), by omega⟩, fun x hx => p3 x (List.mem_cons_of_mem _ hx)⟩
        walk_at "z"
        refine lit7 rfl ?_
        rw [← rx_l_between_7]
        walk_at "z"
        refine sp_l_part.mk (by omega) (by have : bl e.2.natAbs ≤ 14 := bl_small (by omega); omega) (by have : bl W.natAbs ≤ 14 := bl_small (by omega); omega) ?_
        walk_at "z"
        refine sp_scaled.pt (p := e.1) (c := Rat.divInt e.2 W) (r1.le (by omega)) (by omega) ?_
        walk_at "z"
        refine sp_added.pt (p := f) (q := sc e.1 (Rat.divInt e.2 W)) (p1.le (by omega)) ((r1.sc wz).le (by omega)) ?_
        walk_at "z"
        exact hN
      · rw [← rx_l_between_8]
        walk_at "z"
        have ef : (ps.zip zs).foldl (fun f e => ad f (sc e.1 (Rat.divInt e.2 W))) (0, 0) = comb ps (zs.map fun z => Rat.divInt z W) := by
          have k := fold_comb ps (zs.map fun z => Rat.divInt z W) (0, 0)
          rw [List.zip_map_right, List.foldl_map] at k
          have e0 : ad (0, 0) (comb ps (zs.map fun z => Rat.divInt z W)) = comb ps (zs.map fun z => Rat.divInt z W) := by unfold ad; ext <;> grind
          rw [e0] at k
          exact k
        rw [ef] at hP ⊢
        obtain ⟨⟨m, p1, p2⟩, _⟩ := hP
        refine h _ t ⟨zs.map fun z => Rat.divInt z W, by rw [List.length_map, hz], fun w hw => ?_, ?_, rfl⟩ (p1.le ?_) q1
        · obtain ⟨z, hz', rfl⟩ := List.mem_map.mp hw
          exact Rat.divInt_nonneg (hzb z hz').1 (by omega)
        · rw [divs_sum W hW, hs, Rat.divInt_self' (by omega)]
        · have : m * (c + 20) ≤ ps.length * (c + 20) := Nat.mul_le_mul_right _ (by simp at p2; omega)
          omega
    walk_at "z"
    show rd_l_between_3 [.io 0 (dT t), .fz (.lst (ps.map dpt)), .ow 1 (.lst (ys.map D.int)), .fz (.int ys.sum), .no, .no, .no] _
    rw [← rx_l_between_3]
    walk_at "z"
    rw [eqb_int]
    have lenp : 0 < ps.length := List.length_pos_iff.mpr h0
    refine ⟨fun c0 => ?_, fun c0 => ?_⟩
    · have c0 := of_decide_eq_true c0
      walk_at "z"
      refine ⟨0, ixN_zero (by rw [List.length_map]; omega), ?_⟩
      cases ys with
      | nil => simp at q2; omega
      | cons y r =>
        obtain ⟨u0, u1, u2⟩ := sum_bd r fun z hz => q3 z (List.mem_cons_of_mem _ hz)
        have y0 := q3 y (by simp)
        rw [List.sum_cons] at c0
        walk_at "z"
        refine tail (1 :: r) 1 q2 (fun z hz => ?_) (by decide) (by decide) (by rw [List.sum_cons]; omega)
        rcases List.mem_cons.mp hz with rfl | hz
        · omega
        · have := u2 z hz
          have := (q3 z (List.mem_cons_of_mem _ hz)).1
          omega
    · have c0 := of_decide_eq_false c0
      walk_at "z"
      have : (ys.length : Int) * 9 ≤ 9000 := by omega
      exact tail ys ys.sum q2 (fun z hz => ⟨(q3 z hz).1, sm2 z hz⟩) (by omega) (by omega) rfl
end VL


set_option maxHeartbeats 2000000
set_option pp.maxSteps 250
namespace VL
open PySem PySem.Spec PyProof.Rows L2
local macro_rules | `(tactic| walk_at "n") => `(tactic| refine ⟨fun h => Bool.noConfusion (show false = true from h), fun _ => ?_⟩)
local macro_rules | `(tactic| walk_at "ty") => `(tactic| refine ⟨_, rfl, by decide, ?_⟩)
local macro_rules | `(tactic| walk_at "tys") => `(tactic| refine ⟨_, rfl, _, rfl, by decide, ?_⟩)
local macro_rules | `(tactic| walk_at "v") => `(tactic| repeat (first | refine ⟨rfl, ?_⟩ | refine ⟨_, rfl, ?_⟩))
local macro_rules | `(tactic| walk_at "y") => `(tactic| refine ⟨fun _ => ?_, fun h => Bool.noConfusion (show true = false from h)⟩)
local macro_rules | `(tactic| walk_at "z") => `(tactic| repeat (first | refine ⟨rfl, ?_⟩ | refine ⟨_, rfl, ?_⟩ | refine ⟨fun _ => ?_, fun h => Bool.noConfusion (show true = false from h)⟩ | refine ⟨fun h => Bool.noConfusion (show false = true from h), fun _ => ?_⟩ | refine ⟨tyIn rfl, ?_⟩ | refine ⟨tysIn rfl, ?_⟩ | refine ⟨smallL rfl, ?_⟩ | refine ⟨smallE rfl, ?_⟩))
local macro_rules | `(tactic| walk_at "zz") => `(tactic| repeat ((fail_if_success show forL _ _ _ _ _); first | refine ⟨rfl, ?_⟩ | refine ⟨_, rfl, ?_⟩ | refine ⟨fun _ => ?_, fun h => Bool.noConfusion (show true = false from h)⟩ | refine ⟨fun h => Bool.noConfusion (show false = true from h), fun _ => ?_⟩ | refine ⟨tyIn rfl, ?_⟩ | refine ⟨tysIn rfl, ?_⟩ | refine ⟨smallL rfl, ?_⟩ | refine ⟨smallE rfl, ?_⟩))
/-! ### fences -/
def vecs (L : List P2) : List P2 := (edL L).map fun e => sb e.2 e.1
def edgesP (L : List P2) : List P2 := if L.length = 1 then [] else vecs L
def rt90 (e : P2) : P2 := (e.2, -e.1)
def fpr (L : List P2) : List P2 := match L with
  | [_] => [(1, 0), (0, 1), (-1, 0), (0, -1)]
  | [a, b] => (vecs [a, b]).map rt90 ++ [sb b a, sb a b]
  | L => (vecs L).map rt90
def mxQ (pr : P2) (f : Rat) (c : P2) : Rat := if f < dot2 pr c then dot2 pr c else f
def htQ (pr : P2) : List P2 → Rat
  | [] => 0
  | c :: cs => cs.foldl (mxQ pr) (dot2 pr c)
def fenB (L : List P2) (p : P2) : Bool := (fpr L).all fun pr => decide (dot2 pr p ≤ htQ pr L)
theorem mx_fold (pr : P2) : ∀ (cs : List P2) (f : Rat), f ≤ cs.foldl (mxQ pr) f ∧ (∀ c ∈ cs, dot2 pr c ≤ cs.foldl (mxQ pr) f) ∧ (cs.foldl (mxQ pr) f = f ∨ ∃ c ∈ cs, cs.foldl (mxQ pr) f = dot2 pr c)
  | [], f => ⟨Rat.le_refl, fun _ h => absurd h List.not_mem_nil, .inl rfl⟩
  | c :: cs, f => by
    obtain ⟨h1, h2, h3⟩ := mx_fold pr cs (mxQ pr f c)
    rw [List.foldl_cons]
    have m1 : f ≤ mxQ pr f c ∧ dot2 pr c ≤ mxQ pr f c := by unfold mxQ; split <;> grind
    refine ⟨by grind, fun d hd => ?_, ?_⟩
    · rcases List.mem_cons.mp hd with rfl | hd
      · grind
      · exact h2 d hd
    · rcases h3 with h3 | ⟨d, hd, h3⟩
      · rw [h3]
        unfold mxQ
        split
        · exact .inr ⟨c, by simp, rfl⟩
        · exact .inl rfl
      · exact .inr ⟨d, List.mem_cons_of_mem _ hd, h3⟩
theorem ht_ge {pr : P2} {L : List P2} {c : P2} (h : c ∈ L) : dot2 pr c ≤ htQ pr L := by
  cases L with
  | nil => cases h
  | cons a L =>
    obtain ⟨h1, h2, _⟩ := mx_fold pr L (dot2 pr a)
    rcases List.mem_cons.mp h with rfl | h
    · exact h1
    · exact h2 c h
theorem ht_at {pr : P2} {L : List P2} (h : L ≠ []) : ∃ c ∈ L, htQ pr L = dot2 pr c := by
  cases L with
  | nil => exact absurd rfl h
  | cons a L =>
    obtain ⟨_, _, h3⟩ := mx_fold pr L (dot2 pr a)
    rcases h3 with h3 | ⟨c, hc, h3⟩
    · exact ⟨a, by simp, h3⟩
    · exact ⟨c, List.mem_cons_of_mem _ hc, h3⟩
theorem ht_eq {pr : P2} {L : List P2} {c : P2} (h : c ∈ L) (hm : ∀ d ∈ L, dot2 pr d ≤ dot2 pr c) : htQ pr L = dot2 pr c := by
  obtain ⟨d, hd, e⟩ := ht_at (pr := pr) (L := L) (by intro z; rw [z] at h; cases h)
  have := ht_ge (pr := pr) h
  have := hm d hd
  grind
theorem rt_crs (x y p : P2) : dot2 (rt90 (sb y x)) p = dot2 (rt90 (sb y x)) x - crs x y p := by unfold dot2 rt90 sb crs; grind
theorem fig_edge {pts L : List P2} (hL : Fig pts L) {x y : P2} (h : (x, y) ∈ edL L) (h2 : 2 ≤ L.length) : x ∈ L ∧ y ∈ L ∧ Edge L x y := by
  obtain ⟨a, t, rfl, ha, at', et⟩ := hL.ex
  have t0 : t ≠ [] := by intro z; rw [z] at h2; exact absurd h2 (by simp)
  have hn := edL_nx.mp h
  have hm := nx_mem hn
  have mem : ∀ z, z ∈ a :: t ++ [a] → z ∈ a :: t := fun z hz => by
    rcases List.mem_append.mp hz with q | q
    · exact q
    · rw [List.mem_singleton.mp q]; simp
  exact ⟨mem x hm.1, mem y hm.2, edge_set hL.sub (et t0 x y hn)⟩
theorem ht_edge {pts L : List P2} (hL : Fig pts L) {x y : P2} (h : (x, y) ∈ edL L) (h2 : 2 ≤ L.length) : htQ (rt90 (sb y x)) L = dot2 (rt90 (sb y x)) x := by
  obtain ⟨hx, hy, he⟩ := fig_edge hL h h2
  refine ht_eq hx fun d hd => ?_
  rw [rt_crs]
  rcases he.lf d hd with k | k
  · grind
  · rw [onto_crs k]; grind
theorem all_vecs {pts L : List P2} (hL : Fig pts L) (h2 : 2 ≤ L.length) (p : P2) : (((vecs L).map rt90).all fun pr => decide (dot2 pr p ≤ htQ pr L)) = (edL L).all fun e => decide (0 ≤ crs e.1 e.2 p) := by
  unfold vecs
  rw [List.map_map, List.all_map, Bool.eq_iff_iff, List.all_eq_true, List.all_eq_true]
  have key : ∀ e ∈ edL L, (decide (dot2 (rt90 (sb e.2 e.1)) p ≤ htQ (rt90 (sb e.2 e.1)) L) = true ↔ decide (0 ≤ crs e.1 e.2 p) = true) := fun e he => by
    rw [decide_eq_true_iff, decide_eq_true_iff, ht_edge hL he h2, rt_crs]
    grind
  exact ⟨fun h e he => (key e he).mp (h e he), fun h e he => (key e he).mpr (h e he)⟩
theorem fen_has {pts L : List P2} (hL : Fig pts L) (p : P2) : fenB L p = hasB L p := by
  match L, hL with
  | [], hL => exact absurd rfl hL.ne
  | [a], hL =>
    show (decide (dot2 (1, 0) p ≤ dot2 (1, 0) a) && (decide (dot2 (0, 1) p ≤ dot2 (0, 1) a) && (decide (dot2 (-1, 0) p ≤ dot2 (-1, 0) a) && (decide (dot2 (0, -1) p ≤ dot2 (0, -1) a) && true)))) = decide (a = p)
    rw [Bool.eq_iff_iff]
    simp only [Bool.and_eq_true, decide_eq_true_eq, Bool.and_true]
    unfold dot2
    constructor
    · rintro ⟨h1, h2, h3, h4⟩
      exact Prod.ext (by grind) (by grind)
    · rintro rfl
      exact ⟨Rat.le_refl, Rat.le_refl, Rat.le_refl, Rat.le_refl⟩
  | [a, b], hL =>
    have hv := all_vecs hL (by simp) p
    show (((vecs [a, b]).map rt90 ++ [sb b a, sb a b]).all fun pr => decide (dot2 pr p ≤ htQ pr [a, b])) = ((edL [a, b]).all (fun e => decide (0 ≤ crs e.1 e.2 p)) && (false || (decide (0 ≤ dot2 (sb b a) (sb p a)) && decide (dot2 (sb b a) (sb p a) ≤ dot2 (sb b a) (sb b a)))))
    rw [List.all_append, hv, Bool.false_or]
    congr 1
    have sq : 0 ≤ dot2 (sb b a) (sb b a) := by
      unfold dot2
      have s1 := sq_nn (sb b a).1
      have s2 := sq_nn (sb b a).2
      grind
    have m1 : htQ (sb b a) [a, b] = dot2 (sb b a) b := ht_eq (by simp) fun d hd => by
      simp only [List.mem_cons, List.not_mem_nil, or_false] at hd
      rcases hd with rfl | rfl
      · unfold dot2 sb at sq ⊢; dsimp only at sq ⊢; grind
      · exact Rat.le_refl
    have m2 : htQ (sb a b) [a, b] = dot2 (sb a b) a := ht_eq (by simp) fun d hd => by
      simp only [List.mem_cons, List.not_mem_nil, or_false] at hd
      rcases hd with rfl | rfl
      · exact Rat.le_refl
      · unfold dot2 sb at sq ⊢; dsimp only at sq ⊢; grind
    show (decide (dot2 (sb b a) p ≤ htQ (sb b a) [a, b]) && (decide (dot2 (sb a b) p ≤ htQ (sb a b) [a, b]) && true)) = _
    rw [m1, m2, Bool.and_true, Bool.and_comm]
    congr 1
    · rw [decide_eq_decide]
      unfold dot2 sb
      dsimp only
      constructor <;> intro h <;> grind
    · rw [decide_eq_decide]
      unfold dot2 sb
      dsimp only
      constructor <;> intro h <;> grind
  | a :: b :: c :: r, hL =>
    have hv := all_vecs hL (by simp) p
    show (((vecs (a :: b :: c :: r)).map rt90).all fun pr => decide (dot2 pr p ≤ htQ pr (a :: b :: c :: r))) = ((edL (a :: b :: c :: r)).all (fun e => decide (0 ≤ crs e.1 e.2 p)) && true)
    rw [hv, Bool.and_true]
@[irreducible] def sp_edges : ASp := fun ds R => ∃ L : List P2, ds = [.lst (L.map dpt)] ∧ L ≠ [] ∧ L.length ≤ 40000 ∧ (∀ c ∈ L, smallP 10000000 c) ∧ R (.lst ((edgesP L).map dpt)) 1 []
theorem sp_edges.mk {L : List P2} {R : RR} (h0 : L ≠ []) (h1 : L.length ≤ 40000) (h2 : ∀ c ∈ L, smallP 10000000 c) (h : R (.lst ((edgesP L).map dpt)) 1 []) : sp_edges [.lst (L.map dpt)] R := by unfold sp_edges; exact ⟨L, rfl, h0, h1, h2, h⟩
@[irreducible] def sp_height_in : ASp := fun ds R => ∃ (L : List P2) (pr : P2), ds = [.lst (L.map dpt), dpt pr] ∧ L ≠ [] ∧ (∀ c ∈ L, smallP 50000 c) ∧ smallP 50000 pr ∧ R (dq (htQ pr L)) 0 []
theorem sp_height_in.mk {L : List P2} {pr : P2} {R : RR} (h0 : L ≠ []) (h1 : ∀ c ∈ L, smallP 50000 c) (h2 : smallP 50000 pr) (h : R (dq (htQ pr L)) 0 []) : sp_height_in [.lst (L.map dpt), dpt pr] R := by unfold sp_height_in; exact ⟨L, pr, rfl, h0, h1, h2, h⟩
@[irreducible] def sp_fence_prices : ASp := fun ds R => ∃ L : List P2, ds = [.lst (L.map dpt)] ∧ L ≠ [] ∧ L.length ≤ 40000 ∧ (∀ c ∈ L, smallP 10000000 c) ∧ R (.lst ((fpr L).map dpt)) 1 []
theorem sp_fence_prices.mk {L : List P2} {R : RR} (h0 : L ≠ []) (h1 : L.length ≤ 40000) (h2 : ∀ c ∈ L, smallP 10000000 c) (h : R (.lst ((fpr L).map dpt)) 1 []) : sp_fence_prices [.lst (L.map dpt)] R := by unfold sp_fence_prices; exact ⟨L, rfl, h0, h1, h2, h⟩
def dFe (L : List P2) (pr : P2) : D := .tup [dpt pr, dq (htQ pr L)]
@[irreducible] def sp_fence : ASp := fun ds R => ∃ L : List P2, ds = [.lst (L.map dpt)] ∧ L ≠ [] ∧ L.length ≤ 40000 ∧ (∀ c ∈ L, smallP 20000 c) ∧ R (.lst ((fpr L).map (dFe L))) 1 []
theorem sp_fence.mk {L : List P2} {R : RR} (h0 : L ≠ []) (h1 : L.length ≤ 40000) (h2 : ∀ c ∈ L, smallP 20000 c) (h : R (.lst ((fpr L).map (dFe L))) 1 []) : sp_fence [.lst (L.map dpt)] R := by unfold sp_fence; exact ⟨L, rfl, h0, h1, h2, h⟩
@[irreducible] def sp_has_point : ASp := fun ds R => ∃ (L : List P2) (p : P2), ds = [.lst (L.map dpt), dpt p] ∧ L ≠ [] ∧ L.length ≤ 40000 ∧ (∀ c ∈ L, smallP 20000 c) ∧ smallP 20000 p ∧ R (.bl (fenB L p)) 0 []
theorem sp_has_point.mk {L : List P2} {p : P2} {R : RR} (h0 : L ≠ []) (h1 : L.length ≤ 40000) (h2 : ∀ c ∈ L, smallP 20000 c) (h3 : smallP 20000 p) (h : R (.bl (fenB L p)) 0 []) : sp_has_point [.lst (L.map dpt), dpt p] R := by unfold sp_has_point; exact ⟨L, p, rfl, h0, h1, h2, h3, h⟩
def rd_edges : RS := (rSeq (rIf (rTb (rOp2 gEq (roE (rCB gLen (raCons (roV 0) raNil))) (roE (rC (.int 1))))) (rRet (rLst1 rfNil)) rNext)
  (rRet (rLc [1, 2] (riZipA (rfCons (rVar 0) (rfCons (rOp2 gAddA (roE (rSlA2 (roV 0) (rpSome (rC (.int 1))) rpNone)) (roE (rSlA2 (roV 0) rpNone (rpSome (rC (.int 1)))))) rfNil))) (rgTup 2 (rgCons (rgName 1) (rgCons (rgName 2) rgNil))) rYes (rCall [false, false] sp_added (rgAv (rVar 2) (rgAv (rCall [false, false] sp_scaled (rgAv (rVar 1) (rgAv (rTup1 (rfCons (rNeg (rC (.int 1))) (rfCons (rC (.int 1)) rfNil))) rgA0))) rgA0))))))
def rb_height_in_4 : RS := (rSet 2 (rIfE (rTb (rCall [false, false] sp_is_less (rgAv (rVar 2) (rgAv (rVar 4) rgA0)))) (rVar 4) (rVar 2)))
@[irreducible] def rd_height_in_4 : RS := rb_height_in_4
theorem rx_height_in_4 : rb_height_in_4 = rd_height_in_4 := by unfold rd_height_in_4; rfl
def rb_height_in_3 : RS := (rSeq (rSet 4 (rCall [false, false] sp_priced (rgAv (rVar 1) (rgAv (rVar 3) rgA0))))
  rd_height_in_4)
@[irreducible] def rd_height_in_3 : RS := rb_height_in_3
theorem rx_height_in_3 : rb_height_in_3 = rd_height_in_3 := by unfold rd_height_in_3; rfl
def rb_height_in_5 : RS := (rRet (rMove 2))
@[irreducible] def rd_height_in_5 : RS := rb_height_in_5
theorem rx_height_in_5 : rb_height_in_5 = rd_height_in_5 := by unfold rd_height_in_5; rfl
def rb_height_in_2 : RS := (rSeq (rFor (rIW [3, 4] (riSeq (rSlA2 (roV 0) (rpSome (rC (.int 1))) rpNone))) (rgName 3) (rBW [3, 4] rd_height_in_3))
  rd_height_in_5)
@[irreducible] def rd_height_in_2 : RS := rb_height_in_2
theorem rx_height_in_2 : rb_height_in_2 = rd_height_in_2 := by unfold rd_height_in_2; rfl
def rd_height_in : RS := (rSeq (rSet 2 (rCall [false, false] sp_priced (rgAv (rVar 1) (rgAv (rOp2 gIx (roV 0) (roE (rC (.int 0)))) rgA0))))
  rd_height_in_2)
def rd_fence_prices : RS := (rSeq (rIf (rTb (rOp2 gEq (roE (rCB gLen (raCons (roV 0) raNil))) (roE (rC (.int 1))))) (rRet (rLst1 (rfCons (rTup1 (rfCons (rC k_ONE) (rfCons (rC k_ZERO) rfNil))) (rfCons (rTup1 (rfCons (rC k_ZERO) (rfCons (rC k_ONE) rfNil))) (rfCons (rTup1 (rfCons (rTup1 (rfCons (rNeg (rC (.int 1))) (rfCons (rC (.int 1)) rfNil))) (rfCons (rC k_ZERO) rfNil))) (rfCons (rTup1 (rfCons (rC k_ZERO) (rfCons (rTup1 (rfCons (rNeg (rC (.int 1))) (rfCons (rC (.int 1)) rfNil))) rfNil))) rfNil)))))) rNext)
  (rSeq (rSet 1 (rLc [3] (riSeq (rCall [false] sp_edges (rgAv (rVar 0) rgA0))) (rgName 3) rYes (rTup1 (rfCons (rOp2 gIx (roV 3) (roE (rC (.int 1)))) (rfCons (rCall [false, false] sp_times (rgAv (rTup1 (rfCons (rNeg (rC (.int 1))) (rfCons (rC (.int 1)) rfNil))) (rgAv (rOp2 gIx (roV 3) (roE (rC (.int 0)))) rgA0))) rfNil)))))
  (rSeq (rIf (rTb (rOp2 gGtI (roE (rCB gLen (raCons (roV 0) raNil))) (roE (rC (.int 2))))) (rRet (rMove 1)) rNext)
  (rSeq (rSet 2 (rOp2 gIx (roE (rCall [false] sp_edges (rgAv (rVar 0) rgA0))) (roE (rC (.int 0)))))
  (rRet (rOp2 gAddA (roV 1) (roE (rLst1 (rfCons (rVar 2) (rfCons (rCall [false, false] sp_scaled (rgAv (rVar 2) (rgAv (rTup1 (rfCons (rNeg (rC (.int 1))) (rfCons (rC (.int 1)) rfNil))) rgA0))) rfNil))))))))))
def rd_fence : RS := (rRet (rLc [1] (riSeq (rCall [false] sp_fence_prices (rgAv (rVar 0) rgA0))) (rgName 1) rYes (rTup1 (rfCons (rVar 1) (rfCons (rCall [false, false] sp_height_in (rgAv (rVar 0) (rgAv (rVar 1) rgA0))) rfNil)))))
def rd_has_point : RS := (rRet (rNotV (rCB (gBls fun l => l.any id) (raCons (roE (rLc [2, 3] (riSeq (rCall [false] sp_fence (rgAv (rVar 0) rgA0))) (rgTup 2 (rgCons (rgName 2) (rgCons (rgName 3) rgNil))) rYes (rCall [false, false] sp_is_less (rgAv (rVar 3) (rgAv (rCall [false, false] sp_priced (rgAv (rVar 2) (rgAv (rVar 1) rgA0))) rgA0))))) raNil))))
theorem edL_mem {L : List P2} {e : P2 × P2} (h : e ∈ edL L) : e.1 ∈ L ∧ e.2 ∈ L := by
  have h1 := (List.of_mem_zip h).1
  have h2 := (List.of_mem_zip h).2
  refine ⟨h1, ?_⟩
  rcases List.mem_append.mp h2 with q | q
  · exact List.mem_of_mem_drop q
  · exact List.mem_of_mem_take q
theorem edL_len (L : List P2) : (edL L).length = L.length := by
  unfold edL
  rw [List.length_zip, List.length_append, List.length_drop, List.length_take]
  omega
theorem cut_zip {L : List P2} (h0 : L ≠ []) : List.zipWith (fun x y => D.tup [x, y]) (L.map dpt) (cutL (L.map dpt) (some 1) none ++ cutL (L.map dpt) none (some 1)) = (edL L).map fun e => D.tup [dpt e.1, dpt e.2] := by
  cases L with
  | nil => exact absurd rfl h0
  | cons a t =>
    have ec : cutL ((a :: t).map dpt) (some 1) none ++ cutL ((a :: t).map dpt) none (some 1) = (t ++ [a]).map dpt := by
      rw [List.map_cons, cut_from1, cut_first]; simp
    rw [ec, zip_map2]
    rfl
theorem cut_lenP {L : List P2} (h0 : L ≠ []) (h1 : L.length ≤ 40000) : (cutL (L.map dpt) (some 1) none).length + (cutL (L.map dpt) none (some 1)).length ≤ sizeLine := by
  cases L with
  | nil => exact absurd rfl h0
  | cons a t =>
    rw [List.map_cons, cut_from1, cut_first, List.length_map]
    refine Nat.le_of_lt (small6 ?_)
    rw [List.length_cons] at h1
    show t.length + 1 ≤ _
    omega
theorem neg_eq (y x : P2) : ad y (sc x (-1)) = sb y x := by unfold ad sc sb; ext <;> grind
theorem dq_m1 : D.tup [D.int (-1), D.int 1] = dq (-1) := rfl
theorem rp_edges (ds : List D) (R : RR) (hl : ds.length = 1) (h : sp_edges ds R) : rd_edges (rho0 [false] 0 ds ++ List.replicate (3 - 1) .no) (endsOf [false] R) := by
  unfold sp_edges at h
  obtain ⟨L, rfl, h0, h1, h2, h⟩ := h
  walk_at "z"
  show way (eqb (.int ((L.map dpt).length : Nat)) (.int 1)) _ _
  rw [eqb_int, List.length_map]
  refine ⟨fun c => ?_, fun c => ?_⟩
  · have c := of_decide_eq_true c
    have e : edgesP L = [] := if_pos (by omega)
    rw [e] at h
    walk_at "z"
    exact h
  · have c := of_decide_eq_false c
    have e : edgesP L = vecs L := if_neg (by omega)
    rw [e] at h
    walk_at "z"
    refine ⟨cut_lenP h0 h1, ?_⟩
    walk_at "z"
    show lcL _ _ _ _ (List.zipWith (fun x y => D.tup [x, y]) (L.map dpt) (cutL (L.map dpt) (some 1) none ++ cutL (L.map dpt) none (some 1))) _ _ _
    rw [cut_zip h0]
    refine lcL_map' (g := fun e : P2 × P2 => D.tup [dpt e.1, dpt e.2]) (f := fun e => dpt (sb e.2 e.1)) (xs := edL L) (ρw := [.fz (.lst (L.map dpt)), .no, .no]) (by rw [edL_len]; omega) (fun e he n P N hn hP => ?_) rfl fun ρ' hρ => ?_
    · obtain ⟨m1, m2⟩ := edL_mem he
      have s1 := h2 _ m1
      have s2 := h2 _ m2
      walk_at "z"
      rw [dq_m1]
      refine sp_scaled.pt (p := e.1) (c := -1) (s1.le (by decide)) (by decide) ?_
      walk_at "z"
      refine sp_added.pt (p := e.2) (q := sc e.1 (-1)) (s2.le (by decide)) ((s1.sc (show wt (-1 : Rat) ≤ 1 by decide)).le (by decide)) ?_
      rw [neg_eq]
      walk_at "z"
      exact ⟨hn, hP _ rfl⟩
    · rw [restE_wipe, hρ]
      have : (edL L).map (fun e => dpt (sb e.2 e.1)) = (vecs L).map dpt := by unfold vecs; rw [List.map_map]; rfl
      rw [this]
      exact ⟨_, rfl, h⟩
theorem rp_height_in (ds : List D) (R : RR) (hl : ds.length = 2) (h : sp_height_in ds R) : rd_height_in (rho0 [false, false] 0 ds ++ List.replicate (5 - 2) .no) (endsOf [false, false] R) := by
  unfold sp_height_in at h
  obtain ⟨L, pr, rfl, h0, h1, h2, h⟩ := h
  obtain ⟨a, t, rfl⟩ : ∃ a t, L = a :: t := by cases L with
    | nil => exact absurd rfl h0
    | cons a t => exact ⟨a, t, rfl⟩
  walk_at "z"
  refine ⟨dpt a, atI_nat (j := 0) rfl, ?_⟩
  walk_at "z"
  refine sp_priced.pt (p := pr) (q := a) (h2.le (by decide)) ((h1 a (by simp)).le (by decide)) ?_
  walk_at "z"
  refine lit5 rfl ?_
  rw [← rx_height_in_2]
  walk_at "zz"
  rw [List.map_cons, cut_from1]
  walk_at "zz"
  have wm : ∀ c ∈ a :: t, wt (dot2 pr c) ≤ 200001 := fun c hc => wt_dot2 h2 (h1 c hc)
  refine forL_fold (g := dpt) (st := fun f : Rat => [.fz (.lst (dpt a :: t.map dpt)), .fz (dpt pr), .fz (dq f), .no, .no]) (f := mxQ pr) (P := fun f zs => wt f ≤ 200001 ∧ ∀ c ∈ zs, c ∈ a :: t) (fun f c zs N hP hN => ?_) t _ ⟨wm a (by simp), fun c hc => List.mem_cons_of_mem _ hc⟩ (fun _ => ?_)
  · obtain ⟨p1, p2⟩ := hP
    have hc := p2 c (by simp)
    have wc := wm c hc
    have hN := hN ⟨by unfold mxQ; split <;> omega, fun x hx => p2 x (List.mem_cons_of_mem _ hx)⟩
    walk_at "z"
    refine lit5 rfl ?_
    rw [← rx_height_in_3]
    walk_at "z"
    refine sp_priced.pt (p := pr) (q := c) (h2.le (by decide)) ((h1 c hc).le (by decide)) ?_
    walk_at "z"
    refine lit5 rfl ?_
    rw [← rx_height_in_4]
    walk_at "z"
    refine sp_is_less.mk (by omega) ?_
    walk_at "z"
    unfold mxQ at hN
    refine ⟨fun k => ?_, fun k => ?_⟩
    · rw [if_pos (of_decide_eq_true k)] at hN
      walk_at "z"
      exact hN
    · rw [if_neg (of_decide_eq_false k)] at hN
      walk_at "z"
      exact hN
  · rw [← rx_height_in_5]
    walk_at "z"
    exact h
theorem vecs_two (a b : P2) : vecs [a, b] = [sb b a, sb a b] := rfl
theorem rt_eq (e : P2) : D.tup [dq e.2, dq ((-1) * e.1)] = dpt (rt90 e) := by
  have : (-1) * e.1 = -e.1 := by grind
  rw [this]; rfl
theorem rp_fence_prices (ds : List D) (R : RR) (hl : ds.length = 1) (h : sp_fence_prices ds R) : rd_fence_prices (rho0 [false] 0 ds ++ List.replicate (4 - 1) .no) (endsOf [false] R) := by
  unfold sp_fence_prices at h
  obtain ⟨L, rfl, h0, h1, h2, h⟩ := h
  walk_at "z"
  show way (eqb (.int ((L.map dpt).length : Nat)) (.int 1)) _ _
  rw [eqb_int, List.length_map]
  refine ⟨fun c => ?_, fun c => ?_⟩
  · have c := of_decide_eq_true c
    obtain ⟨a, rfl⟩ := List.length_eq_one_iff.mp (show L.length = 1 by omega)
    walk_at "z"
    exact h
  · have c := of_decide_eq_false c
    have e : edgesP L = vecs L := if_neg (by omega)
    have vl : (vecs L).length = L.length := by unfold vecs; rw [List.length_map, edL_len]
    have vs : ∀ v ∈ vecs L, smallP 20000001 v := fun v hv => by
      obtain ⟨e, he, rfl⟩ := List.mem_map.mp hv
      obtain ⟨m1, m2⟩ := edL_mem he
      exact ((h2 _ m2).sb (h2 _ m1)).le (by decide)
    walk_at "z"
    refine sp_edges.mk h0 h1 h2 ?_
    rw [e]
    walk_at "z"
    refine lcL_map' (g := dpt) (f := fun e => dpt (rt90 e)) (xs := vecs L) (ρw := [.fz (.lst (L.map dpt)), .no, .no, .no]) (by rw [vl]; omega) (fun v hv n P N hn hP => ?_) rfl fun ρ' hρ => ?_
    · have sv := vs v hv
      unfold dpt dw
      walk_at "z"
      rw [dq_m1]
      refine sp_times.mk (p := -1) (q := v.1) (by have : wt (-1 : Rat) ≤ 1 := by decide
                                                  have := sv.1; omega) ?_
      walk_at "z"
      rw [rt_eq]
      exact ⟨hn, hP _ rfl⟩
    · rw [restE_wipe, hρ]
      have eV : (vecs L).map (fun e => dpt (rt90 e)) = ((vecs L).map rt90).map dpt := by rw [List.map_map]; rfl
      rw [eV]
      walk_at "z"
      refine ⟨fun k => ?_, fun k => ?_⟩
      · have k := of_decide_eq_true k
        rw [List.length_map] at k
        have ef : fpr L = (vecs L).map rt90 := by
          match L, k with
          | a :: b :: c :: r, _ => rfl
          | [a, b], k => simp at k
          | [a], k => simp at k
          | [], k => simp at k
        rw [ef] at h
        walk_at "z"
        exact h
      · have k := of_decide_eq_false k
        rw [List.length_map] at k
        have l2 : L.length = 2 := by
          have : L.length ≠ 0 := fun z => h0 (List.length_eq_zero_iff.mp z)
          omega
        obtain ⟨a, b, rfl⟩ : ∃ a b, L = [a, b] := by
          match L, l2 with
          | [a, b], _ => exact ⟨a, b, rfl⟩
        have sa := h2 a (by simp)
        have sb' := h2 b (by simp)
        walk_at "z"
        refine sp_edges.mk h0 h1 h2 ?_
        rw [e, vecs_two]
        walk_at "z"
        rw [dq_m1]
        refine sp_scaled.pt (p := sb b a) (c := -1) ((sb'.sb sa).le (by decide)) (by decide) ?_
        walk_at "z"
        have e2 : sc (sb b a) (-1) = sb a b := by unfold sc sb; ext <;> grind
        have h : R (.lst (((vecs [a, b]).map rt90 ++ [sb b a, sb a b]).map dpt)) 1 [] := h
        rw [List.map_append] at h
        rw [e2]
        exact h
theorem wt_neg (q : Rat) : wt (-q) = wt q := by
  unfold wt
  rw [show (-q).num = -q.num from rfl, show (-q).den = q.den from rfl, Int.natAbs_neg]
theorem fpr_small {c : Nat} {L : List P2} (h0 : L ≠ []) (h : ∀ x ∈ L, smallP c x) : ∀ pr ∈ fpr L, smallP (2 * c + 1) pr := by
  have w0 : wt (0 : Rat) = 1 := by decide
  have w1 : wt (1 : Rat) = 1 := by decide
  have w2 : wt (-1 : Rat) = 1 := by decide
  have vs : ∀ v ∈ vecs L, smallP (2 * c + 1) v := fun v hv => by
    obtain ⟨e, he, rfl⟩ := List.mem_map.mp hv
    obtain ⟨m1, m2⟩ := edL_mem he
    exact ((h _ m2).sb (h _ m1)).le (by omega)
  have rs : ∀ v ∈ (vecs L).map rt90, smallP (2 * c + 1) v := fun v hv => by
    obtain ⟨e, he, rfl⟩ := List.mem_map.mp hv
    obtain ⟨a, b⟩ := vs e he
    exact ⟨b, by show wt (-e.1) ≤ _; rw [wt_neg]; exact a⟩
  match L, h0 with
  | [a], _ =>
    intro pr hp
    have hp : pr ∈ [((1 : Rat), (0 : Rat)), (0, 1), (-1, 0), (0, -1)] := hp
    simp only [List.mem_cons, List.not_mem_nil, or_false] at hp
    rcases hp with rfl | rfl | rfl | rfl <;> exact ⟨by dsimp only; omega, by dsimp only; omega⟩
  | [a, b], _ =>
    intro pr hp
    rcases List.mem_append.mp (show pr ∈ (vecs [a, b]).map rt90 ++ [sb b a, sb a b] from hp) with hp | hp
    · exact rs pr hp
    · exact vs pr hp
  | a :: b :: c' :: r, _ => exact rs
theorem fpr_len {L : List P2} (h0 : L ≠ []) (h1 : L.length ≤ 40000) : (fpr L).length ≤ 80000 := by
  match L, h0 with
  | [a], _ => show 4 ≤ 80000; decide
  | [a, b], _ => show 4 ≤ 80000; decide
  | a :: b :: c :: r, _ =>
    show ((vecs (a :: b :: c :: r)).map rt90).length ≤ _
    unfold vecs
    rw [List.length_map, List.length_map, edL_len]
    omega
theorem wt_ht {c d : Nat} {pr : P2} {L : List P2} (h0 : L ≠ []) (h1 : smallP d pr) (h2 : ∀ x ∈ L, smallP c x) : wt (htQ pr L) ≤ 2 * (d + c) + 1 := by
  obtain ⟨x, hx, e⟩ := ht_at (pr := pr) h0
  rw [e]
  exact wt_dot2 h1 (h2 x hx)
theorem rp_fence (ds : List D) (R : RR) (hl : ds.length = 1) (h : sp_fence ds R) : rd_fence (rho0 [false] 0 ds ++ List.replicate (2 - 1) .no) (endsOf [false] R) := by
  unfold sp_fence at h
  obtain ⟨L, rfl, h0, h1, h2, h⟩ := h
  walk_at "z"
  refine sp_fence_prices.mk h0 h1 (fun c hc => (h2 c hc).le (by decide)) ?_
  walk_at "z"
  have fl := fpr_len h0 h1
  have fs := fpr_small h0 h2
  refine lcL_map' (g := dpt) (f := dFe L) (xs := fpr L) (ρw := [.fz (.lst (L.map dpt)), .no]) (by omega) (fun pr hpr n P N hn hP => ?_) rfl fun ρ' hρ => ?_
  · walk_at "z"
    refine sp_height_in.mk h0 (fun c hc => (h2 c hc).le (by decide)) ((fs pr hpr).le (by decide)) ?_
    walk_at "z"
    exact ⟨hn, hP _ rfl⟩
  · rw [restE_wipe, hρ]
    exact ⟨_, rfl, h⟩
theorem rp_has_point (ds : List D) (R : RR) (hl : ds.length = 2) (h : sp_has_point ds R) : rd_has_point (rho0 [false, false] 0 ds ++ List.replicate (4 - 2) .no) (endsOf [false, false] R) := by
  unfold sp_has_point at h
  obtain ⟨L, p, rfl, h0, h1, h2, h3, h⟩ := h
  walk_at "z"
  refine sp_fence.mk h0 h1 h2 ?_
  walk_at "z"
  have fl := fpr_len h0 h1
  have fs := fpr_small h0 h2
  refine lcL_map' (g := dFe L) (f := fun pr => D.bl (decide (htQ pr L < dot2 pr p))) (xs := fpr L) (ρw := [.fz (.lst (L.map dpt)), .fz (dpt p), .no, .no]) (by omega) (fun pr hpr n P N hn hP => ?_) rfl fun ρ' hρ => ?_
  · have s1 := fs pr hpr
    have w1 := wt_dot2 s1 h3
    have w2 := wt_ht (pr := pr) h0 s1 h2
    unfold dFe
    walk_at "z"
    refine sp_priced.pt (p := pr) (q := p) (s1.le (by decide)) (h3.le (by decide)) ?_
    walk_at "z"
    refine sp_is_less.mk (by omega) ?_
    walk_at "z"
    exact ⟨hn, hP _ rfl⟩
  · rw [restE_wipe, hρ]
    walk_at "z"
    refine ⟨_, blsOf_map (fun pr => decide (htQ pr L < dot2 pr p)) (fpr L), ?_⟩
    have e : (!(((fpr L).map fun pr => decide (htQ pr L < dot2 pr p)).any id)) = fenB L p := by
      unfold fenB
      induction fpr L with
      | nil => rfl
      | cons x xs ih =>
        rw [List.map_cons, List.any_cons, List.all_cons, Bool.not_or, ih]
        congr 1
        show (!decide (htQ x L < dot2 x p)) = decide (dot2 x p ≤ htQ x L)
        rw [Bool.eq_iff_iff, Bool.not_eq_true', decide_eq_false_iff_not, decide_eq_true_iff]
        exact Rat.not_lt
    rw [← e] at h
    exact ⟨_, rfl, h⟩
end VL

set_option maxHeartbeats 2000000
set_option pp.maxSteps 250
namespace VL
open PySem PySem.Spec PyProof.Rows L2
local macro_rules | `(tactic| walk_at "n") => `(tactic| refine ⟨fun h => Bool.noConfusion (show false = true from h), fun _ => ?_⟩)
local macro_rules | `(tactic| walk_at "ty") => `(tactic| refine ⟨_, rfl, by decide, ?_⟩)
local macro_rules | `(tactic| walk_at "tys") => `(tactic| refine ⟨_, rfl, _, rfl, by decide, ?_⟩)
local macro_rules | `(tactic| walk_at "v") => `(tactic| repeat (first | refine ⟨rfl, ?_⟩ | refine ⟨_, rfl, ?_⟩))
local macro_rules | `(tactic| walk_at "y") => `(tactic| refine ⟨fun _ => ?_, fun h => Bool.noConfusion (show true = false from h)⟩)
local macro_rules | `(tactic| walk_at "z") => `(tactic| repeat (first | refine ⟨rfl, ?_⟩ | refine ⟨_, rfl, ?_⟩ | refine ⟨fun _ => ?_, fun h => Bool.noConfusion (show true = false from h)⟩ | refine ⟨fun h => Bool.noConfusion (show false = true from h), fun _ => ?_⟩ | refine ⟨tyIn rfl, ?_⟩ | refine ⟨tysIn rfl, ?_⟩ | refine ⟨smallL rfl, ?_⟩ | refine ⟨smallE rfl, ?_⟩))
local macro_rules | `(tactic| walk_at "zz") => `(tactic| repeat ((fail_if_success show forL _ _ _ _ _); first | refine ⟨rfl, ?_⟩ | refine ⟨_, rfl, ?_⟩ | refine ⟨fun _ => ?_, fun h => Bool.noConfusion (show true = false from h)⟩ | refine ⟨fun h => Bool.noConfusion (show false = true from h), fun _ => ?_⟩ | refine ⟨tyIn rfl, ?_⟩ | refine ⟨tysIn rfl, ?_⟩ | refine ⟨smallL rfl, ?_⟩ | refine ⟨smallE rfl, ?_⟩))
/-! ### what the laws of figures share -/
theorem lst_ok {ps : List P2} : (D.lst (ps.map dpt)).ok 64 = true := by
  show (ps.map dpt).all (D.ok 63) = true
  rw [List.all_eq_true]
  intro d hd
  obtain ⟨p, _, rfl⟩ := List.mem_map.mp hd
  rfl
theorem pw_bd {c : Nat} {ps : List P2} (h : ∀ p ∈ ps, smallP c p) : pw ps ≤ ps.length * (2 * c + 1) := by
  induction ps with
  | nil => exact Nat.zero_le _
  | cons p ps ih =>
    have a := h p (by simp)
    have b := ih fun q hq => h q (List.mem_cons_of_mem _ hq)
    rw [pw_cons, List.length_cons, Nat.succ_mul]
    have := a.1
    have := a.2
    omega
end VL

set_option maxHeartbeats 2000000
set_option pp.maxSteps 250
namespace VL
open PySem PySem.Spec PyProof.Rows L2
local macro_rules | `(tactic| walk_at "n") => `(tactic| refine ⟨fun h => Bool.noConfusion (show false = true from h), fun _ => ?_⟩)
local macro_rules | `(tactic| walk_at "ty") => `(tactic| refine ⟨_, rfl, by decide, ?_⟩)
local macro_rules | `(tactic| walk_at "tys") => `(tactic| refine ⟨_, rfl, _, rfl, by decide, ?_⟩)
local macro_rules | `(tactic| walk_at "v") => `(tactic| repeat (first | refine ⟨rfl, ?_⟩ | refine ⟨_, rfl, ?_⟩))
local macro_rules | `(tactic| walk_at "y") => `(tactic| refine ⟨fun _ => ?_, fun h => Bool.noConfusion (show true = false from h)⟩)
local macro_rules | `(tactic| walk_at "z") => `(tactic| repeat (first | refine ⟨rfl, ?_⟩ | refine ⟨_, rfl, ?_⟩ | refine ⟨fun _ => ?_, fun h => Bool.noConfusion (show true = false from h)⟩ | refine ⟨fun h => Bool.noConfusion (show false = true from h), fun _ => ?_⟩ | refine ⟨tyIn rfl, ?_⟩ | refine ⟨tysIn rfl, ?_⟩ | refine ⟨smallL rfl, ?_⟩ | refine ⟨smallE rfl, ?_⟩))
local macro_rules | `(tactic| walk_at "zz") => `(tactic| repeat ((fail_if_success show forL _ _ _ _ _); first | refine ⟨rfl, ?_⟩ | refine ⟨_, rfl, ?_⟩ | refine ⟨fun _ => ?_, fun h => Bool.noConfusion (show true = false from h)⟩ | refine ⟨fun h => Bool.noConfusion (show false = true from h), fun _ => ?_⟩ | refine ⟨tyIn rfl, ?_⟩ | refine ⟨tysIn rfl, ?_⟩ | refine ⟨smallL rfl, ?_⟩ | refine ⟨smallE rfl, ?_⟩))
/-! ### figures or not -/
noncomputable def isFig (d : D) : Bool := @decide (∃ ps : List P2, d = .lst (ps.map dpt) ∧ Fig ps ps) (Classical.propDecidable _)
@[irreducible] def sp_is_figure : ASp := fun ds R => ∃ (d : D) (B m : Nat), ds = [d] ∧ B ≤ 700 ∧ d.dat B m ∧ R (.bl (isFig d)) 0 []
theorem sp_is_figure.mk {d : D} {R : RR} (B m : Nat) (hB : B ≤ 700) (hd : d.dat B m) (h : R (.bl (isFig d)) 0 []) : sp_is_figure [d] R := by unfold sp_is_figure; exact ⟨d, B, m, rfl, hB, hd, h⟩
@[irreducible] def sp_l_spoilt_47b0e8 : ASp := fun ds R => ∃ (t : Tp) (L : List P2) (n : Nat), ds = [dT t, .lst (L.map dpt)] ∧ L ≠ [] ∧ L.length ≤ 9 ∧ (∀ p ∈ L, smallP 50 p) ∧ t.ok (n + 30) ∧ ∀ (r : D) (k : Nat) (t' : Tp), r.dat 700 6 → r.sz ≤ 80000 → t'.ok n → R r k [dT t']
theorem sp_l_spoilt_47b0e8.mk {t : Tp} {L : List P2} {R : RR} (n : Nat) (h0 : L ≠ []) (h1 : L.length ≤ 9) (h2 : ∀ p ∈ L, smallP 50 p) (ht : t.ok (n + 30)) (h : ∀ (r : D) (k : Nat) (t' : Tp), r.dat 700 6 → r.sz ≤ 80000 → t'.ok n → R r k [dT t']) : sp_l_spoilt_47b0e8 [dT t, .lst (L.map dpt)] R := by unfold sp_l_spoilt_47b0e8; exact ⟨t, L, n, rfl, h0, h1, h2, ht, h⟩
theorem eqb_pts2 : ∀ ps qs : List P2, eqb (.lst (ps.map dpt)) (.lst (qs.map dpt)) = decide (ps = qs)
  | [], [] => rfl
  | [], _ :: _ => rfl
  | _ :: _, [] => rfl
  | p :: ps, q :: qs => by
    show (eqb (dpt p) (dpt q) && eqb (.lst (ps.map dpt)) (.lst (qs.map dpt))) = _
    rw [eqb_dpt, eqb_pts2 ps qs, Bool.eq_iff_iff, Bool.and_eq_true, decide_eq_true_iff, decide_eq_true_iff, decide_eq_true_iff]
    exact ⟨fun ⟨a, b⟩ => by rw [a, b], fun h => ⟨(List.cons.inj h).1, (List.cons.inj h).2⟩⟩
/-! ### figures spoilt -/
def PtL (n c : Nat) (ds : List D) : Prop := ds.length ≤ n ∧ ∀ d ∈ ds, ∃ p, d = dpt p ∧ smallP c p
theorem PtL.map {n c : Nat} {ps : List P2} (h1 : ps.length ≤ n) (h : ∀ p ∈ ps, smallP c p) : PtL n c (ps.map dpt) := ⟨by rw [List.length_map]; exact h1, fun d hd => by
  obtain ⟨p, hp, rfl⟩ := List.mem_map.mp hd
  exact ⟨p, rfl, h p hp⟩⟩
theorem PtL.le {n c n' c' : Nat} {ds : List D} (h : PtL n c ds) (h1 : n ≤ n') (h2 : c ≤ c') : PtL n' c' ds := ⟨Nat.le_trans h.1 h1, fun d hd => by
  obtain ⟨p, e, hp⟩ := h.2 d hd
  exact ⟨p, e, hp.le h2⟩⟩
theorem PtL.cut {n c : Nat} {ds : List D} (h : PtL n c ds) (a b : Option Int) : PtL n c (cutL ds a b) := ⟨Nat.le_trans (cut_len _ _ _) h.1, fun d hd => h.2 d (cut_mem hd)⟩
theorem PtL.app {n m c : Nat} {ds es : List D} (h : PtL n c ds) (k : PtL m c es) : PtL (n + m) c (ds ++ es) := ⟨by rw [List.length_append]; exact Nat.add_le_add h.1 k.1, fun d hd => by
  rcases List.mem_append.mp hd with q | q
  · exact h.2 d q
  · exact k.2 d q⟩
theorem PtL.one {c : Nat} {p : P2} (h : smallP c p) : PtL 1 c [dpt p] := ⟨Nat.le_refl 1, fun d hd => ⟨p, List.mem_singleton.mp hd, h⟩⟩
theorem sz_dqB {q : Rat} {n : Nat} (h : wt q ≤ n) : (dq q).sz ≤ 2 * n + 13 := by
  have a := wt_num q
  have b := wt_den' q
  show bl q.num.natAbs + 3 + 2 + (bl (q.den : Int).natAbs + 3 + 2 + 0) + 3 ≤ _
  omega
theorem sz_dpt {c : Nat} {p : P2} (h : smallP c p) : (dpt p).sz ≤ 2 * (2 * c + 15) + 3 := by
  have a := sz_dqB h.1
  have b := sz_dqB h.2
  show (dq p.1).sz + 2 + ((dq p.2).sz + 2 + 0) + 3 ≤ _
  omega
theorem PtL.szs {c : Nat} : ∀ {n : Nat} {ds : List D}, PtL n c ds → D.szs ds ≤ n * (2 * (2 * c + 15) + 5)
  | _, [], _ => Nat.zero_le _
  | 0, d :: ds, h => absurd h.1 (Nat.not_succ_le_zero _)
  | n + 1, d :: ds, h => by
    obtain ⟨p, e, hp⟩ := h.2 d (by simp)
    have a := sz_dpt hp
    have b := PtL.szs (n := n) (ds := ds) ⟨Nat.le_of_succ_le_succ h.1, fun x hx => h.2 x (List.mem_cons_of_mem _ hx)⟩
    show d.sz + 2 + D.szs ds ≤ _
    rw [Nat.succ_mul, e]
    omega
theorem PtL.dat {n c : Nat} {ds : List D} (h : PtL n c ds) (h1 : n ≤ c) (h2 : 2 ≤ c) : (D.lst ds).dat c 3 := dat_lst.mpr ⟨Nat.le_trans h.1 h1, fun d hd => by
  obtain ⟨p, rfl, hp⟩ := h.2 d hd
  exact dat_dw (m := 0) (allw2 hp) h2 h2⟩
theorem PtL.sl {n c : Nat} {ds : List D} (h : PtL n c ds) (hn : n ≤ 100000) : ds.length ≤ sizeLine := Nat.le_of_lt (small6 (by have := h.1; omega))
end VL

set_option maxHeartbeats 2000000
set_option pp.maxSteps 250
namespace VL
open PySem PySem.Spec PyProof.Rows L2
local macro_rules | `(tactic| walk_at "n") => `(tactic| refine ⟨fun h => Bool.noConfusion (show false = true from h), fun _ => ?_⟩)
local macro_rules | `(tactic| walk_at "ty") => `(tactic| refine ⟨_, rfl, by decide, ?_⟩)
local macro_rules | `(tactic| walk_at "tys") => `(tactic| refine ⟨_, rfl, _, rfl, by decide, ?_⟩)
local macro_rules | `(tactic| walk_at "v") => `(tactic| repeat (first | refine ⟨rfl, ?_⟩ | refine ⟨_, rfl, ?_⟩))
local macro_rules | `(tactic| walk_at "y") => `(tactic| refine ⟨fun _ => ?_, fun h => Bool.noConfusion (show true = false from h)⟩)
local macro_rules | `(tactic| walk_at "z") => `(tactic| repeat (first | refine ⟨rfl, ?_⟩ | refine ⟨_, rfl, ?_⟩ | refine ⟨fun _ => ?_, fun h => Bool.noConfusion (show true = false from h)⟩ | refine ⟨fun h => Bool.noConfusion (show false = true from h), fun _ => ?_⟩ | refine ⟨tyIn rfl, ?_⟩ | refine ⟨tysIn rfl, ?_⟩ | refine ⟨smallL rfl, ?_⟩ | refine ⟨smallE rfl, ?_⟩))
local macro_rules | `(tactic| walk_at "zz") => `(tactic| repeat ((fail_if_success show forL _ _ _ _ _); first | refine ⟨rfl, ?_⟩ | refine ⟨_, rfl, ?_⟩ | refine ⟨fun _ => ?_, fun h => Bool.noConfusion (show true = false from h)⟩ | refine ⟨fun h => Bool.noConfusion (show false = true from h), fun _ => ?_⟩ | refine ⟨tyIn rfl, ?_⟩ | refine ⟨tysIn rfl, ?_⟩ | refine ⟨smallL rfl, ?_⟩ | refine ⟨smallE rfl, ?_⟩))
/-! ### figures together: the edges merged -/
/-- of one direction -/
def al (e f : P2) : Prop := (ps e ↔ ps f) ∧ cr e f = 0 ∧ e ≠ (0, 0) ∧ f ≠ (0, 0)
theorem edge_nn {L : List P2} {x y b : P2} (h : Edge L x y) (hb : b ∈ L) : 0 ≤ crs x y b := by
  rcases h.lf b hb with k | k
  · exact Rat.le_of_lt k
  · rw [onto_crs k]; exact Rat.le_refl
theorem turn_pos {L : List P2} {w x y : P2} (h1 : Edge L w x) (h2 : Edge L x y) (hw : w ∈ L) (hy : y ∈ L) (h : y ≠ w) : 0 < cr (sb x w) (sb y x) := by
  rw [← crs_u]
  rcases h1.lf y hy with k | k
  · exact k
  · exfalso
    have rot : crs x y w = crs w x y := by unfold crs; grind
    rcases h2.lf w hw with j | j
    · rw [rot, onto_crs k] at j; exact absurd j (by decide)
    · obtain ⟨t, t0, t1, e1⟩ := k
      obtain ⟨u, u0, u1, e2⟩ := j
      unfold lerp at e1 e2
      have a1 := congrArg Prod.fst e1
      have a2 := congrArg Prod.snd e1
      have b1 := congrArg Prod.fst e2
      have b2 := congrArg Prod.snd e2
      dsimp only at a1 a2 b1 b2
      have c1 : (1 - u * (1 - t)) * (x.1 - w.1) = 0 := by grind
      have c2 : (1 - u * (1 - t)) * (x.2 - w.2) = 0 := by grind
      have z : 1 - u * (1 - t) = 0 := by
        rcases Rat.mul_eq_zero.mp c1 with q | q
        · exact q
        · rcases Rat.mul_eq_zero.mp c2 with r | r
          · exact r
          · exact absurd (Prod.ext (by grind) (by grind)) h1.ne
      have ut := Rat.mul_nonneg u0 t0
      clear c1 c2 a1 a2 b1 b2
      have z' : 1 - u + u * t = 0 := by grind
      have u1' : u = 1 := by
        clear e1 e2
        grind
      have t00 : t = 0 := by
        rw [u1'] at z'
        clear e1 e2
        grind
      rw [t00] at e1
      exact h (by rw [e1]; ext <;> grind)
theorem two_back {L : List P2} {w x b : P2} (h1 : Edge L w x) (h2 : Edge L x w) (hb : b ∈ L) : ∃ s : Rat, 0 ≤ s ∧ s ≤ 1 ∧ sb b x = (s * (sb w x).1, s * (sb w x).2) := by
  have n2 := edge_nn h2 hb
  have e : crs x w b = - crs w x b := by unfold crs; grind
  rcases h1.lf b hb with k | k
  · grind
  · obtain ⟨t, t0, t1, rfl⟩ := k
    exact ⟨1 - t, by grind, by grind, by unfold sb lerp; ext <;> grind⟩
def psB (u : P2) : Bool := decide (0 < u.1) || (decide (u.1 = 0) && decide (0 < u.2))
def ordE (e f : P2) : Int := if psB e != psB f then (if psB e then 1 else -1) else bi (decide (0 < cr e f)) - bi (decide (cr e f < 0))
def mergeE (as bs : List P2) : List P2 :=
  match as, bs with
  | [], bs => bs
  | a :: as, [] => a :: as
  | a :: as, b :: bs => if 0 < ordE a b then a :: mergeE as (b :: bs) else if ordE a b < 0 then b :: mergeE (a :: as) bs else ad a b :: mergeE as bs
termination_by as.length + bs.length
def pathF (p : P2) : List P2 → List P2
  | [] => [p]
  | e :: es => p :: pathF (ad p e) es
theorem ad_comm (x y : P2) : ad x y = ad y x := by unfold ad; ext <;> grind
/-- all sums of two -/
structure Sums (A B S : List P2) : Prop where
  inn : ∀ x ∈ A, ∀ y ∈ B, ad x y ∈ S
  of : ∀ p ∈ S, ∃ x ∈ A, ∃ y ∈ B, p = ad x y
theorem Sums.symm {A B S : List P2} (h : Sums A B S) : Sums B A S := ⟨fun x hx y hy => by rw [ad_comm]; exact h.inn y hy x hx, fun p hp => by
  obtain ⟨x, hx, y, hy, e⟩ := h.of p hp
  exact ⟨y, hy, x, hx, by rw [e, ad_comm]⟩⟩
structure Went (S : List P2) (p q : P2) (go : Prop) (vs : List P2) : Prop where
  hd : vs.head? = some p
  ed : ∀ y z, Nx vs y z → Edge S y z
  mem : ∀ v ∈ vs, v ∈ S
  last : vs.getLast? = some q
  new0 : q ∉ vs.tail.dropLast
  new : go → q ∉ vs.dropLast
theorem Went.cons {S : List P2} {p p' q : P2} {go : Prop} {vs : List P2} (h : Went S p' q True vs) (hp : p ∈ S) (he : Edge S p p') (hn : go → p ≠ q) : Went S p q go (p :: vs) := by
  obtain ⟨v, vs', rfl⟩ : ∃ v vs', vs = v :: vs' := by
    cases vs with
    | nil => cases h.hd
    | cons v vs' => exact ⟨v, vs', rfl⟩
  have hv : v = p' := Option.some.inj h.hd
  subst hv
  refine ⟨rfl, fun y z hn => ?_, fun v hv => ?_, ?_, h.new trivial, fun g hm => ?_⟩
  · rcases nx_cons.mp hn with ⟨rfl, e⟩ | hn
    · have e : v = z := Option.some.inj e
      subst e
      exact he
    · exact h.ed y z hn
  · rcases List.mem_cons.mp hv with rfl | hv
    · exact hp
    · exact h.mem _ hv
  · rw [List.getLast?_cons_cons]
    exact h.last
  · rw [List.dropLast_cons₂] at hm
    rcases List.mem_cons.mp hm with z | z
    · exact hn g z.symm
    · exact h.new trivial z
/-- two figures together -/
def togP (A B : List P2) : List P2 := match A, B with
  | a :: _, b :: _ => pathF (ad a b) (mergeE (edgesP A) (edgesP B)).dropLast
  | _, _ => []
end VL

set_option maxHeartbeats 2000000
set_option pp.maxSteps 250
namespace VL
open PySem PySem.Spec PyProof.Rows L2
local macro_rules | `(tactic| walk_at "n") => `(tactic| refine ⟨fun h => Bool.noConfusion (show false = true from h), fun _ => ?_⟩)
local macro_rules | `(tactic| walk_at "ty") => `(tactic| refine ⟨_, rfl, by decide, ?_⟩)
local macro_rules | `(tactic| walk_at "tys") => `(tactic| refine ⟨_, rfl, _, rfl, by decide, ?_⟩)
local macro_rules | `(tactic| walk_at "v") => `(tactic| repeat (first | refine ⟨rfl, ?_⟩ | refine ⟨_, rfl, ?_⟩))
local macro_rules | `(tactic| walk_at "y") => `(tactic| refine ⟨fun _ => ?_, fun h => Bool.noConfusion (show true = false from h)⟩)
local macro_rules | `(tactic| walk_at "z") => `(tactic| repeat (first | refine ⟨rfl, ?_⟩ | refine ⟨_, rfl, ?_⟩ | refine ⟨fun _ => ?_, fun h => Bool.noConfusion (show true = false from h)⟩ | refine ⟨fun h => Bool.noConfusion (show false = true from h), fun _ => ?_⟩ | refine ⟨tyIn rfl, ?_⟩ | refine ⟨tysIn rfl, ?_⟩ | refine ⟨smallL rfl, ?_⟩ | refine ⟨smallE rfl, ?_⟩))
local macro_rules | `(tactic| walk_at "zz") => `(tactic| repeat ((fail_if_success show forL _ _ _ _ _); first | refine ⟨rfl, ?_⟩ | refine ⟨_, rfl, ?_⟩ | refine ⟨fun _ => ?_, fun h => Bool.noConfusion (show true = false from h)⟩ | refine ⟨fun h => Bool.noConfusion (show false = true from h), fun _ => ?_⟩ | refine ⟨tyIn rfl, ?_⟩ | refine ⟨tysIn rfl, ?_⟩ | refine ⟨smallL rfl, ?_⟩ | refine ⟨smallE rfl, ?_⟩))
/-! ### figures moved, sized, together: read -/
def movP (L : List P2) (p : P2) : List P2 := L.map fun c => ad c p
def sizP (L : List P2) (q : Rat) : List P2 := if q = 0 then [(0, 0)] else L.map fun c => sc c q
@[irreducible] def sp_moved : ASp := fun ds R => ∃ (L : List P2) (p : P2), ds = [.lst (L.map dpt), dpt p] ∧ L.length ≤ 40000 ∧ (∀ c ∈ L, smallP 10000000 c) ∧ smallP 10000000 p ∧ R (.lst ((movP L p).map dpt)) 1 []
theorem sp_moved.mk {L : List P2} {p : P2} {R : RR} (h1 : L.length ≤ 40000) (h2 : ∀ c ∈ L, smallP 10000000 c) (h3 : smallP 10000000 p) (h : R (.lst ((movP L p).map dpt)) 1 []) : sp_moved [.lst (L.map dpt), dpt p] R := by unfold sp_moved; exact ⟨L, p, rfl, h1, h2, h3, h⟩
@[irreducible] def sp_sized : ASp := fun ds R => ∃ (L : List P2) (q : Rat), ds = [.lst (L.map dpt), dq q] ∧ L.length ≤ 40000 ∧ (∀ c ∈ L, smallP 10000000 c) ∧ wt q ≤ 10000000 ∧ R (.lst ((sizP L q).map dpt)) 1 []
theorem sp_sized.mk {L : List P2} {q : Rat} {R : RR} (h1 : L.length ≤ 40000) (h2 : ∀ c ∈ L, smallP 10000000 c) (h3 : wt q ≤ 10000000) (h : R (.lst ((sizP L q).map dpt)) 1 []) : sp_sized [.lst (L.map dpt), dq q] R := by unfold sp_sized; exact ⟨L, q, rfl, h1, h2, h3, h⟩
@[irreducible] def sp_is_first_half : ASp := fun ds R => ∃ e : P2, ds = [dpt e] ∧ R (.bl (psB e)) 0 []
theorem sp_is_first_half.mk {e : P2} {R : RR} (h : R (.bl (psB e)) 0 []) : sp_is_first_half [dpt e] R := by unfold sp_is_first_half; exact ⟨e, rfl, h⟩
@[irreducible] def sp_crossed : ASp := fun ds R => ∃ p q, ds = [dpt p, dpt q] ∧ smallP 20000000 p ∧ smallP 20000000 q ∧ R (dq (cr p q)) 0 []
theorem sp_crossed.mk {p q : P2} {R : RR} (h1 : smallP 20000000 p) (h2 : smallP 20000000 q) (h : R (dq (cr p q)) 0 []) : sp_crossed [dpt p, dpt q] R := by unfold sp_crossed; exact ⟨p, q, rfl, h1, h2, h⟩
@[irreducible] def sp_edge_order : ASp := fun ds R => ∃ p q, ds = [dpt p, dpt q] ∧ smallP 20000000 p ∧ smallP 20000000 q ∧ R (.int (ordE p q)) 0 []
theorem sp_edge_order.mk {p q : P2} {R : RR} (h1 : smallP 20000000 p) (h2 : smallP 20000000 q) (h : R (.int (ordE p q)) 0 []) : sp_edge_order [dpt p, dpt q] R := by unfold sp_edge_order; exact ⟨p, q, rfl, h1, h2, h⟩
@[irreducible] def sp_merged : ASp := fun ds R => ∃ es fs : List P2, ds = [.lst (es.map dpt), .lst (fs.map dpt)] ∧ es.length ≤ 40000 ∧ fs.length ≤ 40000 ∧ (∀ c ∈ es, smallP 10000000 c) ∧ (∀ c ∈ fs, smallP 10000000 c) ∧ R (.lst ((mergeE es fs).map dpt)) 1 []
theorem sp_merged.mk {es fs : List P2} {R : RR} (h1 : es.length ≤ 40000) (h2 : fs.length ≤ 40000) (h3 : ∀ c ∈ es, smallP 10000000 c) (h4 : ∀ c ∈ fs, smallP 10000000 c) (h : R (.lst ((mergeE es fs).map dpt)) 1 []) : sp_merged [.lst (es.map dpt), .lst (fs.map dpt)] R := by unfold sp_merged; exact ⟨es, fs, rfl, h1, h2, h3, h4, h⟩
@[irreducible] def sp_together : ASp := fun ds R => ∃ pA pB A B : List P2, ds = [.lst (A.map dpt), .lst (B.map dpt)] ∧ Fig pA A ∧ Fig pB B ∧ A.length ≤ 40000 ∧ B.length ≤ 40000 ∧ (∀ c ∈ A, smallP 1000000 c) ∧ (∀ c ∈ B, smallP 1000000 c) ∧ R (.lst ((togP A B).map dpt)) 1 []
theorem sp_together.mk {pA pB A B : List P2} {R : RR} (hA : Fig pA A) (hB : Fig pB B) (h1 : A.length ≤ 40000) (h2 : B.length ≤ 40000) (h3 : ∀ c ∈ A, smallP 1000000 c) (h4 : ∀ c ∈ B, smallP 1000000 c) (h : R (.lst ((togP A B).map dpt)) 1 []) : sp_together [.lst (A.map dpt), .lst (B.map dpt)] R := by unfold sp_together; exact ⟨pA, pB, A, B, rfl, hA, hB, h1, h2, h3, h4, h⟩
def sumsP (A B : List P2) : List P2 := A.flatMap fun x => B.map fun y => ad x y
@[irreducible] def sp_l_together : ASp := fun ds R => ∃ A B : List P2, ds = [.lst (A.map dpt), .lst (B.map dpt)] ∧ A ≠ [] ∧ B ≠ [] ∧ A.length * B.length ≤ 5000 ∧ (∀ c ∈ A, smallP 90 c) ∧ (∀ c ∈ B, smallP 90 c) ∧ 1 ≤ A.length ∧ 1 ≤ B.length ∧ pw (sumsP A B) ≤ 1000000 ∧ ∀ L, Fig (sumsP A B) L → R (.lst (L.map dpt)) 1 []
theorem sp_l_together.mk {A B : List P2} {R : RR} (h0 : A ≠ []) (h1 : B ≠ []) (h2 : A.length * B.length ≤ 2500) (h3 : ∀ c ∈ A, smallP 90 c) (h4 : ∀ c ∈ B, smallP 90 c) (h : ∀ L, Fig (sumsP A B) L → R (.lst (L.map dpt)) 1 []) : sp_l_together [.lst (A.map dpt), .lst (B.map dpt)] R := by
  have key : ∀ p ∈ sumsP A B, smallP 181 p := fun p hp => by
    obtain ⟨x, hx, hp⟩ := List.mem_flatMap.mp hp
    obtain ⟨y, hy, rfl⟩ := List.mem_map.mp hp
    exact ((h3 x hx).ad (h4 y hy)).le (by decide)
  have len : ∀ (A : List P2), (sumsP A B).length = A.length * B.length := fun A => by
    unfold sumsP
    induction A with
    | nil => simp
    | cons a A ih => rw [List.flatMap_cons, List.length_append, ih, List.length_map, List.length_cons, Nat.succ_mul]; omega
  have := pw_bd key
  rw [len A] at this
  have : A.length * B.length * (2 * 181 + 1) ≤ 2500 * (2 * 181 + 1) := Nat.mul_le_mul_right _ h2
  unfold sp_l_together; exact ⟨A, B, rfl, h0, h1, by omega, h3, h4, List.length_pos_iff.mpr h0, List.length_pos_iff.mpr h1, by omega, h⟩
@[irreducible] def sp_l_figure : ASp := fun ds R => ∃ t n, ds = [dT t] ∧ t.ok (n + 140) ∧ ∀ (L pts : List P2) (t' : Tp), Fig pts L → L.length ≤ 10 → (∀ p ∈ L, smallP 50 p) → t'.ok n → R (.lst (L.map dpt)) 1 [dT t']
theorem sp_l_figure.mk {t : Tp} {R : RR} (n : Nat) (ht : t.ok (n + 140)) (h : ∀ (L pts : List P2) (t' : Tp), Fig pts L → L.length ≤ 10 → (∀ p ∈ L, smallP 50 p) → t'.ok n → R (.lst (L.map dpt)) 1 [dT t']) : sp_l_figure [dT t] R := by unfold sp_l_figure; exact ⟨t, n, rfl, ht, h⟩
def rd_moved : RS := (rRet (rLc [2] (riSeq (rVar 0)) (rgName 2) rYes (rCall [false, false] sp_added (rgAv (rVar 2) (rgAv (rVar 1) rgA0)))))
theorem rp_moved (ds : List D) (R : RR) (hl : ds.length = 2) (h : sp_moved ds R) : rd_moved (rho0 [false, false] 0 ds ++ List.replicate (3 - 2) .no) (endsOf [false, false] R) := by
  unfold sp_moved at h
  obtain ⟨L, p, rfl, h1, h2, h3, h⟩ := h
  walk_at "z"
  refine lcL_map' (g := dpt) (f := fun c => dpt (ad c p)) (xs := L) (ρw := [.fz (.lst (L.map dpt)), .fz (dpt p), .no]) (by omega) (fun c hc n P N hn hP => ?_) rfl fun ρ' hρ => ?_
  · walk_at "z"
    refine sp_added.pt (p := c) (q := p) ((h2 c hc).le (by decide)) (h3.le (by decide)) ?_
    walk_at "z"
    exact ⟨hn, hP _ rfl⟩
  · rw [restE_wipe, hρ]
    have : L.map (fun c => dpt (ad c p)) = (movP L p).map dpt := by unfold movP; rw [List.map_map]; rfl
    rw [this]
    exact ⟨_, rfl, h⟩
end VL

set_option maxHeartbeats 2000000
set_option pp.maxSteps 250
namespace VL
open PySem PySem.Spec PyProof.Rows L2
local macro_rules | `(tactic| walk_at "n") => `(tactic| refine ⟨fun h => Bool.noConfusion (show false = true from h), fun _ => ?_⟩)
local macro_rules | `(tactic| walk_at "ty") => `(tactic| refine ⟨_, rfl, by decide, ?_⟩)
local macro_rules | `(tactic| walk_at "tys") => `(tactic| refine ⟨_, rfl, _, rfl, by decide, ?_⟩)
local macro_rules | `(tactic| walk_at "v") => `(tactic| repeat (first | refine ⟨rfl, ?_⟩ | refine ⟨_, rfl, ?_⟩))
local macro_rules | `(tactic| walk_at "y") => `(tactic| refine ⟨fun _ => ?_, fun h => Bool.noConfusion (show true = false from h)⟩)
local macro_rules | `(tactic| walk_at "z") => `(tactic| repeat (first | refine ⟨rfl, ?_⟩ | refine ⟨_, rfl, ?_⟩ | refine ⟨fun _ => ?_, fun h => Bool.noConfusion (show true = false from h)⟩ | refine ⟨fun h => Bool.noConfusion (show false = true from h), fun _ => ?_⟩ | refine ⟨tyIn rfl, ?_⟩ | refine ⟨tysIn rfl, ?_⟩ | refine ⟨smallL rfl, ?_⟩ | refine ⟨smallE rfl, ?_⟩))
local macro_rules | `(tactic| walk_at "zz") => `(tactic| repeat ((fail_if_success show forL _ _ _ _ _); first | refine ⟨rfl, ?_⟩ | refine ⟨_, rfl, ?_⟩ | refine ⟨fun _ => ?_, fun h => Bool.noConfusion (show true = false from h)⟩ | refine ⟨fun h => Bool.noConfusion (show false = true from h), fun _ => ?_⟩ | refine ⟨tyIn rfl, ?_⟩ | refine ⟨tysIn rfl, ?_⟩ | refine ⟨smallL rfl, ?_⟩ | refine ⟨smallE rfl, ?_⟩))
/-! ### rims: heights of figures, figures sized -/
theorem nbrs {a x : P2} {t : List P2} (ht : t ≠ []) (hx : x ∈ a :: t) : ∃ w y, Nx (a :: t ++ [a]) w x ∧ Nx (a :: t ++ [a]) x y := by
  obtain ⟨u, v, e⟩ := List.append_of_mem hx
  have nxt : ∃ y, Nx (a :: t ++ [a]) x y := by
    cases v with
    | nil => exact ⟨a, u, [], by rw [e]; simp⟩
    | cons y v => exact ⟨y, u, v ++ [a], by rw [e]; simp⟩
  obtain ⟨y, hy⟩ := nxt
  rcases List.eq_nil_or_concat u with rfl | ⟨u', w, rfl⟩
  · have xa : a = x := (List.cons.inj e).1
    subst xa
    rcases List.eq_nil_or_concat t with rfl | ⟨t', w, rfl⟩
    · exact absurd rfl ht
    · exact ⟨w, y, ⟨a :: t', [], by simp⟩, hy⟩
  · exact ⟨w, y, ⟨u', v ++ [a], by rw [e]; simp⟩, hy⟩
theorem dot_sb (pr x y : P2) : dot2 pr (sb x y) = dot2 pr x - dot2 pr y := by unfold dot2 sb; grind
theorem ht_fig {pts L : List P2} (h : Fig pts L) (pr : P2) {p : P2} (hp : p ∈ pts) : dot2 pr p ≤ htQ pr L := by
  obtain ⟨x, hx, ex⟩ := ht_at (pr := pr) h.ne
  have hmax : ∀ c ∈ L, dot2 pr c ≤ dot2 pr x := fun c hc => by rw [← ex]; exact ht_ge hc
  rw [ex]
  obtain ⟨a, t, e, ha, at', et⟩ := h.ex
  by_cases t0 : t = []
  · subst t0
    have := h.one (by rw [e]; rfl) p hp
    exact hmax p this
  · have et := et t0
    have mem : ∀ z, z ∈ a :: t ++ [a] → z ∈ L := fun z hz => by
      rw [e]
      rcases List.mem_append.mp hz with q | q
      · exact q
      · rw [List.mem_singleton.mp q]; simp
    obtain ⟨w, y, n1, n2⟩ := nbrs t0 (by rw [← e]; exact hx)
    have E1 := et w x n1
    have E2 := et x y n2
    have hw := mem w (nx_mem n1).1
    have hy := mem y (nx_mem n2).2
    have m1 := hmax w hw
    have m2 := hmax y hy
    have k1 := edge_nn E1 hp
    have k2 := edge_nn E2 hp
    rw [crs_u] at k1
    rw [crs_v] at k2
    by_cases c : y = w
    · subst c
      obtain ⟨s, s0, s1, es⟩ := two_back E1 E2 hp
      have e1 : dot2 pr p - dot2 pr x = s * (dot2 pr y - dot2 pr x) := by
        rw [← dot_sb, ← dot_sb, es]
        unfold dot2; grind
      have := Rat.mul_nonneg s0 (show 0 ≤ dot2 pr x - dot2 pr y by grind)
      grind
    · have tp := turn_pos E1 E2 (h.sub w hw) (h.sub y hy) c
      have id : cr (sb x w) (sb y x) * (dot2 pr p - dot2 pr x) = cr (sb x w) (sb p x) * (dot2 pr y - dot2 pr x) + cr (sb y x) (sb p x) * (dot2 pr w - dot2 pr x) := by unfold cr dot2 sb; grind
      have q1 := Rat.mul_nonneg k1 (show 0 ≤ dot2 pr x - dot2 pr y by grind)
      have q2 := Rat.mul_nonneg k2 (show 0 ≤ dot2 pr x - dot2 pr w by grind)
      by_cases z : dot2 pr p ≤ dot2 pr x
      · exact z
      · have := Rat.mul_pos tp (show 0 < dot2 pr p - dot2 pr x by grind)
        grind
theorem nx_map {f : P2 → P2} {l : List P2} {y z : P2} (h : Nx (l.map f) y z) : ∃ y0 z0, Nx l y0 z0 ∧ y = f y0 ∧ z = f z0 := by
  obtain ⟨s, t, e⟩ := h
  obtain ⟨u, v, e1, e2, e3⟩ := List.map_eq_append_iff.mp e
  obtain ⟨y0, r, e4, e5, e6⟩ := List.map_eq_cons_iff.mp e3
  obtain ⟨z0, r', e7, e8, e9⟩ := List.map_eq_cons_iff.mp e6
  exact ⟨y0, z0, ⟨u, r', by rw [e1, e4, e7]⟩, e5.symm, e8.symm⟩
def w2 : List Rat → P2
  | [x, y] => (x, y)
  | _ => (0, 0)
def dFg (L : List P2) : D := .lst (L.map dpt)
def deedF (later : List (List P2)) (d : Deed) : List P2 := d.fs.foldl (fun A f => togP A (sizP (later.getD f.1 []) f.2)) [w2 d.w]
structure RowF (n c B : Nat) (later : List (List P2)) : Prop where
  len : later.length = n
  fig : ∀ L ∈ later, ∃ pts, Fig pts L
  few : ∀ L ∈ later, L.length ≤ c
  sm : ∀ L ∈ later, ∀ p ∈ L, smallP B p
def FewM (m : Nat) (l : Land) : Prop := ∀ s ∈ l.sts, ∀ d ∈ s.ds, d.fs.length ≤ m
def isRim (later : List (List P2)) (s : St) (L : List P2) : Prop := (s.ds = [] → L = [w2 s.e]) ∧ (s.ds ≠ [] → Fig (s.ds.map (deedF later)).flatten L)
def rimC (m : Nat) : Nat → Nat
  | 0 => 1
  | k + 1 => 3 * (1 + m * rimC m k)
def rimB (m : Nat) : Nat → Nat
  | 0 => 21
  | k + 1 => m * (rimB m k + 7) + 21
/-- what a step's figures may cost -/
def Bud (m j : Nat) : Prop := m ≤ 4 ∧ rimC m j ≤ 1000 ∧ rimB m j ≤ 10000 ∧ 3 * (1 + m * rimC m j) ≤ 5000 ∧ 3 * (1 + m * rimC m j) * (2 * (m * (rimB m j + 7) + 21) + 1) ≤ 1000000
instance (m j : Nat) : Decidable (Bud m j) := inferInstanceAs (Decidable (_ ∧ _ ∧ _ ∧ _ ∧ _))
/-- the rims' rows, the last one first -/
inductive RimsR (l : Land) : Nat → List (List P2) → Prop
  | zero : RimsR l 0 (l.sts.map fun s => [w2 s.e])
  | step {k : Nat} {later row : List (List P2)} : RimsR l k later → row.length = l.sts.length → (∀ (i : Nat) (s : St) (L : List P2), l.sts[i]? = some s → row[i]? = some L → isRim later s L) → RimsR l (k + 1) row
@[irreducible] def sp_joined : ASp := fun ds R => ∃ Fs : List (List P2), ds = [.lst (Fs.map dFg)] ∧ Fs.flatten ≠ [] ∧ Fs.length ≤ 1000 ∧ Fs.flatten.length ≤ 5000 ∧ pw Fs.flatten ≤ 1000000 ∧ ∀ L, Fig Fs.flatten L → R (.lst (L.map dpt)) 1 []
theorem sp_joined.mk {Fs : List (List P2)} {R : RR} (h0 : Fs.flatten ≠ []) (h1 : Fs.length ≤ 1000) (h2 : Fs.flatten.length ≤ 5000) (h3 : pw Fs.flatten ≤ 1000000) (h : ∀ L, Fig Fs.flatten L → R (.lst (L.map dpt)) 1 []) : sp_joined [.lst (Fs.map dFg)] R := by unfold sp_joined; exact ⟨Fs, rfl, h0, h1, h2, h3, h⟩
@[irreducible] def sp_deed_figure : ASp := fun ds R => ∃ (d : Deed) (later : List (List P2)) (n c B m : Nat), ds = [dDeed d, .lst (later.map dFg)] ∧ DeedOk 2 n d ∧ d.fs.length ≤ m ∧ m ≤ 4 ∧ RowF n c B later ∧ c ≤ 1000 ∧ B ≤ 10000 ∧ R (.lst ((deedF later d).map dpt)) 1 []
theorem sp_deed_figure.mk {d : Deed} {later : List (List P2)} {R : RR} (n c B m : Nat) (h1 : DeedOk 2 n d) (h2 : d.fs.length ≤ m) (hm : m ≤ 4) (h3 : RowF n c B later) (h4 : c ≤ 1000) (h5 : B ≤ 10000) (h : R (.lst ((deedF later d).map dpt)) 1 []) : sp_deed_figure [dDeed d, .lst (later.map dFg)] R := by unfold sp_deed_figure; exact ⟨d, later, n, c, B, m, rfl, h1, h2, hm, h3, h4, h5, h⟩
@[irreducible] def sp_state_figure : ASp := fun ds R => ∃ (l : Land) (k : Nat) (s : St) (later : List (List P2)) (m j : Nat), ds = [dLand l, .int k, .lst (later.map dFg)] ∧ LandOk l ∧ l.k = 2 ∧ FewM m l ∧ l.sts[k]? = some s ∧ RowF l.sts.length (rimC m j) (rimB m j) later ∧ Bud m j ∧ ∀ L, isRim later s L → R (.lst (L.map dpt)) 1 []
theorem sp_state_figure.mk {l : Land} {k : Nat} {s : St} {later : List (List P2)} {R : RR} (m j : Nat) (h1 : LandOk l) (h2 : l.k = 2) (h3 : FewM m l) (h4 : l.sts[k]? = some s) (h5 : RowF l.sts.length (rimC m j) (rimB m j) later) (h6 : Bud m j) (h : ∀ L, isRim later s L → R (.lst (L.map dpt)) 1 []) : sp_state_figure [dLand l, .int k, .lst (later.map dFg)] R := by unfold sp_state_figure; exact ⟨l, k, s, later, m, j, rfl, h1, h2, h3, h4, h5, h6, h⟩
def dRow (row : List (List P2)) : D := .lst (row.map dFg)
def RimsAll (l : Land) (k : Nat) (rows : List (List (List P2))) : Prop := rows.length = k + 1 ∧ ∀ (i : Nat) (row : List (List P2)), rows[i]? = some row → RimsR l i row
@[irreducible] def sp_rims : ASp := fun ds R => ∃ (l : Land) (k m : Nat), ds = [dLand l, .int k] ∧ LandOk l ∧ l.k = 2 ∧ FewM m l ∧ k ≤ 6 ∧ (∀ j < k, Bud m j) ∧ ∀ rows, RimsAll l k rows → R (.lst (rows.map dRow)) 1 []
theorem sp_rims.mk {l : Land} {k : Nat} {R : RR} (m : Nat) (h1 : LandOk l) (h2 : l.k = 2) (h3 : FewM m l) (h4 : k ≤ 6) (hb : ∀ j < k, Bud m j) (h : ∀ rows, RimsAll l k rows → R (.lst (rows.map dRow)) 1 []) : sp_rims [dLand l, .int k] R := by unfold sp_rims; exact ⟨l, k, m, rfl, h1, h2, h3, h4, hb, h⟩
@[irreducible] def sp_rim : ASp := fun ds R => ∃ (l : Land) (k i m : Nat), ds = [dLand l, .int k, .int i] ∧ LandOk l ∧ l.k = 2 ∧ FewM m l ∧ k ≤ 6 ∧ (∀ j < k, Bud m j) ∧ i < l.sts.length ∧ ∀ (row : List (List P2)) (L : List P2), RimsR l k row → row[i]? = some L → R (.lst (L.map dpt)) 0 []
theorem sp_rim.mk {l : Land} {k i : Nat} {R : RR} (m : Nat) (h1 : LandOk l) (h2 : l.k = 2) (h3 : FewM m l) (h4 : k ≤ 6) (hb : ∀ j < k, Bud m j) (h5 : i < l.sts.length) (h : ∀ (row : List (List P2)) (L : List P2), RimsR l k row → row[i]? = some L → R (.lst (L.map dpt)) 0 []) : sp_rim [dLand l, .int k, .int i] R := by unfold sp_rim; exact ⟨l, k, i, m, rfl, h1, h2, h3, h4, hb, h5, h⟩
def rb_joined_3 : RS := (rDrop (rMet 1 gExt (raCons (roV 2) raNil)))
@[irreducible] def rd_joined_3 : RS := rb_joined_3
theorem rx_joined_3 : rb_joined_3 = rd_joined_3 := by unfold rd_joined_3; rfl
def rb_joined_4 : RS := (rRet (rCall [false] sp_hull (rgAv (rVar 1) rgA0)))
@[irreducible] def rd_joined_4 : RS := rb_joined_4
theorem rx_joined_4 : rb_joined_4 = rd_joined_4 := by unfold rd_joined_4; rfl
def rb_joined_2 : RS := (rSeq (rFor (rIW [2] (riSeq (rVar 0))) (rgName 2) (rBW [2] rd_joined_3))
  rd_joined_4)
@[irreducible] def rd_joined_2 : RS := rb_joined_2
theorem rx_joined_2 : rb_joined_2 = rd_joined_2 := by unfold rd_joined_2; rfl
def rd_joined : RS := (rSeq (rSet 1 (rLst1 rfNil))
  rd_joined_2)
theorem RowF.at {n c B i : Nat} {later : List (List P2)} (h : RowF n c B later) (hi : i < n) : ∃ L, later[i]? = some L ∧ later.getD i [] = L ∧ (∃ pts, Fig pts L) ∧ L.length ≤ c ∧ ∀ p ∈ L, smallP B p := by
  have hi' : i < later.length := by rw [h.len]; exact hi
  have e : later[i]? = some later[i] := List.getElem?_eq_getElem hi'
  have m := List.getElem_mem hi'
  exact ⟨later[i], e, by rw [List.getD_eq_getElem?_getD, e]; rfl, h.fig _ m, h.few _ m, h.sm _ m⟩
theorem rp_joined (ds : List D) (R : RR) (hl : ds.length = 1) (h : sp_joined ds R) : rd_joined (rho0 [false] 0 ds ++ List.replicate (3 - 1) .no) (endsOf [false] R) := by
  unfold sp_joined at h
  obtain ⟨Fs, rfl, h0, h1, h2, h3, h⟩ := h
  walk_at "z"
  refine lit3 rfl ?_
  rw [← rx_joined_2]
  walk_at "zz"
  refine forL_rel (g := dFg) (st := fun C : List P2 => [.fz (.lst (Fs.map dFg)), .ow 1 (.lst (C.map dpt)), .no]) (P := fun C zs => C ++ zs.flatten = Fs.flatten) (fun C L zs N hP hN => ?_) Fs [] rfl (fun C hP => ?_)
  · have e : C.length + L.length ≤ 5000 := by
      have := congrArg List.length hP
      rw [List.length_append, List.flatten_cons, List.length_append] at this
      omega
    have hN := hN (C ++ L) (by rw [List.append_assoc]; exact hP)
    rw [List.map_append] at hN
    unfold dFg
    walk_at "z"
    refine lit3 rfl ?_
    rw [← rx_joined_3]
    walk_at "z"
    refine ⟨by rw [List.length_map, List.length_map]; exact Nat.le_of_lt (small6 (by omega)), ?_⟩
    walk_at "z"
    exact hN
  · rw [List.flatten_nil, List.append_nil] at hP
    subst hP
    rw [← rx_joined_4]
    walk_at "z"
    refine sp_hull.mk h0 (by omega) h3 fun L hL => ?_
    walk_at "z"
    exact h L hL
end VL

set_option maxHeartbeats 2000000
set_option pp.maxSteps 250
namespace VL
open PySem PySem.Spec PyProof.Rows L2
local macro_rules | `(tactic| walk_at "n") => `(tactic| refine ⟨fun h => Bool.noConfusion (show false = true from h), fun _ => ?_⟩)
local macro_rules | `(tactic| walk_at "ty") => `(tactic| refine ⟨_, rfl, by decide, ?_⟩)
local macro_rules | `(tactic| walk_at "tys") => `(tactic| refine ⟨_, rfl, _, rfl, by decide, ?_⟩)
local macro_rules | `(tactic| walk_at "v") => `(tactic| repeat (first | refine ⟨rfl, ?_⟩ | refine ⟨_, rfl, ?_⟩))
local macro_rules | `(tactic| walk_at "y") => `(tactic| refine ⟨fun _ => ?_, fun h => Bool.noConfusion (show true = false from h)⟩)
local macro_rules | `(tactic| walk_at "z") => `(tactic| repeat (first | refine ⟨rfl, ?_⟩ | refine ⟨_, rfl, ?_⟩ | refine ⟨fun _ => ?_, fun h => Bool.noConfusion (show true = false from h)⟩ | refine ⟨fun h => Bool.noConfusion (show false = true from h), fun _ => ?_⟩ | refine ⟨tyIn rfl, ?_⟩ | refine ⟨tysIn rfl, ?_⟩ | refine ⟨smallL rfl, ?_⟩ | refine ⟨smallE rfl, ?_⟩))
local macro_rules | `(tactic| walk_at "zz") => `(tactic| repeat ((fail_if_success show forL _ _ _ _ _); first | refine ⟨rfl, ?_⟩ | refine ⟨_, rfl, ?_⟩ | refine ⟨fun _ => ?_, fun h => Bool.noConfusion (show true = false from h)⟩ | refine ⟨fun h => Bool.noConfusion (show false = true from h), fun _ => ?_⟩ | refine ⟨tyIn rfl, ?_⟩ | refine ⟨tysIn rfl, ?_⟩ | refine ⟨smallL rfl, ?_⟩ | refine ⟨smallE rfl, ?_⟩))
/-! ### the law's fences; what no figure lets beyond it -/
@[irreducible] def sp_l_fence : ASp := fun ds R => ∃ L : List P2, ds = [.lst (L.map dpt)] ∧ L ≠ [] ∧ L.length ≤ 1000 ∧ (∀ c ∈ L, smallP 10000 c) ∧ R (.lst ((fpr L).map (dFe L))) 1 []
theorem sp_l_fence.mk {L : List P2} {R : RR} (h0 : L ≠ []) (h1 : L.length ≤ 1000) (h2 : ∀ c ∈ L, smallP 10000 c) (h : R (.lst ((fpr L).map (dFe L))) 1 []) : sp_l_fence [.lst (L.map dpt)] R := by unfold sp_l_fence; exact ⟨L, rfl, h0, h1, h2, h⟩
@[irreducible] def sp_l_in : ASp := fun ds R => ∃ (L : List P2) (p : P2), ds = [.lst (L.map dpt), dpt p] ∧ L ≠ [] ∧ L.length ≤ 1000 ∧ (∀ c ∈ L, smallP 10000 c) ∧ smallP 100000 p ∧ R (.bl (fenB L p)) 0 []
theorem sp_l_in.mk {L : List P2} {p : P2} {R : RR} (h0 : L ≠ []) (h1 : L.length ≤ 1000) (h2 : ∀ c ∈ L, smallP 10000 c) (h3 : smallP 100000 p) (h : R (.bl (fenB L p)) 0 []) : sp_l_in [.lst (L.map dpt), dpt p] R := by unfold sp_l_in; exact ⟨L, p, rfl, h0, h1, h2, h3, h⟩
end VL

set_option maxHeartbeats 2000000
set_option pp.maxSteps 250
namespace VL
open PySem PySem.Spec PyProof.Rows L2
local macro_rules | `(tactic| walk_at "n") => `(tactic| refine ⟨fun h => Bool.noConfusion (show false = true from h), fun _ => ?_⟩)
local macro_rules | `(tactic| walk_at "ty") => `(tactic| refine ⟨_, rfl, by decide, ?_⟩)
local macro_rules | `(tactic| walk_at "tys") => `(tactic| refine ⟨_, rfl, _, rfl, by decide, ?_⟩)
local macro_rules | `(tactic| walk_at "v") => `(tactic| repeat (first | refine ⟨rfl, ?_⟩ | refine ⟨_, rfl, ?_⟩))
local macro_rules | `(tactic| walk_at "y") => `(tactic| refine ⟨fun _ => ?_, fun h => Bool.noConfusion (show true = false from h)⟩)
local macro_rules | `(tactic| walk_at "z") => `(tactic| repeat (first | refine ⟨rfl, ?_⟩ | refine ⟨_, rfl, ?_⟩ | refine ⟨fun _ => ?_, fun h => Bool.noConfusion (show true = false from h)⟩ | refine ⟨fun h => Bool.noConfusion (show false = true from h), fun _ => ?_⟩ | refine ⟨tyIn rfl, ?_⟩ | refine ⟨tysIn rfl, ?_⟩ | refine ⟨smallL rfl, ?_⟩ | refine ⟨smallE rfl, ?_⟩))
local macro_rules | `(tactic| walk_at "zz") => `(tactic| repeat ((fail_if_success show forL _ _ _ _ _); first | refine ⟨rfl, ?_⟩ | refine ⟨_, rfl, ?_⟩ | refine ⟨fun _ => ?_, fun h => Bool.noConfusion (show true = false from h)⟩ | refine ⟨fun h => Bool.noConfusion (show false = true from h), fun _ => ?_⟩ | refine ⟨tyIn rfl, ?_⟩ | refine ⟨tysIn rfl, ?_⟩ | refine ⟨smallL rfl, ?_⟩ | refine ⟨smallE rfl, ?_⟩))
@[irreducible] def sp_l_followersM : ASp := fun ds R => ∃ (t : Tp) (n m c : Nat), ds = [dT t, .int n, .int m] ∧ 1 ≤ n ∧ n ≤ 8 ∧ 1 ≤ m ∧ m ≤ 4 ∧ t.ok (c + 13) ∧ ∀ fs t', FolOk n fs → fs.length ≤ m → t'.ok c → R (.lst (fs.map dF)) 1 [dT t']
theorem sp_l_followersM.mk {t : Tp} {n m : Nat} {R : RR} (c : Nat) (h1 : 1 ≤ n) (h2 : n ≤ 8) (h3 : 1 ≤ m) (h4 : m ≤ 4) (ht : t.ok (c + 13)) (h : ∀ fs t', FolOk n fs → fs.length ≤ m → t'.ok c → R (.lst (fs.map dF)) 1 [dT t']) : sp_l_followersM [dT t, .int n, .int m] R := by
  unfold sp_l_followersM
  exact ⟨t, n, m, c, rfl, h1, h2, h3, h4, ht, h⟩
@[irreducible] def sp_l_stateM : ASp := fun ds R => ∃ (t : Tp) (k n m c : Nat), ds = [dT t, .int k, .int n, .int m] ∧ 1 ≤ k ∧ k ≤ 4 ∧ 1 ≤ n ∧ n ≤ 8 ∧ 1 ≤ m ∧ m ≤ 4 ∧ t.ok (c + 121) ∧ ∀ s t', StOk k n s → (∀ d ∈ s.ds, d.fs.length ≤ m) → t'.ok c → R (dSt s) 0 [dT t']
theorem sp_l_stateM.mk {t : Tp} {k n m : Nat} {R : RR} (c : Nat) (k1 : 1 ≤ k) (k4 : k ≤ 4) (h1 : 1 ≤ n) (h2 : n ≤ 8) (h3 : 1 ≤ m) (h4 : m ≤ 4) (ht : t.ok (c + 121)) (h : ∀ s t', StOk k n s → (∀ d ∈ s.ds, d.fs.length ≤ m) → t'.ok c → R (dSt s) 0 [dT t']) : sp_l_stateM [dT t, .int k, .int n, .int m] R := by
  unfold sp_l_stateM
  exact ⟨t, k, n, m, c, rfl, k1, k4, h1, h2, h3, h4, ht, h⟩
@[irreducible] def sp_l_plan_2aee24 : ASp := sp_l_plan
theorem sp_l_plan_2aee24.mk {t : Tp} {l : Land} {k : Nat} {R : RR} (n : Nat) (h1 : LandOk l) (h2 : k ≤ 100) (h3 : t.ok (n + 8 * k)) (h : ∀ ps t', PlanOk l k ps → t'.ok n → R (.lst (dPlan ps)) 1 [dT t']) : sp_l_plan_2aee24 [dT t, dLand l, .int k] R := by unfold sp_l_plan_2aee24; exact sp_l_plan.mk n h1 h2 h3 h
/-! ### states with few followers; plans -/
/-! ### nothing that plans or mixes have lies beyond the rim -/
def Under (L : List P2) (p : P2) : Prop := ∀ pr, dot2 pr p ≤ htQ pr L
theorem dot_ad (pr x y : P2) : dot2 pr (ad x y) = dot2 pr x + dot2 pr y := by unfold dot2 ad; grind
theorem dot_sc (pr x : P2) (q : Rat) : dot2 pr (sc x q) = q * dot2 pr x := by unfold dot2 sc; grind
theorem sup_fen {L : List P2} {p : P2} (h : Under L p) : fenB L p = true := List.all_eq_true.mpr fun pr _ => decide_eq_true (h pr)
theorem sup_mid {L : List P2} {p q : P2} {c : Rat} (hp : Under L p) (hq : Under L q) (c0 : 0 ≤ c) (c1 : c ≤ 1) : Under L (ad (sc p c) (sc q (1 - c))) := by
  intro pr
  rw [dot_ad, dot_sc, dot_sc]
  have a := hp pr
  have b := hq pr
  have m1 := Rat.mul_nonneg c0 (show 0 ≤ htQ pr L - dot2 pr p by grind)
  have m2 := Rat.mul_nonneg (show 0 ≤ 1 - c by grind) (show 0 ≤ htQ pr L - dot2 pr q by grind)
  grind
end VL

set_option maxHeartbeats 2000000
set_option pp.maxSteps 250
namespace VL
open PySem PySem.Spec PyProof.Rows L2
local macro_rules | `(tactic| walk_at "n") => `(tactic| refine ⟨fun h => Bool.noConfusion (show false = true from h), fun _ => ?_⟩)
local macro_rules | `(tactic| walk_at "ty") => `(tactic| refine ⟨_, rfl, by decide, ?_⟩)
local macro_rules | `(tactic| walk_at "tys") => `(tactic| refine ⟨_, rfl, _, rfl, by decide, ?_⟩)
local macro_rules | `(tactic| walk_at "v") => `(tactic| repeat (first | refine ⟨rfl, ?_⟩ | refine ⟨_, rfl, ?_⟩))
local macro_rules | `(tactic| walk_at "y") => `(tactic| refine ⟨fun _ => ?_, fun h => Bool.noConfusion (show true = false from h)⟩)
local macro_rules | `(tactic| walk_at "z") => `(tactic| repeat (first | refine ⟨rfl, ?_⟩ | refine ⟨_, rfl, ?_⟩ | refine ⟨fun _ => ?_, fun h => Bool.noConfusion (show true = false from h)⟩ | refine ⟨fun h => Bool.noConfusion (show false = true from h), fun _ => ?_⟩ | refine ⟨tyIn rfl, ?_⟩ | refine ⟨tysIn rfl, ?_⟩ | refine ⟨smallL rfl, ?_⟩ | refine ⟨smallE rfl, ?_⟩))
local macro_rules | `(tactic| walk_at "zz") => `(tactic| repeat ((fail_if_success show forL _ _ _ _ _); first | refine ⟨rfl, ?_⟩ | refine ⟨_, rfl, ?_⟩ | refine ⟨fun _ => ?_, fun h => Bool.noConfusion (show true = false from h)⟩ | refine ⟨fun h => Bool.noConfusion (show false = true from h), fun _ => ?_⟩ | refine ⟨tyIn rfl, ?_⟩ | refine ⟨tysIn rfl, ?_⟩ | refine ⟨smallL rfl, ?_⟩ | refine ⟨smallE rfl, ?_⟩))
/-! ### hulls of points that rise (the law's other hull) -/
@[irreducible] def sp_l_turnR : ASp := fun ds R => ∃ a b c : P2, ds = [dpt a, dpt b, dpt c] ∧ smallP 100000 a ∧ smallP 100000 b ∧ smallP 100000 c ∧ ∀ z : Int, (0 < z ↔ 0 < crs a b c) → R (.int z) 0 []
theorem sp_l_turnR.mk {a b c : P2} {R : RR} (h1 : smallP 100000 a) (h2 : smallP 100000 b) (h3 : smallP 100000 c) (h : ∀ z : Int, (0 < z ↔ 0 < crs a b c) → R (.int z) 0 []) : sp_l_turnR [dpt a, dpt b, dpt c] R := by unfold sp_l_turnR; exact ⟨a, b, c, rfl, h1, h2, h3, h⟩
instance (a b : P2) : Decidable (lx a b) := inferInstanceAs (Decidable (a.1 < b.1 ∨ a.1 = b.1 ∧ a.2 < b.2))
@[irreducible] def sp_l_rises : ASp := fun ds R => ∃ a b : P2, ds = [dpt a, dpt b] ∧ smallP 100000 a ∧ smallP 100000 b ∧ R (.bl (decide (lx a b))) 0 []
theorem sp_l_rises.mk {a b : P2} {R : RR} (h1 : smallP 100000 a) (h2 : smallP 100000 b) (h : R (.bl (decide (lx a b))) 0 []) : sp_l_rises [dpt a, dpt b] R := by unfold sp_l_rises; exact ⟨a, b, rfl, h1, h2, h⟩
def RisesOf (W L : List P2) : Prop := W.Pairwise lx ∧ ∀ p, p ∈ W ↔ p ∈ L
@[irreducible] def sp_l_rising (m : Nat) : ASp := fun ds R => ∃ L : List P2, ds = [.lst (L.map dpt)] ∧ L.length ≤ 2 ^ m ∧ L.length ≤ 40000 ∧ (∀ p ∈ L, smallP 100000 p) ∧ ∀ W, RisesOf W L → R (.lst (W.map dpt)) 1 []
theorem sp_l_rising.mk {m : Nat} {L : List P2} {R : RR} (h1 : L.length ≤ 2 ^ m) (h2 : L.length ≤ 40000) (h3 : ∀ p ∈ L, smallP 100000 p) (h : ∀ W, RisesOf W L → R (.lst (W.map dpt)) 1 []) : sp_l_rising m [.lst (L.map dpt)] R := by unfold sp_l_rising; exact ⟨L, rfl, h1, h2, h3, h⟩
@[irreducible] def sp_l_hullR : ASp := fun ds R => ∃ ps : List P2, ds = [.lst (ps.map dpt)] ∧ ps ≠ [] ∧ ps.length ≤ 40000 ∧ (∀ p ∈ ps, smallP 100000 p) ∧ ∀ L, Fig ps L → R (.lst (L.map dpt)) 1 []
theorem sp_l_hullR.mk {ps : List P2} {R : RR} (h0 : ps ≠ []) (hn : ps.length ≤ 40000) (h1 : ∀ p ∈ ps, smallP 100000 p) (h : ∀ L, Fig ps L → R (.lst (L.map dpt)) 1 []) : sp_l_hullR [.lst (ps.map dpt)] R := by unfold sp_l_hullR; exact ⟨ps, rfl, h0, hn, h1, h⟩
end VL

set_option maxHeartbeats 2000000
set_option pp.maxSteps 250
namespace VL
open PySem PySem.Spec PyProof.Rows L2
local macro_rules | `(tactic| walk_at "n") => `(tactic| refine ⟨fun h => Bool.noConfusion (show false = true from h), fun _ => ?_⟩)
local macro_rules | `(tactic| walk_at "ty") => `(tactic| refine ⟨_, rfl, by decide, ?_⟩)
local macro_rules | `(tactic| walk_at "tys") => `(tactic| refine ⟨_, rfl, _, rfl, by decide, ?_⟩)
local macro_rules | `(tactic| walk_at "v") => `(tactic| repeat (first | refine ⟨rfl, ?_⟩ | refine ⟨_, rfl, ?_⟩))
local macro_rules | `(tactic| walk_at "y") => `(tactic| refine ⟨fun _ => ?_, fun h => Bool.noConfusion (show true = false from h)⟩)
local macro_rules | `(tactic| walk_at "z") => `(tactic| repeat (first | refine ⟨rfl, ?_⟩ | refine ⟨_, rfl, ?_⟩ | refine ⟨fun _ => ?_, fun h => Bool.noConfusion (show true = false from h)⟩ | refine ⟨fun h => Bool.noConfusion (show false = true from h), fun _ => ?_⟩ | refine ⟨tyIn rfl, ?_⟩ | refine ⟨tysIn rfl, ?_⟩ | refine ⟨smallL rfl, ?_⟩ | refine ⟨smallE rfl, ?_⟩))
local macro_rules | `(tactic| walk_at "zz") => `(tactic| repeat ((fail_if_success show forL _ _ _ _ _); first | refine ⟨rfl, ?_⟩ | refine ⟨_, rfl, ?_⟩ | refine ⟨fun _ => ?_, fun h => Bool.noConfusion (show true = false from h)⟩ | refine ⟨fun h => Bool.noConfusion (show false = true from h), fun _ => ?_⟩ | refine ⟨tyIn rfl, ?_⟩ | refine ⟨tysIn rfl, ?_⟩ | refine ⟨smallL rfl, ?_⟩ | refine ⟨smallE rfl, ?_⟩))
/-! ### figures cut -/
theorem nx_turn {P : P2 → Prop} : ∀ {l : List P2} {c : P2}, P c → (∃ x ∈ l, ¬ P x) → ∃ u v, Nx (c :: l) u v ∧ P u ∧ ¬ P v
  | [], c, _, ⟨x, hx, _⟩ => absurd hx List.not_mem_nil
  | y :: l, c, hc, ⟨x, hx, hn⟩ => by
    by_cases h : P y
    · have : x ∈ l := by
        rcases List.mem_cons.mp hx with rfl | q
        · exact absurd h hn
        · exact q
      obtain ⟨u, v, h1, h2, h3⟩ := nx_turn (l := l) h ⟨x, this, hn⟩
      exact ⟨u, v, nx_cons.mpr (.inr h1), h2, h3⟩
    · exact ⟨c, y, nx_cons.mpr (.inl ⟨rfl, rfl⟩), hc, h⟩
theorem cyc_turn {P : P2 → Prop} {a : P2} {t : List P2} {c x : P2} (hc : c ∈ a :: t) (hx : x ∈ a :: t) (h1 : P c) (h2 : ¬ P x) : ∃ u v, Nx (a :: t ++ [a]) u v ∧ P u ∧ ¬ P v := by
  by_cases h : P a
  · refine nx_turn (l := t ++ [a]) h ⟨x, ?_, h2⟩
    rcases List.mem_cons.mp hx with rfl | q
    · exact absurd h h2
    · exact List.mem_append_left _ q
  · obtain ⟨s, r, e⟩ := List.append_of_mem hc
    obtain ⟨u, v, ⟨s', r', e'⟩, h3, h4⟩ := nx_turn (l := r ++ [a]) h1 ⟨a, by simp, h⟩
    exact ⟨u, v, ⟨s ++ s', r', by rw [e, List.append_assoc, List.cons_append, e']; simp⟩, h3, h4⟩
def hQ (pr : P2) (b : Rat) (c : P2) : Rat := dot2 pr c - b
def crP (u v : P2) (f s : Rat) : P2 := ad u (sc (sb v u) (f / (f - s)))
/-- the points of which the cut is the figure -/
structure CutOf (L : List P2) (pr : P2) (b : Rat) (F : List P2) : Prop where
  keep : ∀ c ∈ L, 0 ≤ hQ pr b c → c ∈ F
  cross : ∀ u v, (u, v) ∈ edL L → hQ pr b u * hQ pr b v < 0 → crP u v (hQ pr b u) (hQ pr b v) ∈ F
  of : ∀ p ∈ F, (p ∈ L ∧ 0 ≤ hQ pr b p) ∨ ∃ u v, (u, v) ∈ edL L ∧ hQ pr b u * hQ pr b v < 0 ∧ p = crP u v (hQ pr b u) (hQ pr b v)
theorem mul_neg {x y : Rat} (h : x * y < 0) : (0 < x ∧ y < 0) ∨ (x < 0 ∧ 0 < y) := by
  by_cases a : 0 < x
  · left
    refine ⟨a, ?_⟩
    by_cases c : y < 0
    · exact c
    · have := Rat.mul_nonneg (Rat.le_of_lt a) (show 0 ≤ y by grind)
      grind
  · right
    by_cases c : 0 < y
    · refine ⟨?_, c⟩
      by_cases z : x = 0
      · rw [z] at h; grind
      · grind
    · have := Rat.mul_nonneg (show 0 ≤ -x by grind) (show 0 ≤ -y by grind)
      grind
theorem crP_h {pr u v : P2} {b : Rat} (h : hQ pr b u ≠ hQ pr b v) : hQ pr b (crP u v (hQ pr b u) (hQ pr b v)) = 0 := by
  have e : hQ pr b (crP u v (hQ pr b u) (hQ pr b v)) = hQ pr b u - (hQ pr b u - hQ pr b v) * (hQ pr b u / (hQ pr b u - hQ pr b v)) := by
    have : dot2 pr (crP u v (hQ pr b u) (hQ pr b v)) = dot2 pr u + (dot2 pr v - dot2 pr u) * (hQ pr b u / (hQ pr b u - hQ pr b v)) := by
      unfold crP
      generalize hQ pr b u / (hQ pr b u - hQ pr b v) = t
      unfold dot2 ad sc sb; grind
    have h1 : dot2 pr v - dot2 pr u = -(hQ pr b u - hQ pr b v) := by unfold hQ; grind
    have h2 : hQ pr b (crP u v (hQ pr b u) (hQ pr b v)) = dot2 pr (crP u v (hQ pr b u) (hQ pr b v)) - b := rfl
    rw [h2, this, h1]
    have h3 : hQ pr b u = dot2 pr u - b := rfl
    grind
  rw [e]
  have hd : hQ pr b u - hQ pr b v ≠ 0 := by grind
  grind
theorem CutOf.nn {L F : List P2} {pr : P2} {b : Rat} (h : CutOf L pr b F) : ∀ p ∈ F, 0 ≤ hQ pr b p := by
  intro p hp
  rcases h.of p hp with ⟨_, k⟩ | ⟨u, v, _, k, rfl⟩
  · exact k
  · rw [crP_h (by rcases mul_neg k with ⟨a, c⟩ | ⟨a, c⟩ <;> grind)]; exact Rat.le_refl
theorem under_left {pts L : List P2} {p x y : P2} (hL : Fig pts L) (hp : Under L p) (h : (x, y) ∈ edL L) (h2 : 2 ≤ L.length) : 0 ≤ crs x y p := by
  have a := hp (rt90 (sb y x))
  rw [ht_edge hL h h2, rt_crs] at a
  grind
/-- on the line of the cut all lies between two points that are kept -/
theorem cut_line {pts L F : List P2} {pr : P2} {b : Rat} (hL : Fig pts L) (hF : CutOf L pr b F) {c x z : P2} (hc : c ∈ L) (hx : x ∈ L) (c0 : 0 ≤ hQ pr b c) (x0 : hQ pr b x < 0) (hz : Under L z) (z0 : hQ pr b z = 0) (pr2 : P2) : ∃ q ∈ F, dot2 pr2 z ≤ dot2 pr2 q := by
  obtain ⟨a, t, e, _⟩ := hL.ex
  subst e
  have l2 : 2 ≤ (a :: t).length := by
    cases t with
    | nil =>
      have h1 := List.mem_singleton.mp hc
      have h2 := List.mem_singleton.mp hx
      rw [h1] at c0; rw [h2] at x0; grind
    | cons _ _ => simp
  obtain ⟨u, v, n1, u0, v0⟩ := cyc_turn (P := fun p => 0 ≤ hQ pr b p) hc hx c0 (by grind)
  obtain ⟨u', v', n2, u0', v0'⟩ := cyc_turn (P := fun p => ¬ 0 ≤ hQ pr b p) hx hc (by grind) (by simpa using c0)
  have v0 : hQ pr b v < 0 := by grind
  have u0' : hQ pr b u' < 0 := by grind
  have v0' : 0 ≤ hQ pr b v' := by
    by_cases q : 0 ≤ hQ pr b v'
    · exact q
    · exact absurd q v0'
  have m1 : (u, v) ∈ edL (a :: t) := edL_nx.mpr n1
  have m2 : (u', v') ∈ edL (a :: t) := edL_nx.mpr n2
  have k1 := under_left hL hz m1 l2
  have k2 := under_left hL hz m2 l2
  -- a kept point on an edge's line, at the cut
  have key : ∀ (u v : P2), (u, v) ∈ edL (a :: t) → (0 ≤ hQ pr b u ∧ hQ pr b v < 0) ∨ (hQ pr b u < 0 ∧ 0 ≤ hQ pr b v) → ∃ q ∈ F, hQ pr b q = 0 ∧ crs u v q = 0 := by
    intro u v hm h
    obtain ⟨hu, hv⟩ := edL_mem hm
    rcases h with ⟨h1, h2⟩ | ⟨h1, h2⟩
    · by_cases e : hQ pr b u = 0
      · exact ⟨u, hF.keep u hu h1, e, by unfold crs; grind⟩
      · refine ⟨_, hF.cross u v hm ?_, crP_h (by grind), ?_⟩
        · have := Rat.mul_pos (show 0 < hQ pr b u by grind) (show 0 < - hQ pr b v by grind)
          grind
        · unfold crP crs ad sc sb; grind
    · by_cases e : hQ pr b v = 0
      · exact ⟨v, hF.keep v hv h2, e, by unfold crs; grind⟩
      · refine ⟨_, hF.cross u v hm ?_, crP_h (by grind), ?_⟩
        · have := Rat.mul_pos (show 0 < - hQ pr b u by grind) (show 0 < hQ pr b v by grind)
          grind
        · unfold crP crs ad sc sb; grind
  obtain ⟨q1, f1, h1, g1⟩ := key u v m1 (.inl ⟨u0, v0⟩)
  obtain ⟨q2, f2, h2, g2⟩ := key u' v' m2 (.inr ⟨u0', v0'⟩)
  -- along the line
  have d1 : dot2 pr (sb v u) < 0 := by rw [dot_sb]; unfold hQ at u0 v0; grind
  have d2 : 0 < dot2 pr (sb v' u') := by rw [dot_sb]; unfold hQ at u0' v0'; grind
  have s1 : 0 ≤ cr (sb v u) (sb z q1) := by
    have : crs u v z = crs u v q1 + cr (sb v u) (sb z q1) := by unfold crs cr sb; grind
    rw [g1] at this; grind
  have s2 : 0 ≤ cr (sb v' u') (sb z q2) := by
    have : crs u' v' z = crs u' v' q2 + cr (sb v' u') (sb z q2) := by unfold crs cr sb; grind
    rw [g2] at this; grind
  have o1 : dot2 pr (sb z q1) = 0 := by rw [dot_sb]; unfold hQ at z0 h1; grind
  have o2 : dot2 pr (sb z q2) = 0 := by rw [dot_sb]; unfold hQ at z0 h2; grind
  have nn : 0 < dot2 pr pr := by
    have a1 := sq_nn pr.1
    have a2 := sq_nn pr.2
    by_cases q : dot2 pr pr = 0
    · exfalso
      unfold dot2 at q
      have z1 : pr.1 * pr.1 = 0 := by grind
      have z2 : pr.2 * pr.2 = 0 := by grind
      have z1 : pr.1 = 0 := (Rat.mul_eq_zero.mp z1).elim (fun h => h) (fun h => h)
      have z2 : pr.2 = 0 := (Rat.mul_eq_zero.mp z2).elim (fun h => h) (fun h => h)
      unfold dot2 at d1
      rw [z1, z2] at d1
      grind
    · unfold dot2 at q ⊢; grind
  -- of a vector w across pr : w = (cr w pr / |pr|²) · (pr.2, - pr.1)
  have al : ∀ w e : P2, dot2 pr w = 0 → dot2 pr pr * cr e w = - (cr w pr) * dot2 pr e := by
    intro w e h
    unfold dot2 cr at *
    grind
  have a1 := al _ (sb v u) o1
  have a2 := al _ (sb v' u') o2
  have b1 : 0 ≤ cr (sb z q1) pr := by
    by_cases q : 0 ≤ cr (sb z q1) pr
    · exact q
    · exfalso
      have := Rat.mul_pos (show 0 < - cr (sb z q1) pr by grind) (show 0 < - dot2 pr (sb v u) by grind)
      have := Rat.mul_nonneg (Rat.le_of_lt nn) s1
      grind
  have b2 : cr (sb z q2) pr ≤ 0 := by
    by_cases q : cr (sb z q2) pr ≤ 0
    · exact q
    · exfalso
      have := Rat.mul_pos (show 0 < cr (sb z q2) pr by grind) d2
      have := Rat.mul_nonneg (Rat.le_of_lt nn) s2
      grind
  have dd : ∀ w : P2, dot2 pr w = 0 → dot2 pr pr * dot2 pr2 w = cr w pr * cr pr2 pr := by
    intro w h
    unfold dot2 cr at *
    grind
  by_cases q : 0 ≤ cr pr2 pr
  · refine ⟨q2, f2, ?_⟩
    have e := dd _ o2
    have : 0 ≤ - cr (sb z q2) pr * cr pr2 pr := Rat.mul_nonneg (by grind) q
    have : 0 ≤ dot2 pr pr * (- dot2 pr2 (sb z q2)) := by grind
    have := nn_of_mul nn this
    rw [dot_sb] at this
    grind
  · refine ⟨q1, f1, ?_⟩
    have e := dd _ o1
    have : 0 ≤ cr (sb z q1) pr * (- cr pr2 pr) := Rat.mul_nonneg b1 (by grind)
    have : 0 ≤ dot2 pr pr * (- dot2 pr2 (sb z q1)) := by grind
    have := nn_of_mul nn this
    rw [dot_sb] at this
    grind
theorem under_mem {L : List P2} {c : P2} (h : c ∈ L) : Under L c := fun _ => ht_ge h
/-- what lies in the figure on the kept side has no price beyond the kept points -/
theorem cut_under {pts L F : List P2} {pr : P2} {b : Rat} (hL : Fig pts L) (hF : CutOf L pr b F) {p : P2} (hp : Under L p) (h0 : 0 ≤ hQ pr b p) (pr2 : P2) : ∃ q ∈ F, dot2 pr2 p ≤ dot2 pr2 q := by
  obtain ⟨x, hx, ex⟩ := ht_at (pr := pr2) hL.ne
  have px := hp pr2
  rw [ex] at px
  by_cases x0 : 0 ≤ hQ pr b x
  · exact ⟨x, hF.keep x hx x0, px⟩
  · have x0 : hQ pr b x < 0 := by grind
    obtain ⟨c, hc, ec⟩ := ht_at (pr := pr) hL.ne
    have c0 : 0 ≤ hQ pr b c := by
      have := hp pr
      rw [ec] at this
      unfold hQ at h0 ⊢; grind
    have dp : 0 < hQ pr b p - hQ pr b x := by grind
    have t0 : 0 ≤ hQ pr b p / (hQ pr b p - hQ pr b x) := by
      refine nn_of_mul dp ?_
      have : (hQ pr b p - hQ pr b x) * (hQ pr b p / (hQ pr b p - hQ pr b x)) = hQ pr b p := by grind
      rw [this]; exact h0
    have t1 : hQ pr b p / (hQ pr b p - hQ pr b x) ≤ 1 := div_le_one dp (by grind)
    have te : (hQ pr b p - hQ pr b x) * (hQ pr b p / (hQ pr b p - hQ pr b x)) = hQ pr b p := by grind
    generalize hQ pr b p / (hQ pr b p - hQ pr b x) = t at t0 t1 te
    have hz := sup_mid (under_mem hx) hp t0 t1
    have z0 : hQ pr b (ad (sc x t) (sc p (1 - t))) = 0 := by
      unfold hQ at te ⊢
      rw [dot_ad, dot_sc, dot_sc]
      grind
    obtain ⟨q, hq, hle⟩ := cut_line hL hF hc hx c0 x0 hz z0 pr2
    refine ⟨q, hq, Rat.le_trans ?_ hle⟩
    rw [dot_ad, dot_sc, dot_sc]
    have := Rat.mul_nonneg t0 (show 0 ≤ dot2 pr2 x - dot2 pr2 p by grind)
    grind
theorem nbrs3 {a x : P2} {t : List P2} (hnd : (a :: t).Nodup) (h3 : 3 ≤ (a :: t).length) (hx : x ∈ a :: t) : ∃ w y, Nx (a :: t ++ [a]) w x ∧ Nx (a :: t ++ [a]) x y ∧ y ≠ w := by
  obtain ⟨u, v, e⟩ := List.append_of_mem hx
  rcases List.eq_nil_or_concat u with rfl | ⟨u', w, rfl⟩
  · have xa : a = x := (List.cons.inj e).1
    have tv : t = v := (List.cons.inj e).2
    subst xa; subst tv
    rcases List.eq_nil_or_concat t with rfl | ⟨t', w, rfl⟩
    · simp at h3
    · rw [List.concat_eq_append] at *
      cases t' with
      | nil => simp at h3
      | cons y t'' =>
        refine ⟨w, y, ⟨a :: y :: t'', [], by simp⟩, ⟨[], t'' ++ [w] ++ [a], by simp⟩, fun z => ?_⟩
        rw [z] at hnd
        simp at hnd
  · rw [List.concat_eq_append] at e
    have n1 : Nx (a :: t ++ [a]) w x := ⟨u', v ++ [a], by rw [e]; simp⟩
    cases v with
    | nil =>
      refine ⟨w, a, n1, ⟨u' ++ [w], [], by rw [e]; simp⟩, fun z => ?_⟩
      subst z
      cases u' with
      | nil =>
        have := congrArg List.length e
        simp at this h3
        omega
      | cons b u'' =>
        have eb : a = b := (List.cons.inj e).1
        subst eb
        rw [e] at hnd
        simp at hnd
    | cons y v' =>
      refine ⟨w, y, n1, ⟨u' ++ [w], v' ++ [a], by rw [e]; simp⟩, fun z => ?_⟩
      subst z
      rw [e] at hnd
      have := (List.nodup_append.mp hnd).2.2 y (by simp) y (by simp)
      exact this rfl
/-- what the law finds in a figure, no price puts beyond it -/
theorem has_under {pts L : List P2} (h : Fig pts L) {p : P2} (hp : hasB L p = true) : Under L p := by
  match L, h, hp with
  | [], h, _ => exact absurd rfl h.ne
  | [a], _, hp =>
    have e : a = p := of_decide_eq_true hp
    rw [← e]
    exact under_mem (by simp)
  | [a, b], h, hp =>
    have hp : ((edL [a, b]).all (fun e => decide (0 ≤ crs e.1 e.2 p)) && (false || (decide (0 ≤ dot2 (sb b a) (sb p a)) && decide (dot2 (sb b a) (sb p a) ≤ dot2 (sb b a) (sb b a))))) = true := hp
    simp only [Bool.and_eq_true, Bool.false_or, decide_eq_true_eq] at hp
    obtain ⟨h1, h2, h3⟩ := hp
    rw [List.all_eq_true] at h1
    have c1 := of_decide_eq_true (h1 (a, b) (by show (a, b) ∈ [(a, b), (b, a)]; simp))
    have c2 := of_decide_eq_true (h1 (b, a) (by show (b, a) ∈ [(a, b), (b, a)]; simp))
    dsimp only at c1 c2
    have c0 : crs a b p = 0 := by
      have : crs b a p = - crs a b p := by unfold crs; grind
      grind
    intro pr
    have ga := ht_ge (pr := pr) (show a ∈ [a, b] by simp)
    have gb := ht_ge (pr := pr) (show b ∈ [a, b] by simp)
    generalize htQ pr [a, b] = m at ga gb ⊢
    -- |b - a|² dot pr (p - a) = dot (b - a) (p - a) · dot pr (b - a)
    have id : dot2 (sb b a) (sb b a) * (dot2 pr p - dot2 pr a) = dot2 (sb b a) (sb p a) * (dot2 pr b - dot2 pr a) := by
      rw [← dot_sb, ← dot_sb]
      unfold crs at c0
      unfold dot2 sb
      grind
    have n0 : 0 < dot2 (sb b a) (sb b a) := by
      have hab : a ≠ b := by
        have := h.nodup
        intro z
        rw [z] at this
        simp at this
      have s1 := sq_nn (sb b a).1
      have s2 := sq_nn (sb b a).2
      by_cases q : dot2 (sb b a) (sb b a) = 0
      · exfalso
        unfold dot2 at q
        have z1 : (sb b a).1 * (sb b a).1 = 0 := by grind
        have z2 : (sb b a).2 * (sb b a).2 = 0 := by grind
        have z1 := (Rat.mul_eq_zero.mp z1).elim (fun h => h) (fun h => h)
        have z2 := (Rat.mul_eq_zero.mp z2).elim (fun h => h) (fun h => h)
        unfold sb at z1 z2
        dsimp only at z1 z2
        exact hab (Prod.ext (by grind) (by grind))
      · unfold dot2 at q ⊢; grind
    generalize dot2 (sb b a) (sb b a) = N at *
    generalize dot2 (sb b a) (sb p a) = K at *
    by_cases q : dot2 pr p ≤ m
    · exact q
    · exfalso
      have e1 := Rat.mul_nonneg h2 (show 0 ≤ m - dot2 pr b by grind)
      have e2 := Rat.mul_nonneg (show 0 ≤ N - K by grind) (show 0 ≤ m - dot2 pr a by grind)
      have e3 := Rat.mul_pos n0 (show 0 < dot2 pr p - m by grind)
      grind
  | a :: b :: c :: r, h, hp =>
    have hp : ((edL (a :: b :: c :: r)).all (fun e => decide (0 ≤ crs e.1 e.2 p)) && true) = true := hp
    rw [Bool.and_true, List.all_eq_true] at hp
    have cr0 : ∀ x y, Nx (a :: b :: c :: r ++ [a]) x y → 0 ≤ crs x y p := fun x y hn => of_decide_eq_true (hp (x, y) (edL_nx.mpr hn))
    intro pr
    obtain ⟨x, hx, ex⟩ := ht_at (pr := pr) h.ne
    have hmax : ∀ c' ∈ a :: b :: c :: r, dot2 pr c' ≤ dot2 pr x := fun c' hc => by rw [← ex]; exact ht_ge hc
    rw [ex]
    obtain ⟨w, y, n1, n2, hne⟩ := nbrs3 h.nodup (by simp) hx
    have ed : ∀ u v, Nx (a :: b :: c :: r ++ [a]) u v → u ∈ a :: b :: c :: r ∧ v ∈ a :: b :: c :: r ∧ Edge (a :: b :: c :: r) u v := fun u v hn => fig_edge h (edL_nx.mpr hn) (by simp)
    obtain ⟨hw, _, E1⟩ := ed w x n1
    obtain ⟨_, hy, E2⟩ := ed x y n2
    have m1 := hmax w hw
    have m2 := hmax y hy
    have k1 := cr0 w x n1
    have k2 := cr0 x y n2
    rw [crs_u] at k1
    rw [crs_v] at k2
    have tp := turn_pos E1 E2 hw hy hne
    have id : cr (sb x w) (sb y x) * (dot2 pr p - dot2 pr x) = cr (sb x w) (sb p x) * (dot2 pr y - dot2 pr x) + cr (sb y x) (sb p x) * (dot2 pr w - dot2 pr x) := by unfold cr dot2 sb; grind
    have q1 := Rat.mul_nonneg k1 (show 0 ≤ dot2 pr x - dot2 pr y by grind)
    have q2 := Rat.mul_nonneg k2 (show 0 ≤ dot2 pr x - dot2 pr w by grind)
    by_cases z : dot2 pr p ≤ dot2 pr x
    · exact z
    · have := Rat.mul_pos tp (show 0 < dot2 pr p - dot2 pr x by grind)
      grind
/-- the cut's figure holds of the figure's points those on the kept side -/
theorem cut_has {pts L F M : List P2} {pr : P2} {b : Rat} (hL : Fig pts L) (hF : CutOf L pr b F) (hM : Fig F M) {p : P2} (hp : Under L p) : hasB M p = decide (0 ≤ hQ pr b p) := by
  rw [Bool.eq_iff_iff, decide_eq_true_iff]
  constructor
  · intro h
    have u := has_under hM h (-pr.1, -pr.2)
    obtain ⟨x, hx, ex⟩ := ht_at (pr := (-pr.1, -pr.2)) hM.ne
    rw [ex] at u
    have := hF.nn x (hM.sub x hx)
    unfold hQ dot2 at *
    grind
  · intro h
    rw [← fen_has hM]
    refine sup_fen fun pr2 => ?_
    obtain ⟨q, hq, hle⟩ := cut_under hL hF hp h pr2
    exact Rat.le_trans hle (ht_fig hM pr2 hq)
/-- nothing is kept: all lies on the other side -/
theorem cut_none {pts L : List P2} {pr : P2} {b : Rat} (hL : Fig pts L) (hF : CutOf L pr b []) {p : P2} (hp : Under L p) : ¬ 0 ≤ hQ pr b p := fun h => by
  obtain ⟨q, hq, _⟩ := cut_under hL hF hp h (0, 0)
  cases hq
/-- the cut of a cut is the cut -/
theorem cut_again {L F M : List P2} {pr : P2} {b : Rat} (hF : CutOf L pr b F) (hM : Fig F M) {G : List P2} (hG : CutOf M pr b G) : Fig G M := by
  have nn : ∀ c ∈ M, 0 ≤ hQ pr b c := fun c hc => hF.nn c (hM.sub c hc)
  refine hM.of_within (fun c hc => hG.keep c hc (nn c hc)) fun p hp => ?_
  rcases hG.of p hp with ⟨h, _⟩ | ⟨u, v, hm, k, _⟩
  · exact hM.within p (hM.sub p h)
  · obtain ⟨h1, h2⟩ := edL_mem hm
    have := Rat.mul_nonneg (nn u h1) (nn v h2)
    grind
end VL

set_option maxHeartbeats 2000000
set_option pp.maxSteps 250
namespace VL
open PySem PySem.Spec PyProof.Rows L2
local macro_rules | `(tactic| walk_at "n") => `(tactic| refine ⟨fun h => Bool.noConfusion (show false = true from h), fun _ => ?_⟩)
local macro_rules | `(tactic| walk_at "ty") => `(tactic| refine ⟨_, rfl, by decide, ?_⟩)
local macro_rules | `(tactic| walk_at "tys") => `(tactic| refine ⟨_, rfl, _, rfl, by decide, ?_⟩)
local macro_rules | `(tactic| walk_at "v") => `(tactic| repeat (first | refine ⟨rfl, ?_⟩ | refine ⟨_, rfl, ?_⟩))
local macro_rules | `(tactic| walk_at "y") => `(tactic| refine ⟨fun _ => ?_, fun h => Bool.noConfusion (show true = false from h)⟩)
local macro_rules | `(tactic| walk_at "z") => `(tactic| repeat (first | refine ⟨rfl, ?_⟩ | refine ⟨_, rfl, ?_⟩ | refine ⟨fun _ => ?_, fun h => Bool.noConfusion (show true = false from h)⟩ | refine ⟨fun h => Bool.noConfusion (show false = true from h), fun _ => ?_⟩ | refine ⟨tyIn rfl, ?_⟩ | refine ⟨tysIn rfl, ?_⟩ | refine ⟨smallL rfl, ?_⟩ | refine ⟨smallE rfl, ?_⟩))
local macro_rules | `(tactic| walk_at "zz") => `(tactic| repeat ((fail_if_success show forL _ _ _ _ _); first | refine ⟨rfl, ?_⟩ | refine ⟨_, rfl, ?_⟩ | refine ⟨fun _ => ?_, fun h => Bool.noConfusion (show true = false from h)⟩ | refine ⟨fun h => Bool.noConfusion (show false = true from h), fun _ => ?_⟩ | refine ⟨tyIn rfl, ?_⟩ | refine ⟨tysIn rfl, ?_⟩ | refine ⟨smallL rfl, ?_⟩ | refine ⟨smallE rfl, ?_⟩))
/-! ### figures cut: read -/
@[irreducible] def sp_crossing : ASp := fun ds R => ∃ (u v : P2) (f s : Rat), ds = [dpt u, dpt v, dq f, dq s] ∧ f ≠ s ∧ smallP 1000000 u ∧ smallP 1000000 v ∧ wt f ≤ 1000000 ∧ wt s ≤ 1000000 ∧ R (dpt (crP u v f s)) 0 []
theorem sp_crossing.mk {u v : P2} {f s : Rat} {R : RR} (h0 : f ≠ s) (h1 : smallP 1000000 u) (h2 : smallP 1000000 v) (h3 : wt f ≤ 1000000) (h4 : wt s ≤ 1000000) (h : R (dpt (crP u v f s)) 0 []) : sp_crossing [dpt u, dpt v, dq f, dq s] R := by unfold sp_crossing; exact ⟨u, v, f, s, rfl, h0, h1, h2, h3, h4, h⟩
def cutW (c d w : Nat) : Nat := 2 * (c + d) + w + 2
def cutB (c d w : Nat) : Nat := 3 * c + 3 * cutW c d w + 4
/-- what the cut of a figure tells -/
def CutIs (L : List P2) (pr : P2) (b : Rat) (M : List P2) : Prop := ∃ F, CutOf L pr b F ∧ (F = [] → M = []) ∧ (F ≠ [] → Fig F M) ∧ F.length ≤ 2 * L.length
@[irreducible] def sp_cut : ASp := fun ds R => ∃ (L : List P2) (pr : P2) (b : Rat) (c d w : Nat), ds = [.lst (L.map dpt), dpt pr, dq b] ∧ L ≠ [] ∧ L.length ≤ 10000 ∧ (∀ x ∈ L, smallP c x) ∧ smallP d pr ∧ wt b ≤ w ∧ cutB c d w ≤ 900000 ∧ (∀ F, CutOf L pr b F → F.length ≤ 2 * L.length → pw F ≤ 1000000) ∧ ∀ M, CutIs L pr b M → R (.lst (M.map dpt)) 1 []
theorem sp_cut.mk' {L : List P2} {pr : P2} {b : Rat} {R : RR} (c d w : Nat) (h0 : L ≠ []) (h1 : L.length ≤ 10000) (h2 : ∀ x ∈ L, smallP c x) (h3 : smallP d pr) (h4 : wt b ≤ w) (h5 : cutB c d w ≤ 900000) (h6 : ∀ F, CutOf L pr b F → F.length ≤ 2 * L.length → pw F ≤ 1000000) (h : ∀ M, CutIs L pr b M → R (.lst (M.map dpt)) 1 []) : sp_cut [.lst (L.map dpt), dpt pr, dq b] R := by unfold sp_cut; exact ⟨L, pr, b, c, d, w, rfl, h0, h1, h2, h3, h4, h5, h6, h⟩
def rd_crossing : RS := (rSeq (rSet 4 (rCall [false, false] sp_over (rgAv (rVar 2) (rgAv (rCall [false, false] sp_minus (rgAv (rVar 2) (rgAv (rVar 3) rgA0))) rgA0))))
  (rRet (rCall [false, false] sp_added (rgAv (rVar 0) (rgAv (rCall [false, false] sp_scaled (rgAv (rCall [false, false] sp_added (rgAv (rVar 1) (rgAv (rCall [false, false] sp_scaled (rgAv (rVar 0) (rgAv (rTup1 (rfCons (rNeg (rC (.int 1))) (rfCons (rC (.int 1)) rfNil))) rgA0))) rgA0))) (rgAv (rVar 4) rgA0))) rgA0)))))
def rb_cut_4 : RS := (rIf (rTb (rOp2 gLtI (roE (rOp2 gMul (roE (rOp2 gIx (roE (rOp2 gIx (roV 3) (roE (rOp2 gSub (roV 5) (roE (rC (.int 1))))))) (roE (rC (.int 0))))) (roE (rOp2 gIx (roE (rOp2 gIx (roV 3) (roV 5))) (roE (rC (.int 0))))))) (roE (rC (.int 0))))) (rDrop (rMetF 4 gApp (rfCons (rCall [false, false, false, false] sp_crossing (rgAv (rOp2 gIx (roV 0) (roE (rOp2 gSub (roV 5) (roE (rC (.int 1)))))) (rgAv (rOp2 gIx (roV 0) (roV 5)) (rgAv (rOp2 gIx (roV 3) (roE (rOp2 gSub (roV 5) (roE (rC (.int 1)))))) (rgAv (rOp2 gIx (roV 3) (roV 5)) rgA0))))) rfNil))) rNext)
@[irreducible] def rd_cut_4 : RS := rb_cut_4
theorem rx_cut_4 : rb_cut_4 = rd_cut_4 := by unfold rd_cut_4; rfl
def rb_cut_6 : RS := (rRet (rIfE (rTb (rOp2 gNeN (roV 4) (roE (rLst1 rfNil)))) (rCall [false] sp_hull (rgAv (rVar 4) rgA0)) (rLst1 rfNil)))
@[irreducible] def rd_cut_6 : RS := rb_cut_6
theorem rx_cut_6 : rb_cut_6 = rd_cut_6 := by unfold rd_cut_6; rfl
def rb_cut_3 : RS := (rSeq (rFor (rIW [5] (riRng1 (rfCons (rCB gLen (raCons (roV 0) raNil)) rfNil))) (rgName 5) (rBW [5] rd_cut_4))
  rd_cut_6)
@[irreducible] def rd_cut_3 : RS := rb_cut_3
theorem rx_cut_3 : rb_cut_3 = rd_cut_3 := by unfold rd_cut_3; rfl
def rb_cut_2 : RS := (rSeq (rSet 4 (rLc [6, 7] (riZipA (rfCons (rVar 0) (rfCons (rVar 3) rfNil))) (rgTup 2 (rgCons (rgName 6) (rgCons (rgName 7) rgNil))) (rTb (rOp2 gGeI (roE (rOp2 gIx (roV 7) (roE (rC (.int 0))))) (roE (rC (.int 0))))) (rVar 6)))
  rd_cut_3)
@[irreducible] def rd_cut_2 : RS := rb_cut_2
theorem rx_cut_2 : rb_cut_2 = rd_cut_2 := by unfold rd_cut_2; rfl
def rd_cut : RS := (rSeq (rSet 3 (rLc [6] (riSeq (rVar 0)) (rgName 6) rYes (rCall [false, false] sp_minus (rgAv (rCall [false, false] sp_priced (rgAv (rVar 1) (rgAv (rVar 6) rgA0))) (rgAv (rVar 2) rgA0)))))
  rd_cut_2)
theorem rp_crossing (ds : List D) (R : RR) (hl : ds.length = 4) (h : sp_crossing ds R) : rd_crossing (rho0 [false, false, false, false] 0 ds ++ List.replicate (5 - 4) .no) (endsOf [false, false, false, false] R) := by
  unfold sp_crossing at h
  obtain ⟨u, v, f, s, rfl, h0, h1, h2, h3, h4, h⟩ := h
  have w1 := wt_sub f s
  have w2 := wt_div f (f - s) (by grind)
  walk_at "z"
  refine sp_minus.mk (p := f) (q := s) (by omega) ?_
  walk_at "z"
  refine sp_over.mk (p := f) (q := f - s) (by grind) (by omega) ?_
  walk_at "z"
  rw [dq_m1]
  refine sp_scaled.pt (p := u) (c := -1) (h1.le (by decide)) (by decide) ?_
  walk_at "z"
  refine sp_added.pt (p := v) (q := sc u (-1)) (h2.le (by decide)) ((h1.sc (show wt (-1 : Rat) ≤ 1 by decide)).le (by decide)) ?_
  rw [neg_eq]
  walk_at "z"
  refine sp_scaled.pt (p := sb v u) (c := f / (f - s)) ((h2.sb h1).le (by decide)) (by omega) ?_
  walk_at "z"
  refine sp_added.pt (p := u) (q := sc (sb v u) (f / (f - s))) (h1.le (by decide)) (((h2.sb h1).sc (Nat.le_refl _)).le (by omega)) ?_
  walk_at "z"
  exact h
theorem wt_hQ {c d w : Nat} {pr x : P2} {b : Rat} (h1 : smallP c x) (h2 : smallP d pr) (h3 : wt b ≤ w) : wt (hQ pr b x) ≤ cutW c d w := by
  have a := wt_dot2 h2 h1
  have s := wt_sub (dot2 pr x) b
  unfold hQ cutW
  omega
theorem crP_small {c d w : Nat} {u v pr : P2} {b : Rat} (hu : smallP c u) (hv : smallP c v) (h2 : smallP d pr) (h3 : wt b ≤ w) (hne : hQ pr b u ≠ hQ pr b v) : smallP (cutB c d w) (crP u v (hQ pr b u) (hQ pr b v)) := by
  have a1 := wt_hQ hu h2 h3
  have a2 := wt_hQ hv h2 h3
  have s := wt_sub (hQ pr b u) (hQ pr b v)
  have q := wt_div (hQ pr b u) (hQ pr b u - hQ pr b v) (by grind)
  unfold crP
  refine (hu.ad ((hv.sb hu).sc (Nat.le_refl _))).le ?_
  unfold cutB
  omega
theorem CutOf.small {c d w : Nat} {L F : List P2} {pr : P2} {b : Rat} (hC : CutOf L pr b F) (h2 : ∀ x ∈ L, smallP c x) (h3 : smallP d pr) (h4 : wt b ≤ w) : ∀ p ∈ F, smallP (cutB c d w) p := fun p hp => by
  have hB : cutB c d w = 3 * c + 3 * cutW c d w + 4 := rfl
  rcases hC.of p hp with ⟨hm, _⟩ | ⟨u, v, hm, k, rfl⟩
  · exact (h2 p hm).le (by omega)
  · obtain ⟨mu, mv⟩ := edL_mem hm
    exact crP_small (h2 u mu) (h2 v mv) h3 h4 (by rcases mul_neg k with ⟨a, c⟩ | ⟨a, c⟩ <;> grind)
theorem sp_cut.mk {L : List P2} {pr : P2} {b : Rat} {R : RR} (c d w : Nat) (h0 : L ≠ []) (h1 : L.length ≤ 10000) (h2 : ∀ x ∈ L, smallP c x) (h3 : smallP d pr) (h4 : wt b ≤ w) (h5 : cutB c d w ≤ 900000) (h6 : 2 * L.length * (2 * cutB c d w + 1) ≤ 1000000) (h : ∀ M, CutIs L pr b M → R (.lst (M.map dpt)) 1 []) : sp_cut [.lst (L.map dpt), dpt pr, dq b] R :=
  sp_cut.mk' c d w h0 h1 h2 h3 h4 h5 (fun F hC lF => by
    have := pw_bd (hC.small h2 h3 h4)
    have : F.length * (2 * cutB c d w + 1) ≤ 2 * L.length * (2 * cutB c d w + 1) := Nat.mul_le_mul_right _ lF
    omega) h
theorem CutIs.uniq {L : List P2} {pr : P2} {b : Rat} {M N : List P2} (h1 : CutIs L pr b M) (h2 : CutIs L pr b N) : M = N := by
  obtain ⟨F, cF, f0, f1, _⟩ := h1
  obtain ⟨G, cG, g0, g1, _⟩ := h2
  have sub : ∀ {F G : List P2}, CutOf L pr b F → CutOf L pr b G → ∀ p ∈ F, p ∈ G := fun hF hG p hp => by
    rcases hF.of p hp with ⟨a, c⟩ | ⟨u, v, a, c, rfl⟩
    · exact hG.keep p a c
    · exact hG.cross u v a c
  by_cases hF : F = []
  · have hG : G = [] := List.eq_nil_iff_forall_not_mem.mpr fun p hp => by
      have := sub cG cF p hp
      rw [hF] at this; cases this
    rw [f0 hF, g0 hG]
  · have hG : G ≠ [] := fun z => hF (List.eq_nil_iff_forall_not_mem.mpr fun p hp => by
      have := sub cF cG p hp
      rw [z] at this; cases this)
    exact (f1 hF).uniq ((g1 hG).same (sub cG cF) (sub cF cG))
theorem CutIs.has {pts L : List P2} {pr : P2} {b : Rat} {M : List P2} (hL : Fig pts L) (h : CutIs L pr b M) {p : P2} (hp : Under L p) (hM : M ≠ []) : hasB M p = decide (0 ≤ hQ pr b p) := by
  obtain ⟨F, cF, f0, f1, _⟩ := h
  exact cut_has hL cF (f1 fun z => hM (f0 z)) hp
theorem CutIs.no {pts L : List P2} {pr : P2} {b : Rat} (hL : Fig pts L) (h : CutIs L pr b []) {p : P2} (hp : Under L p) : ¬ 0 ≤ hQ pr b p := by
  obtain ⟨F, cF, f0, f1, _⟩ := h
  by_cases z : F = []
  · subst z; exact cut_none hL cF hp
  · exact absurd rfl (f1 z).ne
theorem CutIs.fig {L : List P2} {pr : P2} {b : Rat} {M : List P2} (h : CutIs L pr b M) (hM : M ≠ []) : ∃ F, CutOf L pr b F ∧ Fig F M ∧ F.length ≤ 2 * L.length := by
  obtain ⟨F, cF, f0, f1, l⟩ := h
  exact ⟨F, cF, f1 fun z => hM (f0 z), l⟩
/-- cut again by the same it stays -/
theorem CutIs.again {L : List P2} {pr : P2} {b : Rat} {M N : List P2} (h : CutIs L pr b M) (hM : M ≠ []) (hN : CutIs M pr b N) : N = M := by
  obtain ⟨F, cF, fF, _⟩ := h.fig hM
  obtain ⟨G, cG, g0, g1, _⟩ := hN
  have hG := cut_again cF fF cG
  have G0 : G ≠ [] := fun z => by
    obtain ⟨x, hx⟩ := List.exists_mem_of_ne_nil _ hM
    have := hG.sub x hx
    rw [z] at this; cases this
  exact (g1 G0).uniq hG
theorem CutIs.bd {L M : List P2} {pr : P2} {b : Rat} (h : CutIs L pr b M) {c d w : Nat} (h2 : ∀ x ∈ L, smallP c x) (h3 : smallP d pr) (h4 : wt b ≤ w) : M.length ≤ 2 * L.length ∧ ∀ p ∈ M, smallP (cutB c d w) p := by
  by_cases z : M = []
  · subst z; exact ⟨by simp, fun p hp => absurd hp List.not_mem_nil⟩
  · obtain ⟨F, cF, fF, l⟩ := h.fig z
    exact ⟨Nat.le_trans (nd_len fF.nodup fF.sub) l, fun p hp => cF.small h2 h3 h4 p (fF.sub p hp)⟩
theorem CutIs.nn {L M : List P2} {pr : P2} {b : Rat} (h : CutIs L pr b M) : ∀ p ∈ M, 0 ≤ hQ pr b p := fun p hp => by
  obtain ⟨F, cF, fF, l⟩ := h.fig (fun z => by rw [z] at hp; cases hp)
  exact cF.nn p (fF.sub p hp)
/-- the crossings, corner by corner -/
def crossL (L : List P2) (pr : P2) (b : Rat) (k : Nat) : List P2 := (List.range k).flatMap fun i =>
  let u := (L[(i + (L.length - 1)) % L.length]?).getD (0, 0)
  let v := (L[i]?).getD (0, 0)
  if hQ pr b u * hQ pr b v < 0 then [crP u v (hQ pr b u) (hQ pr b v)] else []
theorem crossL_len (L : List P2) (pr : P2) (b : Rat) (k : Nat) : (crossL L pr b k).length ≤ k := by
  unfold crossL
  induction k with
  | zero => simp
  | succ k ih =>
    rw [List.range_succ, List.flatMap_append, List.length_append]
    have : (List.flatMap (fun i => let u := (L[(i + (L.length - 1)) % L.length]?).getD (0, 0); let v := (L[i]?).getD (0, 0); if hQ pr b u * hQ pr b v < 0 then [crP u v (hQ pr b u) (hQ pr b v)] else []) [k]).length ≤ 1 := by
      rw [List.flatMap_cons, List.flatMap_nil, List.append_nil]
      dsimp only
      split <;> simp
    omega
theorem edL_at {L : List P2} {u v : P2} : (u, v) ∈ edL L ↔ ∃ i, i < L.length ∧ L[(i + (L.length - 1)) % L.length]? = some u ∧ L[i]? = some v := by
  constructor
  · intro h
    obtain ⟨j, e⟩ := List.mem_iff_getElem?.mp h
    unfold edL at e
    rw [List.getElem?_zip_eq_some] at e
    obtain ⟨eu, ev⟩ := e
    dsimp only at eu ev
    have hj : j < L.length := by
      by_cases q : j < L.length
      · exact q
      · rw [List.getElem?_eq_none (by omega)] at eu; cases eu
    by_cases c : j + 1 < L.length
    · refine ⟨j + 1, c, ?_, ?_⟩
      · rw [show j + 1 + (L.length - 1) = j + L.length by omega, Nat.add_mod_right, Nat.mod_eq_of_lt hj]; exact eu
      · rw [List.getElem?_append_left (by rw [List.length_drop]; omega), List.getElem?_drop] at ev
        rw [Nat.add_comm]; exact ev
    · have j1 : j = L.length - 1 := by omega
      refine ⟨0, by omega, ?_, ?_⟩
      · rw [Nat.zero_add, Nat.mod_eq_of_lt (by omega), ← j1]; exact eu
      · rw [List.getElem?_append_right (by rw [List.length_drop]; omega), List.length_drop, List.getElem?_take] at ev
        rw [j1, Nat.sub_self, if_pos (by omega)] at ev
        exact ev
  · rintro ⟨i, hi, eu, ev⟩
    cases i with
    | zero =>
      rw [Nat.zero_add, Nat.mod_eq_of_lt (by omega)] at eu
      have : (edL L)[L.length - 1]? = some (u, v) := by
        unfold edL
        rw [List.getElem?_zip_eq_some]
        refine ⟨eu, ?_⟩
        rw [List.getElem?_append_right (by rw [List.length_drop]; omega), List.length_drop, Nat.sub_self, List.getElem?_take, if_pos (by omega)]
        exact ev
      exact List.mem_of_getElem? this
    | succ i =>
      rw [show i + 1 + (L.length - 1) = i + L.length by omega, Nat.add_mod_right, Nat.mod_eq_of_lt (by omega)] at eu
      have : (edL L)[i]? = some (u, v) := by
        unfold edL
        rw [List.getElem?_zip_eq_some]
        refine ⟨eu, ?_⟩
        rw [List.getElem?_append_left (by rw [List.length_drop]; omega), List.getElem?_drop, Nat.add_comm]
        exact ev
      exact List.mem_of_getElem? this
theorem cut_of (L : List P2) (pr : P2) (b : Rat) {F : List P2} (hF : ∀ p, p ∈ F ↔ (p ∈ L ∧ 0 ≤ hQ pr b p) ∨ p ∈ crossL L pr b L.length) : CutOf L pr b F := by
  have mem : ∀ p, p ∈ crossL L pr b L.length ↔ ∃ u v, (u, v) ∈ edL L ∧ hQ pr b u * hQ pr b v < 0 ∧ p = crP u v (hQ pr b u) (hQ pr b v) := by
    intro p
    unfold crossL
    rw [List.mem_flatMap]
    constructor
    · rintro ⟨i, hi, hp⟩
      have hi := List.mem_range.mp hi
      have e1 : L[(i + (L.length - 1)) % L.length]? = some (L[(i + (L.length - 1)) % L.length]'(Nat.mod_lt _ (by omega))) := List.getElem?_eq_getElem _
      have e2 : L[i]? = some L[i] := List.getElem?_eq_getElem hi
      rw [e1, e2] at hp
      dsimp only [Option.getD_some] at hp
      split at hp
      · rename_i hc
        exact ⟨_, _, edL_at.mpr ⟨i, hi, e1, e2⟩, hc, List.mem_singleton.mp hp⟩
      · cases hp
    · rintro ⟨u, v, hm, hc, rfl⟩
      obtain ⟨i, hi, e1, e2⟩ := edL_at.mp hm
      refine ⟨i, List.mem_range.mpr hi, ?_⟩
      rw [e1, e2]
      dsimp only [Option.getD_some]
      rw [if_pos hc]
      simp
  exact ⟨fun c hc h => (hF c).mpr (.inl ⟨hc, h⟩), fun u v hm hc => (hF _).mpr (.inr ((mem _).mpr ⟨u, v, hm, hc, rfl⟩)), fun p hp => ((hF p).mp hp).imp_right (mem p).mp⟩
theorem lcL_filterG {α : Type} {ivs : List Nat} {rg : RG} {rt : RT} {re : RE} {Q : List D → Ev → Prop} {g f : α → D} {p : α → Bool} {ρw : Ev} {xs : List α} (hl : xs.length ≤ 100000)
    (step : ∀ x ∈ xs, ∀ (n : Nat) (P : D → Ev → Prop) (N : Ev → Prop), n < sizeLine → (p x = true → ∀ ρ3, wipeE ivs ρ3 = ρw → P (f x) ρ3) → (p x = false → ∀ ρ2, wipeE ivs ρ2 = ρw → N ρ2) → rg (g x) ρw fun ρ1 => rt ρ1 fun c ρ2 => way c (re ρ2 fun y _ ρ3 => n < sizeLine ∧ P y ρ3) (N ρ2))
    {ρ : Ev} (h0 : wipeE ivs ρ = ρw) (fin : ∀ ρ', wipeE ivs ρ' = ρw → Q ((xs.filter p).map f) ρ') : lcL ivs rg rt re (xs.map g) ρ [] Q := by
  refine lcL_inv (I := fun items acc ρ => wipeE ivs ρ = ρw ∧ ∃ ys zs, xs = ys ++ zs ∧ items = zs.map g ∧ acc = (ys.filter p).map f) (fun acc ρ hI => ?_) (fun d ds acc ρ P N hP hN hI => ?_) _ _ _ ⟨h0, [], xs, rfl, rfl, rfl⟩
  · obtain ⟨h, ys, zs, e1, e2, e3⟩ := hI
    have : zs = [] := List.map_eq_nil_iff.mp e2.symm
    rw [this, List.append_nil] at e1
    rw [e3, ← e1]
    exact fin ρ h
  · obtain ⟨h, ys, zs, e1, e2, e3⟩ := hI
    cases zs with
    | nil => cases e2
    | cons z zs =>
      cases e2
      rw [h]
      have ll : acc.length < sizeLine := by
        refine small6 ?_
        have := List.length_filter_le p ys
        rw [e3, List.length_map]
        rw [e1, List.length_append, List.length_cons] at hl
        omega
      refine step z (by rw [e1]; simp) acc.length P N ll (fun hp ρ3 h3 => hP _ _ ⟨h3, ys ++ [z], zs, by rw [e1, List.append_assoc]; rfl, rfl, ?_⟩) (fun hp ρ2 h2 => hN _ ⟨h2, ys ++ [z], zs, by rw [e1, List.append_assoc]; rfl, rfl, ?_⟩)
      · rw [e3, List.filter_append, List.filter_cons, if_pos hp, List.map_append]; rfl
      · rw [e3, List.filter_append, List.filter_cons, if_neg (by rw [hp]; decide), List.filter_nil, List.append_nil]
theorem mul_num (x y : Rat) : decide (x.num * y.num < 0) = decide (x * y < 0) := by
  rw [decide_eq_decide]
  have hx := @Rat.num_nonneg x
  have hy := @Rat.num_nonneg y
  have zx := @Rat.num_eq_zero x
  have zy := @Rat.num_eq_zero y
  constructor
  · intro h
    by_cases a : 0 < x.num
    · have b : y.num < 0 := by
        by_cases c : y.num < 0
        · exact c
        · have := Int.mul_nonneg (Int.le_of_lt a) (show 0 ≤ y.num by omega)
          omega
      have a' : 0 < x := by
        have := hx.mp (by omega)
        have : x ≠ 0 := fun z => by have := zx.mpr z; omega
        grind
      have b' : y < 0 := by
        by_cases c : 0 ≤ y
        · have := hy.mpr c; omega
        · grind
      have := Rat.mul_pos a' (show 0 < -y by grind)
      grind
    · have a2 : x.num < 0 := by
        by_cases c : x.num = 0
        · rw [c, Int.zero_mul] at h; omega
        · omega
      have b : 0 < y.num := by
        by_cases c : 0 < y.num
        · exact c
        · have := Int.mul_nonneg (show 0 ≤ -x.num by omega) (show 0 ≤ -y.num by omega)
          rw [Int.neg_mul_neg] at this
          omega
      have a' : x < 0 := by
        by_cases c : 0 ≤ x
        · have := hx.mpr c; omega
        · grind
      have b' : 0 < y := by
        have := hy.mp (by omega)
        have : y ≠ 0 := fun z => by have := zy.mpr z; omega
        grind
      have := Rat.mul_pos (show 0 < -x by grind) b'
      grind
  · intro h
    rcases mul_neg h with ⟨a, b⟩ | ⟨a, b⟩
    · have a' : 0 < x.num := by
        have := hx.mpr (Rat.le_of_lt a)
        have : x.num ≠ 0 := fun z => by have := zx.mp z; grind
        omega
      have b' : y.num < 0 := by
        by_cases c : 0 ≤ y.num
        · have := hy.mp c; grind
        · omega
      exact Int.mul_neg_of_pos_of_neg a' b'
    · have a' : x.num < 0 := by
        by_cases c : 0 ≤ x.num
        · have := hx.mp c; grind
        · omega
      have b' : 0 < y.num := by
        have := hy.mpr (Rat.le_of_lt b)
        have : y.num ≠ 0 := fun z => by have := zy.mp z; grind
        omega
      exact Int.mul_neg_of_neg_of_pos a' b'
theorem crossL_succ (L : List P2) (pr : P2) (b : Rat) (k : Nat) : crossL L pr b (k + 1) = crossL L pr b k ++ (if hQ pr b ((L[(k + (L.length - 1)) % L.length]?).getD (0, 0)) * hQ pr b ((L[k]?).getD (0, 0)) < 0 then [crP ((L[(k + (L.length - 1)) % L.length]?).getD (0, 0)) ((L[k]?).getD (0, 0)) (hQ pr b ((L[(k + (L.length - 1)) % L.length]?).getD (0, 0))) (hQ pr b ((L[k]?).getD (0, 0)))] else []) := by
  unfold crossL
  rw [List.range_succ, List.flatMap_append, List.flatMap_cons, List.flatMap_nil, List.append_nil]
theorem atI_prev {α : Type} {g : α → D} {L : List α} {k : Nat} {u : α} (hk : k < L.length) (h : L[(k + (L.length - 1)) % L.length]? = some u) : atI (L.map g) ((k : Int) - 1) = some (g u) := by
  cases k with
  | zero =>
    rw [Nat.zero_add, Nat.mod_eq_of_lt (by omega)] at h
    refine atI_lst1 ?_
    rw [List.length_map, List.getElem?_map, h]; rfl
  | succ k =>
    rw [show k + 1 + (L.length - 1) = k + L.length by omega, Nat.add_mod_right, Nat.mod_eq_of_lt (by omega)] at h
    have := atI_mp (g := g) h
    rw [show (((k + 1 : Nat) : Int) - 1) = (k : Int) by omega]
    exact this
theorem rp_cut (ds : List D) (R : RR) (hl : ds.length = 3) (h : sp_cut ds R) : rd_cut (rho0 [false, false, false] 0 ds ++ List.replicate (8 - 3) .no) (endsOf [false, false, false] R) := by
  unfold sp_cut at h
  obtain ⟨L, pr, b, c, d, w, rfl, h0, h1, h2, h3, h4, h5, h6, h⟩ := h
  have hB : cutB c d w = 3 * c + 3 * cutW c d w + 4 := rfl
  have hW : cutW c d w = 2 * (c + d) + w + 2 := rfl
  have wh : ∀ x ∈ L, wt (hQ pr b x) ≤ cutW c d w := fun x hx => wt_hQ (h2 x hx) h3 h4
  walk_at "z"
  refine lcL_map' (g := dpt) (f := fun x => dq (hQ pr b x)) (xs := L) (ρw := [.fz (.lst (L.map dpt)), .fz (dpt pr), .fz (dq b), .no, .no, .no, .no, .no]) (by omega) (fun x hx n P N hn hP => ?_) rfl fun ρ' hρ => ?_
  · have s1 := h2 x hx
    have wd := wt_dot2 h3 s1
    walk_at "z"
    refine sp_priced.pt (p := pr) (q := x) (h3.le (by omega)) (s1.le (by omega)) ?_
    walk_at "z"
    refine sp_minus.mk (p := dot2 pr x) (q := b) (by omega) ?_
    walk_at "z"
    exact ⟨hn, hP _ rfl⟩
  rw [restE_wipe, hρ]
  walk_at "z"
  refine lit8 rfl ?_
  rw [← rx_cut_2]
  walk_at "z"
  show lcL _ _ _ _ (List.zipWith (fun x y => D.tup [x, y]) (L.map dpt) (L.map fun x => dq (hQ pr b x))) _ _ _
  have ez : List.zipWith (fun x y => D.tup [x, y]) (L.map dpt) (L.map fun x => dq (hQ pr b x)) = L.map fun x => D.tup [dpt x, dq (hQ pr b x)] := by
    rw [List.zipWith_map]
    induction L with
    | nil => rfl
    | cons a t ih => simp
  rw [ez]
  refine lcL_filterG (g := fun x => D.tup [dpt x, dq (hQ pr b x)]) (f := dpt) (p := fun x => decide (0 ≤ hQ pr b x)) (xs := L) (ρw := [.fz (.lst (L.map dpt)), .fz (dpt pr), .fz (dq b), .fz (.lst (L.map fun x => dq (hQ pr b x))), .no, .no, .no, .no]) (by omega) (fun x hx n P N hn hP hN => ?_) rfl fun ρ' hρ => ?_
  · unfold dq
    walk_at "z"
    show way (decide ((hQ pr b x).num ≥ 0)) _ _
    have e : decide ((hQ pr b x).num ≥ 0) = decide (0 ≤ hQ pr b x) := by rw [decide_eq_decide]; exact Rat.num_nonneg
    rw [e]
    cases hc : decide (0 ≤ hQ pr b x) with
    | true =>
      walk_at "z"
      exact ⟨hn, hP hc _ rfl⟩
    | false =>
      walk_at "z"
      exact hN hc _ rfl
  rw [restE_wipe, hρ]
  walk_at "z"
  refine lit8 rfl ?_
  rw [← rx_cut_3]
  walk_at "zz"
  refine ⟨⟨by rw [List.length_map]; omega, by rw [List.length_map]; omega⟩, ?_⟩
  walk_at "zz"
  have fl : (L.filter fun x => decide (0 ≤ hQ pr b x)).length ≤ L.length := List.length_filter_le _ _
  have hfil : ∀ p, p ∈ (L.filter fun x => decide (0 ≤ hQ pr b x)) ↔ p ∈ L ∧ 0 ≤ hQ pr b p := fun p => by rw [List.mem_filter, decide_eq_true_iff]
  generalize (L.filter fun x => decide (0 ≤ hQ pr b x)) = K at fl hfil ⊢
  refine forL_rel (g := fun i : Nat => D.int (0 + (i : Int))) (st := fun F : List P2 => [.fz (.lst (L.map dpt)), .fz (dpt pr), .fz (dq b), .fz (.lst (L.map fun x => dq (hQ pr b x))), .ow 1 (.lst (F.map dpt)), .no, .no, .no]) (P := fun F zs => ∃ k, zs = (List.range (((L.map dpt).length : Nat) : Int).toNat).drop k ∧ k + zs.length = L.length ∧ F = K ++ crossL L pr b k) (fun F i zs N hP hN => ?_) (List.range (((L.map dpt).length : Nat) : Int).toNat) K ⟨0, by simp, by rw [List.length_range, List.length_map]; simp, by show K = K ++ []; simp⟩ (fun F hP => ?_)
  · obtain ⟨k, z1, z2, rfl⟩ := hP
    rw [List.length_cons] at z2
    have hk : k < L.length := by omega
    have ei : i = k := by
      have := congrArg List.head? z1
      rw [List.head?_cons, List.head?_drop] at this
      rw [List.getElem?_range (by rw [List.length_map]; simpa using hk)] at this
      exact Option.some.inj this
    subst ei
    have hm : (i + (L.length - 1)) % L.length < L.length := Nat.mod_lt _ (by omega)
    have eu : L[(i + (L.length - 1)) % L.length]? = some (L[(i + (L.length - 1)) % L.length]) := List.getElem?_eq_getElem hm
    have ev : L[i]? = some L[i] := List.getElem?_eq_getElem hk
    have mu := List.getElem_mem hm
    have mv := List.getElem_mem hk
    have es := crossL_succ L pr b i
    rw [eu, ev] at es
    dsimp only [Option.getD_some] at es
    have hN := hN (K ++ crossL L pr b (i + 1)) ⟨i + 1, by
      have := congrArg List.tail z1
      rw [List.tail_cons, List.tail_drop] at this
      exact this, by omega, rfl⟩
    have cl := crossL_len L pr b i
    rw [es] at hN
    generalize L[(i + (L.length - 1)) % L.length] = u at eu mu hN
    generalize L[i] = v at ev mv hN
    have wu := wh u mu
    have wv := wh v mv
    have xl : ((K ++ crossL L pr b i).map dpt).length ≤ 20000 := by rw [List.length_map, List.length_append]; omega
    rw [← List.append_assoc] at hN
    generalize K ++ crossL L pr b i = F at hN xl ⊢
    have mo' : MulOk (hQ pr b u).num (hQ pr b v).num := mo (Nat.le_trans (wt_num _) wu) (Nat.le_trans (wt_num _) wv) (by omega)
    walk_at "z"
    refine lit8 rfl ?_
    rw [← rx_cut_4]
    have eH : ∀ (j : Int) (x : P2), atI (L.map fun x => x) j = some x → True := fun _ _ _ => trivial
    walk_at "z"
    rw [show (0 + (i : Int)) = (i : Int) by omega]
    refine ⟨dq (hQ pr b u), atI_prev hk eu, ?_⟩
    have du : dq (hQ pr b u) = .tup [.int (hQ pr b u).num, .int (hQ pr b u).den] := rfl
    have dv : dq (hQ pr b v) = .tup [.int (hQ pr b v).num, .int (hQ pr b v).den] := rfl
    rw [du]
    walk_at "z"
    refine ⟨dq (hQ pr b v), atI_mp ev, ?_⟩
    rw [dv]
    walk_at "z"
    refine ⟨mo', ?_⟩
    walk_at "z"
    show way (decide ((hQ pr b u).num * (hQ pr b v).num < 0)) _ _
    rw [mul_num]
    by_cases c : hQ pr b u * hQ pr b v < 0
    · rw [if_pos c] at hN
      rw [decide_eq_true c]
      have hne : hQ pr b u ≠ hQ pr b v := by rcases mul_neg c with ⟨a, e⟩ | ⟨a, e⟩ <;> grind
      walk_at "z"
      refine ⟨dpt u, atI_prev hk eu, ?_⟩
      walk_at "z"
      refine ⟨dpt v, atI_mp ev, ?_⟩
      walk_at "z"
      refine ⟨dq (hQ pr b u), atI_prev hk eu, ?_⟩
      walk_at "z"
      refine ⟨dq (hQ pr b v), atI_mp ev, ?_⟩
      walk_at "z"
      refine sp_crossing.mk hne ((h2 u mu).le (by omega)) ((h2 v mv).le (by omega)) (by omega) (by omega) ?_
      walk_at "z"
      refine ⟨small6 (by omega), ?_⟩
      rw [List.map_append] at hN
      walk_at "z"
      exact hN
    · rw [if_neg c, List.append_nil] at hN
      rw [decide_eq_false c]
      walk_at "z"
      exact hN
  · obtain ⟨k, z1, z2, rfl⟩ := hP
    rw [List.length_nil, Nat.add_zero] at z2
    subst z2
    have hC : CutOf L pr b (K ++ crossL L pr b L.length) := cut_of L pr b fun p => by rw [List.mem_append, hfil]
    have cl := crossL_len L pr b L.length
    have lF : (K ++ crossL L pr b L.length).length ≤ 2 * L.length := by rw [List.length_append]; omega
    have sF : pw (K ++ crossL L pr b L.length) ≤ 1000000 := h6 _ hC lF
    have go := fun M (e0 : (K ++ crossL L pr b L.length) = [] → M = []) (e1 : (K ++ crossL L pr b L.length) ≠ [] → Fig (K ++ crossL L pr b L.length) M) => h M ⟨_, hC, e0, e1, lF⟩
    generalize K ++ crossL L pr b L.length = F at go lF sF ⊢
    rw [← rx_cut_6]
    walk_at "z"
    show way (!(F.map dpt).isEmpty) _ _
    cases hF : F with
    | nil =>
      walk_at "z"
      exact go [] (fun _ => rfl) (fun z => absurd hF z)
    | cons f fs =>
      rw [← hF]
      have ne : F ≠ [] := by rw [hF]; simp
      have e1 : (F.map dpt).isEmpty = false := by rw [hF]; rfl
      rw [e1]
      walk_at "z"
      refine sp_hull.mk ne (by omega) sF fun M hM => ?_
      walk_at "z"
      exact go M (fun z => absurd z ne) (fun _ => hM)
end VL

set_option maxHeartbeats 2000000
namespace VL
open PySem PySem.Spec PyProof.Rows L2
local macro_rules | `(tactic| walk_at "n") => `(tactic| refine ⟨fun h => Bool.noConfusion (show false = true from h), fun _ => ?_⟩)
local macro_rules | `(tactic| walk_at "ty") => `(tactic| refine ⟨_, rfl, by decide, ?_⟩)
local macro_rules | `(tactic| walk_at "tys") => `(tactic| refine ⟨_, rfl, _, rfl, by decide, ?_⟩)
local macro_rules | `(tactic| walk_at "v") => `(tactic| repeat (first | refine ⟨rfl, ?_⟩ | refine ⟨_, rfl, ?_⟩))
local macro_rules | `(tactic| walk_at "y") => `(tactic| refine ⟨fun _ => ?_, fun h => Bool.noConfusion (show true = false from h)⟩)
local macro_rules | `(tactic| walk_at "z") => `(tactic| repeat (first | refine ⟨rfl, ?_⟩ | refine ⟨_, rfl, ?_⟩ | refine ⟨fun _ => ?_, fun h => Bool.noConfusion (show true = false from h)⟩ | refine ⟨fun h => Bool.noConfusion (show false = true from h), fun _ => ?_⟩ | refine ⟨tyIn rfl, ?_⟩ | refine ⟨tysIn rfl, ?_⟩ | refine ⟨smallL rfl, ?_⟩ | refine ⟨smallE rfl, ?_⟩))
local macro_rules | `(tactic| walk_at "zz") => `(tactic| repeat ((fail_if_success show forL _ _ _ _ _); first | refine ⟨rfl, ?_⟩ | refine ⟨_, rfl, ?_⟩ | refine ⟨fun _ => ?_, fun h => Bool.noConfusion (show true = false from h)⟩ | refine ⟨fun h => Bool.noConfusion (show false = true from h), fun _ => ?_⟩ | refine ⟨tyIn rfl, ?_⟩ | refine ⟨tysIn rfl, ?_⟩ | refine ⟨smallL rfl, ?_⟩ | refine ⟨smallE rfl, ?_⟩))
/-! ### the greatest by prices -/
def pdeed (pr : List Rat) (d : Deed) (row : List Rat) : Rat := d.fs.foldl (fun a x => a + row.getD x.1 0 * x.2) (qdot pr d.w)
def hBest (pr row : List Rat) (ds : List Deed) : Int × Rat := turnBest 0 (ds.map fun d => [pdeed pr d row])
def hSt (pr row : List Rat) (s : St) : Int × Rat := if s.ds.isEmpty then (-1, qdot pr s.e) else hBest pr row s.ds
def hRow (l : Land) (pr : List Rat) : Nat → List Rat
  | 0 => l.sts.map fun s => qdot pr s.e
  | n + 1 => l.sts.map fun s => (hSt pr (hRow l pr n) s).2
def hPlanRow (l : Land) (pr : List Rat) (n : Nat) : List Int := l.sts.map fun s => (hSt pr (hRow l pr n) s).1
def hRows (l : Land) (pr : List Rat) (n : Nat) : List (List Rat) := (List.range (n + 1)).map (hRow l pr)
def hPlan (l : Land) (pr : List Rat) (n : Nat) : List (List Int) := (List.range n).map (hPlanRow l pr)
/-- bits -/
def P0 (b k : Nat) : Nat := k * (2 * b + 1) + 1
def HBm (b k m : Nat) : Nat → Nat
  | 0 => P0 b k
  | n + 1 => m * (HBm b k m n + 7) + P0 b k
def PrB (b : Nat) (l : Land) (pr : List Rat) : Prop := pr.length = l.k ∧ allw b pr ∧ 21 ≤ b
/-- what heights may cost -/
def HOk (b m : Nat) (l : Land) (n : Nat) : Prop := FewM m l ∧ m ≤ 4 ∧ b ≤ 100000 ∧ ∀ j < n, m * (HBm b l.k m j + 8) + P0 b l.k ≤ 500000
def dHS (p : Int × Rat) : D := .tup [.int p.1, dq p.2]
@[irreducible] def sp_priced_ends : ASp := fun ds R => ∃ (l : Land) (pr : List Rat) (b : Nat), ds = [dLand l, dw pr] ∧ LandOk l ∧ PrB b l pr ∧ b ≤ 100000 ∧ R (dC (hRow l pr 0)) 1 []
theorem sp_priced_ends.mk {l : Land} {pr : List Rat} {R : RR} (b : Nat) (h1 : LandOk l) (h2 : PrB b l pr) (h3 : b ≤ 100000) (h : R (dC (hRow l pr 0)) 1 []) : sp_priced_ends [dLand l, dw pr] R := by unfold sp_priced_ends; exact ⟨l, pr, b, rfl, h1, h2, h3, h⟩
@[irreducible] def sp_priced_deed : ASp := fun ds R => ∃ (l : Land) (d : Deed) (pr row : List Rat) (b c : Nat), ds = [dDeed d, dw pr, dC row] ∧ LandOk l ∧ DeedOk l.k l.sts.length d ∧ PrB b l pr ∧ row.length = l.sts.length ∧ allw c row ∧ b ≤ 100000 ∧ c ≤ 500000 ∧ R (dq (pdeed pr d row)) 0 []
theorem sp_priced_deed.mk {d : Deed} {pr row : List Rat} {R : RR} (l : Land) (b c : Nat) (h1 : LandOk l) (h2 : DeedOk l.k l.sts.length d) (h3 : PrB b l pr) (h4 : row.length = l.sts.length) (h5 : allw c row) (h6 : b ≤ 100000) (h7 : c ≤ 500000) (h : R (dq (pdeed pr d row)) 0 []) : sp_priced_deed [dDeed d, dw pr, dC row] R := by unfold sp_priced_deed; exact ⟨l, d, pr, row, b, c, rfl, h1, h2, h3, h4, h5, h6, h7, h⟩
@[irreducible] def sp_best_deed : ASp := fun ds R => ∃ (l : Land) (i : Nat) (s : St) (pr row : List Rat) (b m c : Nat), ds = [dLand l, .int i, dw pr, dC row] ∧ LandOk l ∧ l.sts[i]? = some s ∧ s.ds.isEmpty = false ∧ PrB b l pr ∧ row.length = l.sts.length ∧ allw c row ∧ (∀ d ∈ s.ds, d.fs.length ≤ m) ∧ b ≤ 100000 ∧ c ≤ 500000 ∧ m * (c + 8) + P0 b l.k ≤ 500000 ∧ R (dHS (hSt pr row s)) 0 []
theorem sp_best_deed.mk {l : Land} {i : Nat} {pr row : List Rat} {s : St} {R : RR} (b m c : Nat) (h1 : LandOk l) (h2 : l.sts[i]? = some s) (h3 : s.ds.isEmpty = false) (h4 : PrB b l pr) (h5 : row.length = l.sts.length) (h6 : allw c row) (hm : ∀ d ∈ s.ds, d.fs.length ≤ m) (h7 : b ≤ 100000) (h8 : c ≤ 500000) (h9 : m * (c + 8) + P0 b l.k ≤ 500000) (h : R (dHS (hSt pr row s)) 0 []) : sp_best_deed [dLand l, .int i, dw pr, dC row] R := by unfold sp_best_deed; exact ⟨l, i, s, pr, row, b, m, c, rfl, h1, h2, h3, h4, h5, h6, hm, h7, h8, h9, h⟩
@[irreducible] def sp_best_rows : ASp := fun ds R => ∃ (l : Land) (n : Nat) (pr : List Rat) (b m : Nat), ds = [dLand l, .int n, dw pr] ∧ LandOk l ∧ PrB b l pr ∧ HOk b m l n ∧ n ≤ 20 ∧ R (.tup [.lst ((hRows l pr n).map dC), .lst (dPlan (hPlan l pr n))]) 3 []
theorem sp_best_rows.mk {l : Land} {n : Nat} {pr : List Rat} {R : RR} (b m : Nat) (h1 : LandOk l) (h2 : PrB b l pr) (h3 : HOk b m l n) (h4 : n ≤ 20) (h : R (.tup [.lst ((hRows l pr n).map dC), .lst (dPlan (hPlan l pr n))]) 3 []) : sp_best_rows [dLand l, .int n, dw pr] R := by unfold sp_best_rows; exact ⟨l, n, pr, b, m, rfl, h1, h2, h3, h4, h⟩
@[irreducible] def sp_heights : ASp := fun ds R => ∃ (l : Land) (n : Nat) (pr : List Rat) (b m : Nat), ds = [dLand l, .int n, dw pr] ∧ LandOk l ∧ PrB b l pr ∧ HOk b m l n ∧ n ≤ 20 ∧ R (.lst ((hRows l pr n).map dC)) 2 []
theorem sp_heights.mk {l : Land} {n : Nat} {pr : List Rat} {R : RR} (b m : Nat) (h1 : LandOk l) (h2 : PrB b l pr) (h3 : HOk b m l n) (h4 : n ≤ 20) (h : R (.lst ((hRows l pr n).map dC)) 2 []) : sp_heights [dLand l, .int n, dw pr] R := by unfold sp_heights; exact ⟨l, n, pr, b, m, rfl, h1, h2, h3, h4, h⟩
@[irreducible] def sp_best_plan : ASp := fun ds R => ∃ (l : Land) (n : Nat) (pr : List Rat) (b m : Nat), ds = [dLand l, .int n, dw pr] ∧ LandOk l ∧ PrB b l pr ∧ HOk b m l n ∧ n ≤ 20 ∧ R (.lst (dPlan (hPlan l pr n))) 2 []
theorem sp_best_plan.mk {l : Land} {n : Nat} {pr : List Rat} {R : RR} (b m : Nat) (h1 : LandOk l) (h2 : PrB b l pr) (h3 : HOk b m l n) (h4 : n ≤ 20) (h : R (.lst (dPlan (hPlan l pr n))) 2 []) : sp_best_plan [dLand l, .int n, dw pr] R := by unfold sp_best_plan; exact ⟨l, n, pr, b, m, rfl, h1, h2, h3, h4, h⟩
end VL

set_option maxHeartbeats 2000000
set_option pp.maxSteps 250
namespace VL
open PySem PySem.Spec PyProof.Rows L2
local macro_rules | `(tactic| walk_at "n") => `(tactic| refine ⟨fun h => Bool.noConfusion (show false = true from h), fun _ => ?_⟩)
local macro_rules | `(tactic| walk_at "ty") => `(tactic| refine ⟨_, rfl, by decide, ?_⟩)
local macro_rules | `(tactic| walk_at "tys") => `(tactic| refine ⟨_, rfl, _, rfl, by decide, ?_⟩)
local macro_rules | `(tactic| walk_at "v") => `(tactic| repeat (first | refine ⟨rfl, ?_⟩ | refine ⟨_, rfl, ?_⟩))
local macro_rules | `(tactic| walk_at "y") => `(tactic| refine ⟨fun _ => ?_, fun h => Bool.noConfusion (show true = false from h)⟩)
local macro_rules | `(tactic| walk_at "z") => `(tactic| repeat (first | refine ⟨rfl, ?_⟩ | refine ⟨_, rfl, ?_⟩ | refine ⟨fun _ => ?_, fun h => Bool.noConfusion (show true = false from h)⟩ | refine ⟨fun h => Bool.noConfusion (show false = true from h), fun _ => ?_⟩ | refine ⟨tyIn rfl, ?_⟩ | refine ⟨tysIn rfl, ?_⟩ | refine ⟨smallL rfl, ?_⟩ | refine ⟨smallE rfl, ?_⟩))
local macro_rules | `(tactic| walk_at "zz") => `(tactic| repeat ((fail_if_success show forL _ _ _ _ _); first | refine ⟨rfl, ?_⟩ | refine ⟨_, rfl, ?_⟩ | refine ⟨fun _ => ?_, fun h => Bool.noConfusion (show true = false from h)⟩ | refine ⟨fun h => Bool.noConfusion (show false = true from h), fun _ => ?_⟩ | refine ⟨tyIn rfl, ?_⟩ | refine ⟨tysIn rfl, ?_⟩ | refine ⟨smallL rfl, ?_⟩ | refine ⟨smallE rfl, ?_⟩))
/-! ### figures moved, plain -/
theorem ad_inj {x y p : P2} (e : ad x p = ad y p) : x = y := by
  have a := congrArg Prod.fst e
  have b := congrArg Prod.snd e
  unfold ad at a b
  dsimp only at a b
  exact Prod.ext (by grind) (by grind)
theorem crs_ad (x y z p : P2) : crs (ad x p) (ad y p) (ad z p) = crs x y z := by unfold crs ad; grind
theorem fig_mv {pts L : List P2} (p : P2) (h : Fig pts L) : Fig (pts.map fun c => ad c p) (L.map fun c => ad c p) := by
  obtain ⟨a, t, rfl, ha, at', et⟩ := h.ex
  refine ⟨⟨ad a p, t.map fun c => ad c p, rfl, fun q hq => ?_, fun hm => ?_, fun ht x y hn => ?_⟩, fun c hc => ?_, fun h1 q hq => ?_⟩
  · obtain ⟨p0, h0, rfl⟩ := List.mem_map.mp hq
    rcases ha p0 h0 with rfl | k
    · exact .inl rfl
    · right
      unfold lx ad at *
      rcases k with k | ⟨k1, k2⟩
      · left; show a.1 + p.1 < p0.1 + p.1; grind
      · right; exact ⟨by show a.1 + p.1 = p0.1 + p.1; rw [k1], by show a.2 + p.2 < p0.2 + p.2; grind⟩
  · obtain ⟨b, hb, e⟩ := List.mem_map.mp hm
    rw [ad_inj e] at hb
    exact at' hb
  · have t0 : t ≠ [] := fun z => ht (by rw [z]; rfl)
    have e : (ad a p :: t.map fun c => ad c p) ++ [ad a p] = (a :: t ++ [a]).map fun c => ad c p := by simp
    rw [e] at hn
    obtain ⟨y0, z0, hn0, rfl, rfl⟩ := nx_map hn
    have E := et t0 y0 z0 hn0
    refine ⟨fun z => E.ne (ad_inj z), fun q hq => ?_⟩
    obtain ⟨p0, h0, rfl⟩ := List.mem_map.mp hq
    rcases E.lf p0 h0 with k | ⟨s, s0, s1, es⟩
    · left
      rw [crs_ad]; exact k
    · right
      exact ⟨s, s0, s1, by rw [es]; unfold ad lerp; ext <;> grind⟩
  · obtain ⟨c0, h0, rfl⟩ := List.mem_map.mp hc
    exact List.mem_map.mpr ⟨c0, h.sub c0 h0, rfl⟩
  · obtain ⟨p0, h0, rfl⟩ := List.mem_map.mp hq
    exact List.mem_map.mpr ⟨p0, h.one (by simpa using h1) p0 h0, rfl⟩
theorem Fig.self {pts L : List P2} (h : Fig pts L) : Fig L L := h.of_within (fun c hc => hc) fun p hp => h.within p (h.sub p hp)
end VL

set_option maxHeartbeats 2000000
set_option pp.maxSteps 250
namespace VL
open PySem PySem.Spec PyProof.Rows L2
local macro_rules | `(tactic| walk_at "n") => `(tactic| refine ⟨fun h => Bool.noConfusion (show false = true from h), fun _ => ?_⟩)
local macro_rules | `(tactic| walk_at "ty") => `(tactic| refine ⟨_, rfl, by decide, ?_⟩)
local macro_rules | `(tactic| walk_at "tys") => `(tactic| refine ⟨_, rfl, _, rfl, by decide, ?_⟩)
local macro_rules | `(tactic| walk_at "v") => `(tactic| repeat (first | refine ⟨rfl, ?_⟩ | refine ⟨_, rfl, ?_⟩))
local macro_rules | `(tactic| walk_at "y") => `(tactic| refine ⟨fun _ => ?_, fun h => Bool.noConfusion (show true = false from h)⟩)
local macro_rules | `(tactic| walk_at "z") => `(tactic| repeat (first | refine ⟨rfl, ?_⟩ | refine ⟨_, rfl, ?_⟩ | refine ⟨fun _ => ?_, fun h => Bool.noConfusion (show true = false from h)⟩ | refine ⟨fun h => Bool.noConfusion (show false = true from h), fun _ => ?_⟩ | refine ⟨tyIn rfl, ?_⟩ | refine ⟨tysIn rfl, ?_⟩ | refine ⟨smallL rfl, ?_⟩ | refine ⟨smallE rfl, ?_⟩))
local macro_rules | `(tactic| walk_at "zz") => `(tactic| repeat ((fail_if_success show forL _ _ _ _ _); first | refine ⟨rfl, ?_⟩ | refine ⟨_, rfl, ?_⟩ | refine ⟨fun _ => ?_, fun h => Bool.noConfusion (show true = false from h)⟩ | refine ⟨fun h => Bool.noConfusion (show false = true from h), fun _ => ?_⟩ | refine ⟨tyIn rfl, ?_⟩ | refine ⟨tysIn rfl, ?_⟩ | refine ⟨smallL rfl, ?_⟩ | refine ⟨smallE rfl, ?_⟩))
/-! ### rims and heights by prices: each corner is had by the plan of the greatest by its own prices -/
theorem ht_le {pr : P2} {L : List P2} {x : Rat} (h0 : L ≠ []) (h : ∀ c ∈ L, dot2 pr c ≤ x) : htQ pr L ≤ x := by
  obtain ⟨c, hc, e⟩ := ht_at (pr := pr) h0
  rw [e]; exact h c hc
theorem getD_some {α : Type} {xs : List α} {i : Nat} {x d : α} (h : xs[i]? = some x) : xs.getD i d = x := by rw [List.getD_eq_getElem?_getD, h]; rfl
/-- by these prices a corner is farther than all others -/
def Strict (L : List P2) (c pr : P2) : Prop := dot2 pr c = htQ pr L ∧ ∀ p, Under L p → dot2 pr p = htQ pr L → p = c
theorem strict_of {L : List P2} {c pr : P2} (hc : c ∈ L) (h : ∀ p, Under L p → dot2 pr p ≤ dot2 pr c ∧ (dot2 pr p = dot2 pr c → p = c)) : Strict L c pr := by
  have e : htQ pr L = dot2 pr c := Rat.le_antisymm (ht_le (fun z => by rw [z] at hc; cases hc) fun x hx => (h x (under_mem hx)).1) (ht_ge hc)
  exact ⟨e.symm, fun p hp q => (h p hp).2 (by rw [q, e])⟩
theorem strict_one (c : P2) : Strict [c] c (1, 0) := by
  refine strict_of (by simp) fun p hp => ?_
  have a := hp (1, 0)
  have b := hp (-1, 0)
  have d := hp (0, 1)
  have e := hp (0, -1)
  have q : ∀ pr : P2, htQ pr [c] = dot2 pr c := fun _ => rfl
  rw [q] at a b d e
  unfold dot2 at *
  dsimp only at *
  exact ⟨a, fun _ => Prod.ext (by grind) (by grind)⟩
theorem strict_two {pts : List P2} {L : List P2} {c o : P2} (hL : Fig pts L) (h2 : 2 ≤ L.length) (e1 : (c, o) ∈ edL L) (e2 : (o, c) ∈ edL L) : Strict L c (ad c (sc o (-1))) := by
  obtain ⟨hc, ho⟩ := edL_mem e1
  have cne : c ≠ o := (fig_edge hL e1 h2).2.2.ne
  refine strict_of hc fun p hp => ?_
  have k1 := under_left hL hp e1 h2
  have k2 := under_left hL hp e2 h2
  have c0 : crs c o p = 0 := by
    have : crs o c p = - crs c o p := by unfold crs; grind
    grind
  -- no farther than c
  have a := hp (ad c (sc o (-1)))
  have n0 : 0 < dot2 (sb c o) (sb c o) := by
    have s1 := sq_nn (sb c o).1
    have s2 := sq_nn (sb c o).2
    by_cases q : dot2 (sb c o) (sb c o) = 0
    · exfalso
      unfold dot2 at q
      have z1 : (sb c o).1 * (sb c o).1 = 0 := by grind
      have z2 : (sb c o).2 * (sb c o).2 = 0 := by grind
      have z1 := (Rat.mul_eq_zero.mp z1).elim (fun h => h) (fun h => h)
      have z2 := (Rat.mul_eq_zero.mp z2).elim (fun h => h) (fun h => h)
      unfold sb at z1 z2
      dsimp only at z1 z2
      exact cne (Prod.ext (by grind) (by grind))
    · unfold dot2 at q ⊢; grind
  have ep : ad c (sc o (-1)) = sb c o := by unfold ad sc sb; ext <;> grind
  rw [ep] at a ⊢
  obtain ⟨x, hx, ex⟩ := ht_at (pr := sb c o) hL.ne
  have up : dot2 (sb c o) p ≤ dot2 (sb c o) c := by
    by_cases q : dot2 (sb c o) p ≤ dot2 (sb c o) c
    · exact q
    · -- p beyond c on the line: some corner x is beyond, too; by the edge x lies on the segment
      exfalso
      rw [ex] at a
      have E := (fig_edge hL e2 h2).2.2
      rcases E.lf x hx with k | ⟨t, t0, t1, ht⟩
      · have k' := under_left hL (under_mem hx) e1 h2
        have : crs c o x = - crs o c x := by unfold crs; grind
        grind
      · have e3 : dot2 (sb c o) x = dot2 (sb c o) o + t * (dot2 (sb c o) c - dot2 (sb c o) o) := by rw [ht]; unfold dot2 lerp; grind
        have e4 : dot2 (sb c o) c - dot2 (sb c o) o = dot2 (sb c o) (sb c o) := by rw [← dot_sb]
        rw [e4] at e3
        have := Rat.mul_nonneg (show 0 ≤ 1 - t by grind) (Rat.le_of_lt n0)
        generalize dot2 (sb c o) (sb c o) = N at *
        generalize dot2 (sb c o) x = X at *
        generalize dot2 (sb c o) p = Y at *
        generalize dot2 (sb c o) c = Z at *
        generalize dot2 (sb c o) o = W at *
        clear ht
        grind
  refine ⟨up, fun q => ?_⟩
  have i1 : dot2 (sb c o) (sb c o) * (p.1 - c.1) = (sb c o).1 * (dot2 (sb c o) p - dot2 (sb c o) c) + (sb c o).2 * crs c o p := by unfold dot2 sb crs; grind
  have i2 : dot2 (sb c o) (sb c o) * (p.2 - c.2) = (sb c o).2 * (dot2 (sb c o) p - dot2 (sb c o) c) - (sb c o).1 * crs c o p := by unfold dot2 sb crs; grind
  rw [c0, q] at i1 i2
  have z1 := (Rat.mul_eq_zero.mp (show dot2 (sb c o) (sb c o) * (p.1 - c.1) = 0 by grind)).resolve_left (by grind)
  have z2 := (Rat.mul_eq_zero.mp (show dot2 (sb c o) (sb c o) * (p.2 - c.2) = 0 by grind)).resolve_left (by grind)
  exact Prod.ext (by grind) (by grind)
theorem strict_many {pts : List P2} {L : List P2} {w c y : P2} (hL : Fig pts L) (h2 : 2 ≤ L.length) (e1 : (w, c) ∈ edL L) (e2 : (c, y) ∈ edL L) (hy : y ≠ w) : Strict L c (ad (rt90 (sb c w)) (rt90 (sb y c))) := by
  obtain ⟨hw, hc⟩ := edL_mem e1
  obtain ⟨_, hyL⟩ := edL_mem e2
  have E1 := (fig_edge hL e1 h2).2.2
  have E2 := (fig_edge hL e2 h2).2.2
  have tp := turn_pos E1 E2 hw hyL hy
  refine strict_of hc fun p hp => ?_
  have k1 := under_left hL hp e1 h2
  have k2 := under_left hL hp e2 h2
  have id : dot2 (ad (rt90 (sb c w)) (rt90 (sb y c))) p = dot2 (ad (rt90 (sb c w)) (rt90 (sb y c))) c - crs w c p - crs c y p := by unfold dot2 ad rt90 sb crs; grind
  rw [id]
  refine ⟨by grind, fun q => ?_⟩
  have z1 : crs w c p = 0 := by grind
  have z2 : crs c y p = 0 := by grind
  have j1 : cr (sb c w) (sb y c) * (p.1 - c.1) = (sb y c).1 * crs w c p - (sb c w).1 * crs c y p := by unfold cr crs sb; grind
  have j2 : cr (sb c w) (sb y c) * (p.2 - c.2) = (sb y c).2 * crs w c p - (sb c w).2 * crs c y p := by unfold cr crs sb; grind
  rw [z1, z2] at j1 j2
  have z1 := (Rat.mul_eq_zero.mp (show cr (sb c w) (sb y c) * (p.1 - c.1) = 0 by grind)).resolve_left (by grind)
  have z2 := (Rat.mul_eq_zero.mp (show cr (sb c w) (sb y c) * (p.2 - c.2) = 0 by grind)).resolve_left (by grind)
  exact Prod.ext (by grind) (by grind)
/-- strict prices of the corner in a place, as the program has them -/
def sprP (L : List P2) (i : Nat) : P2 :=
  if L.length = 1 then (1, 0) else
  if L.length = 2 then ad (L.getD i (0, 0)) (sc (L.getD (1 - i) (0, 0)) (-1)) else
  ad (rt90 (sb (L.getD i (0, 0)) (L.getD ((i + (L.length - 1)) % L.length) (0, 0)))) (rt90 (sb (L.getD ((i + 1) % L.length) (0, 0)) (L.getD i (0, 0))))
theorem spr_strict {pts L : List P2} {i : Nat} {c : P2} (hL : Fig pts L) (hi : L[i]? = some c) : Strict L c (sprP L i) := by
  have li : i < L.length := (List.getElem?_eq_some_iff.mp hi).1
  unfold sprP
  by_cases l1 : L.length = 1
  · rw [if_pos l1]
    obtain ⟨a, rfl⟩ := List.length_eq_one_iff.mp l1
    have : i = 0 := by simpa using li
    subst this
    cases hi
    exact strict_one c
  rw [if_neg l1]
  have eu : L[(i + (L.length - 1)) % L.length]? = some (L[(i + (L.length - 1)) % L.length]'(Nat.mod_lt _ (by omega))) := List.getElem?_eq_getElem _
  have ev : L[(i + 1) % L.length]? = some (L[(i + 1) % L.length]'(Nat.mod_lt _ (by omega))) := List.getElem?_eq_getElem _
  have em1 : (L[(i + (L.length - 1)) % L.length]'(Nat.mod_lt _ (by omega)), c) ∈ edL L := edL_at.mpr ⟨i, li, eu, hi⟩
  have em2 : (c, L[(i + 1) % L.length]'(Nat.mod_lt _ (by omega))) ∈ edL L := edL_at.mpr ⟨(i + 1) % L.length, Nat.mod_lt _ (by omega), by
    rw [← hi]
    congr 1
    by_cases q : i + 1 < L.length
    · rw [Nat.mod_eq_of_lt q, show i + 1 + (L.length - 1) = i + L.length by omega, Nat.add_mod_right, Nat.mod_eq_of_lt li]
    · have : i + 1 = L.length := by omega
      rw [this, Nat.mod_self, Nat.zero_add, Nat.mod_eq_of_lt (by omega)]
      omega, ev⟩
  by_cases l2 : L.length = 2
  · rw [if_pos l2, getD_some hi]
    have e1 : (i + 1) % L.length = 1 - i := by rw [l2]; omega
    have e2 : (i + (L.length - 1)) % L.length = 1 - i := by rw [l2]; omega
    have x1 : L.getD (1 - i) (0, 0) = L[(i + 1) % L.length]'(Nat.mod_lt _ (by omega)) := getD_some (by rw [← ev, e1])
    have x2 : L.getD (1 - i) (0, 0) = L[(i + (L.length - 1)) % L.length]'(Nat.mod_lt _ (by omega)) := getD_some (by rw [← eu, e2])
    rw [← x1] at em2
    rw [← x2] at em1
    exact strict_two hL (by omega) em2 em1
  rw [if_neg l2, getD_some hi, getD_some eu, getD_some ev]
  refine strict_many hL (by omega) em1 em2 fun z => ?_
  have hnd := hL.nodup
  have := (List.getElem_inj hnd).mp z
  by_cases q : i + 1 < L.length
  · rw [Nat.mod_eq_of_lt q] at this
    by_cases q2 : i = 0
    · subst q2
      rw [Nat.zero_add, Nat.mod_eq_of_lt (by omega)] at this
      omega
    · rw [show i + (L.length - 1) = (i - 1) + L.length by omega, Nat.add_mod_right, Nat.mod_eq_of_lt (by omega)] at this
      omega
  · have e : i + 1 = L.length := by omega
    rw [e, Nat.mod_self, show i + (L.length - 1) = (i - 1) + L.length by omega, Nat.add_mod_right, Nat.mod_eq_of_lt (by omega)] at this
    omega
end VL

set_option maxHeartbeats 2000000
set_option pp.maxSteps 250
namespace VL
open PySem PySem.Spec PyProof.Rows L2
local macro_rules | `(tactic| walk_at "n") => `(tactic| refine ⟨fun h => Bool.noConfusion (show false = true from h), fun _ => ?_⟩)
local macro_rules | `(tactic| walk_at "ty") => `(tactic| refine ⟨_, rfl, by decide, ?_⟩)
local macro_rules | `(tactic| walk_at "tys") => `(tactic| refine ⟨_, rfl, _, rfl, by decide, ?_⟩)
local macro_rules | `(tactic| walk_at "v") => `(tactic| repeat (first | refine ⟨rfl, ?_⟩ | refine ⟨_, rfl, ?_⟩))
local macro_rules | `(tactic| walk_at "y") => `(tactic| refine ⟨fun _ => ?_, fun h => Bool.noConfusion (show true = false from h)⟩)
local macro_rules | `(tactic| walk_at "z") => `(tactic| repeat (first | refine ⟨rfl, ?_⟩ | refine ⟨_, rfl, ?_⟩ | refine ⟨fun _ => ?_, fun h => Bool.noConfusion (show true = false from h)⟩ | refine ⟨fun h => Bool.noConfusion (show false = true from h), fun _ => ?_⟩ | refine ⟨tyIn rfl, ?_⟩ | refine ⟨tysIn rfl, ?_⟩ | refine ⟨smallL rfl, ?_⟩ | refine ⟨smallE rfl, ?_⟩))
local macro_rules | `(tactic| walk_at "zz") => `(tactic| repeat ((fail_if_success show forL _ _ _ _ _); first | refine ⟨rfl, ?_⟩ | refine ⟨_, rfl, ?_⟩ | refine ⟨fun _ => ?_, fun h => Bool.noConfusion (show true = false from h)⟩ | refine ⟨fun h => Bool.noConfusion (show false = true from h), fun _ => ?_⟩ | refine ⟨tyIn rfl, ?_⟩ | refine ⟨tysIn rfl, ?_⟩ | refine ⟨smallL rfl, ?_⟩ | refine ⟨smallE rfl, ?_⟩))
/-! ### comprehensions whose items stay owned: by induction -/
@[irreducible] def sp_rimsD : ASp := fun ds R => ∃ (l : Land) (k m : Nat), ds = [dLand l, .int k] ∧ LandOk l ∧ l.k = 2 ∧ FewM m l ∧ k ≤ 6 ∧ (∀ j < k, Bud m j) ∧ ∀ rows, RimsAll l k rows → R (.lst (rows.map dRow)) 3 []
theorem sp_rimsD.mk {l : Land} {k : Nat} {R : RR} (m : Nat) (h1 : LandOk l) (h2 : l.k = 2) (h3 : FewM m l) (h4 : k ≤ 6) (hb : ∀ j < k, Bud m j) (h : ∀ rows, RimsAll l k rows → R (.lst (rows.map dRow)) 3 []) : sp_rimsD [dLand l, .int k] R := by unfold sp_rimsD; exact ⟨l, k, m, rfl, h1, h2, h3, h4, hb, h⟩
@[irreducible] def sp_rimD : ASp := fun ds R => ∃ (l : Land) (k i m : Nat), ds = [dLand l, .int k, .int i] ∧ LandOk l ∧ l.k = 2 ∧ FewM m l ∧ k ≤ 6 ∧ (∀ j < k, Bud m j) ∧ i < l.sts.length ∧ ∀ (row : List (List P2)) (L : List P2), RimsR l k row → row[i]? = some L → R (.lst (L.map dpt)) 1 []
theorem sp_rimD.mk {l : Land} {k i : Nat} {R : RR} (m : Nat) (h1 : LandOk l) (h2 : l.k = 2) (h3 : FewM m l) (h4 : k ≤ 6) (hb : ∀ j < k, Bud m j) (h5 : i < l.sts.length) (h : ∀ (row : List (List P2)) (L : List P2), RimsR l k row → row[i]? = some L → R (.lst (L.map dpt)) 1 []) : sp_rimD [dLand l, .int k, .int i] R := by unfold sp_rimD; exact ⟨l, k, i, m, rfl, h1, h2, h3, h4, hb, h5, h⟩
end VL

set_option maxHeartbeats 2000000
set_option pp.maxSteps 250
namespace VL
open PySem PySem.Spec PyProof.Rows L2
local macro_rules | `(tactic| walk_at "n") => `(tactic| refine ⟨fun h => Bool.noConfusion (show false = true from h), fun _ => ?_⟩)
local macro_rules | `(tactic| walk_at "ty") => `(tactic| refine ⟨_, rfl, by decide, ?_⟩)
local macro_rules | `(tactic| walk_at "tys") => `(tactic| refine ⟨_, rfl, _, rfl, by decide, ?_⟩)
local macro_rules | `(tactic| walk_at "v") => `(tactic| repeat (first | refine ⟨rfl, ?_⟩ | refine ⟨_, rfl, ?_⟩))
local macro_rules | `(tactic| walk_at "y") => `(tactic| refine ⟨fun _ => ?_, fun h => Bool.noConfusion (show true = false from h)⟩)
local macro_rules | `(tactic| walk_at "z") => `(tactic| repeat (first | refine ⟨rfl, ?_⟩ | refine ⟨_, rfl, ?_⟩ | refine ⟨fun _ => ?_, fun h => Bool.noConfusion (show true = false from h)⟩ | refine ⟨fun h => Bool.noConfusion (show false = true from h), fun _ => ?_⟩ | refine ⟨tyIn rfl, ?_⟩ | refine ⟨tysIn rfl, ?_⟩ | refine ⟨smallL rfl, ?_⟩ | refine ⟨smallE rfl, ?_⟩))
local macro_rules | `(tactic| walk_at "zz") => `(tactic| repeat ((fail_if_success show forL _ _ _ _ _); first | refine ⟨rfl, ?_⟩ | refine ⟨_, rfl, ?_⟩ | refine ⟨fun _ => ?_, fun h => Bool.noConfusion (show true = false from h)⟩ | refine ⟨fun h => Bool.noConfusion (show false = true from h), fun _ => ?_⟩ | refine ⟨tyIn rfl, ?_⟩ | refine ⟨tysIn rfl, ?_⟩ | refine ⟨smallL rfl, ?_⟩ | refine ⟨smallE rfl, ?_⟩))
/-! ### figures of the same heights; rims alone -/
end VL

set_option maxHeartbeats 2000000
set_option pp.maxSteps 250
namespace VL
open PySem PySem.Spec PyProof.Rows L2
local macro_rules | `(tactic| walk_at "n") => `(tactic| refine ⟨fun h => Bool.noConfusion (show false = true from h), fun _ => ?_⟩)
local macro_rules | `(tactic| walk_at "ty") => `(tactic| refine ⟨_, rfl, by decide, ?_⟩)
local macro_rules | `(tactic| walk_at "tys") => `(tactic| refine ⟨_, rfl, _, rfl, by decide, ?_⟩)
local macro_rules | `(tactic| walk_at "v") => `(tactic| repeat (first | refine ⟨rfl, ?_⟩ | refine ⟨_, rfl, ?_⟩))
local macro_rules | `(tactic| walk_at "y") => `(tactic| refine ⟨fun _ => ?_, fun h => Bool.noConfusion (show true = false from h)⟩)
local macro_rules | `(tactic| walk_at "z") => `(tactic| repeat (first | refine ⟨rfl, ?_⟩ | refine ⟨_, rfl, ?_⟩ | refine ⟨fun _ => ?_, fun h => Bool.noConfusion (show true = false from h)⟩ | refine ⟨fun h => Bool.noConfusion (show false = true from h), fun _ => ?_⟩ | refine ⟨tyIn rfl, ?_⟩ | refine ⟨tysIn rfl, ?_⟩ | refine ⟨smallL rfl, ?_⟩ | refine ⟨smallE rfl, ?_⟩))
local macro_rules | `(tactic| walk_at "zz") => `(tactic| repeat ((fail_if_success show forL _ _ _ _ _); first | refine ⟨rfl, ?_⟩ | refine ⟨_, rfl, ?_⟩ | refine ⟨fun _ => ?_, fun h => Bool.noConfusion (show true = false from h)⟩ | refine ⟨fun h => Bool.noConfusion (show false = true from h), fun _ => ?_⟩ | refine ⟨tyIn rfl, ?_⟩ | refine ⟨tysIn rfl, ?_⟩ | refine ⟨smallL rfl, ?_⟩ | refine ⟨smallE rfl, ?_⟩))
/-! ### rows of heights, told by anybody -/
def unQ : D → Rat
  | .tup [.int a, .int b] => Rat.divInt a b
  | _ => 0
def unC : D → List Rat
  | .lst xs => xs.map unQ
  | .tup xs => xs.map unQ
  | _ => []
def unH : D → List (List Rat)
  | .lst xs => xs.map unC
  | _ => []
def isHRow (n : Nat) : D → Bool
  | .lst xs => decide ((xs.length : Int) = (n : Int)) && xs.all isPart
  | _ => false
def areRows (l : Land) (n : Nat) : D → Bool
  | .lst xs => decide ((xs.length : Int) = (n : Int) + 1) && xs.all (isHRow l.sts.length)
  | _ => false
/-- a state's number at a place is no less than it must be -/
def stB (pr : List Rat) (rows : List (List Rat)) (p : Nat) (s : St) (q : Rat) : Bool :=
  if p = 0 ∨ s.ds.isEmpty = true then !decide (q < qdot pr s.e) else s.ds.all fun d => !decide (q < pdeed pr d (rows.getD (p - 1) []))
def rowB (l : Land) (pr : List Rat) (rows : List (List Rat)) (p : Nat) : Bool := (List.range l.sts.length).all fun i => stB pr rows p (l.sts.getD i ⟨0, [], []⟩) ((rows.getD p []).getD i 0)
def htB (l : Land) (pr : List Rat) (rows : List (List Rat)) : Bool := (List.range rows.length).all (rowB l pr rows)
def shH (l : Land) (n : Nat) (pr : List Rat) (d : D) : Bool := areRows l n d && htB l pr (unH d)
def shD (l : Land) (n i : Nat) (p : List Rat) : D → Bool
  | .tup [a, b] => isWorth l.k a && shH l n (unC a) b && decide (((unH b).getD n []).getD i 0 < qdot (unC a) p)
  | _ => false
@[irreducible] def sp_are_rows : ASp := fun ds R => ∃ (l : Land) (n : Nat) (d : D) (B m : Nat), ds = [dLand l, .int n, d] ∧ LandOk l ∧ d.dat B m ∧ B ≤ 5000 ∧ R (.bl (areRows l n d)) 0 []
theorem sp_are_rows.mk {l : Land} {n : Nat} {d : D} {R : RR} {B m : Nat} (h1 : LandOk l) (h2 : d.dat B m) (h3 : B ≤ 5000) (h : R (.bl (areRows l n d)) 0 []) : sp_are_rows [dLand l, .int n, d] R := by unfold sp_are_rows; exact ⟨l, n, d, B, m, rfl, h1, h2, h3, h⟩
@[irreducible] def sp_is_bound_in : ASp := fun ds R => ∃ (l : Land) (i : Nat) (s : St) (pr row later : List Rat) (b : Nat), ds = [dLand l, .int i, dw pr, dC row, dC later] ∧ LandOk l ∧ l.sts[i]? = some s ∧ PrB b l pr ∧ row.length = l.sts.length ∧ allw b row ∧ later.length = l.sts.length ∧ allw b later ∧ b ≤ 20000 ∧ R (.bl (s.ds.all fun d => !decide (row.getD i 0 < pdeed pr d later))) 0 []
theorem sp_is_bound_in.mk {l : Land} {i : Nat} {pr row later : List Rat} {R : RR} (s : St) (b : Nat) (h1 : LandOk l) (h2 : l.sts[i]? = some s) (h3 : PrB b l pr) (h4 : row.length = l.sts.length) (h5 : allw b row) (h6 : later.length = l.sts.length) (h7 : allw b later) (h8 : b ≤ 20000) (h : R (.bl (s.ds.all fun d => !decide (row.getD i 0 < pdeed pr d later))) 0 []) : sp_is_bound_in [dLand l, .int i, dw pr, dC row, dC later] R := by unfold sp_is_bound_in; exact ⟨l, i, s, pr, row, later, b, rfl, h1, h2, h3, h4, h5, h6, h7, h8, h⟩
@[irreducible] def sp_shows_heights : ASp := fun ds R => ∃ (l : Land) (n : Nat) (pr : List Rat) (d : D) (B m b : Nat), ds = [dLand l, .int n, dw pr, d] ∧ LandOk l ∧ PrB b l pr ∧ d.dat B m ∧ B ≤ 5000 ∧ n ≤ 900 ∧ B ≤ b ∧ b ≤ 20000 ∧ R (.bl (shH l n pr d)) 0 []
theorem sp_shows_heights.mkb {l : Land} {n : Nat} {pr : List Rat} {d : D} {R : RR} (B m b : Nat) (h1 : LandOk l) (h2 : PrB b l pr) (h3 : d.dat B m) (h4 : B ≤ 5000) (h5 : n ≤ 900) (h6 : B ≤ b) (h7 : b ≤ 20000) (h : R (.bl (shH l n pr d)) 0 []) : sp_shows_heights [dLand l, .int n, dw pr, d] R := by unfold sp_shows_heights; exact ⟨l, n, pr, d, B, m, b, rfl, h1, h2, h3, h4, h5, h6, h7, h⟩
theorem sp_shows_heights.mk {l : Land} {n : Nat} {pr : List Rat} {d : D} {R : RR} (B m : Nat) (h1 : LandOk l) (h2 : PrB B l pr) (h3 : d.dat B m) (h4 : B ≤ 5000) (h5 : n ≤ 900) (h : R (.bl (shH l n pr d)) 0 []) : sp_shows_heights [dLand l, .int n, dw pr, d] R := sp_shows_heights.mkb B m B h1 h2 h3 h4 h5 (Nat.le_refl _) (by omega) h
@[irreducible] def sp_shows_beyond : ASp := fun ds R => ∃ (l : Land) (n i : Nat) (p : List Rat) (d : D) (B m c : Nat), ds = [dLand l, .int n, .int i, dw p, d] ∧ LandOk l ∧ i < l.sts.length ∧ p.length = l.k ∧ allw c p ∧ c ≤ 100000 ∧ d.dat B m ∧ 21 ≤ B ∧ B ≤ 5000 ∧ n ≤ 900 ∧ R (.bl (shD l n i p d)) 0 []
theorem sp_shows_beyond.mk {l : Land} {n i : Nat} {p : List Rat} {d : D} {R : RR} (B m c : Nat) (h1 : LandOk l) (h2 : i < l.sts.length) (h3 : p.length = l.k) (h4 : allw c p) (h5 : c ≤ 100000) (h6 : d.dat B m) (h7 : 21 ≤ B) (h8 : B ≤ 5000) (h9 : n ≤ 900) (h : R (.bl (shD l n i p d)) 0 []) : sp_shows_beyond [dLand l, .int n, .int i, dw p, d] R := by unfold sp_shows_beyond; exact ⟨l, n, i, p, d, B, m, c, rfl, h1, h2, h3, h4, h5, h6, h7, h8, h9, h⟩
end VL

set_option maxHeartbeats 2000000
set_option pp.maxSteps 250
namespace VL
open PySem PySem.Spec PyProof.Rows L2
local macro_rules | `(tactic| walk_at "n") => `(tactic| refine ⟨fun h => Bool.noConfusion (show false = true from h), fun _ => ?_⟩)
local macro_rules | `(tactic| walk_at "ty") => `(tactic| refine ⟨_, rfl, by decide, ?_⟩)
local macro_rules | `(tactic| walk_at "tys") => `(tactic| refine ⟨_, rfl, _, rfl, by decide, ?_⟩)
local macro_rules | `(tactic| walk_at "v") => `(tactic| repeat (first | refine ⟨rfl, ?_⟩ | refine ⟨_, rfl, ?_⟩))
local macro_rules | `(tactic| walk_at "y") => `(tactic| refine ⟨fun _ => ?_, fun h => Bool.noConfusion (show true = false from h)⟩)
local macro_rules | `(tactic| walk_at "z") => `(tactic| repeat (first | refine ⟨rfl, ?_⟩ | refine ⟨_, rfl, ?_⟩ | refine ⟨fun _ => ?_, fun h => Bool.noConfusion (show true = false from h)⟩ | refine ⟨fun h => Bool.noConfusion (show false = true from h), fun _ => ?_⟩ | refine ⟨tyIn rfl, ?_⟩ | refine ⟨tysIn rfl, ?_⟩ | refine ⟨smallL rfl, ?_⟩ | refine ⟨smallE rfl, ?_⟩))
local macro_rules | `(tactic| walk_at "zz") => `(tactic| repeat ((fail_if_success show forL _ _ _ _ _); first | refine ⟨rfl, ?_⟩ | refine ⟨_, rfl, ?_⟩ | refine ⟨fun _ => ?_, fun h => Bool.noConfusion (show true = false from h)⟩ | refine ⟨fun h => Bool.noConfusion (show false = true from h), fun _ => ?_⟩ | refine ⟨tyIn rfl, ?_⟩ | refine ⟨tysIn rfl, ?_⟩ | refine ⟨smallL rfl, ?_⟩ | refine ⟨smallE rfl, ?_⟩))
/-! ### bottoms and greatness: how long numbers are -/
def FV (Q V : Nat) (q : Rat) : Prop := FrN Q (V * Q) q
section
variable {Q Q' V V' R : Nat} {p q r : Rat}
theorem FV.le (h : FV Q V q) (l : V ≤ V') : FV Q V' q := FrN.le h (Nat.mul_le_mul_right _ l)
theorem FV.add (hQ : 0 < Q) (h1 : FV Q V q) (h2 : FV Q V' r) : FV Q (V + V') (q + r) := by
  unfold FV
  rw [Nat.add_mul]
  exact FrN.add hQ h1 h2
theorem FV.mul (h1 : FV Q V q) (h2 : FV Q' V' r) : FV (Q * Q') (V * V') (q * r) := by
  have := FrN.mul h1 h2
  unfold FV
  rw [show V * V' * (Q * Q') = V * Q * (V' * Q') by rw [Nat.mul_mul_mul_comm]]
  exact this
theorem FV.zero : FV Q V 0 := FrN.zero
theorem FV.neg (h : FV Q V q) : FV Q V (-q) := by
  obtain ⟨z, rfl, b⟩ := h
  exact ⟨-z, by rw [Rat.neg_divInt], by rw [Int.natAbs_neg]; exact b⟩
theorem FV.sub (hQ : 0 < Q) (h1 : FV Q V q) (h2 : FV Q V' r) : FV Q (V + V') (q - r) := by
  rw [Rat.sub_eq_add_neg]
  exact h1.add hQ h2.neg
theorem FV.up (hR : 0 < R) (h : FV Q V q) : FV (Q * R) V q := by
  obtain ⟨z, rfl, b⟩ := h
  refine ⟨z * (R : Nat), ?_, ?_⟩
  · rw [Int.natCast_mul, Rat.divInt_mul_right (by omega)]
  · rw [Int.natAbs_mul, Int.natAbs_natCast, ← Nat.mul_assoc]
    exact Nat.mul_le_mul_right _ b
theorem FV.bits {n : Nat} (hQ : 0 < Q) (hV : 1 ≤ V) (h : FV Q V q) (hb : V * Q < 2 ^ n) : wt q ≤ n := by
  have a := FrN.wtle hQ h
  have e1 : bl (V * Q) ≤ n := bl_le hb
  have e2 : bl Q ≤ n := bl_le (Nat.lt_of_le_of_lt (Nat.le_mul_of_pos_left Q hV) hb)
  omega
theorem FV.own {b : Nat} (h : wt q ≤ b) (hd : q.den ∣ Q) (hQ : 0 < Q) : FV Q (2 ^ b) q := by
  obtain ⟨m, rfl⟩ := hd
  have hm : 0 < m := Nat.pos_of_mul_pos_left hQ
  have h1 := Nat.lt_of_lt_of_le (lt_bl q.num.natAbs) (Nat.pow_le_pow_right (by decide) (Nat.le_trans (wt_num q) h))
  have o : FV q.den (2 ^ b) q := ⟨q.num, (Rat.num_divInt_den q).symm, Nat.le_trans (Nat.le_of_lt h1) (Nat.le_mul_of_pos_right _ q.den_pos)⟩
  exact o.up hm
theorem FV.ch (h : wt p ≤ 6) : FV K63 63 p := fr63 h
end
/-! heights -/
/-! corners of rims -/
def FP (Q V : Nat) (p : P2) : Prop := FV Q V p.1 ∧ FV Q V p.2
theorem FP.le {Q V W : Nat} {p : P2} (h : FP Q V p) (l : V ≤ W) : FP Q W p := ⟨h.1.le l, h.2.le l⟩
theorem FP.up {Q V R : Nat} {p : P2} (hR : 0 < R) (h : FP Q V p) : FP (Q * R) V p := ⟨h.1.up hR, h.2.up hR⟩
end VL

set_option maxHeartbeats 2000000
set_option pp.maxSteps 250
namespace VL
open PySem PySem.Spec PyProof.Rows L2
local macro_rules | `(tactic| walk_at "n") => `(tactic| refine ⟨fun h => Bool.noConfusion (show false = true from h), fun _ => ?_⟩)
local macro_rules | `(tactic| walk_at "ty") => `(tactic| refine ⟨_, rfl, by decide, ?_⟩)
local macro_rules | `(tactic| walk_at "tys") => `(tactic| refine ⟨_, rfl, _, rfl, by decide, ?_⟩)
local macro_rules | `(tactic| walk_at "v") => `(tactic| repeat (first | refine ⟨rfl, ?_⟩ | refine ⟨_, rfl, ?_⟩))
local macro_rules | `(tactic| walk_at "y") => `(tactic| refine ⟨fun _ => ?_, fun h => Bool.noConfusion (show true = false from h)⟩)
local macro_rules | `(tactic| walk_at "z") => `(tactic| repeat (first | refine ⟨rfl, ?_⟩ | refine ⟨_, rfl, ?_⟩ | refine ⟨fun _ => ?_, fun h => Bool.noConfusion (show true = false from h)⟩ | refine ⟨fun h => Bool.noConfusion (show false = true from h), fun _ => ?_⟩ | refine ⟨tyIn rfl, ?_⟩ | refine ⟨tysIn rfl, ?_⟩ | refine ⟨smallL rfl, ?_⟩ | refine ⟨smallE rfl, ?_⟩))
local macro_rules | `(tactic| walk_at "zz") => `(tactic| repeat ((fail_if_success show forL _ _ _ _ _); first | refine ⟨rfl, ?_⟩ | refine ⟨_, rfl, ?_⟩ | refine ⟨fun _ => ?_, fun h => Bool.noConfusion (show true = false from h)⟩ | refine ⟨fun h => Bool.noConfusion (show false = true from h), fun _ => ?_⟩ | refine ⟨tyIn rfl, ?_⟩ | refine ⟨tysIn rfl, ?_⟩ | refine ⟨smallL rfl, ?_⟩ | refine ⟨smallE rfl, ?_⟩))
/-! ### figures whose corners lie on given lines, and their cuts -/
structure Ln where
  A : Rat
  B : Rat
  C : Rat
def Ln.on (l : Ln) (p : P2) : Prop := l.A * p.1 + l.B * p.2 = l.C
def Ln.tr (l : Ln) : Prop := l.A ≠ 0 ∨ l.B ≠ 0
def Ln.cr (l m : Ln) : Rat := l.A * m.B - l.B * m.A
/-- each corner is where two of the lines meet, each side lies on one of them -/
structure Lined (P : Ln → Prop) (L : List P2) : Prop where
  cor : ∀ c ∈ L, ∃ l m, P l ∧ P m ∧ l.on c ∧ m.on c ∧ l.cr m ≠ 0
  edg : ∀ a b, (a, b) ∈ edL L → a ≠ b → ∃ l, P l ∧ l.tr ∧ l.on a ∧ l.on b
/-- the line of a cut -/
def IsLn (pr : P2) (b : Rat) (l : Ln) : Prop := ∃ s : Rat, s ≠ 0 ∧ s * pr.1 = l.A ∧ s * pr.2 = l.B ∧ s * b = l.C
theorem Lined.mono {P Q : Ln → Prop} {L : List P2} (h : Lined P L) (w : ∀ l, P l → Q l) : Lined Q L := ⟨fun c hc => by
  obtain ⟨l, m, a, b, r⟩ := h.cor c hc
  exact ⟨l, m, w l a, w m b, r⟩, fun a b hm ne => by
  obtain ⟨l, p, r⟩ := h.edg a b hm ne
  exact ⟨l, w l p, r⟩⟩
theorem nz_mul {x y : Rat} (hx : x ≠ 0) (h : x * y = 0) : y = 0 := by grind
theorem on_isLn {pr : P2} {b : Rat} {k : Ln} (hk : IsLn pr b k) {p : P2} : k.on p ↔ hQ pr b p = 0 := by
  obtain ⟨s, s0, e1, e2, e3⟩ := hk
  unfold Ln.on hQ dot2
  rw [← e1, ← e2, ← e3]
  constructor
  · intro h
    exact nz_mul s0 (by grind)
  · intro h
    have : s * (pr.1 * p.1 + pr.2 * p.2 - b) = 0 := by rw [h]; grind
    grind
theorem on_lerp {l : Ln} {a b : P2} (h1 : l.on a) (h2 : l.on b) (t : Rat) : l.on (lerp a b t) := by
  unfold Ln.on lerp at *
  dsimp only
  grind
theorem crP_lerp (u v : P2) (f s : Rat) : crP u v f s = lerp u v (f / (f - s)) := by
  unfold crP
  generalize f / (f - s) = t
  unfold lerp ad sc sb
  ext <;> grind
theorem cr_pos {f s : Rat} (h : f * s < 0) : 0 < f / (f - s) ∧ f / (f - s) < 1 := by
  have key : ∀ {x y : Rat}, 0 < x → 0 < y → 0 < x / (x + y) ∧ x / (x + y) < 1 := fun {x y} hx hy => by
    have d : 0 < x + y := by grind
    have e : (x + y) * (x / (x + y)) = x := by grind
    have n0 : 0 ≤ x / (x + y) := nn_of_mul d (by rw [e]; grind)
    have e2 : (x + y) * (1 - x / (x + y)) = y := by grind
    have n1 : 0 ≤ 1 - x / (x + y) := nn_of_mul d (by rw [e2]; grind)
    generalize x / (x + y) = t at *
    refine ⟨?_, ?_⟩
    · have : t ≠ 0 := fun z => by rw [z] at e; grind
      grind
    · have : t ≠ 1 := fun z => by rw [z] at e; grind
      grind
  rcases mul_neg h with ⟨h1, h2⟩ | ⟨h1, h2⟩
  · have := key h1 (show 0 < -s by grind)
    rwa [show f + -s = f - s by grind] at this
  · have := key (show 0 < -f by grind) h2
    have e : -f / (-f + s) = f / (f - s) := by
      have d1 : f - s ≠ 0 := by grind
      have d2 : -f + s ≠ 0 := by grind
      grind
    rwa [e] at this
theorem crs_lerp (x y u v : P2) (t : Rat) : crs x y (lerp u v t) = (1 - t) * crs x y u + t * crs x y v := by unfold crs lerp; grind
theorem cr_ne {l k : Ln} {u v pr : P2} {b : Rat} (ht : l.tr) (hu : l.on u) (hv : l.on v) (hk : IsLn pr b k) (h : hQ pr b u ≠ hQ pr b v) : l.cr k ≠ 0 := fun z => by
  obtain ⟨s, s0, e1, e2, _⟩ := hk
  unfold Ln.cr at z
  unfold Ln.on at hu hv
  rw [← e1, ← e2] at z
  have z2 : l.A * pr.2 - l.B * pr.1 = 0 := nz_mul s0 (by grind)
  have w : l.A * (v.1 - u.1) + l.B * (v.2 - u.2) = 0 := by grind
  have g : pr.1 * (v.1 - u.1) + pr.2 * (v.2 - u.2) = 0 := by
    generalize v.1 - u.1 = w1 at w ⊢
    generalize v.2 - u.2 = w2 at w ⊢
    rcases ht with a0 | b0
    · refine nz_mul a0 ?_
      have : l.A * (pr.1 * w1 + pr.2 * w2) = pr.1 * (l.A * w1 + l.B * w2) + (l.A * pr.2 - l.B * pr.1) * w2 := by grind
      rw [this, w, z2]; grind
    · refine nz_mul b0 ?_
      have : l.B * (pr.1 * w1 + pr.2 * w2) = pr.2 * (l.A * w1 + l.B * w2) - (l.A * pr.2 - l.B * pr.1) * w1 := by grind
      rw [this, w, z2]; grind
  refine h ?_
  unfold hQ dot2
  grind
theorem on_of_crs {l : Ln} {a c b : P2} (h1 : l.on a) (h2 : l.on c) (hne : a ≠ c) (h : crs a c b = 0) : l.on b := by
  unfold Ln.on crs at *
  have w : l.A * (c.1 - a.1) + l.B * (c.2 - a.2) = 0 := by grind
  have g : l.A * (b.1 - a.1) + l.B * (b.2 - a.2) = 0 := by
    generalize b.1 - a.1 = x at h ⊢
    generalize b.2 - a.2 = y at h ⊢
    by_cases c1 : c.1 - a.1 = 0
    · have c2 : c.2 - a.2 ≠ 0 := fun z => hne (by ext <;> grind)
      refine nz_mul c2 ?_
      rw [c1] at h w
      generalize c.2 - a.2 = d at *
      have : d * (l.A * x + l.B * y) = l.A * (d * x) + y * (l.A * 0 + l.B * d) := by grind
      rw [this, w]
      have : d * x = 0 := by grind
      rw [this]; grind
    · refine nz_mul c1 ?_
      generalize c.1 - a.1 = e at *
      generalize c.2 - a.2 = d at *
      have : e * (l.A * x + l.B * y) = x * (l.A * e + l.B * d) + l.B * (e * y - d * x) := by grind
      rw [this, w, h]; grind
  grind
theorem edL_next {L : List P2} {c : P2} (hc : c ∈ L) : (∃ y, (c, y) ∈ edL L) ∧ ∃ w, (w, c) ∈ edL L := by
  obtain ⟨j, hj, e⟩ := List.getElem_of_mem hc
  have ej : L[j]? = some c := by rw [List.getElem?_eq_getElem hj, e]
  have n0 : 0 < L.length := by omega
  constructor
  · have hi : (j + 1) % L.length < L.length := Nat.mod_lt _ n0
    refine ⟨L[(j + 1) % L.length], edL_at.mpr ⟨(j + 1) % L.length, hi, ?_, List.getElem?_eq_getElem hi⟩⟩
    have : ((j + 1) % L.length + (L.length - 1)) % L.length = j := by
      by_cases q : j + 1 < L.length
      · rw [Nat.mod_eq_of_lt q, show j + 1 + (L.length - 1) = j + L.length by omega, Nat.add_mod_right, Nat.mod_eq_of_lt hj]
      · have : j + 1 = L.length := by omega
        rw [this, Nat.mod_self, Nat.zero_add, Nat.mod_eq_of_lt (by omega)]; omega
    rw [this]; exact ej
  · have hi : (j + (L.length - 1)) % L.length < L.length := Nat.mod_lt _ n0
    exact ⟨L[(j + (L.length - 1)) % L.length], edL_at.mpr ⟨j, hj, List.getElem?_eq_getElem hi, ej⟩⟩
theorem cut_left {L F : List P2} {pr : P2} {b : Rat} {pts : List P2} (hL : Fig pts L) (hF : CutOf L pr b F) (l2 : 2 ≤ L.length) {x y q : P2} (he : (x, y) ∈ edL L) (hq : q ∈ F) : 0 ≤ crs x y q := by
  rcases hF.of q hq with ⟨h, _⟩ | ⟨u, v, hm, k, rfl⟩
  · exact under_left hL (under_mem h) he l2
  · obtain ⟨h1, h2⟩ := edL_mem hm
    obtain ⟨t0, t1⟩ := cr_pos k
    rw [crP_lerp, crs_lerp]
    generalize hQ pr b u / (hQ pr b u - hQ pr b v) = t at t0 t1 ⊢
    have a1 := Rat.mul_nonneg (show 0 ≤ 1 - t by grind) (under_left hL (under_mem h1) he l2)
    have a2 := Rat.mul_nonneg (show 0 ≤ t by grind) (under_left hL (under_mem h2) he l2)
    grind
/-- along a side away from a kept corner there is a point of the cut -/
theorem cut_along {L F : List P2} {pr : P2} {b : Rat} (hF : CutOf L pr b F) {a c : P2} (he : (a, c) ∈ edL L ∨ (c, a) ∈ edL L) (h : 0 < hQ pr b a) : ∃ t, 0 < t ∧ lerp a c t ∈ F := by
  by_cases c0 : 0 ≤ hQ pr b c
  · refine ⟨1, by decide, ?_⟩
    have : lerp a c 1 = c := by unfold lerp; ext <;> grind
    rw [this]
    rcases he with he | he
    · exact hF.keep c (edL_mem he).2 c0
    · exact hF.keep c (edL_mem he).1 c0
  · have c1 : hQ pr b c < 0 := by grind
    have neg : hQ pr b a * hQ pr b c < 0 := by
      have := Rat.mul_pos h (show 0 < -hQ pr b c by grind)
      grind
    rcases he with he | he
    · refine ⟨_, (cr_pos neg).1, ?_⟩
      rw [← crP_lerp]
      exact hF.cross a c he neg
    · have neg2 : hQ pr b c * hQ pr b a < 0 := by rw [Rat.mul_comm]; exact neg
      refine ⟨1 - hQ pr b c / (hQ pr b c - hQ pr b a), by have := (cr_pos neg2).2; grind, ?_⟩
      have e : lerp a c (1 - hQ pr b c / (hQ pr b c - hQ pr b a)) = crP c a (hQ pr b c) (hQ pr b a) := by
        rw [crP_lerp]
        generalize hQ pr b c / (hQ pr b c - hQ pr b a) = t
        unfold lerp
        ext <;> grind
      rw [e]
      exact hF.cross c a he neg2
theorem edge_left {pts : List P2} {a b p : P2} (h : Edge pts a b) (hp : p ∈ pts) : 0 ≤ crs a b p := by
  rcases h.lf p hp with h | h
  · grind
  · rw [onto_crs h]; grind
theorem pos_nn {t x : Rat} (ht : 0 < t) (h : 0 ≤ t * x) : 0 ≤ x := nn_of_mul ht h
theorem lined_cut {P : Ln → Prop} {pts L M : List P2} {pr : P2} {b : Rat} {k : Ln} (hL : Fig pts L) (hl : Lined P L) (h : CutIs L pr b M) (hk : IsLn pr b k) (pk : P k) : Lined P M := by
  by_cases hM : M = []
  · subst hM
    exact ⟨fun c hc => absurd hc List.not_mem_nil, fun a b hm => absurd hm List.not_mem_nil⟩
  obtain ⟨F, hF, fM, _⟩ := h.fig hM
  have cut0 : ∀ {u v : P2}, hQ pr b u * hQ pr b v < 0 → hQ pr b u ≠ hQ pr b v := fun {u v} q z => by
    rcases mul_neg q with ⟨a, c⟩ | ⟨a, c⟩ <;> grind
  have side : ∀ {u v : P2}, (u, v) ∈ edL L → hQ pr b u * hQ pr b v < 0 → ∃ l, P l ∧ l.tr ∧ l.on u ∧ l.on v := fun {u v} hm q => hl.edg u v hm fun e => cut0 q (by rw [e])
  refine ⟨fun c hc => ?_, fun x y hm ne => ?_⟩
  · rcases hF.of c (fM.sub c hc) with ⟨h1, _⟩ | ⟨u, v, hm, q, rfl⟩
    · exact hl.cor c h1
    · obtain ⟨l, p, ht, o1, o2⟩ := side hm q
      refine ⟨l, k, p, pk, ?_, (on_isLn hk).mpr (crP_h (cut0 q)), cr_ne ht o1 o2 hk (cut0 q)⟩
      rw [crP_lerp]
      exact on_lerp o1 o2 _
  · obtain ⟨mx, my⟩ := edL_mem hm
    have m2 : 2 ≤ M.length := by
      match M, mx, my with
      | [], mx, _ => cases mx
      | [z], mx, my =>
        have e1 := List.mem_singleton.mp mx
        have e2 := List.mem_singleton.mp my
        exact absurd (e1.trans e2.symm) ne
      | _ :: _ :: _, _, _ => simp
    obtain ⟨_, _, ed⟩ := fig_edge fM.self hm m2
    have ed : Edge F x y := by
      refine ⟨ne, fun p hp => ?_⟩
      obtain ⟨a, t, e, _, _, hed⟩ := fM.ex
      subst e
      exact (hed (fun z => by subst z; simp at m2) x y (edL_nx.mp hm)).lf p hp
    have fx := fM.sub x mx
    have fy := fM.sub y my
    have lin : ∀ q ∈ F, hQ pr b q ≠ 0 → q ∈ L := fun q hq nz => by
      rcases hF.of q hq with ⟨h1, _⟩ | ⟨u, v, hm, w, rfl⟩
      · exact h1
      · exact absurd (crP_h (cut0 w)) nz
    have two : ∀ {q r : P2}, q ∈ L → r ∈ F → q ≠ r → 2 ≤ L.length := fun {q r} hq hr nq => by
      match L, hq, hF with
      | [], hq, _ => cases hq
      | [z], hq, hF =>
        have e1 := List.mem_singleton.mp hq
        rcases hF.of r hr with ⟨h1, _⟩ | ⟨u, v, hm, w, _⟩
        · exact absurd (e1.trans (List.mem_singleton.mp h1).symm) nq
        · obtain ⟨a, c⟩ := edL_mem hm
          have a := List.mem_singleton.mp a
          have c := List.mem_singleton.mp c
          exact absurd (show hQ pr b u = hQ pr b v by dsimp only at a c; rw [a, c]) (cut0 w)
      | _ :: _ :: _, _, _ => simp
    by_cases x0 : hQ pr b x = 0
    · by_cases y0 : hQ pr b y = 0
      · by_cases kt : k.tr
        · exact ⟨k, pk, kt, (on_isLn hk).mpr x0, (on_isLn hk).mpr y0⟩
        · -- the prices are nought: nothing is cut
          obtain ⟨s, s0, e1, e2, e3⟩ := hk
          unfold Ln.tr at kt
          have p1 : pr.1 = 0 := nz_mul s0 (by rw [e1]; by_cases q : k.A = 0 <;> grind)
          have p2 : pr.2 = 0 := nz_mul s0 (by rw [e2]; by_cases q : k.B = 0 <;> grind)
          have all0 : ∀ q, hQ pr b q = 0 := fun q => by
            have : hQ pr b q = hQ pr b x := by unfold hQ dot2; rw [p1, p2]; grind
            rw [this, x0]
          have same : M = L := by
            refine Fig.uniq (pts := F) fM ?_
            refine hL.self.same (fun c hc => hF.keep c hc (by rw [all0]; grind)) fun q hq => ?_
            rcases hF.of q hq with ⟨h1, _⟩ | ⟨u, v, hm, w, _⟩
            · exact h1
            · rw [all0] at w; grind
          subst same
          exact hl.edg x y hm ne
      · have yp : 0 < hQ pr b y := by have := hF.nn y fy; grind
        have yl := lin y fy y0
        have l2 := two yl fx (fun z => ne z.symm)
        obtain ⟨w, hw⟩ := (edL_next yl).2
        obtain ⟨t, t0, ht⟩ := cut_along hF (.inr hw) yp
        have a1 := edge_left ed ht
        have a2 : crs x y (lerp y w t) = t * crs x y w := by unfold crs lerp; grind
        rw [a2] at a1
        have a3 := pos_nn t0 a1
        have a4 := cut_left hL hF l2 hw fx
        obtain ⟨_, _, ew⟩ := fig_edge hL hw l2
        obtain ⟨l, p, tr, o1, o2⟩ := hl.edg w y hw ew.ne
        have z : crs w y x = 0 := by unfold crs at *; grind
        exact ⟨l, p, tr, on_of_crs o1 o2 ew.ne z, o2⟩
    · have xp : 0 < hQ pr b x := by have := hF.nn x fx; grind
      have xl := lin x fx x0
      have l2 := two xl fy ne
      obtain ⟨w, hw⟩ := (edL_next xl).1
      obtain ⟨t, t0, ht⟩ := cut_along hF (.inl hw) xp
      have a1 := edge_left ed ht
      have a2 : crs x y (lerp x w t) = t * crs x y w := by unfold crs lerp; grind
      rw [a2] at a1
      have a3 := pos_nn t0 a1
      have a4 := cut_left hL hF l2 hw fy
      obtain ⟨_, _, ew⟩ := fig_edge hL hw l2
      obtain ⟨l, p, tr, o1, o2⟩ := hl.edg x w hw ew.ne
      have z : crs x w y = 0 := by unfold crs at *; grind
      exact ⟨l, p, tr, o1, on_of_crs o1 o2 ew.ne z⟩
/-! ### how many corners a cut has -/
theorem three_line {L : List P2} {pts : List P2} (hL : Fig pts L) {p q r : P2} (hp : p ∈ L) (hq : q ∈ L) (hr : r ∈ L) {t : Rat} (t0 : 0 < t) (t1 : t < 1) (e : q = lerp p r t) (hne : p ≠ q) : False := by
  obtain ⟨i, hi, ei⟩ := List.getElem_of_mem hq
  have ei2 : L[i]? = some q := by rw [List.getElem?_eq_getElem hi, ei]
  obtain ⟨s1, s2⟩ := spr_strict hL ei2
  generalize sprP L i = pr at s1 s2
  have a := ht_ge (pr := pr) hp
  have b := ht_ge (pr := pr) hr
  have d : dot2 pr q = (1 - t) * dot2 pr p + t * dot2 pr r := by rw [e]; unfold dot2 lerp; grind
  have x1 := Rat.mul_nonneg (show 0 ≤ 1 - t by grind) (show 0 ≤ htQ pr L - dot2 pr p by grind)
  have x2 := Rat.mul_nonneg (show 0 ≤ t by grind) (show 0 ≤ htQ pr L - dot2 pr r by grind)
  have z : (1 - t) * (htQ pr L - dot2 pr p) = 0 := by grind
  have := nz_mul (show 1 - t ≠ 0 by grind) z
  exact hne (s2 p (under_mem hp) (by grind))
theorem mid_of {x y z : Rat} (h1 : x < y) (h2 : y < z) : 0 < (y - x) / (z - x) ∧ (y - x) / (z - x) < 1 ∧ (z - x) * ((y - x) / (z - x)) = y - x := by
  have := cr_pos (f := y - x) (s := -(z - y)) (by
    have := Rat.mul_pos (show 0 < y - x by grind) (show 0 < z - y by grind)
    grind)
  rw [show y - x - -(z - y) = z - x by grind] at this
  exact ⟨this.1, this.2, by have : z - x ≠ 0 := by grind
                            grind⟩
theorem solve0 {a c x y : Rat} (n0 : a * a + c * c ≠ 0) (u : a * x + c * y = 0) (v : c * x - a * y = 0) : x = 0 ∧ y = 0 := by
  refine ⟨nz_mul n0 ?_, nz_mul n0 ?_⟩
  · have : (a * a + c * c) * x = a * (a * x + c * y) + c * (c * x - a * y) := by grind
    rw [this, u, v]; grind
  · have : (a * a + c * c) * y = c * (a * x + c * y) - a * (c * x - a * y) := by grind
    rw [this, u, v]; grind
theorem nz_sq {pr : P2} (hpr : pr.1 ≠ 0 ∨ pr.2 ≠ 0) : pr.1 * pr.1 + pr.2 * pr.2 ≠ 0 := by
  have a := sq_nn pr.1
  have c := sq_nn pr.2
  intro z
  rcases hpr with h | h
  · exact h (nz_mul h (show pr.1 * pr.1 = 0 by grind))
  · exact h (nz_mul h (show pr.2 * pr.2 = 0 by grind))
/-- no three corners on one line -/
theorem line_mid {pr p q r : P2} {b : Rat} (hpr : pr.1 ≠ 0 ∨ pr.2 ≠ 0) (h1 : hQ pr b p = 0) (h2 : hQ pr b q = 0) (h3 : hQ pr b r = 0) (l1 : dot2 (rt90 pr) p < dot2 (rt90 pr) q) (l2 : dot2 (rt90 pr) q < dot2 (rt90 pr) r) : ∃ t, 0 < t ∧ t < 1 ∧ q = lerp p r t := by
  obtain ⟨t0, t1, te⟩ := mid_of l1 l2
  generalize (dot2 (rt90 pr) q - dot2 (rt90 pr) p) / (dot2 (rt90 pr) r - dot2 (rt90 pr) p) = t at *
  refine ⟨t, t0, t1, ?_⟩
  have n0 := nz_sq hpr
  unfold hQ dot2 at h1 h2 h3
  unfold dot2 rt90 at te
  dsimp only at te
  have u : pr.1 * (q.1 - (lerp p r t).1) + pr.2 * (q.2 - (lerp p r t).2) = 0 := by unfold lerp; dsimp only; grind
  have v : pr.2 * (q.1 - (lerp p r t).1) - pr.1 * (q.2 - (lerp p r t).2) = 0 := by unfold lerp; dsimp only; grind
  obtain ⟨x0, y0⟩ := solve0 n0 u v
  ext
  · grind
  · grind
theorem line_ne {pr p q : P2} {b : Rat} (hpr : pr.1 ≠ 0 ∨ pr.2 ≠ 0) (h1 : hQ pr b p = 0) (h2 : hQ pr b q = 0) (h : p ≠ q) : dot2 (rt90 pr) p ≠ dot2 (rt90 pr) q := fun z => by
  unfold hQ dot2 at h1 h2
  unfold dot2 rt90 at z
  dsimp only at z
  have u : pr.1 * (p.1 - q.1) + pr.2 * (p.2 - q.2) = 0 := by grind
  have v : pr.2 * (p.1 - q.1) - pr.1 * (p.2 - q.2) = 0 := by grind
  obtain ⟨x0, y0⟩ := solve0 (nz_sq hpr) u v
  exact h (by ext <;> grind)
theorem ord3 {x y z : Rat} (h1 : x ≠ y) (h2 : y ≠ z) (h3 : x ≠ z) : (x < y ∧ y < z) ∨ (z < y ∧ y < x) ∨ (y < x ∧ x < z) ∨ (z < x ∧ x < y) ∨ (x < z ∧ z < y) ∨ (y < z ∧ z < x) := by grind
theorem no_three {pts L : List P2} (hL : Fig pts L) {pr : P2} {b : Rat} (hpr : pr.1 ≠ 0 ∨ pr.2 ≠ 0) {p q r : P2} (hp : p ∈ L) (hq : q ∈ L) (hr : r ∈ L) (h1 : hQ pr b p = 0) (h2 : hQ pr b q = 0) (h3 : hQ pr b r = 0) (n1 : p ≠ q) (n2 : q ≠ r) (n3 : p ≠ r) : False := by
  rcases ord3 (line_ne hpr h1 h2 n1) (line_ne hpr h2 h3 n2) (line_ne hpr h1 h3 n3) with ⟨a, c⟩ | ⟨a, c⟩ | ⟨a, c⟩ | ⟨a, c⟩ | ⟨a, c⟩ | ⟨a, c⟩
  · obtain ⟨t, t0, t1, e⟩ := line_mid hpr h1 h2 h3 a c
    exact three_line hL hp hq hr t0 t1 e n1
  · obtain ⟨t, t0, t1, e⟩ := line_mid hpr h3 h2 h1 a c
    exact three_line hL hr hq hp t0 t1 e n2.symm
  · obtain ⟨t, t0, t1, e⟩ := line_mid hpr h2 h1 h3 a c
    exact three_line hL hq hp hr t0 t1 e n1.symm
  · obtain ⟨t, t0, t1, e⟩ := line_mid hpr h3 h1 h2 a c
    exact three_line hL hr hp hq t0 t1 e n3.symm
  · obtain ⟨t, t0, t1, e⟩ := line_mid hpr h1 h3 h2 a c
    exact three_line hL hp hr hq t0 t1 e n3
  · obtain ⟨t, t0, t1, e⟩ := line_mid hpr h2 h3 h1 a c
    exact three_line hL hq hr hp t0 t1 e n2
theorem few_two {L : List P2} (hnd : L.Nodup) (h : ∀ p ∈ L, ∀ q ∈ L, ∀ r ∈ L, p ≠ q → q ≠ r → p ≠ r → False) : L.length ≤ 2 := by
  match L, hnd with
  | [], _ => simp
  | [_], _ => simp
  | [_, _], _ => simp
  | a :: b :: c :: r, hnd =>
    rw [List.nodup_cons, List.nodup_cons] at hnd
    exact absurd (h a (by simp) b (by simp) c (by simp) (fun e => hnd.1 (by simp [e])) (fun e => hnd.2.1 (by simp [e])) (fun e => hnd.1 (by simp [e]))) id
theorem on_two {pts L : List P2} (hL : Fig pts L) {pr : P2} {b : Rat} (hpr : pr.1 ≠ 0 ∨ pr.2 ≠ 0) (h : ∀ c ∈ L, hQ pr b c = 0) : L.length ≤ 2 :=
  few_two hL.nodup fun p hp q hq r hr n1 n2 n3 => no_three hL hpr hp hq hr (h p hp) (h q hq) (h r hr) n1 n2 n3
theorem len_filter {α : Type} (f : α → Bool) : ∀ l : List α, l.length = (l.filter f).length + (l.filter fun x => !f x).length
  | [] => rfl
  | x :: l => by
    have := len_filter f l
    rw [List.filter_cons, List.filter_cons]
    cases f x <;> simp <;> omega
theorem cut_count {pts L M : List P2} {pr : P2} {b : Rat} (hL : Fig pts L) (h : CutIs L pr b M) : M.length ≤ L.length + 2 := by
  by_cases hM : M = []
  · subst hM; simp
  obtain ⟨F, hF, fM, _⟩ := h.fig hM
  by_cases hpr : pr.1 ≠ 0 ∨ pr.2 ≠ 0
  · rw [len_filter (fun c => decide (hQ pr b c = 0)) M]
    have a : (M.filter fun c => decide (hQ pr b c = 0)).length ≤ 2 := few_two (fM.nodup.filter _) fun p hp q hq r hr n1 n2 n3 => by
      rw [List.mem_filter] at hp hq hr
      exact no_three fM hpr hp.1 hq.1 hr.1 (of_decide_eq_true hp.2) (of_decide_eq_true hq.2) (of_decide_eq_true hr.2) n1 n2 n3
    have c : (M.filter fun c => !decide (hQ pr b c = 0)).length ≤ L.length := nd_len (fM.nodup.filter _) fun x hx => by
      rw [List.mem_filter] at hx
      rcases hF.of x (fM.sub x hx.1) with ⟨h1, _⟩ | ⟨u, v, hm, w, rfl⟩
      · exact h1
      · have z := crP_h (pr := pr) (u := u) (v := v) (b := b) (fun z => by rcases mul_neg w with ⟨a, c⟩ | ⟨a, c⟩ <;> grind)
        rw [decide_eq_true z] at hx
        cases hx.2
    omega
  · have c : M.length ≤ L.length := nd_len fM.nodup fun x hx => by
      rcases hF.of x (fM.sub x hx) with ⟨h1, _⟩ | ⟨u, v, hm, w, rfl⟩
      · exact h1
      · have e : hQ pr b u = hQ pr b v := by unfold hQ dot2; grind
        rw [e] at w
        have := sq_nn (hQ pr b v)
        grind
    omega
/-! ### sizes: lines of whole numbers -/
def IntQ (e : Nat) (q : Rat) : Prop := ∃ z : Int, q = z ∧ bl z.natAbs ≤ e
theorem IntQ.le {e e' : Nat} {q : Rat} (h : IntQ e q) (l : e ≤ e') : IntQ e' q := by
  obtain ⟨z, a, b⟩ := h
  exact ⟨z, a, Nat.le_trans b l⟩
theorem IntQ.mul {e f : Nat} {p q : Rat} (h1 : IntQ e p) (h2 : IntQ f q) : IntQ (e + f) (p * q) := by
  obtain ⟨y, rfl, b1⟩ := h1
  obtain ⟨z, rfl, b2⟩ := h2
  exact ⟨y * z, by rw [Rat.intCast_mul], Nat.le_trans (bl_imul y z) (by omega)⟩
theorem IntQ.sub {e : Nat} {p q : Rat} (h1 : IntQ e p) (h2 : IntQ e q) : IntQ (e + 1) (p - q) := by
  obtain ⟨y, rfl, b1⟩ := h1
  obtain ⟨z, rfl, b2⟩ := h2
  exact ⟨y - z, by rw [Rat.intCast_sub], Nat.le_trans (bl_isub y z) (by omega)⟩
theorem IntQ.add {e : Nat} {p q : Rat} (h1 : IntQ e p) (h2 : IntQ e q) : IntQ (e + 1) (p + q) := by
  obtain ⟨y, rfl, b1⟩ := h1
  obtain ⟨z, rfl, b2⟩ := h2
  exact ⟨y + z, by rw [Rat.intCast_add], Nat.le_trans (bl_iadd y z) (by omega)⟩
theorem IntQ.neg {e : Nat} {p : Rat} (h1 : IntQ e p) : IntQ e (-p) := by
  obtain ⟨y, rfl, b1⟩ := h1
  exact ⟨-y, by rw [Rat.intCast_neg], by rw [Int.natAbs_neg]; exact b1⟩
def dn (q : Rat) : Rat := ((q.den : Int) : Rat)
theorem dn_int {c : Nat} {q : Rat} (h : wt q ≤ c) : IntQ c (dn q) := ⟨q.den, rfl, Nat.le_trans (wt_den' q) h⟩
theorem dn_ne (q : Rat) : dn q ≠ 0 := fun h => by
  have := den_ne q
  unfold dn at h
  exact this (by exact_mod_cast h)
theorem dn_num {c : Nat} {q : Rat} (h : wt q ≤ c) : IntQ c (q * dn q) := ⟨q.num, by
  unfold dn
  have e : q = (q.num : Rat) / ((q.den : Int) : Rat) := by rw [← Rat.divInt_eq_div]; exact (Rat.num_divInt_den q).symm
  have n0 : ((q.den : Int) : Rat) ≠ 0 := dn_ne q
  generalize ((q.den : Int) : Rat) = d at *
  rw [e]; grind, Nat.le_trans (wt_num q) h⟩
def LnI (e : Nat) (l : Ln) : Prop := IntQ e l.A ∧ IntQ e l.B ∧ IntQ e l.C
theorem LnI.le {e e' : Nat} {l : Ln} (h : LnI e l) (w : e ≤ e') : LnI e' l := ⟨h.1.le w, h.2.1.le w, h.2.2.le w⟩
theorem wt_quot {e : Nat} {n d x : Rat} (hn : IntQ e n) (hd : IntQ e d) (d0 : d ≠ 0) (h : d * x = n) : wt x ≤ e := by
  obtain ⟨y, rfl, b1⟩ := hn
  obtain ⟨z, rfl, b2⟩ := hd
  have z0 : z ≠ 0 := fun e => d0 (by rw [e]; rfl)
  have ex : x = Rat.divInt y z := by
    rw [Rat.divInt_eq_div]
    grind
  rw [ex]
  exact Nat.le_trans (divInt_wt y z z0) (by omega)
theorem cross_small {e : Nat} {l m : Ln} {c : P2} (hl : LnI e l) (hm : LnI e m) (o1 : l.on c) (o2 : m.on c) (h : l.cr m ≠ 0) : smallP (2 * e + 1) c := by
  obtain ⟨a1, b1, c1⟩ := hl
  obtain ⟨a2, b2, c2⟩ := hm
  have hd : IntQ (2 * e + 1) (l.cr m) := ((a1.mul b2).sub ((b1.mul a2).le (Nat.le_refl _))).le (by omega)
  unfold Ln.on at o1 o2
  refine ⟨wt_quot (n := l.C * m.B - l.B * m.C) (((c1.mul b2).sub (b1.mul c2)).le (by omega)) hd h ?_, wt_quot (n := l.A * m.C - l.C * m.A) (((a1.mul c2).sub (c1.mul a2)).le (by omega)) hd h ?_⟩
  · unfold Ln.cr; grind
  · unfold Ln.cr; grind
def lnS (s : Rat) (pr : P2) (b : Rat) : Ln := ⟨s * pr.1, s * pr.2, s * b⟩
theorem lnS_is {s : Rat} (pr : P2) (b : Rat) (h : s ≠ 0) : IsLn pr b (lnS s pr b) := ⟨s, h, rfl, rfl, rfl⟩
theorem IsLn.neg {pr : P2} {b : Rat} {l : Ln} (h : IsLn pr b l) : IsLn (sc pr (-1)) (b * -1) l := by
  obtain ⟨s, s0, e1, e2, e3⟩ := h
  refine ⟨-s, by grind, ?_, ?_, ?_⟩
  · unfold sc; rw [← e1]; grind
  · unfold sc; rw [← e2]; grind
  · rw [← e3]; grind
/-- the line of any prices -/
theorem ln_any {d w : Nat} {pr : P2} {b : Rat} (h1 : smallP d pr) (h2 : wt b ≤ w) : ∃ l, IsLn pr b l ∧ LnI (2 * d + w) l := by
  have n1 := dn_ne pr.1
  have n2 := dn_ne pr.2
  have n3 := dn_ne b
  refine ⟨lnS (dn pr.1 * dn pr.2 * dn b) pr b, lnS_is pr b (by
    intro z
    exact n3 (nz_mul (fun q => n2 (nz_mul n1 q)) z)), ?_, ?_, ?_⟩
  · have : (lnS (dn pr.1 * dn pr.2 * dn b) pr b).A = pr.1 * dn pr.1 * (dn pr.2 * dn b) := by unfold lnS; grind
    rw [this]
    exact ((dn_num h1.1).mul ((dn_int h1.2).mul (dn_int h2))).le (by omega)
  · have : (lnS (dn pr.1 * dn pr.2 * dn b) pr b).B = pr.2 * dn pr.2 * (dn pr.1 * dn b) := by unfold lnS; grind
    rw [this]
    exact ((dn_num h1.2).mul ((dn_int h1.1).mul (dn_int h2))).le (by omega)
  · have : (lnS (dn pr.1 * dn pr.2 * dn b) pr b).C = b * dn b * (dn pr.1 * dn pr.2) := by unfold lnS; grind
    rw [this]
    exact ((dn_num h2).mul ((dn_int h1.1).mul (dn_int h1.2))).le (by omega)
/-- the line through two points -/
theorem ln_two {c : Nat} {a b : P2} (ha : smallP c a) (hb : smallP c b) : ∃ l, IsLn (rt90 (sb b a)) (dot2 (rt90 (sb b a)) a) l ∧ LnI (4 * c + 1) l := by
  have n1 := dn_ne a.1
  have n2 := dn_ne a.2
  have n3 := dn_ne b.1
  have n4 := dn_ne b.2
  have s0 : dn a.1 * dn a.2 * (dn b.1 * dn b.2) ≠ 0 := fun z => n4 (nz_mul n3 (nz_mul (fun q => n2 (nz_mul n1 q)) z))
  refine ⟨lnS (dn a.1 * dn a.2 * (dn b.1 * dn b.2)) (rt90 (sb b a)) (dot2 (rt90 (sb b a)) a), lnS_is _ _ s0, ?_, ?_, ?_⟩
  · have : (lnS (dn a.1 * dn a.2 * (dn b.1 * dn b.2)) (rt90 (sb b a)) (dot2 (rt90 (sb b a)) a)).A = (b.2 * dn b.2 * dn a.2 - a.2 * dn a.2 * dn b.2) * (dn a.1 * dn b.1) := by unfold lnS rt90 sb; grind
    rw [this]
    exact ((((dn_num hb.2).mul (dn_int ha.2)).sub ((dn_num ha.2).mul (dn_int hb.2))).mul ((dn_int ha.1).mul (dn_int hb.1))).le (by omega)
  · have : (lnS (dn a.1 * dn a.2 * (dn b.1 * dn b.2)) (rt90 (sb b a)) (dot2 (rt90 (sb b a)) a)).B = (a.1 * dn a.1 * dn b.1 - b.1 * dn b.1 * dn a.1) * (dn a.2 * dn b.2) := by unfold lnS rt90 sb; grind
    rw [this]
    exact ((((dn_num ha.1).mul (dn_int hb.1)).sub ((dn_num hb.1).mul (dn_int ha.1))).mul ((dn_int ha.2).mul (dn_int hb.2))).le (by omega)
  · have : (lnS (dn a.1 * dn a.2 * (dn b.1 * dn b.2)) (rt90 (sb b a)) (dot2 (rt90 (sb b a)) a)).C = (a.1 * dn a.1) * (b.2 * dn b.2) * (dn a.2 * dn b.1) - (a.2 * dn a.2) * (b.1 * dn b.1) * (dn a.1 * dn b.2) := by unfold lnS rt90 sb dot2; grind
    rw [this]
    exact ((((dn_num ha.1).mul (dn_num hb.2)).mul ((dn_int ha.2).mul (dn_int hb.1))).sub ((((dn_num ha.2).mul (dn_num hb.1)).mul ((dn_int ha.1).mul (dn_int hb.2))).le (Nat.le_refl _))).le (by omega)
/-- the line across, through a point -/
theorem ln_across {c : Nat} {a b p : P2} (ha : smallP c a) (hb : smallP c b) (hp : p = a ∨ p = b) : ∃ l, IsLn (sb b a) (dot2 (sb b a) p) l ∧ LnI (6 * c + 2) l := by
  have n1 := dn_ne a.1
  have n2 := dn_ne a.2
  have n3 := dn_ne b.1
  have n4 := dn_ne b.2
  have sp : smallP c p := by rcases hp with rfl | rfl <;> assumption
  have n5 := dn_ne p.1
  have n6 := dn_ne p.2
  have s0 : dn a.1 * dn a.2 * (dn b.1 * dn b.2) * (dn p.1 * dn p.2) ≠ 0 := fun z => n6 (nz_mul n5 (nz_mul (fun q => n4 (nz_mul n3 (nz_mul (fun q => n2 (nz_mul n1 q)) q))) z))
  have A : IntQ (4 * c + 1) ((b.1 * dn b.1 * dn a.1 - a.1 * dn a.1 * dn b.1) * (dn a.2 * dn b.2)) := ((((dn_num hb.1).mul (dn_int ha.1)).sub ((dn_num ha.1).mul (dn_int hb.1))).mul ((dn_int ha.2).mul (dn_int hb.2))).le (by omega)
  have B : IntQ (4 * c + 1) ((b.2 * dn b.2 * dn a.2 - a.2 * dn a.2 * dn b.2) * (dn a.1 * dn b.1)) := ((((dn_num hb.2).mul (dn_int ha.2)).sub ((dn_num ha.2).mul (dn_int hb.2))).mul ((dn_int ha.1).mul (dn_int hb.1))).le (by omega)
  refine ⟨lnS (dn a.1 * dn a.2 * (dn b.1 * dn b.2) * (dn p.1 * dn p.2)) (sb b a) (dot2 (sb b a) p), lnS_is _ _ s0, ?_, ?_, ?_⟩
  · have : (lnS (dn a.1 * dn a.2 * (dn b.1 * dn b.2) * (dn p.1 * dn p.2)) (sb b a) (dot2 (sb b a) p)).A = (b.1 * dn b.1 * dn a.1 - a.1 * dn a.1 * dn b.1) * (dn a.2 * dn b.2) * (dn p.1 * dn p.2) := by unfold lnS sb; grind
    rw [this]
    exact (A.mul ((dn_int sp.1).mul (dn_int sp.2))).le (by omega)
  · have : (lnS (dn a.1 * dn a.2 * (dn b.1 * dn b.2) * (dn p.1 * dn p.2)) (sb b a) (dot2 (sb b a) p)).B = (b.2 * dn b.2 * dn a.2 - a.2 * dn a.2 * dn b.2) * (dn a.1 * dn b.1) * (dn p.1 * dn p.2) := by unfold lnS sb; grind
    rw [this]
    exact (B.mul ((dn_int sp.1).mul (dn_int sp.2))).le (by omega)
  · have : (lnS (dn a.1 * dn a.2 * (dn b.1 * dn b.2) * (dn p.1 * dn p.2)) (sb b a) (dot2 (sb b a) p)).C = (b.1 * dn b.1 * dn a.1 - a.1 * dn a.1 * dn b.1) * (dn a.2 * dn b.2) * ((p.1 * dn p.1) * dn p.2) + (b.2 * dn b.2 * dn a.2 - a.2 * dn a.2 * dn b.2) * (dn a.1 * dn b.1) * ((p.2 * dn p.2) * dn p.1) := by unfold lnS sb dot2; grind
    rw [this]
    exact ((A.mul ((dn_num sp.1).mul (dn_int sp.2))).add (B.mul ((dn_num sp.2).mul (dn_int sp.1)))).le (by omega)
/-! ### figures cut again and again -/
structure Grid (e n : Nat) (L : List P2) : Prop where
  fig : Fig L L
  lin : Lined (LnI e) L
  len : L.length ≤ n
theorem Grid.sm {e n : Nat} {L : List P2} (h : Grid e n L) : ∀ c ∈ L, smallP (2 * e + 1) c := fun c hc => by
  obtain ⟨l, m, p, q, o1, o2, x⟩ := h.lin.cor c hc
  exact cross_small p q o1 o2 x
theorem Grid.le {e n e' n' : Nat} {L : List P2} (h : Grid e n L) (h1 : e ≤ e') (h2 : n ≤ n') : Grid e' n' L := ⟨h.fig, h.lin.mono fun l p => p.le h1, Nat.le_trans h.len h2⟩
theorem Grid.ne {e n : Nat} {L : List P2} (h : Grid e n L) : L ≠ [] := h.fig.ne
/-- any figure of small corners -/
theorem Grid.of {pts L : List P2} {c n : Nat} (h : Fig pts L) (sm : ∀ x ∈ L, smallP c x) (hn : L.length ≤ n) : Grid (4 * c + 1) n L := by
  refine ⟨h.self, ⟨fun x hx => ?_, fun a b hm ne => ?_⟩, hn⟩
  · obtain ⟨s1, s2⟩ := sm x hx
    have c1 : 1 ≤ c := Nat.le_trans (show 1 ≤ wt x.1 by unfold wt bl; have := x.1.den_pos; exact Nat.le_trans (by show 1 ≤ _; exact Nat.le_trans (Nat.succ_le_of_lt (by rw [if_neg (by omega)]; exact Nat.succ_pos _)) (Nat.le_refl _)) (Nat.le_max_right _ _)) s1
    have z : IntQ (4 * c + 1) 0 := ⟨0, rfl, Nat.zero_le _⟩
    refine ⟨⟨dn x.1, 0, x.1 * dn x.1⟩, ⟨0, dn x.2, x.2 * dn x.2⟩, ⟨(dn_int s1).le (by omega), z, (dn_num s1).le (by omega)⟩, ⟨z, (dn_int s2).le (by omega), (dn_num s2).le (by omega)⟩, ?_, ?_, ?_⟩
    · unfold Ln.on; grind
    · unfold Ln.on; grind
    · have := dn_ne x.1
      have := dn_ne x.2
      unfold Ln.cr
      intro q
      exact dn_ne x.2 (nz_mul (dn_ne x.1) (by grind))
  · obtain ⟨ma, mb⟩ := edL_mem hm
    obtain ⟨l, il, pl⟩ := ln_two (sm a ma) (sm b mb)
    refine ⟨l, pl, ?_, (on_isLn il).mpr ?_, (on_isLn il).mpr ?_⟩
    · obtain ⟨s, s0, e1, e2, _⟩ := il
      unfold Ln.tr
      by_cases q : l.A = 0
      · refine .inr fun q2 => ne ?_
        have x1 : (rt90 (sb b a)).1 = 0 := nz_mul s0 (by rw [e1]; exact q)
        have x2 : (rt90 (sb b a)).2 = 0 := nz_mul s0 (by rw [e2]; exact q2)
        unfold rt90 sb at x1 x2
        ext <;> grind
      · exact .inl q
    · unfold hQ; grind
    · unfold hQ dot2 rt90 sb; grind
theorem Grid.cut {e n : Nat} {L M : List P2} {pr : P2} {b : Rat} {k : Ln} (h : Grid e n L) (hk : IsLn pr b k) (pk : LnI e k) (hM : CutIs L pr b M) (h0 : M ≠ []) : Grid e (n + 2) M := by
  obtain ⟨F, hF, fM, _⟩ := hM.fig h0
  exact ⟨fM.self, lined_cut h.fig h.lin hM hk pk, Nat.le_trans (cut_count h.fig hM) (by have := h.len; omega)⟩
theorem pw_le {w : Nat} : ∀ {F : List P2}, (∀ c ∈ F, smallP w c) → pw F ≤ F.length * (2 * w + 1)
  | [], _ => Nat.zero_le _
  | c :: F, h => by
    have a := pw_le (F := F) fun x hx => h x (List.mem_cons_of_mem _ hx)
    have b := h c (by simp)
    have e : pw (c :: F) = wt c.1 + wt c.2 + 1 + pw F := by unfold pw; rfl
    rw [e, List.length_cons, Nat.succ_mul]
    have := b.1
    have := b.2
    omega
theorem Grid.pts {e n : Nat} {L F : List P2} {pr : P2} {b : Rat} {k : Ln} (h : Grid e n L) (hk : IsLn pr b k) (pk : LnI e k) (hF : CutOf L pr b F) : ∀ c ∈ F, smallP (2 * e + 1) c := fun c hc => by
  rcases hF.of c hc with ⟨h1, _⟩ | ⟨u, v, hm, q, rfl⟩
  · exact h.sm c h1
  · have ne : hQ pr b u ≠ hQ pr b v := fun z => by rcases mul_neg q with ⟨a, c⟩ | ⟨a, c⟩ <;> grind
    obtain ⟨l, p, ht, o1, o2⟩ := h.lin.edg u v hm fun e => ne (by rw [e])
    refine cross_small p pk ?_ ((on_isLn hk).mpr (crP_h ne)) (cr_ne ht o1 o2 hk ne)
    rw [crP_lerp]
    exact on_lerp o1 o2 _
theorem sp_cut.mkG {L : List P2} {pr : P2} {b : Rat} {k : Ln} {R : RR} (e n d w : Nat) (g : Grid e n L) (hk : IsLn pr b k) (pk : LnI e k) (h3 : smallP d pr) (h4 : wt b ≤ w) (h5 : cutB (2 * e + 1) d w ≤ 900000) (h6 : 2 * n * (2 * (2 * e + 1) + 1) ≤ 1000000) (hn : n ≤ 10000)
    (h : ∀ M, CutIs L pr b M → (M ≠ [] → Grid e (n + 2) M) → R (.lst (M.map dpt)) 1 []) : sp_cut [.lst (L.map dpt), dpt pr, dq b] R :=
  sp_cut.mk' (2 * e + 1) d w g.ne (Nat.le_trans g.len hn) g.sm h3 h4 h5 (fun F hF lF => by
    refine Nat.le_trans (pw_le (g.pts hk pk hF)) (Nat.le_trans (Nat.mul_le_mul_right _ ?_) h6)
    have := g.len
    omega) fun M hM => h M hM fun h0 => g.cut hk pk hM h0
/-! ### what lies in figures cut again and again -/
theorem Fig.eq_under {M N : List P2} (hM : Fig M M) (hN : Fig N N) (h1 : ∀ c ∈ M, Under N c) (h2 : ∀ c ∈ N, Under M c) : M = N := by
  have e : ∀ pr, htQ pr M = htQ pr N := fun pr => Rat.le_antisymm (ht_le hM.ne fun c hc => h1 c hc pr) (ht_le hN.ne fun c hc => h2 c hc pr)
  have corner : ∀ {A B : List P2} (_ : Fig A A) (_ : B ≠ []) (_ : ∀ pr, htQ pr B = htQ pr A), ∀ c ∈ A, c ∈ B := fun {A B} hA hB he c hc => by
    obtain ⟨i, hi, ei⟩ := List.getElem_of_mem hc
    have hS := spr_strict hA (i := i) (c := c) (by rw [List.getElem?_eq_getElem hi, ei])
    obtain ⟨d, hd, ed⟩ := ht_at (pr := sprP A i) hB
    have := hS.2 d (fun pr => by rw [← he]; exact ht_ge hd) (by rw [← ed, he])
    rw [← this]; exact hd
  exact hM.uniq (hN.same (corner hN hM.ne e) (corner hM hN.ne fun pr => (e pr).symm))
theorem cutof_under {L F : List P2} {pr : P2} {b : Rat} (hF : CutOf L pr b F) {q : P2} (hq : q ∈ F) : Under L q := by
  rcases hF.of q hq with ⟨h, _⟩ | ⟨u, v, hm, k, rfl⟩
  · exact under_mem h
  · obtain ⟨h1, h2⟩ := edL_mem hm
    obtain ⟨t0, t1⟩ := cr_pos k
    intro p2
    rw [crP_lerp]
    generalize hQ pr b u / (hQ pr b u - hQ pr b v) = t at t0 t1 ⊢
    have a := under_mem h1 p2
    have c := under_mem h2 p2
    have e : dot2 p2 (lerp u v t) = (1 - t) * dot2 p2 u + t * dot2 p2 v := by unfold dot2 lerp; grind
    rw [e]
    have x1 := Rat.mul_nonneg (show 0 ≤ 1 - t by grind) (show 0 ≤ htQ p2 L - dot2 p2 u by grind)
    have x2 := Rat.mul_nonneg (show 0 ≤ t by grind) (show 0 ≤ htQ p2 L - dot2 p2 v by grind)
    grind
theorem CutIs.in {L M : List P2} {pr : P2} {b : Rat} (hL : Fig L L) (h : CutIs L pr b M) (p : P2) : (M ≠ [] ∧ Under M p) ↔ (Under L p ∧ 0 ≤ hQ pr b p) := by
  constructor
  · rintro ⟨h0, hu⟩
    obtain ⟨F, hF, fM, _⟩ := h.fig h0
    refine ⟨fun p2 => Rat.le_trans (hu p2) (ht_le h0 fun c hc => cutof_under hF (fM.sub c hc) p2), ?_⟩
    have a := hu (-pr.1, -pr.2)
    obtain ⟨x, hx, ex⟩ := ht_at (pr := (-pr.1, -pr.2)) h0
    rw [ex] at a
    have := hF.nn x (fM.sub x hx)
    unfold hQ dot2 at *
    grind
  · rintro ⟨hu, h0⟩
    by_cases hM : M = []
    · subst hM
      exact absurd h0 (h.no hL hu)
    · refine ⟨hM, ?_⟩
      obtain ⟨F, hF, fM, _⟩ := h.fig hM
      exact has_under fM (by rw [h.has hL hu hM]; exact decide_eq_true h0)
inductive Cuts : List P2 → List (P2 × Rat) → List P2 → Prop
  | nil (L : List P2) : Cuts L [] L
  | none (cs : List (P2 × Rat)) : Cuts [] cs []
  | cut {L M N : List P2} {pr : P2} {b : Rat} {cs : List (P2 × Rat)} : L ≠ [] → CutIs L pr b M → Cuts M cs N → Cuts L ((pr, b) :: cs) N
theorem CutIs.self {L M : List P2} {pr : P2} {b : Rat} (h : CutIs L pr b M) (h0 : M ≠ []) : Fig M M := by
  obtain ⟨F, _, fM, _⟩ := h.fig h0
  exact fM.self
theorem Cuts.in {L N : List P2} {cs : List (P2 × Rat)} (h : Cuts L cs N) : (L ≠ [] → Fig L L) → (N ≠ [] → Fig N N) ∧ ∀ p, (N ≠ [] ∧ Under N p) ↔ (L ≠ [] ∧ Under L p ∧ ∀ c ∈ cs, 0 ≤ hQ c.1 c.2 p) := by
  induction h with
  | nil L => exact fun hL => ⟨hL, fun p => ⟨fun ⟨a, b⟩ => ⟨a, b, fun c hc => absurd hc List.not_mem_nil⟩, fun ⟨a, b, _⟩ => ⟨a, b⟩⟩⟩
  | none cs => exact fun hL => ⟨hL, fun p => ⟨fun ⟨a, _⟩ => absurd rfl a, fun ⟨a, _⟩ => absurd rfl a⟩⟩
  | cut h0 hc _ ih =>
    intro hL
    obtain ⟨i1, i2⟩ := ih fun hM => hc.self hM
    refine ⟨i1, fun p => ?_⟩
    rw [i2 p]
    have := hc.in (hL h0) p
    constructor
    · rintro ⟨a, b, c⟩
      obtain ⟨x, y⟩ := this.mp ⟨a, b⟩
      exact ⟨h0, x, fun e he => by
        rcases List.mem_cons.mp he with rfl | he
        · exact y
        · exact c e he⟩
    · rintro ⟨_, x, c⟩
      obtain ⟨a, b⟩ := this.mpr ⟨x, c _ List.mem_cons_self⟩
      exact ⟨a, b, fun e he => c e (List.mem_cons_of_mem _ he)⟩
theorem Cuts.snoc {L M : List P2} {cs : List (P2 × Rat)} (h : Cuts L cs M) {N : List P2} {pr : P2} {b : Rat} (hN : (M = [] ∧ N = []) ∨ (M ≠ [] ∧ CutIs M pr b N)) : Cuts L (cs ++ [(pr, b)]) N := by
  induction h with
  | nil L =>
    rcases hN with ⟨rfl, rfl⟩ | ⟨h0, hc⟩
    · exact Cuts.none _
    · exact Cuts.cut h0 hc (Cuts.nil _)
  | none cs =>
    rcases hN with ⟨_, rfl⟩ | ⟨h0, _⟩
    · exact Cuts.none _
    · exact absurd rfl h0
  | cut h0 hc _ ih => exact Cuts.cut h0 hc (ih hN)
/-- results that hold the same points are one -/
theorem same_in {M N : List P2} (hM : M ≠ [] → Fig M M) (hN : N ≠ [] → Fig N N) (h : ∀ p, (M ≠ [] ∧ Under M p) ↔ (N ≠ [] ∧ Under N p)) : M = N := by
  by_cases m0 : M = []
  · by_cases n0 : N = []
    · rw [m0, n0]
    · obtain ⟨c, hc⟩ := List.exists_mem_of_ne_nil N n0
      exact absurd m0 ((h c).mpr ⟨n0, under_mem hc⟩).1
  · have n0 : N ≠ [] := by
      obtain ⟨c, hc⟩ := List.exists_mem_of_ne_nil M m0
      exact ((h c).mp ⟨m0, under_mem hc⟩).1
    exact (hM m0).eq_under (hN n0) (fun c hc => ((h c).mp ⟨m0, under_mem hc⟩).2) fun c hc => ((h c).mpr ⟨n0, under_mem hc⟩).2
/-! ### the lines of a fence -/
theorem fence_ln {L : List P2} {c : Nat} {pr : P2} (hL : Fig L L) (sm : ∀ x ∈ L, smallP c x) (hp : pr ∈ fpr L) : (∃ l, IsLn pr (htQ pr L) l ∧ LnI (6 * c + 2) l) ∧ (3 ≤ L.length → ∃ l, IsLn pr (htQ pr L) l ∧ LnI (4 * c + 1) l) ∧ (pr.1 ≠ 0 ∨ pr.2 ≠ 0) := by
  have side : ∀ {e : P2 × P2}, e ∈ edL L → 2 ≤ L.length → (∃ l, IsLn (rt90 (sb e.2 e.1)) (htQ (rt90 (sb e.2 e.1)) L) l ∧ LnI (4 * c + 1) l) ∧ ((rt90 (sb e.2 e.1)).1 ≠ 0 ∨ (rt90 (sb e.2 e.1)).2 ≠ 0) := fun {e} he h2 => by
    obtain ⟨x, y⟩ := e
    obtain ⟨mx, my⟩ := edL_mem he
    rw [ht_edge hL he h2]
    refine ⟨ln_two (sm x mx) (sm y my), ?_⟩
    obtain ⟨_, _, ed⟩ := fig_edge hL he h2
    by_cases q : (rt90 (sb y x)).1 = 0
    · refine .inr fun q2 => ed.ne ?_
      unfold rt90 sb at q q2
      ext <;> grind
    · exact .inl q
  have vec : pr ∈ (vecs L).map rt90 → 2 ≤ L.length → (∃ l, IsLn pr (htQ pr L) l ∧ LnI (4 * c + 1) l) ∧ (pr.1 ≠ 0 ∨ pr.2 ≠ 0) := fun h h2 => by
    obtain ⟨v, hv, rfl⟩ := List.mem_map.mp h
    obtain ⟨e, he, rfl⟩ := List.mem_map.mp hv
    exact side he h2
  clear side
  match L, hL, sm, hp, vec with
  | [], hL, _, _, _ => exact absurd rfl hL.ne
  | [a], hL, sm, hp, _ =>
    have sa := sm a (by simp)
    have hp : pr ∈ [((1, 0) : P2), (0, 1), (-1, 0), (0, -1)] := hp
    have ht : htQ pr [a] = dot2 pr a := rfl
    rw [ht]
    have key : smallP 1 pr ∧ wt (dot2 pr a) ≤ c ∧ (pr.1 ≠ 0 ∨ pr.2 ≠ 0) := by
      simp only [List.mem_cons, List.not_mem_nil, or_false] at hp
      rcases hp with rfl | rfl | rfl | rfl
      · refine ⟨⟨by decide, by decide⟩, ?_, .inl (by decide)⟩
        have : dot2 ((1, 0) : P2) a = a.1 := by unfold dot2; grind
        rw [this]; exact sa.1
      · refine ⟨⟨by decide, by decide⟩, ?_, .inr (by decide)⟩
        have : dot2 ((0, 1) : P2) a = a.2 := by unfold dot2; grind
        rw [this]; exact sa.2
      · refine ⟨⟨by decide, by decide⟩, ?_, .inl (by decide)⟩
        have : dot2 ((-1, 0) : P2) a = -a.1 := by unfold dot2; grind
        rw [this, wt_neg]; exact sa.1
      · refine ⟨⟨by decide, by decide⟩, ?_, .inr (by decide)⟩
        have : dot2 ((0, -1) : P2) a = -a.2 := by unfold dot2; grind
        rw [this, wt_neg]; exact sa.2
    obtain ⟨l, il, pl⟩ := ln_any key.1 key.2.1
    have c1 : 1 ≤ c ∨ c = 0 := by omega
    exact ⟨⟨l, il, pl.le (by omega)⟩, fun h => absurd h (by simp), key.2.2⟩
  | [a, b], hL, sm, hp, vec =>
    have hp : pr ∈ (vecs [a, b]).map rt90 ++ [sb b a, sb a b] := hp
    rcases List.mem_append.mp hp with hp | hp
    · obtain ⟨⟨l, il, pl⟩, nz⟩ := vec hp (Nat.le_refl _)
      exact ⟨⟨l, il, pl.le (by omega)⟩, fun h => absurd h (by simp), nz⟩
    · obtain ⟨p, hpm, ep⟩ := ht_at (pr := pr) hL.ne
      have hpm : p = a ∨ p = b := by simpa using hpm
      have ne : a ≠ b := by
        have := hL.nodup
        rw [List.nodup_cons] at this
        exact fun e => this.1 (by simp [e])
      rw [ep]
      refine ⟨?_, fun h => absurd h (by simp), ?_⟩
      · simp only [List.mem_cons, List.not_mem_nil, or_false] at hp
        rcases hp with rfl | rfl
        · exact ln_across (sm a (by simp)) (sm b (by simp)) hpm
        · exact ln_across (sm b (by simp)) (sm a (by simp)) hpm.symm
      · simp only [List.mem_cons, List.not_mem_nil, or_false] at hp
        rcases hp with rfl | rfl
        · by_cases q : (sb b a).1 = 0
          · refine .inr fun q2 => ne ?_
            unfold sb at q q2
            ext <;> grind
          · exact .inl q
        · by_cases q : (sb a b).1 = 0
          · refine .inr fun q2 => ne ?_
            unfold sb at q q2
            ext <;> grind
          · exact .inl q
  | a :: b :: d :: r, hL, sm, hp, vec =>
    obtain ⟨⟨l, il, pl⟩, nz⟩ := vec hp (by simp)
    exact ⟨⟨l, il, pl.le (by omega)⟩, fun _ => ⟨l, il, pl⟩, nz⟩
/-- the cuts of a fence, turned -/
def tnP (pr : P2) : P2 := sc pr (-1)
def fcut (O : List P2) : List (P2 × Rat) := (fpr O).map fun pr => (tnP pr, htQ pr O * -1)
theorem fcut_in {O : List P2} (hO : Fig O O) (p : P2) : (∀ c ∈ fcut O, 0 ≤ hQ c.1 c.2 p) ↔ Under O p := by
  have e : ∀ pr, hQ (tnP pr) (htQ pr O * -1) p = htQ pr O - dot2 pr p := fun pr => by unfold hQ tnP dot2 sc; grind
  constructor
  · intro h
    refine has_under hO ?_
    rw [← fen_has hO]
    refine List.all_eq_true.mpr fun pr hp => decide_eq_true ?_
    have := h (tnP pr, htQ pr O * -1) (List.mem_map.mpr ⟨pr, hp, rfl⟩)
    rw [e] at this
    grind
  · intro h c hc
    obtain ⟨pr, hp, rfl⟩ := List.mem_map.mp hc
    rw [e]
    have := h pr
    grind
theorem fcuts_in {A O N : List P2} (hA : Fig A A) (hO : Fig O O) (h : Cuts A (fcut O) N) : (N ≠ [] → Fig N N) ∧ ∀ p, (N ≠ [] ∧ Under N p) ↔ (Under A p ∧ Under O p) := by
  obtain ⟨h1, h2⟩ := h.in fun _ => hA
  refine ⟨h1, fun p => ?_⟩
  rw [h2 p, fcut_in hO]
  exact ⟨fun ⟨_, a, b⟩ => ⟨a, b⟩, fun ⟨a, b⟩ => ⟨hA.ne, a, b⟩⟩
/-- one cut by the other's fence is the other cut by the one's -/
theorem fcuts_eq {A O M N : List P2} (hA : Fig A A) (hO : Fig O O) (h1 : Cuts A (fcut O) M) (h2 : Cuts O (fcut A) N) : M = N := by
  obtain ⟨a, b⟩ := fcuts_in hA hO h1
  obtain ⟨c, d⟩ := fcuts_in hO hA h2
  exact same_in a c fun p => (b p).trans (And.comm.trans (d p).symm)
theorem hasB_under {L : List P2} (hL : Fig L L) (p : P2) : hasB L p = true ↔ Under L p := ⟨has_under hL, fun h => by rw [← fen_has hL]; exact sup_fen h⟩
/-- cuts in another order -/
theorem cuts_perm {L M N : List P2} {cs ds : List (P2 × Rat)} (hL : Fig L L) (h1 : Cuts L cs M) (h2 : Cuts L ds N) (h : ∀ c, c ∈ cs ↔ c ∈ ds) : M = N := by
  obtain ⟨a, b⟩ := h1.in fun _ => hL
  obtain ⟨c, d⟩ := h2.in fun _ => hL
  refine same_in a c fun p => (b p).trans (Iff.trans ?_ (d p).symm)
  exact ⟨fun ⟨x, y, z⟩ => ⟨x, y, fun c hc => z c ((h c).mpr hc)⟩, fun ⟨x, y, z⟩ => ⟨x, y, fun c hc => z c ((h c).mp hc)⟩⟩
/-- a figure cut by its own fence: turned it stays, just there it is a side or a corner, by more nothing -/
theorem own_stays {L M : List P2} {pr : P2} (hL : Fig L L) (h : CutIs L (tnP pr) (htQ pr L * -1) M) : M = L := by
  have e : ∀ p, hQ (tnP pr) (htQ pr L * -1) p = htQ pr L - dot2 pr p := fun p => by unfold hQ tnP dot2 sc; grind
  refine same_in (fun h0 => h.self h0) (fun _ => hL) fun p => ?_
  rw [h.in hL p, e]
  exact ⟨fun ⟨a, _⟩ => ⟨hL.ne, a⟩, fun ⟨_, a⟩ => ⟨a, by have := a pr; grind⟩⟩
theorem own_side {L M : List P2} {pr : P2} (hL : Fig L L) (nz : pr.1 ≠ 0 ∨ pr.2 ≠ 0) (h : CutIs L pr (htQ pr L) M) : M ≠ [] ∧ M.length ≤ 2 ∧ ∀ c ∈ M, c ∈ L ∧ dot2 pr c = htQ pr L := by
  obtain ⟨x, hx, ex⟩ := ht_at (pr := pr) hL.ne
  have h0 : M ≠ [] := ((h.in hL x).mpr ⟨under_mem hx, by unfold hQ; grind⟩).1
  obtain ⟨F, hF, fM, _⟩ := h.fig h0
  have le : ∀ c ∈ L, hQ pr (htQ pr L) c ≤ 0 := fun c hc => by have := ht_ge (pr := pr) hc; unfold hQ; grind
  have all : ∀ c ∈ M, c ∈ L ∧ dot2 pr c = htQ pr L := fun c hc => by
    rcases hF.of c (fM.sub c hc) with ⟨a, b⟩ | ⟨u, v, hm, q, _⟩
    · refine ⟨a, ?_⟩
      have := le c a
      unfold hQ at this b
      grind
    · obtain ⟨m1, m2⟩ := edL_mem hm
      have a := le u m1
      have b := le v m2
      rcases mul_neg q with ⟨a1, b1⟩ | ⟨a1, b1⟩
      · have a : hQ pr (htQ pr L) u ≤ 0 := a
        grind
      · have b : hQ pr (htQ pr L) v ≤ 0 := b
        grind
  refine ⟨h0, on_two (h.self h0) nz (b := htQ pr L) fun c hc => ?_, all⟩
  have := (all c hc).2
  unfold hQ; grind
theorem own_more {L M : List P2} {pr : P2} {q : Rat} (hL : Fig L L) (hq : 0 < q) (h : CutIs L pr (htQ pr L + q) M) : M = [] := by
  by_cases h0 : M = []
  · exact h0
  · obtain ⟨c, hc⟩ := List.exists_mem_of_ne_nil M h0
    obtain ⟨a, b⟩ := (h.in hL c).mp ⟨h0, under_mem hc⟩
    have := a pr
    unfold hQ at b
    grind
/-- what a cut leaves and what the cut turned leaves are together all of it -/
theorem parted {L M N J : List P2} {pr : P2} {b : Rat} (hL : Fig L L) (h1 : CutIs L pr b M) (h2 : CutIs L (tnP pr) (b * -1) N) (hJ : Fig (M ++ N) J) : J = L := by
  have e : ∀ p, hQ (tnP pr) (b * -1) p = - hQ pr b p := fun p => by unfold hQ tnP dot2 sc; grind
  refine hJ.self.eq_under hL (fun c hc => ?_) fun c hc p2 => ?_
  · rcases List.mem_append.mp (hJ.sub c hc) with q | q
    · exact ((h1.in hL c).mp ⟨List.ne_nil_of_mem q, under_mem q⟩).1
    · exact ((h2.in hL c).mp ⟨List.ne_nil_of_mem q, under_mem q⟩).1
  · have up : ∀ {K : List P2}, K ≠ [] ∧ Under K c → (∀ x ∈ K, x ∈ M ++ N) → dot2 p2 c ≤ htQ p2 J := fun {K} ⟨k0, ku⟩ hs => Rat.le_trans (ku p2) (ht_le k0 fun x hx => ht_fig hJ p2 (hs x hx))
    by_cases q : 0 ≤ hQ pr b c
    · exact up ((h1.in hL c).mpr ⟨under_mem hc, q⟩) fun x hx => List.mem_append_left _ hx
    · exact up ((h2.in hL c).mpr ⟨under_mem hc, by rw [e]; grind⟩) fun x hx => List.mem_append_right _ hx
end VL

set_option maxHeartbeats 2000000
set_option pp.maxSteps 250
namespace VL
open PySem PySem.Spec PyProof.Rows L2
local macro_rules | `(tactic| walk_at "n") => `(tactic| refine ⟨fun h => Bool.noConfusion (show false = true from h), fun _ => ?_⟩)
local macro_rules | `(tactic| walk_at "ty") => `(tactic| refine ⟨_, rfl, by decide, ?_⟩)
local macro_rules | `(tactic| walk_at "tys") => `(tactic| refine ⟨_, rfl, _, rfl, by decide, ?_⟩)
local macro_rules | `(tactic| walk_at "v") => `(tactic| repeat (first | refine ⟨rfl, ?_⟩ | refine ⟨_, rfl, ?_⟩))
local macro_rules | `(tactic| walk_at "y") => `(tactic| refine ⟨fun _ => ?_, fun h => Bool.noConfusion (show true = false from h)⟩)
local macro_rules | `(tactic| walk_at "z") => `(tactic| repeat (first | refine ⟨rfl, ?_⟩ | refine ⟨_, rfl, ?_⟩ | refine ⟨fun _ => ?_, fun h => Bool.noConfusion (show true = false from h)⟩ | refine ⟨fun h => Bool.noConfusion (show false = true from h), fun _ => ?_⟩ | refine ⟨tyIn rfl, ?_⟩ | refine ⟨tysIn rfl, ?_⟩ | refine ⟨smallL rfl, ?_⟩ | refine ⟨smallE rfl, ?_⟩))
local macro_rules | `(tactic| walk_at "zz") => `(tactic| repeat ((fail_if_success show forL _ _ _ _ _); first | refine ⟨rfl, ?_⟩ | refine ⟨_, rfl, ?_⟩ | refine ⟨fun _ => ?_, fun h => Bool.noConfusion (show true = false from h)⟩ | refine ⟨fun h => Bool.noConfusion (show false = true from h), fun _ => ?_⟩ | refine ⟨tyIn rfl, ?_⟩ | refine ⟨tysIn rfl, ?_⟩ | refine ⟨smallL rfl, ?_⟩ | refine ⟨smallE rfl, ?_⟩))
/-! ### fences say all: read -/
@[irreducible] def sp_l_turned : ASp := fun ds R => ∃ (p : P2), ds = [dpt p] ∧ smallP 20000 p ∧ R (dpt (tnP p)) 0 []
theorem sp_l_turned.mk {p : P2} {R : RR} (h1 : smallP 20000 p) (h : R (dpt (tnP p)) 0 []) : sp_l_turned [dpt p] R := by unfold sp_l_turned; exact ⟨p, rfl, h1, h⟩
@[irreducible] def sp_l_by_fence : ASp := fun ds R => ∃ (L O : List P2) (e n m : Nat), ds = [.lst (L.map dpt), .lst (O.map dpt)] ∧ Grid e n L ∧ Fig O O ∧ O.length ≤ 1000 ∧ (∀ c ∈ O, smallP 2000 c) ∧ (∀ pr ∈ fpr O, ∃ l, IsLn pr (htQ pr O) l ∧ LnI e l) ∧ (fpr O).length ≤ m ∧ n + 2 * m ≤ 100 ∧ e ≤ 9000 ∧ 2 * (n + 2 * m) * (2 * (2 * e + 1) + 1) ≤ 1000000 ∧ ∀ (N : List P2) (k : Nat), (k = 0 ∨ k = 1) → Cuts L (fcut O) N → (N ≠ [] → Grid e (n + 2 * m) N) → R (.lst (N.map dpt)) k []
theorem sp_l_by_fence.mk {L O : List P2} {R : RR} (e n m : Nat) (h1 : Grid e n L) (h2 : Fig O O) (h3 : O.length ≤ 1000) (h4 : ∀ c ∈ O, smallP 2000 c) (h5 : ∀ pr ∈ fpr O, ∃ l, IsLn pr (htQ pr O) l ∧ LnI e l) (h6 : (fpr O).length ≤ m) (h7 : n + 2 * m ≤ 100) (h8 : e ≤ 9000) (h9 : 2 * (n + 2 * m) * (2 * (2 * e + 1) + 1) ≤ 1000000) (h : ∀ (N : List P2) (k : Nat), (k = 0 ∨ k = 1) → Cuts L (fcut O) N → (N ≠ [] → Grid e (n + 2 * m) N) → R (.lst (N.map dpt)) k []) : sp_l_by_fence [.lst (L.map dpt), .lst (O.map dpt)] R := by unfold sp_l_by_fence; exact ⟨L, O, e, n, m, rfl, h1, h2, h3, h4, h5, h6, h7, h8, h9, h⟩
@[irreducible] def sp_l_own_right : ASp := fun ds R => ∃ (L : List P2), ds = [.lst (L.map dpt)] ∧ Fig L L ∧ L.length ≤ 8 ∧ (∀ c ∈ L, smallP 1200 c) ∧ R (.bl true) 0 []
theorem sp_l_own_right.mk {L : List P2} {R : RR} (h1 : Fig L L) (h2 : L.length ≤ 8) (h3 : ∀ c ∈ L, smallP 1200 c) (h : R (.bl true) 0 []) : sp_l_own_right [.lst (L.map dpt)] R := by unfold sp_l_own_right; exact ⟨L, rfl, h1, h2, h3, h⟩
@[irreducible] def sp_l_parted_right : ASp := fun ds R => ∃ (t : Tp) (L : List P2) (n : Nat), ds = [dT t, .lst (L.map dpt)] ∧ Fig L L ∧ L.length ≤ 8 ∧ (∀ c ∈ L, smallP 50 c) ∧ t.ok (n + 60) ∧ ∀ t', t'.ok n → R (.bl true) 0 [dT t']
theorem sp_l_parted_right.mk {t : Tp} {L : List P2} {R : RR} (n : Nat) (h1 : Fig L L) (h2 : L.length ≤ 8) (h3 : ∀ c ∈ L, smallP 50 c) (ht : t.ok (n + 60)) (h : ∀ t', t'.ok n → R (.bl true) 0 [dT t']) : sp_l_parted_right [dT t, .lst (L.map dpt)] R := by unfold sp_l_parted_right; exact ⟨t, L, n, rfl, h1, h2, h3, ht, h⟩
def rd_l_turned : RS := (rRet (rCall [false, false] sp_l_scaled (rgAv (rVar 0) (rgAv (rTup1 (rfCons (rNeg (rC (.int 1))) (rfCons (rC (.int 1)) rfNil))) rgA0))))
def rb_l_by_fence_3 : RS := (rIf (rTb (rOp2 gNeN (roV 2) (roE (rLst1 rfNil)))) (rSet 2 (rCall [false, false, false] sp_cut (rgAv (rVar 2) (rgAv (rCall [false] sp_l_turned (rgAv (rVar 3) rgA0)) (rgAv (rCall [false, false] sp_l_times (rgAv (rVar 4) (rgAv (rTup1 (rfCons (rNeg (rC (.int 1))) (rfCons (rC (.int 1)) rfNil))) rgA0))) rgA0))))) rNext)
@[irreducible] def rd_l_by_fence_3 : RS := rb_l_by_fence_3
theorem rx_l_by_fence_3 : rb_l_by_fence_3 = rd_l_by_fence_3 := by unfold rd_l_by_fence_3; rfl
def rb_l_by_fence_5 : RS := (rRet (rMove 2))
@[irreducible] def rd_l_by_fence_5 : RS := rb_l_by_fence_5
theorem rx_l_by_fence_5 : rb_l_by_fence_5 = rd_l_by_fence_5 := by unfold rd_l_by_fence_5; rfl
def rb_l_by_fence_2 : RS := (rSeq (rFor (rIW [3, 4] (riSeq (rCall [false] sp_fence (rgAv (rVar 1) rgA0)))) (rgTup 2 (rgCons (rgName 3) (rgCons (rgName 4) rgNil))) (rBW [3, 4] rd_l_by_fence_3))
  rd_l_by_fence_5)
@[irreducible] def rd_l_by_fence_2 : RS := rb_l_by_fence_2
theorem rx_l_by_fence_2 : rb_l_by_fence_2 = rd_l_by_fence_2 := by unfold rd_l_by_fence_2; rfl
def rd_l_by_fence : RS := (rSeq (rSet 2 (rVar 0))
  rd_l_by_fence_2)
def rb_l_own_right_9 : RS := (rIf (rTb (rOp2 gNeN (roE (rCall [false, false, false] sp_cut (rgAv (rVar 0) (rgAv (rVar 1) (rgAv (rCall [false, false] sp_l_plus (rgAv (rVar 2) (rgAv (rTup1 (rfCons (rC (.int 1)) (rfCons (rOp2 gPow (roE (rC (.int 10))) (roE (rC (.int 9)))) rfNil))) rgA0))) rgA0))))) (roE (rLst1 rfNil)))) (rRet (rC (.bl false))) rNext)
@[irreducible] def rd_l_own_right_9 : RS := rb_l_own_right_9
theorem rx_l_own_right_9 : rb_l_own_right_9 = rd_l_own_right_9 := by unfold rd_l_own_right_9; rfl
def rb_l_own_right_7 : RS := (rSeq (rIf (rTb (rCB (gBls fun l => l.any id) (raCons (roE (rLc [4] (riSeq (rVar 3)) (rgName 4) rYes (rOp2 gNe (roE (rCall [false, false] sp_l_priced_22395e (rgAv (rVar 1) (rgAv (rVar 4) rgA0)))) (roV 2)))) raNil))) (rRet (rC (.bl false))) rNext)
  rd_l_own_right_9)
@[irreducible] def rd_l_own_right_7 : RS := rb_l_own_right_7
theorem rx_l_own_right_7 : rb_l_own_right_7 = rd_l_own_right_7 := by unfold rd_l_own_right_7; rfl
def rb_l_own_right_5 : RS := (rSeq (rIf (rOr (rTb (rOp2 gEqN (roV 3) (roE (rLst1 rfNil)))) (rOr (rTb (rOp2 gGtI (roE (rCB gLen (raCons (roV 3) raNil))) (roE (rC (.int 2))))) (rNot (rTb (rCB (gBls fun l => l.all id) (raCons (roE (rLc [4] (riSeq (rVar 3)) (rgName 4) rYes (rOp2 gInD (roV 4) (roV 0)))) raNil)))))) (rRet (rC (.bl false))) rNext)
  rd_l_own_right_7)
@[irreducible] def rd_l_own_right_5 : RS := rb_l_own_right_5
theorem rx_l_own_right_5 : rb_l_own_right_5 = rd_l_own_right_5 := by unfold rd_l_own_right_5; rfl
def rb_l_own_right_4 : RS := (rSeq (rSet 3 (rCall [false, false, false] sp_cut (rgAv (rVar 0) (rgAv (rVar 1) (rgAv (rVar 2) rgA0)))))
  rd_l_own_right_5)
@[irreducible] def rd_l_own_right_4 : RS := rb_l_own_right_4
theorem rx_l_own_right_4 : rb_l_own_right_4 = rd_l_own_right_4 := by unfold rd_l_own_right_4; rfl
def rb_l_own_right_2 : RS := (rSeq (rIf (rTb (rOp2 gNe (roE (rCall [false, false, false] sp_cut (rgAv (rVar 0) (rgAv (rCall [false] sp_l_turned (rgAv (rVar 1) rgA0)) (rgAv (rCall [false, false] sp_l_times (rgAv (rVar 2) (rgAv (rTup1 (rfCons (rNeg (rC (.int 1))) (rfCons (rC (.int 1)) rfNil))) rgA0))) rgA0))))) (roV 0))) (rRet (rC (.bl false))) rNext)
  rd_l_own_right_4)
@[irreducible] def rd_l_own_right_2 : RS := rb_l_own_right_2
theorem rx_l_own_right_2 : rb_l_own_right_2 = rd_l_own_right_2 := by unfold rd_l_own_right_2; rfl
def rb_l_own_right_11 : RS := (rRet (rC (.bl true)))
@[irreducible] def rd_l_own_right_11 : RS := rb_l_own_right_11
theorem rx_l_own_right_11 : rb_l_own_right_11 = rd_l_own_right_11 := by unfold rd_l_own_right_11; rfl
def rd_l_own_right : RS := (rSeq (rFor (rIW [1, 2, 3] (riSeq (rCall [false] sp_fence (rgAv (rVar 0) rgA0)))) (rgTup 2 (rgCons (rgName 1) (rgCons (rgName 2) rgNil))) (rBW [1, 2, 3] rd_l_own_right_2))
  rd_l_own_right_11)
def rd_l_parted_right : RS := (rSeq (rPar 2 3 (rCall [true] sp_l_point (rgAs 0 rgA0)) (rCall [true, false] sp_l_between (rgAs 0 (rgAv (rVar 1) rgA0))))
  (rSeq (rSet 4 (rCall [false, false] sp_l_priced_22395e (rgAv (rVar 2) (rgAv (rVar 3) rgA0))))
  (rSeq (rPar 5 6 (rCall [false, false, false] sp_cut (rgAv (rVar 1) (rgAv (rVar 2) (rgAv (rVar 4) rgA0)))) (rCall [false, false, false] sp_cut (rgAv (rVar 1) (rgAv (rCall [false] sp_l_turned (rgAv (rVar 2) rgA0)) (rgAv (rCall [false, false] sp_l_times (rgAv (rVar 4) (rgAv (rTup1 (rfCons (rNeg (rC (.int 1))) (rfCons (rC (.int 1)) rfNil))) rgA0))) rgA0)))))
  (rSeq (rIf (rOr (rTb (rOp2 gEqN (roV 5) (roE (rLst1 rfNil)))) (rOr (rTb (rOp2 gEqN (roV 6) (roE (rLst1 rfNil)))) (rTb (rOp2 gNe (roE (rCall [false] sp_joined (rgAv (rLst1 (rfCons (rVar 5) (rfCons (rVar 6) rfNil))) rgA0))) (roV 1))))) (rRet (rC (.bl false))) rNext)
  (rRet (rAndV (rCall [false, false] sp_has_point (rgAv (rVar 5) (rgAv (rVar 3) rgA0))) (rCall [false, false] sp_has_point (rgAv (rVar 6) (rgAv (rVar 3) rgA0)))))))))
theorem rp_l_turned (ds : List D) (R : RR) (hl : ds.length = 1) (h : sp_l_turned ds R) : rd_l_turned (rho0 [false] 0 ds ++ List.replicate (1 - 1) .no) (endsOf [false] R) := by
  unfold sp_l_turned at h
  obtain ⟨p, rfl, h1, h⟩ := h
  walk_at "z"
  show sp_scaled [dpt p, dq (-1)] _
  refine sp_scaled.pt (p := p) (c := -1) (h1.le (by decide)) (by decide) ?_
  walk_at "z"
  exact h
theorem fcuts_step {L O N : List P2} {done : List P2} {pr : P2} {rest : List P2} (e : fpr O = done ++ pr :: rest) (h : Cuts L (done.map fun pr => (tnP pr, htQ pr O * -1)) N) {M : List P2} (hM : (N = [] ∧ M = []) ∨ (N ≠ [] ∧ CutIs N (tnP pr) (htQ pr O * -1) M)) : Cuts L ((done ++ [pr]).map fun pr => (tnP pr, htQ pr O * -1)) M := by
  rw [List.map_append]
  exact h.snoc hM
theorem rp_l_by_fence (ds : List D) (R : RR) (hl : ds.length = 2) (h : sp_l_by_fence ds R) : rd_l_by_fence (rho0 [false, false] 0 ds ++ List.replicate (5 - 2) .no) (endsOf [false, false] R) := by
  unfold sp_l_by_fence at h
  obtain ⟨L, O, e, n, m, rfl, g, hO, lO, sO, hln, lf, nm, e9, hb, h⟩ := h
  walk_at "z"
  refine lit5 rfl ?_
  rw [← rx_l_by_fence_2]
  walk_at "zz"
  refine sp_fence.mk hO.ne (by omega) (fun c hc => (sO c hc).le (by decide)) ?_
  walk_at "zz"
  show forL _ _ ((fpr O).map (dFe O)) _ _
  refine forL_inv (I := fun items ρ => ∃ (done rest N : List P2) (s2 : Sl), fpr O = done ++ rest ∧ items = rest.map (dFe O) ∧ Cuts L (done.map fun pr => (tnP pr, htQ pr O * -1)) N ∧ (N ≠ [] → Grid e (n + 2 * done.length) N) ∧ (s2 = .fz (.lst (N.map dpt)) ∨ s2 = .ow 1 (.lst (N.map dpt))) ∧ ρ = [.fz (.lst (L.map dpt)), .fz (.lst (O.map dpt)), s2, .no, .no]) (fun ρ hI => ?_) (fun e2 es ρ P hP hI => ?_) _ _ ⟨[], fpr O, L, _, rfl, rfl, Cuts.nil L, fun _ => g.le (Nat.le_refl _) (by simp), .inl rfl, rfl⟩
  · obtain ⟨done, rest, N, s2, e1, e3, hc, hg, hs, rfl⟩ := hI
    have r0 : rest = [] := List.map_eq_nil_iff.mp e3.symm
    rw [r0, List.append_nil] at e1
    rw [← e1] at hc hg
    have hg2 : N ≠ [] → Grid e (n + 2 * m) N := fun z => (hg z).le (Nat.le_refl _) (by omega)
    rw [← rx_l_by_fence_5]
    rcases hs with rfl | rfl
    · walk_at "z"
      exact h N _ (.inl rfl) hc hg2
    · walk_at "z"
      exact h N _ (.inr rfl) hc hg2
  · obtain ⟨done, rest, N, s2, e1, e3, hc, hg, hs, rfl⟩ := hI
    cases rest with
    | nil => cases e3
    | cons pr rest =>
      rw [List.map_cons] at e3
      obtain ⟨rfl, rfl⟩ := List.cons.inj e3
      have dl : done.length + rest.length + 1 ≤ m := by
        have := congrArg List.length e1
        rw [List.length_append, List.length_cons] at this
        omega
      obtain ⟨l, il, pl⟩ := hln pr (by rw [e1]; simp)
      have hp := fpr_small hO.ne sO pr (by rw [e1]; simp)
      have hw := wt_ht hO.ne hp sO
      unfold dFe
      walk_at "z"
      have back : ∀ (M : List P2) (s3 : Sl), ((N = [] ∧ M = []) ∨ (N ≠ [] ∧ CutIs N (tnP pr) (htQ pr O * -1) M)) → (M ≠ [] → Grid e (n + 2 * done.length + 2) M) → (s3 = .fz (.lst (M.map dpt)) ∨ s3 = .ow 1 (.lst (M.map dpt))) → P [.fz (.lst (L.map dpt)), .fz (.lst (O.map dpt)), s3, .no, .no] := fun M s3 hM gM h3 =>
        hP _ ⟨done ++ [pr], rest, M, s3, by rw [e1, List.append_assoc]; rfl, rfl, fcuts_step e1 hc hM, fun z => (gM z).le (Nat.le_refl _) (by rw [List.length_append, List.length_singleton]; omega), h3, rfl⟩
      have w1 : wt (-1 : Rat) = 1 := by decide
      have hw2 : wt (htQ pr O * -1) ≤ 12004 := Nat.le_trans (wt_mul _ _) (by omega)
      show rBW [3, 4] rd_l_by_fence_3 [.fz (.lst (L.map dpt)), .fz (.lst (O.map dpt)), s2, .fz (dpt pr), .fz (dq (htQ pr O))] _
      unfold rBW
      rw [← rx_l_by_fence_3]
      by_cases N0 : N = []
      · subst N0
        rcases hs with rfl | rfl
        · walk_at "z"
          exact back [] _ (.inl ⟨rfl, rfl⟩) (fun z => absurd rfl z) (.inl rfl)
        · walk_at "z"
          exact back [] _ (.inl ⟨rfl, rfl⟩) (fun z => absurd rfl z) (.inr rfl)
      · have em : (N.map dpt).isEmpty = false := by
          cases N with
          | nil => exact absurd rfl N0
          | cons _ _ => rfl
        have gN := hg N0
        have big : 2 * (n + 2 * done.length) * (2 * (2 * e + 1) + 1) ≤ 1000000 := Nat.le_trans (Nat.mul_le_mul_right _ (by omega)) hb
        have go : ∀ (Q : RR), (∀ M, CutIs N (tnP pr) (htQ pr O * -1) M → (M ≠ [] → Grid e (n + 2 * done.length + 2) M) → Q (.lst (M.map dpt)) 1 []) → sp_cut [.lst (N.map dpt), dpt (tnP pr), dq (htQ pr O * -1)] Q := fun Q hQ =>
          sp_cut.mkG e (n + 2 * done.length) 4002 12004 gN il.neg pl ((hp.sc (k := -1) (d := 1) (by decide)).le (by decide)) hw2 (by unfold cutB cutW; omega) big (by omega) hQ
        rcases hs with rfl | rfl
        · walk_at "z"
          show way (!(N.map dpt).isEmpty) _ _
          rw [em]
          walk_at "z"
          refine sp_l_turned.mk (hp.le (by decide)) ?_
          walk_at "z"
          show sp_times [dq (htQ pr O), dq (-1)] _
          refine sp_times.mk (by omega) ?_
          walk_at "z"
          refine go _ fun M hM gM => ?_
          walk_at "z"
          exact back M _ (.inr ⟨N0, hM⟩) gM (.inr rfl)
        · walk_at "z"
          show way (!(N.map dpt).isEmpty) _ _
          rw [em]
          walk_at "z"
          refine sp_l_turned.mk (hp.le (by decide)) ?_
          walk_at "z"
          show sp_times [dq (htQ pr O), dq (-1)] _
          refine sp_times.mk (by omega) ?_
          walk_at "z"
          refine go _ fun M hM gM => ?_
          walk_at "z"
          exact back M _ (.inr ⟨N0, hM⟩) gM (.inr rfl)
def tiny : Rat := ⟨1, 1000000000, by decide, by decide⟩
theorem any_pts {L : List P2} {c : P2} (h : c ∈ L) : (L.map dpt).any (fun z => eqb z (dpt c)) = true := List.any_eq_true.mpr ⟨dpt c, List.mem_map.mpr ⟨c, h, rfl⟩, by rw [eqb_dpt]; exact decide_eq_true rfl⟩
theorem rp_l_own_right (ds : List D) (R : RR) (hl : ds.length = 1) (h : sp_l_own_right ds R) : rd_l_own_right (rho0 [false] 0 ds ++ List.replicate (5 - 1) .no) (endsOf [false] R) := by
  unfold sp_l_own_right at h
  obtain ⟨L, rfl, hL, lL, sL, h⟩ := h
  walk_at "zz"
  refine sp_fence.mk hL.ne (by omega) (fun c hc => (sL c hc).le (by decide)) ?_
  walk_at "zz"
  show forL _ _ ((fpr L).map (dFe L)) _ _
  refine forL_inv (I := fun items ρ => ρ = [.fz (.lst (L.map dpt)), .no, .no, .no, .no] ∧ ∀ x ∈ items, ∃ pr ∈ fpr L, x = dFe L pr) (fun ρ hI => ?_) (fun e2 es ρ P hP hI => ?_) _ _ ⟨rfl, fun x hx => by obtain ⟨pr, hp, rfl⟩ := List.mem_map.mp hx; exact ⟨pr, hp, rfl⟩⟩
  · obtain ⟨rfl, _⟩ := hI
    rw [← rx_l_own_right_11]
    walk_at "z"
    exact h
  · obtain ⟨rfl, hes⟩ := hI
    obtain ⟨pr, hpr, rfl⟩ := hes e2 (by simp)
    have back : P [.fz (.lst (L.map dpt)), .no, .no, .no, .no] := hP _ ⟨rfl, fun x hx => hes x (List.mem_cons_of_mem _ hx)⟩
    have hp := fpr_small hL.ne sL pr hpr
    have hw := wt_ht hL.ne hp sL
    have w1 : wt (-1 : Rat) = 1 := by decide
    have hw2 : wt (htQ pr L * -1) ≤ 7300 := Nat.le_trans (wt_mul _ _) (by omega)
    obtain ⟨⟨l, il, pl⟩, _, nz⟩ := fence_ln hL sL hpr
    have g : Grid 7300 8 L := (Grid.of hL sL lL).le (by decide) (Nat.le_refl _)
    have pl : LnI 7300 l := pl.le (by decide)
    unfold dFe
    walk_at "z"
    show rBW [1, 2, 3] rd_l_own_right_2 [.fz (.lst (L.map dpt)), .fz (dpt pr), .fz (dq (htQ pr L)), .no, .no] _
    unfold rBW
    rw [← rx_l_own_right_2]
    walk_at "z"
    refine sp_l_turned.mk (hp.le (by decide)) ?_
    walk_at "z"
    show sp_times [dq (htQ pr L), dq (-1)] _
    refine sp_times.mk (by omega) ?_
    walk_at "z"
    refine sp_cut.mkG 7300 8 2402 7300 g il.neg pl ((hp.sc (k := -1) (d := 1) (by decide)).le (by decide)) hw2 (by decide) (by decide) (by decide) fun M hM _ => ?_
    rw [own_stays hL hM]
    walk_at "z"
    refine ⟨lst_ok, lst_ok, ?_⟩
    rw [eqb_pts2, decide_eq_true rfl]
    walk_at "z"
    refine lit5 rfl ?_
    rw [← rx_l_own_right_4]
    walk_at "z"
    refine sp_cut.mkG 7300 8 2402 7300 g il pl (hp.le (by decide)) (by omega) (by decide) (by decide) (by decide) fun M hM _ => ?_
    obtain ⟨m0, m2, m3⟩ := own_side hL nz hM
    have em : (M.map dpt).isEmpty = false := by
      cases M with
      | nil => exact absurd rfl m0
      | cons _ _ => rfl
    walk_at "z"
    refine lit5 rfl ?_
    rw [← rx_l_own_right_5]
    walk_at "z"
    show way (M.map dpt).isEmpty _ _
    rw [em]
    walk_at "z"
    show way (decide ((2 : Int) < ((M.map dpt).length : Nat))) _ _
    rw [decide_eq_false (show ¬ (2 : Int) < ((M.map dpt).length : Nat) by rw [List.length_map]; omega)]
    walk_at "z"
    refine lcL_map' (f := fun _ : P2 => D.bl true) (g := dpt) (ρw := [.fz (.lst (L.map dpt)), .fz (dpt pr), .fz (dq (htQ pr L)), .fz (.lst (M.map dpt)), .no]) (xs := M) (by omega) (fun c hc m P N hn2 hP => ?_) rfl (fun ρ' h' => ?_)
    · walk_at "z"
      refine ⟨lst_ok, ?_⟩
      rw [any_pts (m3 c hc).1]
      exact ⟨hn2, hP _ rfl⟩
    rw [restE_wipe, h']
    walk_at "z"
    refine ⟨_, blsOf_map (fun _ : P2 => true) M, ?_⟩
    have al : (M.map fun _ : P2 => true).all id = true := List.all_eq_true.mpr fun x hx => by
      obtain ⟨_, _, rfl⟩ := List.mem_map.mp hx
      rfl
    simp only [al]
    walk_at "z"
    refine lit5 rfl ?_
    rw [← rx_l_own_right_7]
    walk_at "z"
    refine lcL_map' (f := fun _ : P2 => D.bl false) (g := dpt) (ρw := [.fz (.lst (L.map dpt)), .fz (dpt pr), .fz (dq (htQ pr L)), .fz (.lst (M.map dpt)), .no]) (xs := M) (by omega) (fun c hc m P N hn2 hP => ?_) rfl (fun ρ' h' => ?_)
    · walk_at "z"
      refine sp_l_priced_22395e.mk (hp.le (by decide)) ((sL c (m3 c hc).1).le (by decide)) ?_
      walk_at "z"
      rw [(m3 c hc).2, eqb_dq, decide_eq_true rfl]
      exact ⟨hn2, hP _ rfl⟩
    rw [restE_wipe, h']
    walk_at "z"
    refine ⟨_, blsOf_map (fun _ : P2 => false) M, ?_⟩
    have al : (M.map fun _ : P2 => false).any id = false := List.any_eq_false.mpr fun x hx => by
      obtain ⟨_, _, rfl⟩ := List.mem_map.mp hx
      exact Bool.false_ne_true
    simp only [al]
    walk_at "z"
    refine lit5 rfl ?_
    rw [← rx_l_own_right_9]
    walk_at "z"
    refine ⟨⟨by decide, by decide, by decide⟩, ?_⟩
    walk_at "z"
    show sp_plus [dq (htQ pr L), dq tiny] _
    refine sp_plus.mk (by have : wt tiny ≤ 40 := by decide
                          omega) ?_
    walk_at "z"
    have tw : wt (htQ pr L + tiny) ≤ 7300 := Nat.le_trans (wt_add _ _) (by have : wt tiny ≤ 40 := by decide
                                                                           omega)
    obtain ⟨l2, il2, pl2⟩ := ln_any hp tw
    have pl2 : LnI 12200 l2 := pl2.le (by decide)
    refine sp_cut.mkG 12200 8 2402 7300 (g.le (by decide) (Nat.le_refl _)) il2 pl2 (hp.le (by decide)) tw (by decide) (by decide) (by decide) fun M2 hM2 _ => ?_
    rw [own_more hL (by decide) hM2]
    walk_at "z"
    exact back
theorem conv_und30 {L : List P2} (hL : Fig L L) {q : P2} (h : Conv L q) : Under L q := has_under hL (within_has (conv_within (fun p hp => hL.within p hp) h))
theorem rp_l_parted_right (ds : List D) (R : RR) (hl : ds.length = 2) (h : sp_l_parted_right ds R) : rd_l_parted_right (rho0 [true, false] 0 ds ++ List.replicate (7 - 2) .no) (endsOf [true, false] R) := by
  unfold sp_l_parted_right at h
  obtain ⟨t, L, n, rfl, hL, lL, sL, ht, h⟩ := h
  walk_at "z"
  refine sp_l_point.mk (t := t) (n + 40) (ht.le (by omega)) fun pr t1 hp ht1 => ?_
  walk_at "z"
  refine sp_l_between.mk (t := t1) 50 n hL.ne (by omega) (by decide) sL (ht1.le (by omega)) fun q t2 hq sq ht2 => ?_
  have sq : smallP 561 q := sq.le (by have : L.length * (50 + 20) ≤ 8 * (50 + 20) := Nat.mul_le_mul_right _ lL
                                      omega)
  have uq := conv_und30 hL hq
  have wb : wt (dot2 pr q) ≤ 1165 := wt_dot2 hp sq
  have w1 : wt (-1 : Rat) = 1 := by decide
  have wb2 : wt (dot2 pr q * -1) ≤ 1166 := Nat.le_trans (wt_mul _ _) (by omega)
  walk_at "z"
  refine sp_l_priced_22395e.mk (hp.le (by decide)) (sq.le (by decide)) ?_
  walk_at "z"
  refine sp_cut.mk 50 21 1165 hL.ne (by omega) sL hp wb (by decide) (Nat.le_trans (Nat.mul_le_mul_right _ (show 2 * L.length ≤ 16 by omega)) (by decide)) fun M hM => ?_
  walk_at "z"
  refine sp_l_turned.mk (hp.le (by decide)) ?_
  walk_at "z"
  show sp_times [dq (dot2 pr q), dq (-1)] _
  refine sp_times.mk (by omega) ?_
  walk_at "z"
  refine sp_cut.mk 50 22 1166 hL.ne (by omega) sL (hp.sc (k := -1) (d := 1) (by decide)) wb2 (by decide) (Nat.le_trans (Nat.mul_le_mul_right _ (show 2 * L.length ≤ 16 by omega)) (by decide)) fun N hN => ?_
  obtain ⟨m0, mu⟩ := (hM.in hL q).mpr ⟨uq, by unfold hQ; grind⟩
  obtain ⟨n0, nu⟩ := (hN.in hL q).mpr ⟨uq, by unfold hQ; have : dot2 (tnP pr) q = - dot2 pr q := by unfold dot2 tnP sc; grind
                                              rw [this]; grind⟩
  obtain ⟨ml, ms⟩ := hM.bd sL hp wb
  obtain ⟨nl, ns⟩ := hN.bd sL (hp.sc (k := -1) (d := 1) (by decide)) wb2
  have me : (M.map dpt).isEmpty = false := by
    cases M with
    | nil => exact absurd rfl m0
    | cons _ _ => rfl
  have ne : (N.map dpt).isEmpty = false := by
    cases N with
    | nil => exact absurd rfl n0
    | cons _ _ => rfl
  walk_at "z"
  show way (M.map dpt).isEmpty _ _
  rw [me]
  walk_at "z"
  show way (N.map dpt).isEmpty _ _
  rw [ne]
  walk_at "z"
  show sp_joined [.lst ([M, N].map dFg)] _
  have fl : [M, N].flatten = M ++ N := by simp
  have cs : ∀ c ∈ M ++ N, smallP 4200 c := fun c hc => (List.mem_append.mp hc).elim (fun h => (ms c h).le (by decide)) fun h => (ns c h).le (by decide)
  refine sp_joined.mk (Fs := [M, N]) (by rw [fl]; exact fun z => m0 (List.append_eq_nil_iff.mp z).1) (show 2 ≤ 1000 by decide) (by rw [fl, List.length_append]; omega) (by
    rw [fl]
    exact Nat.le_trans (pw_le cs) (Nat.le_trans (Nat.mul_le_mul_right _ (show _ ≤ 32 by rw [List.length_append]; omega)) (by decide))) fun J hJ => ?_
  rw [fl] at hJ
  rw [parted hL hM hN hJ]
  walk_at "z"
  refine ⟨lst_ok, lst_ok, ?_⟩
  rw [eqb_pts2, decide_eq_true rfl]
  walk_at "z"
  refine sp_has_point.mk m0 (by omega) (fun c hc => (ms c hc).le (by decide)) (sq.le (by decide)) ?_
  rw [sup_fen mu]
  walk_at "z"
  refine sp_has_point.mk n0 (by omega) (fun c hc => (ns c hc).le (by decide)) (sq.le (by decide)) ?_
  rw [sup_fen nu]
  walk_at "z"
  exact h t2 ht2
end VL

set_option maxHeartbeats 2000000
set_option pp.maxSteps 250
namespace VL
open PySem PySem.Spec PyProof.Rows L2
local macro_rules | `(tactic| walk_at "n") => `(tactic| refine ⟨fun h => Bool.noConfusion (show false = true from h), fun _ => ?_⟩)
local macro_rules | `(tactic| walk_at "ty") => `(tactic| refine ⟨_, rfl, by decide, ?_⟩)
local macro_rules | `(tactic| walk_at "tys") => `(tactic| refine ⟨_, rfl, _, rfl, by decide, ?_⟩)
local macro_rules | `(tactic| walk_at "v") => `(tactic| repeat (first | refine ⟨rfl, ?_⟩ | refine ⟨_, rfl, ?_⟩))
local macro_rules | `(tactic| walk_at "y") => `(tactic| refine ⟨fun _ => ?_, fun h => Bool.noConfusion (show true = false from h)⟩)
local macro_rules | `(tactic| walk_at "z") => `(tactic| repeat (first | refine ⟨rfl, ?_⟩ | refine ⟨_, rfl, ?_⟩ | refine ⟨fun _ => ?_, fun h => Bool.noConfusion (show true = false from h)⟩ | refine ⟨fun h => Bool.noConfusion (show false = true from h), fun _ => ?_⟩ | refine ⟨tyIn rfl, ?_⟩ | refine ⟨tysIn rfl, ?_⟩ | refine ⟨smallL rfl, ?_⟩ | refine ⟨smallE rfl, ?_⟩))
local macro_rules | `(tactic| walk_at "zz") => `(tactic| repeat ((fail_if_success show forL _ _ _ _ _); first | refine ⟨rfl, ?_⟩ | refine ⟨_, rfl, ?_⟩ | refine ⟨fun _ => ?_, fun h => Bool.noConfusion (show true = false from h)⟩ | refine ⟨fun h => Bool.noConfusion (show false = true from h), fun _ => ?_⟩ | refine ⟨tyIn rfl, ?_⟩ | refine ⟨tysIn rfl, ?_⟩ | refine ⟨smallL rfl, ?_⟩ | refine ⟨smallE rfl, ?_⟩))
def rb_law_6 : RS := (rSet 4 (rCall [false, false] sp_moved (rgAv (rVar 4) (rgAv (rCB gTupOf (raCons (roE (rLc [15, 16] (riZipA (rfCons (rVar 5) (rfCons (rVar 6) rfNil))) (rgTup 2 (rgCons (rgName 15) (rgCons (rgName 16) rgNil))) rYes (rCall [false, false] sp_l_minus (rgAv (rVar 16) (rgAv (rVar 15) rgA0))))) raNil)) rgA0))))
@[irreducible] def rd_law_6 : RS := rb_law_6
theorem rx_law_6 : rb_law_6 = rd_law_6 := by unfold rd_law_6; rfl
def rb_law_17 : RS := (rIf (rTb (rOp2 gNe (roV 10) (roE (rAndV (rOp2 gNeN (roV 7) (roE (rLst1 rfNil))) (rCall [false, false] sp_has_point (rgAv (rVar 7) (rgAv (rVar 9) rgA0))))))) (rRet (rC (.bl false))) rNext)
@[irreducible] def rd_law_17 : RS := rb_law_17
theorem rx_law_17 : rb_law_17 = rd_law_17 := by unfold rd_law_17; rfl
def rb_law_16 : RS := (rSeq (rSet 10 (rAndV (rCall [false, false] sp_has_point (rgAv (rVar 3) (rgAv (rVar 9) rgA0))) (rCall [false, false] sp_has_point (rgAv (rVar 4) (rgAv (rVar 9) rgA0)))))
  rd_law_17)
@[irreducible] def rd_law_16 : RS := rb_law_16
theorem rx_law_16 : rb_law_16 = rd_law_16 := by unfold rd_law_16; rfl
def rb_law_22 : RS := (rSetIx 12 (rIfE (rTb (rOp2 gNeN (roE (rOp2 gIx (roV 12) (roE (rC (.int 0))))) (roE (rLst1 rfNil)))) (rCall [false, false, false] sp_cut (rgAv (rOp2 gIx (roV 12) (roE (rC (.int 0)))) (rgAv (rVar 13) (rgAv (rVar 14) rgA0)))) (rLst1 rfNil)) (rC (.int 0)))
@[irreducible] def rd_law_22 : RS := rb_law_22
theorem rx_law_22 : rb_law_22 = rd_law_22 := by unfold rd_law_22; rfl
def rb_law_24 : RS := (rSetIx 12 (rIfE (rTb (rOp2 gNeN (roE (rOp2 gIx (roV 12) (roE (rC (.int 1))))) (roE (rLst1 rfNil)))) (rCall [false, false, false] sp_cut (rgAv (rOp2 gIx (roV 12) (roE (rC (.int 1)))) (rgAv (rVar 13) (rgAv (rVar 14) rgA0)))) (rLst1 rfNil)) (rC (.int 1)))
@[irreducible] def rd_law_24 : RS := rb_law_24
theorem rx_law_24 : rb_law_24 = rd_law_24 := by unfold rd_law_24; rfl
def rb_law_25 : RS := (rIf (rTb (rOp2 gNe (roE (rOp2 gIx (roV 12) (roE (rC (.int 0))))) (roE (rOp2 gIx (roV 12) (roE (rC (.int 1))))))) (rRet (rC (.bl false))) rNext)
@[irreducible] def rd_law_25 : RS := rb_law_25
theorem rx_law_25 : rb_law_25 = rd_law_25 := by unfold rd_law_25; rfl
def rb_law_23 : RS := (rSeq (rFor (rIW [13, 14] (riSeq (rRevA (roV 11)))) (rgTup 2 (rgCons (rgName 13) (rgCons (rgName 14) rgNil))) (rBW [13, 14] rd_law_24))
  rd_law_25)
@[irreducible] def rd_law_23 : RS := rb_law_23
theorem rx_law_23 : rb_law_23 = rd_law_23 := by unfold rd_law_23; rfl
def rb_law_21 : RS := (rSeq (rFor (rIW [13, 14] (riSeq (rVar 11))) (rgTup 2 (rgCons (rgName 13) (rgCons (rgName 14) rgNil))) (rBW [13, 14] rd_law_22))
  rd_law_23)
@[irreducible] def rd_law_21 : RS := rb_law_21
theorem rx_law_21 : rb_law_21 = rd_law_21 := by unfold rd_law_21; rfl
def rb_law_20 : RS := (rSeq (rSet 12 (rLst1 (rfCons (rVar 3) (rfCons (rVar 3) rfNil))))
  rd_law_21)
@[irreducible] def rd_law_20 : RS := rb_law_20
theorem rx_law_20 : rb_law_20 = rd_law_20 := by unfold rd_law_20; rfl
def rb_law_19 : RS := (rSeq (rSet 11 (rLc [17] (riRng1 (rfCons (rC (.int 3)) rfNil)) (rgName 17) rYes (rTup1 (rfCons (rCall [true] sp_l_point (rgAs 2 rgA0)) (rfCons (rCall [true] sp_l_number (rgAs 2 rgA0)) rfNil)))))
  rd_law_20)
@[irreducible] def rd_law_19 : RS := rb_law_19
theorem rx_law_19 : rb_law_19 = rd_law_19 := by unfold rd_law_19; rfl
def rb_law_15 : RS := (rSeq (rFor (rIW [9, 10] (riSeq (rOp2 gAddA (roE (rOp2 gAddA (roE (rLc [17] (riRng1 (rfCons (rC (.int 8)) rfNil)) (rgName 17) rYes (rCall [true, false] sp_l_between (rgAs 2 (rgAv (rVar 3) rgA0))))) (roV 3))) (roV 4)))) (rgName 9) (rBW [9, 10] rd_law_16))
  rd_law_19)
@[irreducible] def rd_law_15 : RS := rb_law_15
theorem rx_law_15 : rb_law_15 = rd_law_15 := by unfold rd_law_15; rfl
def rb_law_13 : RS := (rSeq (rIf (rTb (rOp2 gNeN (roV 8) (roE (rLst1 rfNil)))) (rRet (rC (.bl false))) rNext)
  rd_law_15)
@[irreducible] def rd_law_13 : RS := rb_law_13
theorem rx_law_13 : rb_law_13 = rd_law_13 := by unfold rd_law_13; rfl
def rb_law_12 : RS := (rSeq (rSet 8 (rLc [9] (riSeq (rVar 7)) (rgName 9) (rOr (rNot (rTb (rCall [false, false] sp_has_point (rgAv (rVar 3) (rgAv (rVar 9) rgA0))))) (rNot (rTb (rCall [false, false] sp_has_point (rgAv (rVar 4) (rgAv (rVar 9) rgA0)))))) (rVar 9)))
  rd_law_13)
@[irreducible] def rd_law_12 : RS := rb_law_12
theorem rx_law_12 : rb_law_12 = rd_law_12 := by unfold rd_law_12; rfl
def rb_law_10 : RS := (rSeq (rIf (rTb (rOp2 gNe (roV 7) (roE (rCall [false, false] sp_l_by_fence (rgAv (rVar 4) (rgAv (rVar 3) rgA0)))))) (rRet (rC (.bl false))) rNext)
  rd_law_12)
@[irreducible] def rd_law_10 : RS := rb_law_10
theorem rx_law_10 : rb_law_10 = rd_law_10 := by unfold rd_law_10; rfl
def rb_law_9 : RS := (rSeq (rSet 7 (rCall [false, false] sp_l_by_fence (rgAv (rVar 3) (rgAv (rVar 4) rgA0))))
  rd_law_10)
@[irreducible] def rd_law_9 : RS := rb_law_9
theorem rx_law_9 : rb_law_9 = rd_law_9 := by unfold rd_law_9; rfl
def rb_law_7 : RS := (rSeq (rIf (rOr (rNot (rTb (rCall [false] sp_l_own_right (rgAv (rVar 3) rgA0)))) (rOr (rNot (rTb (rCall [false] sp_l_own_right (rgAv (rVar 4) rgA0)))) (rNot (rTb (rCall [true, false] sp_l_parted_right (rgAs 2 (rgAv (rVar 3) rgA0))))))) (rRet (rC (.bl false))) rNext)
  rd_law_9)
@[irreducible] def rd_law_7 : RS := rb_law_7
theorem rx_law_7 : rb_law_7 = rd_law_7 := by unfold rd_law_7; rfl
def rb_law_4 : RS := (rSeq (rIf (rTb (rOp2 gEq (roE (rCall [true, false] sp_l_draw (rgAs 2 (rgAv (rC (.int 2)) rgA0)))) (roE (rC (.int 0))))) (rSeq (rPar 5 6 (rCall [true, false] sp_l_between (rgAs 2 (rgAv (rVar 4) rgA0))) (rCall [true, false] sp_l_between (rgAs 2 (rgAv (rVar 3) rgA0))))
  rd_law_6) rNext)
  rd_law_7)
@[irreducible] def rd_law_4 : RS := rb_law_4
theorem rx_law_4 : rb_law_4 = rd_law_4 := by unfold rd_law_4; rfl
def rb_law_3 : RS := (rSeq (rAsg (rTup1 (rfCons (rCall [false] sp_hull (rgAv (rCall [true, false] sp_l_points (rgAs 2 (rgAv (rC (.int 8)) rgA0))) rgA0)) (rfCons (rCall [false] sp_hull (rgAv (rCall [true, false] sp_l_points (rgAs 2 (rgAv (rC (.int 8)) rgA0))) rgA0)) rfNil))) (rgTup 2 (rgCons (rgName 3) (rgCons (rgName 4) rgNil))))
  rd_law_4)
@[irreducible] def rd_law_3 : RS := rb_law_3
theorem rx_law_3 : rb_law_3 = rd_law_3 := by unfold rd_law_3; rfl
def rb_law_2 : RS := (rSeq (rSet 2 (rCall [false, false] sp_l_begun (rgAv (rVar 0) (rgAv (rVar 1) rgA0))))
  rd_law_3)
@[irreducible] def rd_law_2 : RS := rb_law_2
theorem rx_law_2 : rb_law_2 = rd_law_2 := by unfold rd_law_2; rfl
def rb_law_27 : RS := (rRet (rC (.bl true)))
@[irreducible] def rd_law_27 : RS := rb_law_27
theorem rx_law_27 : rb_law_27 = rd_law_27 := by unfold rd_law_27; rfl
def rd_law : RS := (rSeq (rFor (rIW [1, 2, 3, 4, 5, 6, 7, 8, 9, 10, 11, 12, 13, 14] (riRng1 (rfCons (rOp2 gAddA (roE (rC (.int 1))) (roE (rCB gMin (raCons (roE (rC (.int 4))) (raCons (roE (rCB gLen (raCons (roV 0) raNil))) raNil))))) rfNil))) (rgName 1) (rBW [1, 2, 3, 4, 5, 6, 7, 8, 9, 10, 11, 12, 13, 14] rd_law_2))
  rd_law_27)
theorem lcL_skip {α : Type} {ivs : List Nat} {rg : RG} {rt : RT} {re : RE} {Q : List D → Ev → Prop} {g : α → D} {ρw : Ev} : ∀ {xs : List α} {ρ : Ev}, wipeE ivs ρ = ρw →
    (∀ x ∈ xs, ∀ (Y N : Ev → Prop), (∀ ρ3, wipeE ivs ρ3 = ρw → N ρ3) → rg (g x) ρw fun ρ1 => rt ρ1 fun c ρ2 => way c (Y ρ2) (N ρ2)) → (∀ ρ', wipeE ivs ρ' = ρw → Q [] ρ') → lcL ivs rg rt re (xs.map g) ρ [] Q
  | [], ρ, h0, _, fin => fin ρ h0
  | x :: xs, ρ, h0, step, fin => by
    show rg (g x) (wipeE ivs ρ) _
    rw [h0]
    exact step x (by simp) _ _ fun ρ3 h3 => lcL_skip h3 (fun y hy => step y (List.mem_cons_of_mem _ hy)) fin
def dCut (c : P2 × Rat) : D := .tup [dpt c.1, dq c.2]
theorem k30_25 (a0 a1 a2 a3 a4 a5 a6 a7 a8 a9 a10 a11 a13 a14 a15 a16 a17 : Sl) (X : List P2) (R : RR) (E : EN)
    (hE : E.nx [a0, a1, a2, a3, a4, a5, a6, a7, a8, a9, a10, a11, .ow 1 (.lst [.lst (X.map dpt), .lst (X.map dpt)]), a13, a14, a15, a16, a17]) :
    rd_law_25 [a0, a1, a2, a3, a4, a5, a6, a7, a8, a9, a10, a11, .ow 1 (.lst [.lst (X.map dpt), .lst (X.map dpt)]), a13, a14, a15, a16, a17] E := by
  rw [← rx_law_25]
  walk_at "z"
  refine ⟨lst_ok, lst_ok, ?_⟩
  rw [eqb_pts2, decide_eq_true rfl]
  walk_at "z"
  exact hE
/-- one list of the two, cut on -/
theorem k30_22 (a0 a1 a2 a3 a4 a5 a6 a7 a8 a9 a10 a11 a15 a16 a17 : Sl) (X Y : List P2) (pr : P2) (b : Rat) (n : Nat) (hn : n ≤ 14) (hp : smallP 21 pr) (hb : wt b ≤ 21) (hX : X ≠ [] → Grid 201 n X) (E : EN)
    (hE : ∀ M, ((X = [] ∧ M = []) ∨ (X ≠ [] ∧ CutIs X pr b M)) → (M ≠ [] → Grid 201 (n + 2) M) → E.nx [a0, a1, a2, a3, a4, a5, a6, a7, a8, a9, a10, a11, .ow 1 (.lst [.lst (M.map dpt), .lst (Y.map dpt)]), .fz (dpt pr), .fz (dq b), a15, a16, a17]) :
    rd_law_22 [a0, a1, a2, a3, a4, a5, a6, a7, a8, a9, a10, a11, .ow 1 (.lst [.lst (X.map dpt), .lst (Y.map dpt)]), .fz (dpt pr), .fz (dq b), a15, a16, a17] E := by
  rw [← rx_law_22]
  by_cases x0 : X = []
  · subst x0
    walk_at "z"
    exact hE [] (.inl ⟨rfl, rfl⟩) fun z => absurd rfl z
  · have em : (X.map dpt).isEmpty = false := by
      cases X with
      | nil => exact absurd rfl x0
      | cons _ _ => rfl
    walk_at "z"
    show way (!(X.map dpt).isEmpty) _ _
    rw [em]
    walk_at "z"
    obtain ⟨l, il, pl⟩ := ln_any hp hb
    have g := hX x0
    refine sp_cut.mkG 201 n 21 21 g il (pl.le (by decide)) hp hb (by decide) (Nat.le_trans (Nat.mul_le_mul_right _ (show 2 * n ≤ 28 by omega)) (by decide)) (by omega) fun M hM gM => ?_
    walk_at "z"
    exact hE M (.inr ⟨x0, hM⟩) gM
theorem k30_24 (a0 a1 a2 a3 a4 a5 a6 a7 a8 a9 a10 a11 a15 a16 a17 : Sl) (X Y : List P2) (pr : P2) (b : Rat) (n : Nat) (hn : n ≤ 14) (hp : smallP 21 pr) (hb : wt b ≤ 21) (hX : X ≠ [] → Grid 201 n X) (E : EN)
    (hE : ∀ M, ((X = [] ∧ M = []) ∨ (X ≠ [] ∧ CutIs X pr b M)) → (M ≠ [] → Grid 201 (n + 2) M) → E.nx [a0, a1, a2, a3, a4, a5, a6, a7, a8, a9, a10, a11, .ow 1 (.lst [.lst (Y.map dpt), .lst (M.map dpt)]), .fz (dpt pr), .fz (dq b), a15, a16, a17]) :
    rd_law_24 [a0, a1, a2, a3, a4, a5, a6, a7, a8, a9, a10, a11, .ow 1 (.lst [.lst (Y.map dpt), .lst (X.map dpt)]), .fz (dpt pr), .fz (dq b), a15, a16, a17] E := by
  rw [← rx_law_24]
  by_cases x0 : X = []
  · subst x0
    walk_at "z"
    exact hE [] (.inl ⟨rfl, rfl⟩) fun z => absurd rfl z
  · have em : (X.map dpt).isEmpty = false := by
      cases X with
      | nil => exact absurd rfl x0
      | cons _ _ => rfl
    walk_at "z"
    show way (!(X.map dpt).isEmpty) _ _
    rw [em]
    walk_at "z"
    obtain ⟨l, il, pl⟩ := ln_any hp hb
    have g := hX x0
    refine sp_cut.mkG 201 n 21 21 g il (pl.le (by decide)) hp hb (by decide) (Nat.le_trans (Nat.mul_le_mul_right _ (show 2 * n ≤ 28 by omega)) (by decide)) (by omega) fun M hM gM => ?_
    walk_at "z"
    exact hE M (.inr ⟨x0, hM⟩) gM
theorem k30_rev (a0 a1 a2 a3 a4 a5 a6 a7 a8 a9 a10 a15 a16 a17 : Sl) (L X : List P2) (cs : List (P2 × Rat)) (hL : Fig L L) (lL : L.length ≤ 8) (sL : ∀ c ∈ L, smallP 50 c) (lc : cs.length ≤ 3) (hc : ∀ c ∈ cs, smallP 21 c.1 ∧ wt c.2 ≤ 21) (hX : Cuts L cs X) (E : EN)
    (hE : ∀ d11 d12 : D, E.nx [a0, a1, a2, a3, a4, a5, a6, a7, a8, a9, a10, .fz d11, .ow 1 d12, .no, .no, a15, a16, a17]) :
    rd_law_23 [a0, a1, a2, a3, a4, a5, a6, a7, a8, a9, a10, .fz (.lst (cs.map dCut)), .ow 1 (.lst [.lst (X.map dpt), .lst (L.map dpt)]), .no, .no, a15, a16, a17] E := by
  rw [← rx_law_23]
  walk_at "zz"
  rw [← List.map_reverse]
  refine forL_inv (I := fun items ρ => ∃ (done rest : List (P2 × Rat)) (Y : List P2), cs.reverse = done ++ rest ∧ items = rest.map dCut ∧ Cuts L done Y ∧ (Y ≠ [] → Grid 201 (8 + 2 * done.length) Y) ∧ ρ = [a0, a1, a2, a3, a4, a5, a6, a7, a8, a9, a10, .fz (.lst (cs.map dCut)), .ow 1 (.lst [.lst (X.map dpt), .lst (Y.map dpt)]), .no, .no, a15, a16, a17]) (fun ρ hI => ?_) (fun e2 es ρ P hP hI => ?_) _ _ ⟨[], cs.reverse, L, rfl, rfl, Cuts.nil L, fun _ => (Grid.of hL sL lL).le (by decide) (by simp), rfl⟩
  · obtain ⟨done, rest, Y, e1, e3, hY, _, rfl⟩ := hI
    have r0 : rest = [] := List.map_eq_nil_iff.mp e3.symm
    rw [r0, List.append_nil] at e1
    have e : X = Y := cuts_perm hL hX hY fun c => by rw [← e1, List.mem_reverse]
    subst e
    refine k30_25 _ _ _ _ _ _ _ _ _ _ _ _ _ _ _ _ _ X (fun _ _ _ => True) E (hE _ _)
  · obtain ⟨done, rest, Y, e1, e3, hY, gY, rfl⟩ := hI
    cases rest with
    | nil => cases e3
    | cons c rest =>
      rw [List.map_cons] at e3
      obtain ⟨rfl, rfl⟩ := List.cons.inj e3
      have dl : done.length + 1 ≤ 3 := by
        have := congrArg List.length e1
        rw [List.length_append, List.length_cons, List.length_reverse] at this
        omega
      have hm : c ∈ cs := List.mem_reverse.mp (by rw [e1]; simp)
      obtain ⟨c1, c2⟩ := c
      unfold dCut
      walk_at "z"
      show rBW [13, 14] rd_law_24 [a0, a1, a2, a3, a4, a5, a6, a7, a8, a9, a10, .fz (.lst (cs.map dCut)), .ow 1 (.lst [.lst (X.map dpt), .lst (Y.map dpt)]), .fz (dpt c1), .fz (dq c2), a15, a16, a17] _
      unfold rBW
      refine k30_24 _ _ _ _ _ _ _ _ _ _ _ _ _ _ _ Y X c1 c2 (8 + 2 * done.length) (by omega) (hc _ hm).1 (hc _ hm).2 gY _ fun M hM gM => ?_
      exact ⟨rfl, hP _ ⟨done ++ [(c1, c2)], rest, M, by rw [e1, List.append_assoc]; rfl, rfl, hY.snoc hM, fun z => (gM z).le (Nat.le_refl _) (by rw [List.length_append, List.length_singleton]; omega), rfl⟩⟩
theorem k30_21 (a0 a1 a2 a3 a4 a5 a6 a7 a8 a9 a10 a15 a16 a17 : Sl) (L : List P2) (cs : List (P2 × Rat)) (hL : Fig L L) (lL : L.length ≤ 8) (sL : ∀ c ∈ L, smallP 50 c) (lc : cs.length ≤ 3) (hc : ∀ c ∈ cs, smallP 21 c.1 ∧ wt c.2 ≤ 21) (E : EN)
    (hE : ∀ d11 d12 : D, E.nx [a0, a1, a2, a3, a4, a5, a6, a7, a8, a9, a10, .fz d11, .ow 1 d12, .no, .no, a15, a16, a17]) :
    rd_law_21 [a0, a1, a2, a3, a4, a5, a6, a7, a8, a9, a10, .ow 1 (.lst (cs.map dCut)), .ow 1 (.lst [.lst (L.map dpt), .lst (L.map dpt)]), .no, .no, a15, a16, a17] E := by
  rw [← rx_law_21]
  walk_at "zz"
  refine forL_inv (I := fun items ρ => ∃ (done rest : List (P2 × Rat)) (Y : List P2), cs = done ++ rest ∧ items = rest.map dCut ∧ Cuts L done Y ∧ (Y ≠ [] → Grid 201 (8 + 2 * done.length) Y) ∧ ρ = [a0, a1, a2, a3, a4, a5, a6, a7, a8, a9, a10, .fz (.lst (cs.map dCut)), .ow 1 (.lst [.lst (Y.map dpt), .lst (L.map dpt)]), .no, .no, a15, a16, a17]) (fun ρ hI => ?_) (fun e2 es ρ P hP hI => ?_) _ _ ⟨[], cs, L, rfl, rfl, Cuts.nil L, fun _ => (Grid.of hL sL lL).le (by decide) (by simp), rfl⟩
  · obtain ⟨done, rest, Y, e1, e3, hY, _, rfl⟩ := hI
    have r0 : rest = [] := List.map_eq_nil_iff.mp e3.symm
    rw [r0, List.append_nil] at e1
    subst e1
    exact k30_rev _ _ _ _ _ _ _ _ _ _ _ _ _ _ L Y cs hL lL sL lc hc hY E hE
  · obtain ⟨done, rest, Y, e1, e3, hY, gY, rfl⟩ := hI
    cases rest with
    | nil => cases e3
    | cons c rest =>
      rw [List.map_cons] at e3
      obtain ⟨rfl, rfl⟩ := List.cons.inj e3
      have dl : done.length + 1 ≤ 3 := by
        have := congrArg List.length e1
        rw [List.length_append, List.length_cons] at this
        omega
      have hm : c ∈ cs := by rw [e1]; simp
      obtain ⟨c1, c2⟩ := c
      unfold dCut
      walk_at "z"
      show rBW [13, 14] rd_law_22 [a0, a1, a2, a3, a4, a5, a6, a7, a8, a9, a10, .fz (.lst (cs.map dCut)), .ow 1 (.lst [.lst (Y.map dpt), .lst (L.map dpt)]), .fz (dpt c1), .fz (dq c2), a15, a16, a17] _
      unfold rBW
      refine k30_22 _ _ _ _ _ _ _ _ _ _ _ _ _ _ _ Y L c1 c2 (8 + 2 * done.length) (by omega) (hc _ hm).1 (hc _ hm).2 gY _ fun M hM gM => ?_
      exact ⟨rfl, hP _ ⟨done ++ [(c1, c2)], rest, M, by rw [e1, List.append_assoc]; rfl, rfl, hY.snoc hM, fun z => (gM z).le (Nat.le_refl _) (by rw [List.length_append, List.length_singleton]; omega), rfl⟩⟩
theorem k30_19 (ns : List Int) (k : Int) (t : Tp) (a5 a6 a7 a8 x9 x10 : Sl) (A B : List P2) (hA : Fig A A) (lA : A.length ≤ 8) (sA : ∀ c ∈ A, smallP 50 c) (ht : t.ok 100) (E : EN)
    (hE : ∀ (t' : Tp) (d11 d12 : D), E.nx [.fz (.scr ns), .fz (.int k), .ow 1 (dT t'), .fz (.lst (A.map dpt)), .fz (.lst (B.map dpt)), a5, a6, a7, a8, x9, x10, .fz d11, .ow 1 d12, .no, .no, .no, .no, .no]) :
    rd_law_19 [.fz (.scr ns), .fz (.int k), .ow 1 (dT t), .fz (.lst (A.map dpt)), .fz (.lst (B.map dpt)), a5, a6, a7, a8, x9, x10, .no, .no, .no, .no, .no, .no, .no] E := by
  rw [← rx_law_19]
  refine ⟨⟨by decide, by decide⟩, ?_⟩
  refine ⟨rfl, ?_⟩
  show lcL _ _ _ _ ((List.range 3).map fun (i : Nat) => D.int (0 + (i : Int))) [.fz (.scr ns), .fz (.int k), .ow 1 (dT t), .fz (.lst (A.map dpt)), .fz (.lst (B.map dpt)), a5, a6, a7, a8, x9, x10, .no, .no, .no, .no, .no, .no, .no] [] _
  refine lcL_fold (g := fun (i : Nat) => D.int (0 + (i : Int))) (f := dCut) (st := fun t : Tp => [.fz (.scr ns), .fz (.int k), .ow 1 (dT t), .fz (.lst (A.map dpt)), .fz (.lst (B.map dpt)), a5, a6, a7, a8, x9, x10, .no, .no, .no, .no, .no, .no, .no]) (P := fun t ys zs => t.ok (20 + 20 * zs.length) ∧ ys.length + zs.length = 3 ∧ ∀ c ∈ ys, smallP 21 c.1 ∧ wt c.2 ≤ 21)
    (fun t ys x xs hP => by have := hP.2.1; omega) (fun t ys x xs m K N' hm hP hK => ?_) (List.range 3) t _ ⟨ht.le (by decide), rfl, fun y hy => absurd hy List.not_mem_nil⟩ rfl (fun t6 ys ρ hP hρ => ?_)
  · obtain ⟨q1, q2, q3⟩ := hP
    rw [List.length_cons] at q1 q2
    walk_at "z"
    refine sp_l_point.mk (t := t) (30 + 20 * xs.length) (q1.le (by omega)) fun p1 t1 hp1 ht1 => ?_
    walk_at "z"
    refine sp_l_number.mk (t := t1) (20 + 20 * xs.length) (ht1.le (by omega)) fun b1 t2 hb1 ht2 => ?_
    walk_at "z"
    refine ⟨hm, hK t2 (p1, b1) ⟨ht2, by rw [List.length_append, List.length_singleton]; omega, fun y hy => ?_⟩ _ rfl⟩
    rcases List.mem_append.mp hy with hy | hy
    · exact q3 y hy
    · rw [List.mem_singleton.mp hy]; exact ⟨hp1, hb1⟩
  obtain ⟨_, ln, q3⟩ := hP
  rw [List.length_nil, Nat.add_zero] at ln
  rw [restE_wipe, hρ]
  walk_at "z"
  show rd_law_20 [.fz (.scr ns), .fz (.int k), .ow 1 (dT t6), .fz (.lst (A.map dpt)), .fz (.lst (B.map dpt)), a5, a6, a7, a8, x9, x10, .ow 1 (.lst (ys.map dCut)), .no, .no, .no, .no, .no, .no] _
  rw [← rx_law_20]
  walk_at "z"
  refine lit18 rfl ?_
  exact k30_21 _ _ _ _ _ _ _ _ _ _ _ _ _ _ A ys hA lA sA (by omega) q3 E fun x11 x12 => hE t6 x11 x12
/-- a point lies in both just where it lies in what they have in common -/
theorem k30_16 (a0 a1 a2 a5 a6 a8 : Sl) (A B N : List P2) (hA : Fig A A) (hB : Fig B B) (lA : A.length ≤ 8) (lB : B.length ≤ 8) (sA : ∀ c ∈ A, smallP 50 c) (sB : ∀ c ∈ B, smallP 1200 c) (hN : N ≠ [] → Fig N N ∧ N.length ≤ 100 ∧ ∀ c ∈ N, smallP 20000 c) (hi : ∀ p, (N ≠ [] ∧ Under N p) ↔ (Under A p ∧ Under B p)) (q : P2) (sq : smallP 1200 q) (E : EN)
    (hE : E.nx [a0, a1, a2, .fz (.lst (A.map dpt)), .fz (.lst (B.map dpt)), a5, a6, .fz (.lst (N.map dpt)), a8, .no, .no, .no, .no, .no, .no, .no, .no, .no]) :
    rBW [9, 10] rd_law_16 [a0, a1, a2, .fz (.lst (A.map dpt)), .fz (.lst (B.map dpt)), a5, a6, .fz (.lst (N.map dpt)), a8, .fz (dpt q), .no, .no, .no, .no, .no, .no, .no, .no] E := by
  have fA : fenB A q = true ↔ Under A q := by rw [fen_has hA]; exact hasB_under hA q
  have fB : fenB B q = true ↔ Under B q := by rw [fen_has hB]; exact hasB_under hB q
  unfold rBW
  rw [← rx_law_16]
  have mid : ∀ b : Bool, (b = true ↔ (Under A q ∧ Under B q)) → rd_law_17 [a0, a1, a2, .fz (.lst (A.map dpt)), .fz (.lst (B.map dpt)), a5, a6, .fz (.lst (N.map dpt)), a8, .fz (dpt q), .fz (.bl b), .no, .no, .no, .no, .no, .no, .no] { nx := fun ρ1 => allNo [9, 10] ρ1 = true ∧ E.nx (wipeE [9, 10] ρ1), rt := E.rt, bk := E.bk, ct := fun ρ1 => allNo [9, 10] ρ1 = true ∧ E.ct (wipeE [9, 10] ρ1) } := fun b hb => by
    rw [← rx_law_17]
    by_cases n0 : N = []
    · subst n0
      have : b = false := by
        cases b with
        | false => rfl
        | true => exact absurd rfl ((hi q).mpr (hb.mp rfl)).1
      subst this
      walk_at "z"
      exact hE
    · obtain ⟨f1, f2, f3⟩ := hN n0
      have em : (N.map dpt).isEmpty = false := by
        cases N with
        | nil => exact absurd rfl n0
        | cons _ _ => rfl
      have e : fenB N q = b := by
        rw [Bool.eq_iff_iff, fen_has f1, hasB_under f1, hb, ← hi q]
        exact ⟨fun h => ⟨n0, h⟩, fun h => h.2⟩
      walk_at "z"
      show way (!(N.map dpt).isEmpty) _ _
      rw [em]
      walk_at "z"
      refine sp_has_point.mk n0 (by omega) f3 (sq.le (by decide)) ?_
      rw [e]
      walk_at "z"
      rw [eqb_bl]
      walk_at "z"
      exact hE
  walk_at "z"
  refine sp_has_point.mk hA.ne (by omega) (fun c hc => (sA c hc).le (by decide)) (sq.le (by decide)) ?_
  cases ca : fenB A q with
  | false =>
    walk_at "z"
    refine lit18 rfl ?_
    exact mid false ⟨fun h => Bool.noConfusion h, fun h => by rw [fA.mpr h.1] at ca; cases ca⟩
  | true =>
    walk_at "z"
    refine sp_has_point.mk hB.ne (by omega) (fun c hc => (sB c hc).le (by decide)) (sq.le (by decide)) ?_
    walk_at "z"
    refine lit18 rfl ?_
    exact mid _ ⟨fun h => ⟨fA.mp ca, fB.mp h⟩, fun h => fB.mpr h.2⟩
/-- all corners of what they have in common lie in both -/
theorem k30_12 (a0 a1 a2 a5 a6 x7 : Sl) (A B N : List P2) (hA : Fig A A) (hB : Fig B B) (lA : A.length ≤ 8) (lB : B.length ≤ 8) (sA : ∀ c ∈ A, smallP 50 c) (sB : ∀ c ∈ B, smallP 1200 c) (hN : N ≠ [] → Fig N N ∧ N.length ≤ 100 ∧ ∀ c ∈ N, smallP 20000 c) (hi : ∀ p, (N ≠ [] ∧ Under N p) ↔ (Under A p ∧ Under B p)) (h7 : x7 = .fz (.lst (N.map dpt)) ∨ x7 = .ow 1 (.lst (N.map dpt))) (E : EN)
    (hE : rd_law_15 [a0, a1, a2, .fz (.lst (A.map dpt)), .fz (.lst (B.map dpt)), a5, a6, .fz (.lst (N.map dpt)), .ow 1 (.lst []), .no, .no, .no, .no, .no, .no, .no, .no, .no] E) :
    rd_law_12 [a0, a1, a2, .fz (.lst (A.map dpt)), .fz (.lst (B.map dpt)), a5, a6, x7, .no, .no, .no, .no, .no, .no, .no, .no, .no, .no] E := by
  rw [← rx_law_12]
  have step : ∀ c ∈ N, fenB A c = true ∧ fenB B c = true ∧ smallP 20000 c := fun c hc => by
    have n0 := List.ne_nil_of_mem hc
    obtain ⟨a, b⟩ := (hi c).mp ⟨n0, under_mem hc⟩
    exact ⟨sup_fen a, sup_fen b, (hN n0).2.2 c hc⟩
  rcases h7 with rfl | rfl
  · walk_at "z"
    refine lcL_skip (g := dpt) (ρw := [a0, a1, a2, .fz (.lst (A.map dpt)), .fz (.lst (B.map dpt)), a5, a6, .fz (.lst (N.map dpt)), .no, .no, .no, .no, .no, .no, .no, .no, .no, .no]) rfl (fun c hc Y M hM => ?_) (fun ρ' h' => ?_)
    · obtain ⟨s1, s2, s3⟩ := step c hc
      walk_at "z"
      refine sp_has_point.mk hA.ne (by omega) (fun c hc => (sA c hc).le (by decide)) s3 ?_
      rw [s1]
      walk_at "z"
      refine sp_has_point.mk hB.ne (by omega) (fun c hc => (sB c hc).le (by decide)) s3 ?_
      rw [s2]
      walk_at "z"
      exact hM _ rfl
    · rw [restE_wipe, h']
      walk_at "z"
      refine lit18 rfl ?_
      rw [← rx_law_13]
      walk_at "z"
      exact hE
  · walk_at "z"
    refine lcL_skip (g := dpt) (ρw := [a0, a1, a2, .fz (.lst (A.map dpt)), .fz (.lst (B.map dpt)), a5, a6, .fz (.lst (N.map dpt)), .no, .no, .no, .no, .no, .no, .no, .no, .no, .no]) rfl (fun c hc Y M hM => ?_) (fun ρ' h' => ?_)
    · obtain ⟨s1, s2, s3⟩ := step c hc
      walk_at "z"
      refine sp_has_point.mk hA.ne (by omega) (fun c hc => (sA c hc).le (by decide)) s3 ?_
      rw [s1]
      walk_at "z"
      refine sp_has_point.mk hB.ne (by omega) (fun c hc => (sB c hc).le (by decide)) s3 ?_
      rw [s2]
      walk_at "z"
      exact hM _ rfl
    · rw [restE_wipe, h']
      walk_at "z"
      refine lit18 rfl ?_
      rw [← rx_law_13]
      walk_at "z"
      exact hE
theorem fpr_many30 {L : List P2} (h : 3 ≤ L.length) : (fpr L).length = L.length := by
  match L, h with
  | a :: b :: c :: r, _ =>
    show ((vecs (a :: b :: c :: r)).map rt90).length = _
    unfold vecs
    rw [List.length_map, List.length_map, edL_len]
theorem fpr_four30 {L : List P2} (h0 : L ≠ []) (h : ¬ 3 ≤ L.length) : (fpr L).length ≤ 4 := by
  match L, h0 with
  | [a], _ => show 4 ≤ 4; decide
  | [a, b], _ => show 4 ≤ 4; decide
  | a :: b :: c :: r, _ => exact absurd (by simp) h
theorem by_ok {L O : List P2} (hL : Fig L L) (hO : Fig O O) (lL : L.length ≤ 8) (lO : O.length ≤ 8) (sL : ∀ c ∈ L, smallP 1200 c) (sO : ∀ c ∈ O, smallP 1200 c) : ∃ e m, Grid e 8 L ∧ (∀ pr ∈ fpr O, ∃ l, IsLn pr (htQ pr O) l ∧ LnI e l) ∧ (fpr O).length ≤ m ∧ m ≤ 8 ∧ e ≤ 9000 ∧ 2 * (8 + 2 * m) * (2 * (2 * e + 1) + 1) ≤ 1000000 := by
  have g := Grid.of hL sL lL
  by_cases h : 3 ≤ O.length
  · refine ⟨4801, 8, g.le (by decide) (Nat.le_refl _), fun pr hp => (fence_ln hO sO hp).2.1 h, by rw [fpr_many30 h]; exact lO, Nat.le_refl _, by decide, by decide⟩
  · refine ⟨7202, 4, g.le (by decide) (Nat.le_refl _), fun pr hp => (fence_ln hO sO hp).1, fpr_four30 hO.ne h, by decide, by decide, by decide⟩
theorem k30_15 (ns : List Int) (k : Int) (t : Tp) (a5 a6 : Sl) (A B N : List P2) (hA : Fig A A) (hB : Fig B B) (lA : A.length ≤ 8) (lB : B.length ≤ 8) (sA : ∀ c ∈ A, smallP 50 c) (sB : ∀ c ∈ B, smallP 1200 c) (hN : N ≠ [] → Fig N N ∧ N.length ≤ 100 ∧ ∀ c ∈ N, smallP 20000 c) (hi : ∀ p, (N ≠ [] ∧ Under N p) ↔ (Under A p ∧ Under B p)) (ht : t.ok 1000) (E : EN)
    (hE : ∀ (t' : Tp) (d11 d12 : D), E.nx [.fz (.scr ns), .fz (.int k), .ow 1 (dT t'), .fz (.lst (A.map dpt)), .fz (.lst (B.map dpt)), a5, a6, .fz (.lst (N.map dpt)), .ow 1 (.lst []), .no, .no, .fz d11, .ow 1 d12, .no, .no, .no, .no, .no]) :
    rd_law_15 [.fz (.scr ns), .fz (.int k), .ow 1 (dT t), .fz (.lst (A.map dpt)), .fz (.lst (B.map dpt)), a5, a6, .fz (.lst (N.map dpt)), .ow 1 (.lst []), .no, .no, .no, .no, .no, .no, .no, .no, .no] E := by
  rw [← rx_law_15]
  refine ⟨⟨by decide, by decide⟩, ?_⟩
  refine ⟨rfl, ?_⟩
  show lcL _ _ _ _ ((List.range 8).map fun (i : Nat) => D.int (0 + (i : Int))) [.fz (.scr ns), .fz (.int k), .ow 1 (dT t), .fz (.lst (A.map dpt)), .fz (.lst (B.map dpt)), a5, a6, .fz (.lst (N.map dpt)), .ow 1 (.lst []), .no, .no, .no, .no, .no, .no, .no, .no, .no] [] _
  refine lcL_fold (g := fun (i : Nat) => D.int (0 + (i : Int))) (f := dpt) (st := fun t : Tp => [.fz (.scr ns), .fz (.int k), .ow 1 (dT t), .fz (.lst (A.map dpt)), .fz (.lst (B.map dpt)), a5, a6, .fz (.lst (N.map dpt)), .ow 1 (.lst []), .no, .no, .no, .no, .no, .no, .no, .no, .no]) (P := fun t ys zs => t.ok (200 + 20 * zs.length) ∧ ys.length + zs.length = 8 ∧ ∀ c ∈ ys, smallP 561 c)
    (fun t ys x xs hP => by have := hP.2.1; omega) (fun t ys x xs m K N' hm hP hK => ?_) (List.range 8) t _ ⟨ht.le (by decide), rfl, fun y hy => absurd hy List.not_mem_nil⟩ rfl (fun t6 ys ρ hP hρ => ?_)
  · obtain ⟨q1, q2, q3⟩ := hP
    rw [List.length_cons] at q1 q2
    walk_at "z"
    refine sp_l_between.mk (t := t) 50 (200 + 20 * xs.length) hA.ne (by omega) (by decide) sA (q1.le (by omega)) fun q t1 hq sq ht1 => ?_
    have sq : smallP 561 q := sq.le (by have : A.length * (50 + 20) ≤ 8 * (50 + 20) := Nat.mul_le_mul_right _ lA
                                        omega)
    walk_at "z"
    refine ⟨hm, hK t1 q ⟨ht1, by rw [List.length_append, List.length_singleton]; omega, fun y hy => ?_⟩ _ rfl⟩
    rcases List.mem_append.mp hy with hy | hy
    · exact q3 y hy
    · rw [List.mem_singleton.mp hy]; exact sq
  obtain ⟨ht6, ln, q3⟩ := hP
  rw [List.length_nil, Nat.add_zero] at ln
  rw [restE_wipe, hρ]
  walk_at "zz"
  refine ⟨Nat.le_of_lt (small6 (by rw [List.length_map, List.length_map]; omega)), ?_⟩
  walk_at "zz"
  refine ⟨Nat.le_of_lt (small6 (by rw [List.length_append, List.length_map, List.length_map, List.length_map]; omega)), ?_⟩
  walk_at "zz"
  refine forL_inv (I := fun items ρ => ρ = [.fz (.scr ns), .fz (.int k), .ow 1 (dT t6), .fz (.lst (A.map dpt)), .fz (.lst (B.map dpt)), a5, a6, .fz (.lst (N.map dpt)), .ow 1 (.lst []), .no, .no, .no, .no, .no, .no, .no, .no, .no] ∧ ∀ e ∈ items, ∃ q, e = dpt q ∧ smallP 1200 q) (fun ρ hI => ?_) (fun e2 es ρ P hP hI => ?_) _ _ ⟨rfl, fun e he => ?_⟩
  · obtain ⟨rfl, _⟩ := hI
    exact k30_19 ns k t6 _ _ _ _ _ _ A B hA lA sA (ht6.le (by decide)) E hE
  · obtain ⟨rfl, hes⟩ := hI
    obtain ⟨q, rfl, sq⟩ := hes e2 (by simp)
    walk_at "z"
    exact k30_16 _ _ _ _ _ _ A B N hA hB lA lB sA sB hN hi q sq _ (hP _ ⟨rfl, fun e' h' => hes e' (List.mem_cons_of_mem _ h')⟩)
  · rcases List.mem_append.mp he with he | he
    · rcases List.mem_append.mp he with he | he
      · obtain ⟨q, hq, rfl⟩ := List.mem_map.mp he
        exact ⟨q, rfl, (q3 q hq).le (by decide)⟩
      · obtain ⟨q, hq, rfl⟩ := List.mem_map.mp he
        exact ⟨q, rfl, (sA q hq).le (by decide)⟩
    · obtain ⟨q, hq, rfl⟩ := List.mem_map.mp he
      exact ⟨q, rfl, sB q hq⟩
theorem k30_9 (ns : List Int) (k : Int) (t : Tp) (a5 a6 : Sl) (A B : List P2) (hA : Fig A A) (hB : Fig B B) (lA : A.length ≤ 8) (lB : B.length ≤ 8) (sA : ∀ c ∈ A, smallP 50 c) (sB : ∀ c ∈ B, smallP 1200 c) (ht : t.ok 1000) (E : EN)
    (hE : ∀ (t' : Tp) (d7 d8 d11 d12 : D), E.nx [.fz (.scr ns), .fz (.int k), .ow 1 (dT t'), .fz (.lst (A.map dpt)), .fz (.lst (B.map dpt)), a5, a6, .fz d7, .ow 1 d8, .no, .no, .fz d11, .ow 1 d12, .no, .no, .no, .no, .no]) :
    rd_law_9 [.fz (.scr ns), .fz (.int k), .ow 1 (dT t), .fz (.lst (A.map dpt)), .fz (.lst (B.map dpt)), a5, a6, .no, .no, .no, .no, .no, .no, .no, .no, .no, .no, .no] E := by
  have sA2 : ∀ c ∈ A, smallP 1200 c := fun c hc => (sA c hc).le (by decide)
  obtain ⟨e, m, g, g1, g2, g3, g4, g5⟩ := by_ok hA hB lA lB sA2 sB
  obtain ⟨e', m', f, f1, f2, f3, f4, f5⟩ := by_ok hB hA lB lA sB sA2
  rw [← rx_law_9]
  walk_at "z"
  refine sp_l_by_fence.mk e 8 m g hB (by omega) (fun c hc => (sB c hc).le (by decide)) g1 g2 (by omega) g4 g5 fun N j hj hc hg => ?_
  obtain ⟨n1, n2⟩ := fcuts_in hA hB hc
  have hN : N ≠ [] → Fig N N ∧ N.length ≤ 100 ∧ ∀ c ∈ N, smallP 20000 c := fun n0 => ⟨n1 n0, Nat.le_trans (hg n0).len (by omega), fun c hc => ((hg n0).sm c hc).le (by omega)⟩
  have go : ∀ x7 : Sl, (x7 = .fz (.lst (N.map dpt)) ∨ x7 = .ow 1 (.lst (N.map dpt))) → rd_law_10 [.fz (.scr ns), .fz (.int k), .ow 1 (dT t), .fz (.lst (A.map dpt)), .fz (.lst (B.map dpt)), a5, a6, x7, .no, .no, .no, .no, .no, .no, .no, .no, .no, .no] E := fun x7 h7 => by
    have go2 := k30_12 (.fz (.scr ns)) (.fz (.int k)) (.ow 1 (dT t)) a5 a6 x7 A B N hA hB lA lB sA sB hN n2 h7 E (k30_15 ns k t a5 a6 A B N hA hB lA lB sA sB hN n2 ht E fun t' x11 x12 => hE t' _ _ x11 x12)
    rw [← rx_law_10]
    rcases h7 with rfl | rfl
    · walk_at "z"
      refine sp_l_by_fence.mk e' 8 m' f hA (by omega) (fun c hc => (sA c hc).le (by decide)) f1 f2 (by omega) f4 f5 fun N2 j2 hj2 hc2 _ => ?_
      rw [← fcuts_eq hA hB hc hc2]
      walk_at "z"
      refine ⟨lst_ok, lst_ok, ?_⟩
      rw [eqb_pts2, decide_eq_true rfl]
      walk_at "z"
      exact go2
    · walk_at "z"
      refine sp_l_by_fence.mk e' 8 m' f hA (by omega) (fun c hc => (sA c hc).le (by decide)) f1 f2 (by omega) f4 f5 fun N2 j2 hj2 hc2 _ => ?_
      rw [← fcuts_eq hA hB hc hc2]
      walk_at "z"
      refine ⟨lst_ok, lst_ok, ?_⟩
      rw [eqb_pts2, decide_eq_true rfl]
      walk_at "z"
      exact go2
  rcases hj with rfl | rfl
  · walk_at "z"
    refine lit18 rfl ?_
    exact go _ (.inl rfl)
  · walk_at "z"
    refine lit18 rfl ?_
    exact go _ (.inr rfl)
theorem k30_7 (ns : List Int) (k : Int) (t : Tp) (a5 a6 x3 x4 : Sl) (A B : List P2) (hA : Fig A A) (hB : Fig B B) (lA : A.length ≤ 8) (lB : B.length ≤ 8) (sA : ∀ c ∈ A, smallP 50 c) (sB : ∀ c ∈ B, smallP 1200 c) (ht : t.ok 2000) (h3 : x3 = .fz (.lst (A.map dpt))) (h4 : x4 = .fz (.lst (B.map dpt)) ∨ x4 = .ow 1 (.lst (B.map dpt))) (E : EN)
    (hE : ∀ (t' : Tp) (d7 d8 d11 d12 : D), E.nx [.fz (.scr ns), .fz (.int k), .ow 1 (dT t'), .fz (.lst (A.map dpt)), .fz (.lst (B.map dpt)), a5, a6, .fz d7, .ow 1 d8, .no, .no, .fz d11, .ow 1 d12, .no, .no, .no, .no, .no]) :
    rd_law_7 [.fz (.scr ns), .fz (.int k), .ow 1 (dT t), x3, x4, a5, a6, .no, .no, .no, .no, .no, .no, .no, .no, .no, .no, .no] E := by
  subst h3
  have sA2 : ∀ c ∈ A, smallP 1200 c := fun c hc => (sA c hc).le (by decide)
  rw [← rx_law_7]
  walk_at "z"
  refine sp_l_own_right.mk hA lA sA2 ?_
  walk_at "z"
  rcases h4 with rfl | rfl
  · walk_at "z"
    refine sp_l_own_right.mk hB lB sB ?_
    walk_at "z"
    refine sp_l_parted_right.mk (t := t) 1000 hA lA sA (ht.le (by decide)) fun t1 ht1 => ?_
    walk_at "z"
    refine lit18 rfl ?_
    exact k30_9 ns k t1 a5 a6 A B hA hB lA lB sA sB ht1 E hE
  · walk_at "z"
    refine sp_l_own_right.mk hB lB sB ?_
    walk_at "z"
    refine sp_l_parted_right.mk (t := t) 1000 hA lA sA (ht.le (by decide)) fun t1 ht1 => ?_
    walk_at "z"
    refine lit18 rfl ?_
    exact k30_9 ns k t1 a5 a6 A B hA hB lA lB sA sB ht1 E hE
theorem k30_4 (ns : List Int) (k : Int) (t : Tp) (A B : List P2) (hA : Fig A A) (hB : Fig B B) (lA : A.length ≤ 8) (lB : B.length ≤ 8) (sA : ∀ c ∈ A, smallP 50 c) (sB : ∀ c ∈ B, smallP 50 c) (ht : t.ok 3000) (E : EN)
    (hE : ∀ (t' : Tp) (B : List P2) (a5 a6 : Sl) (d7 d8 d11 d12 : D), ((a5 = .no ∧ a6 = .no) ∨ ∃ d e, a5 = .fz d ∧ a6 = .fz e) → E.nx [.fz (.scr ns), .fz (.int k), .ow 1 (dT t'), .fz (.lst (A.map dpt)), .fz (.lst (B.map dpt)), a5, a6, .fz d7, .ow 1 d8, .no, .no, .fz d11, .ow 1 d12, .no, .no, .no, .no, .no]) :
    rd_law_4 [.fz (.scr ns), .fz (.int k), .ow 1 (dT t), .fz (.lst (A.map dpt)), .fz (.lst (B.map dpt)), .no, .no, .no, .no, .no, .no, .no, .no, .no, .no, .no, .no, .no] E := by
  rw [← rx_law_4]
  walk_at "z"
  refine sp_l_draw.mk' (t := t) 2900 (ht.le (by decide)) (by decide) (by decide) fun a t1 a0 a1 ht1 => ?_
  walk_at "z"
  rw [eqb_int]
  by_cases c : a = 0
  · rw [decide_eq_true c]
    walk_at "z"
    refine sp_l_between.mk (t := t1) 50 2800 hB.ne (by omega) (by decide) sB (ht1.le (by omega)) fun p t2 hp sp ht2 => ?_
    have sp : smallP 561 p := sp.le (by have : B.length * (50 + 20) ≤ 8 * (50 + 20) := Nat.mul_le_mul_right _ lB
                                        omega)
    walk_at "z"
    refine sp_l_between.mk (t := t2) 50 2700 hA.ne (by omega) (by decide) sA (ht2.le (by omega)) fun q t3 hq sq ht3 => ?_
    have sq : smallP 561 q := sq.le (by have : A.length * (50 + 20) ≤ 8 * (50 + 20) := Nat.mul_le_mul_right _ lA
                                        omega)
    walk_at "z"
    refine lit18 rfl ?_
    rw [← rx_law_6]
    unfold dpt
    walk_at "z"
    refine sp_minus.mk (by have := sp.1; have := sq.1; omega) ?_
    walk_at "z"
    refine sp_minus.mk (by have := sp.2; have := sq.2; omega) ?_
    walk_at "z"
    have sm : smallP 1123 (sb q p) := (sq.sb sp).le (by decide)
    show sp_moved [.lst (B.map dpt), dpt (sb q p)] _
    refine sp_moved.mk (by omega) (fun c hc => (sB c hc).le (by decide)) (sm.le (by decide)) ?_
    have hm : Fig (movP B (sb q p)) (movP B (sb q p)) := (fig_mv (sb q p) hB).self
    have lm : (movP B (sb q p)).length ≤ 8 := by unfold movP; rw [List.length_map]; exact lB
    have sB2 : ∀ c ∈ movP B (sb q p), smallP 1200 c := fun c hc => by
      obtain ⟨x, hx, rfl⟩ := List.mem_map.mp hc
      exact ((sB x hx).ad sm).le (by decide)
    walk_at "z"
    refine lit18 rfl ?_
    exact k30_7 ns k t3 _ _ _ _ A (movP B (sb q p)) hA hm lA lm sA sB2 (ht3.le (by decide)) rfl (.inr rfl) E fun t' x7 x8 x11 x12 => hE t' _ _ _ x7 x8 x11 x12 (.inr ⟨_, _, rfl, rfl⟩)
  · rw [decide_eq_false c]
    walk_at "z"
    refine lit18 rfl ?_
    exact k30_7 ns k t1 _ _ _ _ A B hA hB lA lB sA (fun c hc => (sB c hc).le (by decide)) (ht1.le (by decide)) rfl (.inl rfl) E fun t' x7 x8 x11 x12 => hE t' _ _ _ x7 x8 x11 x12 (.inl ⟨rfl, rfl⟩)
theorem hull_small {ps L : List P2} (h : Fig ps L) (l : ps.length ≤ 8) (s : ∀ p ∈ ps, smallP 50 p) : Fig L L ∧ L.length ≤ 8 ∧ ∀ c ∈ L, smallP 50 c :=
  ⟨h.self, Nat.le_trans (nd_len h.nodup h.sub) l, fun c hc => s c (h.sub c hc)⟩
theorem k30_2 (ns : List Int) (hbits : ∀ n ∈ ns, bl n.natAbs ≤ 2000000) : ∀ (E : EN) (k : Int), 0 ≤ k → k ≤ 1000 → E.nx [.fz (.scr ns), .no, .no, .no, .no, .no, .no, .no, .no, .no, .no, .no, .no, .no, .no, .no, .no, .no] →
    rBW [1, 2, 3, 4, 5, 6, 7, 8, 9, 10, 11, 12, 13, 14] rd_law_2 [.fz (.scr ns), .fz (.int k), .no, .no, .no, .no, .no, .no, .no, .no, .no, .no, .no, .no, .no, .no, .no, .no] E := by
  intro E k k0 k1 hE
  unfold rBW
  rw [← rx_law_2]
  walk_at "z"
  refine sp_l_begun.mk k0 k1 hbits fun t ht => ?_
  walk_at "z"
  refine lit18 rfl ?_
  rw [← rx_law_3]
  walk_at "z"
  refine sp_l_points.mk (t := t) (m := 8) 5000 (by decide) (by decide) (ht.of (by decide)) fun ps t1 l1 l2 hs ht1 => ?_
  walk_at "z"
  refine sp_hull.mk (fun z => by rw [z] at l1; cases l1) (by omega) (Nat.le_trans (pw_le hs) (Nat.le_trans (Nat.mul_le_mul_right _ l2) (by decide))) fun A hA => ?_
  obtain ⟨A1, A2, A3⟩ := hull_small hA l2 hs
  walk_at "z"
  refine sp_l_points.mk (t := t1) (m := 8) 4000 (by decide) (by decide) (ht1.le (by decide)) fun qs t2 m1 m2 hq ht2 => ?_
  walk_at "z"
  refine sp_hull.mk (fun z => by rw [z] at m1; cases m1) (by omega) (Nat.le_trans (pw_le hq) (Nat.le_trans (Nat.mul_le_mul_right _ m2) (by decide))) fun B hB => ?_
  obtain ⟨B1, B2, B3⟩ := hull_small hB m2 hq
  walk_at "z"
  refine lit18 rfl ?_
  exact k30_4 ns k t2 A B A1 B1 A2 B2 A3 B3 (ht2.le (by decide)) _ fun t' B a5 a6 d7 d8 d11 d12 h56 => by
    rcases h56 with ⟨rfl, rfl⟩ | ⟨d, e, rfl, rfl⟩
    · exact ⟨rfl, hE⟩
    · exact ⟨rfl, hE⟩
theorem rp_law (ds : List D) (R : RR) (hl : ds.length = 1) (h : sp_law ds R) : rd_law (rho0 [false] 0 ds ++ List.replicate (18 - 1) .no) (endsOf [false] R) := by
  unfold sp_law at h
  obtain ⟨ns, rfl, hlen, hbits, hR⟩ := h
  show rd_law [.fz (.scr ns), .no, .no, .no, .no, .no, .no, .no, .no, .no, .no, .no, .no, .no, .no, .no, .no, .no] _
  walk_at "zz"
  refine ⟨by omega, ?_⟩
  walk_at "zz"
  refine forL_inv (I := fun items ρ => ρ = [.fz (.scr ns), .no, .no, .no, .no, .no, .no, .no, .no, .no, .no, .no, .no, .no, .no, .no, .no, .no] ∧ ∀ e ∈ items, ∃ k : Nat, e = .int k ∧ k < 1000) (fun ρ hI => ?_) (fun e es ρ P hP hI => ?_) _ _ ⟨rfl, fun e he => ?_⟩
  · obtain ⟨rfl, _⟩ := hI
    rw [← rx_law_27]
    exact ⟨_, rfl, hR⟩
  · obtain ⟨rfl, hes⟩ := hI
    obtain ⟨k, rfl, hk⟩ := hes e (by simp)
    refine ⟨rfl, ?_⟩
    exact k30_2 ns hbits _ k (by omega) (by omega) (hP _ ⟨rfl, fun e' h' => hes e' (List.mem_cons_of_mem _ h')⟩)
  · obtain ⟨k, rfl, hk⟩ := mem_range he
    exact ⟨k, rfl, by omega⟩
end VL

namespace VL
open PySem PySem.Spec PyProof.Rows L2
def topS (i : Nat) : Stmt := PySem.Challenge.pw_rimplans_k30_whole_fences_say_all.main.body.getD i (.Pass ⟨0, 0, 0, 0⟩)
abbrev s_divisor_of : Stmt := topS 6
theorem sc_divisor_of : FnScope ["one", "other"] ["one", "other"] (defScope s_divisor_of) := ⟨rfl, rfl, rfl, by decide +kernel, rfl, by decide +kernel, by decide +kernel⟩
theorem bd_divisor_of : BindArgs "divisor_of" s_divisor_of ["one", "other"] := fun _ _ _ _ _ _ us hl => match us, hl with | [_, _], _ => rfl
abbrev s_part_at : Stmt := topS 7
theorem sc_part_at : FnScope ["top", "bottom", "divisor"] ["top", "bottom"] (defScope s_part_at) := ⟨rfl, rfl, rfl, by decide +kernel, rfl, by decide +kernel, by decide +kernel⟩
theorem bd_part_at : BindArgs "part_at" s_part_at ["top", "bottom"] := fun _ _ _ _ _ _ us hl => match us, hl with | [_, _], _ => rfl
abbrev s_plus : Stmt := topS 8
theorem sc_plus : FnScope ["a", "b"] ["a", "b"] (defScope s_plus) := ⟨rfl, rfl, rfl, by decide +kernel, rfl, by decide +kernel, by decide +kernel⟩
theorem bd_plus : BindArgs "plus" s_plus ["a", "b"] := fun _ _ _ _ _ _ us hl => match us, hl with | [_, _], _ => rfl
abbrev s_minus : Stmt := topS 9
theorem sc_minus : FnScope ["a", "b"] ["a", "b"] (defScope s_minus) := ⟨rfl, rfl, rfl, by decide +kernel, rfl, by decide +kernel, by decide +kernel⟩
theorem bd_minus : BindArgs "minus" s_minus ["a", "b"] := fun _ _ _ _ _ _ us hl => match us, hl with | [_, _], _ => rfl
abbrev s_times : Stmt := topS 10
theorem sc_times : FnScope ["a", "b"] ["a", "b"] (defScope s_times) := ⟨rfl, rfl, rfl, by decide +kernel, rfl, by decide +kernel, by decide +kernel⟩
theorem bd_times : BindArgs "times" s_times ["a", "b"] := fun _ _ _ _ _ _ us hl => match us, hl with | [_, _], _ => rfl
abbrev s_over : Stmt := topS 11
theorem sc_over : FnScope ["a", "b"] ["a", "b"] (defScope s_over) := ⟨rfl, rfl, rfl, by decide +kernel, rfl, by decide +kernel, by decide +kernel⟩
theorem bd_over : BindArgs "over" s_over ["a", "b"] := fun _ _ _ _ _ _ us hl => match us, hl with | [_, _], _ => rfl
abbrev s_is_less : Stmt := topS 12
theorem sc_is_less : FnScope ["a", "b"] ["a", "b"] (defScope s_is_less) := ⟨rfl, rfl, rfl, by decide +kernel, rfl, by decide +kernel, by decide +kernel⟩
theorem bd_is_less : BindArgs "is_less" s_is_less ["a", "b"] := fun _ _ _ _ _ _ us hl => match us, hl with | [_, _], _ => rfl
abbrev s_sum_of : Stmt := topS 13
theorem sc_sum_of : FnScope ["parts", "found", "part"] ["parts"] (defScope s_sum_of) := ⟨rfl, rfl, rfl, by decide +kernel, rfl, by decide +kernel, by decide +kernel⟩
theorem bd_sum_of : BindArgs "sum_of" s_sum_of ["parts"] := fun _ _ _ _ _ _ us hl => match us, hl with | [_], _ => rfl
abbrev s_added : Stmt := topS 15
theorem sc_added : FnScope ["one", "other", "a", "b"] ["one", "other"] (defScope s_added) := ⟨rfl, rfl, rfl, by decide +kernel, rfl, by decide +kernel, by decide +kernel⟩
theorem bd_added : BindArgs "added" s_added ["one", "other"] := fun _ _ _ _ _ _ us hl => match us, hl with | [_, _], _ => rfl
abbrev s_scaled : Stmt := topS 16
theorem sc_scaled : FnScope ["worth", "part", "a"] ["worth", "part"] (defScope s_scaled) := ⟨rfl, rfl, rfl, by decide +kernel, rfl, by decide +kernel, by decide +kernel⟩
theorem bd_scaled : BindArgs "scaled" s_scaled ["worth", "part"] := fun _ _ _ _ _ _ us hl => match us, hl with | [_, _], _ => rfl
abbrev s_priced : Stmt := topS 17
theorem sc_priced : FnScope ["prices", "worth", "price", "part"] ["prices", "worth"] (defScope s_priced) := ⟨rfl, rfl, rfl, by decide +kernel, rfl, by decide +kernel, by decide +kernel⟩
theorem bd_priced : BindArgs "priced" s_priced ["prices", "worth"] := fun _ _ _ _ _ _ us hl => match us, hl with | [_, _], _ => rfl
abbrev s_shared_bottom : Stmt := topS 19
theorem sc_shared_bottom : FnScope ["points", "found", "point", "top", "bottom"] ["points"] (defScope s_shared_bottom) := ⟨rfl, rfl, rfl, by decide +kernel, rfl, by decide +kernel, by decide +kernel⟩
theorem bd_shared_bottom : BindArgs "shared_bottom" s_shared_bottom ["points"] := fun _ _ _ _ _ _ us hl => match us, hl with | [_], _ => rfl
abbrev s_by_whole : Stmt := topS 20
theorem sc_by_whole : FnScope ["points", "bottom", "x", "y"] ["points"] (defScope s_by_whole) := ⟨rfl, rfl, rfl, by decide +kernel, rfl, by decide +kernel, by decide +kernel⟩
theorem bd_by_whole : BindArgs "by_whole" s_by_whole ["points"] := fun _ _ _ _ _ _ us hl => match us, hl with | [_], _ => rfl
abbrev s_is_left : Stmt := topS 21
theorem sc_is_left : FnScope ["one", "two", "three"] ["one", "two", "three"] (defScope s_is_left) := ⟨rfl, rfl, rfl, by decide +kernel, rfl, by decide +kernel, by decide +kernel⟩
theorem bd_is_left : BindArgs "is_left" s_is_left ["one", "two", "three"] := fun _ _ _ _ _ _ us hl => match us, hl with | [_, _, _], _ => rfl
abbrev s_half_of : Stmt := topS 22
theorem sc_half_of : FnScope ["points", "found", "point"] ["points"] (defScope s_half_of) := ⟨rfl, rfl, rfl, by decide +kernel, rfl, by decide +kernel, by decide +kernel⟩
theorem bd_half_of : BindArgs "half_of" s_half_of ["points"] := fun _ _ _ _ _ _ us hl => match us, hl with | [_], _ => rfl
abbrev s_hull : Stmt := topS 23
theorem sc_hull : FnScope ["points", "table", "wholes", "corners", "corner"] ["points"] (defScope s_hull) := ⟨rfl, rfl, rfl, by decide +kernel, rfl, by decide +kernel, by decide +kernel⟩
theorem bd_hull : BindArgs "hull" s_hull ["points"] := fun _ _ _ _ _ _ us hl => match us, hl with | [_], _ => rfl
abbrev s_moved : Stmt := topS 24
theorem sc_moved : FnScope ["figure", "point", "corner"] ["figure", "point"] (defScope s_moved) := ⟨rfl, rfl, rfl, by decide +kernel, rfl, by decide +kernel, by decide +kernel⟩
theorem bd_moved : BindArgs "moved" s_moved ["figure", "point"] := fun _ _ _ _ _ _ us hl => match us, hl with | [_, _], _ => rfl
abbrev s_edges : Stmt := topS 25
theorem sc_edges : FnScope ["figure", "one", "other"] ["figure"] (defScope s_edges) := ⟨rfl, rfl, rfl, by decide +kernel, rfl, by decide +kernel, by decide +kernel⟩
theorem bd_edges : BindArgs "edges" s_edges ["figure"] := fun _ _ _ _ _ _ us hl => match us, hl with | [_], _ => rfl
abbrev s_joined : Stmt := topS 26
theorem sc_joined : FnScope ["figures", "corners", "figure"] ["figures"] (defScope s_joined) := ⟨rfl, rfl, rfl, by decide +kernel, rfl, by decide +kernel, by decide +kernel⟩
theorem bd_joined : BindArgs "joined" s_joined ["figures"] := fun _ _ _ _ _ _ us hl => match us, hl with | [_], _ => rfl
abbrev s_height_in : Stmt := topS 27
theorem sc_height_in : FnScope ["figure", "prices", "found", "corner", "one"] ["figure", "prices"] (defScope s_height_in) := ⟨rfl, rfl, rfl, by decide +kernel, rfl, by decide +kernel, by decide +kernel⟩
theorem bd_height_in : BindArgs "height_in" s_height_in ["figure", "prices"] := fun _ _ _ _ _ _ us hl => match us, hl with | [_, _], _ => rfl
abbrev s_fence_prices : Stmt := topS 28
theorem sc_fence_prices : FnScope ["figure", "out", "along", "edge"] ["figure"] (defScope s_fence_prices) := ⟨rfl, rfl, rfl, by decide +kernel, rfl, by decide +kernel, by decide +kernel⟩
theorem bd_fence_prices : BindArgs "fence_prices" s_fence_prices ["figure"] := fun _ _ _ _ _ _ us hl => match us, hl with | [_], _ => rfl
abbrev s_fence : Stmt := topS 29
theorem sc_fence : FnScope ["figure", "prices"] ["figure"] (defScope s_fence) := ⟨rfl, rfl, rfl, by decide +kernel, rfl, by decide +kernel, by decide +kernel⟩
theorem bd_fence : BindArgs "fence" s_fence ["figure"] := fun _ _ _ _ _ _ us hl => match us, hl with | [_], _ => rfl
abbrev s_has_point : Stmt := topS 30
theorem sc_has_point : FnScope ["figure", "point", "prices", "height"] ["figure", "point"] (defScope s_has_point) := ⟨rfl, rfl, rfl, by decide +kernel, rfl, by decide +kernel, by decide +kernel⟩
theorem bd_has_point : BindArgs "has_point" s_has_point ["figure", "point"] := fun _ _ _ _ _ _ us hl => match us, hl with | [_, _], _ => rfl
abbrev s_crossing : Stmt := topS 31
theorem sc_crossing : FnScope ["one", "other", "first", "second", "part"] ["one", "other", "first", "second"] (defScope s_crossing) := ⟨rfl, rfl, rfl, by decide +kernel, rfl, by decide +kernel, by decide +kernel⟩
theorem bd_crossing : BindArgs "crossing" s_crossing ["one", "other", "first", "second"] := fun _ _ _ _ _ _ us hl => match us, hl with | [_, _, _, _], _ => rfl
abbrev s_cut : Stmt := topS 32
theorem sc_cut : FnScope ["figure", "prices", "least", "heights", "found", "k", "corner", "height"] ["figure", "prices", "least"] (defScope s_cut) := ⟨rfl, rfl, rfl, by decide +kernel, rfl, by decide +kernel, by decide +kernel⟩
theorem bd_cut : BindArgs "cut" s_cut ["figure", "prices", "least"] := fun _ _ _ _ _ _ us hl => match us, hl with | [_, _, _], _ => rfl
abbrev s_l_begun : Stmt := topS 34
theorem sc_l_begun : FnScope ["_law_script", "_law_k", "_law_cell"] ["_law_script", "_law_k"] (defScope s_l_begun) := ⟨rfl, rfl, rfl, by decide +kernel, rfl, by decide +kernel, by decide +kernel⟩
theorem bd_l_begun : BindArgs "_law_begun" s_l_begun ["_law_script", "_law_k"] := fun _ _ _ _ _ _ us hl => match us, hl with | [_, _], _ => rfl
abbrev s_l_draw : Stmt := topS 35
theorem sc_l_draw : FnScope ["_law_tape", "_law_many", "_law_found", "_law_once", "_law_twice"] ["_law_tape", "_law_many"] (defScope s_l_draw) := ⟨rfl, rfl, rfl, by decide +kernel, rfl, by decide +kernel, by decide +kernel⟩
theorem bd_l_draw : BindArgs "_law_draw" s_l_draw ["_law_tape", "_law_many"] := fun _ _ _ _ _ _ us hl => match us, hl with | [_, _], _ => rfl
abbrev s_l_part : Stmt := topS 36
theorem sc_l_part : FnScope ["_law_top", "_law_bottom", "_law_one", "_law_other", "_law_sign"] ["_law_top", "_law_bottom"] (defScope s_l_part) := ⟨rfl, rfl, rfl, by decide +kernel, rfl, by decide +kernel, by decide +kernel⟩
theorem bd_l_part : BindArgs "_law_part" s_l_part ["_law_top", "_law_bottom"] := fun _ _ _ _ _ _ us hl => match us, hl with | [_, _], _ => rfl
abbrev s_l_plus : Stmt := topS 37
theorem sc_l_plus : FnScope ["_law_a", "_law_b"] ["_law_a", "_law_b"] (defScope s_l_plus) := ⟨rfl, rfl, rfl, by decide +kernel, rfl, by decide +kernel, by decide +kernel⟩
theorem bd_l_plus : BindArgs "_law_plus" s_l_plus ["_law_a", "_law_b"] := fun _ _ _ _ _ _ us hl => match us, hl with | [_, _], _ => rfl
abbrev s_l_minus : Stmt := topS 38
theorem sc_l_minus : FnScope ["_law_a", "_law_b"] ["_law_a", "_law_b"] (defScope s_l_minus) := ⟨rfl, rfl, rfl, by decide +kernel, rfl, by decide +kernel, by decide +kernel⟩
theorem bd_l_minus : BindArgs "_law_minus" s_l_minus ["_law_a", "_law_b"] := fun _ _ _ _ _ _ us hl => match us, hl with | [_, _], _ => rfl
abbrev s_l_times : Stmt := topS 39
theorem sc_l_times : FnScope ["_law_a", "_law_b"] ["_law_a", "_law_b"] (defScope s_l_times) := ⟨rfl, rfl, rfl, by decide +kernel, rfl, by decide +kernel, by decide +kernel⟩
theorem bd_l_times : BindArgs "_law_times" s_l_times ["_law_a", "_law_b"] := fun _ _ _ _ _ _ us hl => match us, hl with | [_, _], _ => rfl
abbrev s_l_added : Stmt := topS 40
theorem sc_l_added : FnScope ["_law_one", "_law_other", "_law_a", "_law_b"] ["_law_one", "_law_other"] (defScope s_l_added) := ⟨rfl, rfl, rfl, by decide +kernel, rfl, by decide +kernel, by decide +kernel⟩
theorem bd_l_added : BindArgs "_law_added" s_l_added ["_law_one", "_law_other"] := fun _ _ _ _ _ _ us hl => match us, hl with | [_, _], _ => rfl
abbrev s_l_scaled : Stmt := topS 41
theorem sc_l_scaled : FnScope ["_law_worth", "_law_part_here", "_law_a"] ["_law_worth", "_law_part_here"] (defScope s_l_scaled) := ⟨rfl, rfl, rfl, by decide +kernel, rfl, by decide +kernel, by decide +kernel⟩
theorem bd_l_scaled : BindArgs "_law_scaled" s_l_scaled ["_law_worth", "_law_part_here"] := fun _ _ _ _ _ _ us hl => match us, hl with | [_, _], _ => rfl
abbrev s_l_priced_22395e : Stmt := topS 42
theorem sc_l_priced_22395e : FnScope ["_law_prices", "_law_worth", "_law_found", "_law_a", "_law_b"] ["_law_prices", "_law_worth"] (defScope s_l_priced_22395e) := ⟨rfl, rfl, rfl, by decide +kernel, rfl, by decide +kernel, by decide +kernel⟩
theorem bd_l_priced_22395e : BindArgs "_law_priced" s_l_priced_22395e ["_law_prices", "_law_worth"] := fun _ _ _ _ _ _ us hl => match us, hl with | [_, _], _ => rfl
abbrev s_l_number : Stmt := topS 43
theorem sc_l_number : FnScope ["_law_tape", "_law_way", "_law_small", "_law_bottom"] ["_law_tape"] (defScope s_l_number) := ⟨rfl, rfl, rfl, by decide +kernel, rfl, by decide +kernel, by decide +kernel⟩
theorem bd_l_number : BindArgs "_law_number" s_l_number ["_law_tape"] := fun _ _ _ _ _ _ us hl => match us, hl with | [_], _ => rfl
abbrev s_l_point : Stmt := topS 44
theorem sc_l_point : FnScope ["_law_tape"] ["_law_tape"] (defScope s_l_point) := ⟨rfl, rfl, rfl, by decide +kernel, rfl, by decide +kernel, by decide +kernel⟩
theorem bd_l_point : BindArgs "_law_point" s_l_point ["_law_tape"] := fun _ _ _ _ _ _ us hl => match us, hl with | [_], _ => rfl
abbrev s_l_points : Stmt := topS 45
theorem sc_l_points : FnScope ["_law_tape", "_law_most", "_law_way", "_law_many", "_law_found", "_law_base", "_law_step", "_law_turn", "_law_near"] ["_law_tape", "_law_most"] (defScope s_l_points) := ⟨rfl, rfl, rfl, by decide +kernel, rfl, by decide +kernel, by decide +kernel⟩
theorem bd_l_points : BindArgs "_law_points" s_l_points ["_law_tape", "_law_most"] := fun _ _ _ _ _ _ us hl => match us, hl with | [_, _], _ => rfl
abbrev s_l_between : Stmt := topS 46
theorem sc_l_between : FnScope ["_law_tape", "_law_points_here", "_law_weights", "_law_whole", "_law_found", "_law_point_here", "_law_weight"] ["_law_tape", "_law_points_here"] (defScope s_l_between) := ⟨rfl, rfl, rfl, by decide +kernel, rfl, by decide +kernel, by decide +kernel⟩
theorem bd_l_between : BindArgs "_law_between" s_l_between ["_law_tape", "_law_points_here"] := fun _ _ _ _ _ _ us hl => match us, hl with | [_, _], _ => rfl
abbrev s_l_turned : Stmt := topS 47
theorem sc_l_turned : FnScope ["_law_prices"] ["_law_prices"] (defScope s_l_turned) := ⟨rfl, rfl, rfl, by decide +kernel, rfl, by decide +kernel, by decide +kernel⟩
theorem bd_l_turned : BindArgs "_law_turned" s_l_turned ["_law_prices"] := fun _ _ _ _ _ _ us hl => match us, hl with | [_], _ => rfl
abbrev s_l_by_fence : Stmt := topS 48
theorem sc_l_by_fence : FnScope ["_law_figure", "_law_other", "_law_found", "_law_prices", "_law_height"] ["_law_figure", "_law_other"] (defScope s_l_by_fence) := ⟨rfl, rfl, rfl, by decide +kernel, rfl, by decide +kernel, by decide +kernel⟩
theorem bd_l_by_fence : BindArgs "_law_by_fence" s_l_by_fence ["_law_figure", "_law_other"] := fun _ _ _ _ _ _ us hl => match us, hl with | [_, _], _ => rfl
abbrev s_l_own_right : Stmt := topS 49
theorem sc_l_own_right : FnScope ["_law_figure", "_law_prices", "_law_height", "_law_side", "_law_corner"] ["_law_figure"] (defScope s_l_own_right) := ⟨rfl, rfl, rfl, by decide +kernel, rfl, by decide +kernel, by decide +kernel⟩
theorem bd_l_own_right : BindArgs "_law_own_right" s_l_own_right ["_law_figure"] := fun _ _ _ _ _ _ us hl => match us, hl with | [_], _ => rfl
abbrev s_l_parted_right : Stmt := topS 50
theorem sc_l_parted_right : FnScope ["_law_tape", "_law_figure", "_law_prices", "_law_at", "_law_least", "_law_one", "_law_other"] ["_law_tape", "_law_figure"] (defScope s_l_parted_right) := ⟨rfl, rfl, rfl, by decide +kernel, rfl, by decide +kernel, by decide +kernel⟩
theorem bd_l_parted_right : BindArgs "_law_parted_right" s_l_parted_right ["_law_tape", "_law_figure"] := fun _ _ _ _ _ _ us hl => match us, hl with | [_, _], _ => rfl
abbrev s_law : Stmt := topS 51
theorem sc_law : FnScope ["_law_script", "_law_k", "_law_tape", "_law_one", "_law_other", "_law_at", "_law_to", "_law_both", "_law_inside", "_law_point_here", "_law_here", "_law_cuts", "_law_found", "_law_prices", "_law_least", "_law_a", "_law_b", "_law_turn"] ["_law_script"] (defScope s_law) := ⟨rfl, rfl, rfl, by decide +kernel, rfl, by decide +kernel, by decide +kernel⟩
theorem bd_law : BindArgs "law" s_law ["_law_script"] := fun _ _ _ _ _ _ us hl => match us, hl with | [_], _ => rfl
theorem ok_divisor_of {P : Program} {w : World} {K : Fg} {mg : Str → Option Value} {base : Heap} (hB : HasSys P base) {f : Addr} {fd : FuncData} (W : Fun K "divisor_of" "divisor_of" s_divisor_of f fd)  : GOk P w K mg base 40 f fd ["one", "other"] (liftSp K [false, false] sp_divisor_of) := by
  have Sc := sc_divisor_of
  refine fn_g (r := rd_divisor_of) W Sc rfl (fun cdv A outer s H E hr hP => ?_) rp_divisor_of
  exact (vss_cons (vs_while PassesOwn.never (vt_cmp op_gt lk_gt (vo_v (pv 1)) (vo_e ve_int) (nomark _)) (vss_one (vs_par (i := 0) (j := 1) rfl Sc.nd rfl rfl (by decide) rfl rfl (ve_var (pv 1)) (ve_md (vo_v (pv 0)) (vo_v (pv 1))) (by rfl))))
    (vss_one (vs_ret (ve_move (pv 0)))))
theorem ok_part_at {P : Program} {w : World} {K : Fg} {mg : Str → Option Value} {base : Heap} (hB : HasSys P base) {f : Addr} {fd : FuncData} (W : Fun K "part_at" "part_at" s_part_at f fd) (m_abs : mg "abs" = none) (W_divisor_of : Fx K mg "divisor_of" s_divisor_of ["one", "other"]) (G_divisor_of : GOk P w K mg base 40 W_divisor_of.f W_divisor_of.fd ["one", "other"] (liftSp K [false, false] sp_divisor_of)) : GOk P w K mg base 41 f fd ["top", "bottom"] (liftSp K [false, false] sp_part_at) := by
  have Sc := sc_part_at
  refine fn_g (r := rd_part_at) W Sc rfl (fun cdv A outer s H E hr hP => ?_) rp_part_at
  exact (vss_cons (vs_set (i := 2) Sc.nd rfl (.inl rfl) (ve_gcall G_divisor_of (hr.mono (by decide)) rfl W_divisor_of.m W_divisor_of.F.kp W_divisor_of.b (vgv (ve_cb (g := gAbs) call_abs lk_abs rfl m_abs bt_abs (va_cons (vo_v (pv 0)) va_nil)) (vgv (ve_cb (g := gAbs) call_abs lk_abs rfl m_abs bt_abs (va_cons (vo_v (pv 1)) va_nil)) vg0))))
    (vss_cons (vs_if (vt_cmp op_lt lk_lt (vo_v (pv 1)) (vo_e ve_int) (nomark _)) (vss_one (vs_set (i := 2) Sc.nd rfl (.inl rfl) (ve_sub (vo_e ve_int) (vo_v (pv 2))))) vss_nil)
    (vss_one (vs_ret (ve_tup (vf_cons (ve_fd hr (by decide) hP hB (vo_v (pv 0)) (vo_v (pv 2))) (vf_cons (ve_fd hr (by decide) hP hB (vo_v (pv 1)) (vo_v (pv 2))) vf_nil)))))))
theorem ok_plus {P : Program} {w : World} {K : Fg} {mg : Str → Option Value} {base : Heap} (hB : HasSys P base) {f : Addr} {fd : FuncData} (W : Fun K "plus" "plus" s_plus f fd) (W_part_at : Fx K mg "part_at" s_part_at ["top", "bottom"]) (G_part_at : GOk P w K mg base 41 W_part_at.f W_part_at.fd ["top", "bottom"] (liftSp K [false, false] sp_part_at)) : GOk P w K mg base 42 f fd ["a", "b"] (liftSp K [false, false] sp_plus) := by
  have Sc := sc_plus
  refine fn_g (r := rd_plus) W Sc rfl (fun cdv A outer s H E hr hP => ?_) rp_plus
  exact (vss_one (vs_ret (ve_gcall G_part_at (hr.mono (by decide)) rfl W_part_at.m W_part_at.F.kp W_part_at.b (vgv (ve_add (vo_e (ve_mul (vo_e (ve_at (vo_v (pv 0)) (vo_e ve_int))) (vo_e (ve_at (vo_v (pv 1)) (vo_e ve_int))))) (vo_e (ve_mul (vo_e (ve_at (vo_v (pv 1)) (vo_e ve_int))) (vo_e (ve_at (vo_v (pv 0)) (vo_e ve_int)))))) (vgv (ve_mul (vo_e (ve_at (vo_v (pv 0)) (vo_e ve_int))) (vo_e (ve_at (vo_v (pv 1)) (vo_e ve_int)))) vg0)))))
theorem ok_minus {P : Program} {w : World} {K : Fg} {mg : Str → Option Value} {base : Heap} (hB : HasSys P base) {f : Addr} {fd : FuncData} (W : Fun K "minus" "minus" s_minus f fd) (W_part_at : Fx K mg "part_at" s_part_at ["top", "bottom"]) (G_part_at : GOk P w K mg base 41 W_part_at.f W_part_at.fd ["top", "bottom"] (liftSp K [false, false] sp_part_at)) : GOk P w K mg base 42 f fd ["a", "b"] (liftSp K [false, false] sp_minus) := by
  have Sc := sc_minus
  refine fn_g (r := rd_minus) W Sc rfl (fun cdv A outer s H E hr hP => ?_) rp_minus
  exact (vss_one (vs_ret (ve_gcall G_part_at (hr.mono (by decide)) rfl W_part_at.m W_part_at.F.kp W_part_at.b (vgv (ve_sub (vo_e (ve_mul (vo_e (ve_at (vo_v (pv 0)) (vo_e ve_int))) (vo_e (ve_at (vo_v (pv 1)) (vo_e ve_int))))) (vo_e (ve_mul (vo_e (ve_at (vo_v (pv 1)) (vo_e ve_int))) (vo_e (ve_at (vo_v (pv 0)) (vo_e ve_int)))))) (vgv (ve_mul (vo_e (ve_at (vo_v (pv 0)) (vo_e ve_int))) (vo_e (ve_at (vo_v (pv 1)) (vo_e ve_int)))) vg0)))))
theorem ok_times {P : Program} {w : World} {K : Fg} {mg : Str → Option Value} {base : Heap} (hB : HasSys P base) {f : Addr} {fd : FuncData} (W : Fun K "times" "times" s_times f fd) (W_part_at : Fx K mg "part_at" s_part_at ["top", "bottom"]) (G_part_at : GOk P w K mg base 41 W_part_at.f W_part_at.fd ["top", "bottom"] (liftSp K [false, false] sp_part_at)) : GOk P w K mg base 42 f fd ["a", "b"] (liftSp K [false, false] sp_times) := by
  have Sc := sc_times
  refine fn_g (r := rd_times) W Sc rfl (fun cdv A outer s H E hr hP => ?_) rp_times
  exact (vss_one (vs_ret (ve_gcall G_part_at (hr.mono (by decide)) rfl W_part_at.m W_part_at.F.kp W_part_at.b (vgv (ve_mul (vo_e (ve_at (vo_v (pv 0)) (vo_e ve_int))) (vo_e (ve_at (vo_v (pv 1)) (vo_e ve_int)))) (vgv (ve_mul (vo_e (ve_at (vo_v (pv 0)) (vo_e ve_int))) (vo_e (ve_at (vo_v (pv 1)) (vo_e ve_int)))) vg0)))))
theorem ok_over {P : Program} {w : World} {K : Fg} {mg : Str → Option Value} {base : Heap} (hB : HasSys P base) {f : Addr} {fd : FuncData} (W : Fun K "over" "over" s_over f fd) (W_part_at : Fx K mg "part_at" s_part_at ["top", "bottom"]) (G_part_at : GOk P w K mg base 41 W_part_at.f W_part_at.fd ["top", "bottom"] (liftSp K [false, false] sp_part_at)) : GOk P w K mg base 42 f fd ["a", "b"] (liftSp K [false, false] sp_over) := by
  have Sc := sc_over
  refine fn_g (r := rd_over) W Sc rfl (fun cdv A outer s H E hr hP => ?_) rp_over
  exact (vss_cons (vs_if (vt_cmp (op_eqD (hu64 hr.rm)) lk_eq (vo_e (ve_at (vo_v (pv 1)) (vo_e ve_int))) (vo_e ve_int) (nomark _)) (vss_one vs_never) vss_nil)
    (vss_one (vs_ret (ve_gcall G_part_at (hr.mono (by decide)) rfl W_part_at.m W_part_at.F.kp W_part_at.b (vgv (ve_mul (vo_e (ve_at (vo_v (pv 0)) (vo_e ve_int))) (vo_e (ve_at (vo_v (pv 1)) (vo_e ve_int)))) (vgv (ve_mul (vo_e (ve_at (vo_v (pv 0)) (vo_e ve_int))) (vo_e (ve_at (vo_v (pv 1)) (vo_e ve_int)))) vg0))))))
theorem ok_is_less {P : Program} {w : World} {K : Fg} {mg : Str → Option Value} {base : Heap} (hB : HasSys P base) {f : Addr} {fd : FuncData} (W : Fun K "is_less" "is_less" s_is_less f fd)  : GOk P w K mg base 40 f fd ["a", "b"] (liftSp K [false, false] sp_is_less) := by
  have Sc := sc_is_less
  refine fn_g (r := rd_is_less) W Sc rfl (fun cdv A outer s H E hr hP => ?_) rp_is_less
  exact (vss_one (vs_ret (ve_cmp op_lt lk_lt (vo_e (ve_mul (vo_e (ve_at (vo_v (pv 0)) (vo_e ve_int))) (vo_e (ve_at (vo_v (pv 1)) (vo_e ve_int))))) (vo_e (ve_mul (vo_e (ve_at (vo_v (pv 1)) (vo_e ve_int))) (vo_e (ve_at (vo_v (pv 0)) (vo_e ve_int))))) (nomark _))))
theorem ok_sum_of {P : Program} {w : World} {K : Fg} {mg : Str → Option Value} {base : Heap} (hB : HasSys P base) {f : Addr} {fd : FuncData} (W : Fun K "sum_of" "sum_of" s_sum_of f fd) {u_ZERO : Value} (c_ZERO : mg "ZERO" = some u_ZERO ∧ KRep K k_ZERO u_ZERO) (W_plus : Fx K mg "plus" s_plus ["a", "b"]) (G_plus : GOk P w K mg base 42 W_plus.f W_plus.fd ["a", "b"] (liftSp K [false, false] sp_plus)) : GOk P w K mg base 43 f fd ["parts"] (liftSp K [false] sp_sum_of) := by
  have Sc := sc_sum_of
  refine fn_g (r := rd_sum_of) W Sc rfl (fun cdv A outer s H E hr hP => ?_) rp_sum_of
  exact (vss_cons (vs_set (i := 1) Sc.nd rfl (.inl rfl) (ve_k rfl c_ZERO))
    (vss_cons (vs_for PassesOwn.never rfl (vi_seq (ve_var (pv 0))) (vg_name Sc.nd rfl (.inl rfl)) (vss_one (vs_set (i := 1) Sc.nd rfl (.inl rfl) (ve_gcall G_plus (hr.mono (by decide)) rfl W_plus.m W_plus.F.kp W_plus.b (vgv (ve_var (pv 1)) (vgv (ve_var (pv 2)) vg0))))))
    (vss_one (vs_ret (ve_move (pv 1))))))
theorem ok_added {P : Program} {w : World} {K : Fg} {mg : Str → Option Value} {base : Heap} (hB : HasSys P base) {f : Addr} {fd : FuncData} (W : Fun K "added" "added" s_added f fd) (m_tuple : mg "tuple" = none) (m_zip : mg "zip" = none) (W_plus : Fx K mg "plus" s_plus ["a", "b"]) (G_plus : GOk P w K mg base 42 W_plus.f W_plus.fd ["a", "b"] (liftSp K [false, false] sp_plus)) : GOk P w K mg base 43 f fd ["one", "other"] (liftSp K [false, false] sp_added) := by
  have Sc := sc_added
  refine fn_g (r := rd_added) W Sc rfl (fun cdv A outer s H E hr hP => ?_) rp_added
  exact (vss_one (vs_ret (ve_ct (g := gTupOf) call_tuple_of lk_tupOf rfl m_tuple bt_tuple (va_cons (vo_e (ve_lc (own := [("a", 2), ("b", 3)]) (is := ([2] ++ ([3] ++ []))) rfl Sc.nd (vi_zip rfl m_zip (vf_cons (ve_var (pv 0)) (vf_cons (ve_var (pv 1)) vf_nil))) (blkOk_by rfl) (by decide) (fun _ _ _ _ _ => (vg_tup (n := 2) rfl (vgs_cons (vg_name Sc.nd rfl (.inl rfl)) (vgs_cons (vg_name Sc.nd rfl (.inl rfl)) vgs_nil)))) (fun _ _ _ _ _ => vts_nil) (fun _ _ _ _ _ => (ve_gcall G_plus (hr.mono (by decide)) rfl W_plus.m W_plus.F.kp W_plus.b (vgv (ve_var (pv 2)) (vgv (ve_var (pv 3)) vg0)))))) va_nil))))
theorem ok_scaled {P : Program} {w : World} {K : Fg} {mg : Str → Option Value} {base : Heap} (hB : HasSys P base) {f : Addr} {fd : FuncData} (W : Fun K "scaled" "scaled" s_scaled f fd) (m_tuple : mg "tuple" = none) (W_times : Fx K mg "times" s_times ["a", "b"]) (G_times : GOk P w K mg base 42 W_times.f W_times.fd ["a", "b"] (liftSp K [false, false] sp_times)) : GOk P w K mg base 43 f fd ["worth", "part"] (liftSp K [false, false] sp_scaled) := by
  have Sc := sc_scaled
  refine fn_g (r := rd_scaled) W Sc rfl (fun cdv A outer s H E hr hP => ?_) rp_scaled
  exact (vss_one (vs_ret (ve_ct (g := gTupOf) call_tuple_of lk_tupOf rfl m_tuple bt_tuple (va_cons (vo_e (ve_lc (own := [("a", 2)]) (is := [2]) rfl Sc.nd (vi_seq (ve_var (pv 0))) (blkOk_by rfl) (by decide) (fun _ _ _ _ _ => (vg_name Sc.nd rfl (.inl rfl))) (fun _ _ _ _ _ => vts_nil) (fun _ _ _ _ _ => (ve_gcall G_times (hr.mono (by decide)) rfl W_times.m W_times.F.kp W_times.b (vgv (ve_var (pv 2)) (vgv (ve_var (pv 1)) vg0)))))) va_nil))))
theorem ok_priced {P : Program} {w : World} {K : Fg} {mg : Str → Option Value} {base : Heap} (hB : HasSys P base) {f : Addr} {fd : FuncData} (W : Fun K "priced" "priced" s_priced f fd) (m_zip : mg "zip" = none) (W_sum_of : Fx K mg "sum_of" s_sum_of ["parts"]) (G_sum_of : GOk P w K mg base 43 W_sum_of.f W_sum_of.fd ["parts"] (liftSp K [false] sp_sum_of)) (W_times : Fx K mg "times" s_times ["a", "b"]) (G_times : GOk P w K mg base 42 W_times.f W_times.fd ["a", "b"] (liftSp K [false, false] sp_times)) : GOk P w K mg base 44 f fd ["prices", "worth"] (liftSp K [false, false] sp_priced) := by
  have Sc := sc_priced
  refine fn_g (r := rd_priced) W Sc rfl (fun cdv A outer s H E hr hP => ?_) rp_priced
  exact (vss_one (vs_ret (ve_gcall G_sum_of (hr.mono (by decide)) rfl W_sum_of.m W_sum_of.F.kp W_sum_of.b (vgv (ve_lc (own := [("price", 2), ("part", 3)]) (is := ([2] ++ ([3] ++ []))) rfl Sc.nd (vi_zip rfl m_zip (vf_cons (ve_var (pv 0)) (vf_cons (ve_var (pv 1)) vf_nil))) (blkOk_by rfl) (by decide) (fun _ _ _ _ _ => (vg_tup (n := 2) rfl (vgs_cons (vg_name Sc.nd rfl (.inl rfl)) (vgs_cons (vg_name Sc.nd rfl (.inl rfl)) vgs_nil)))) (fun _ _ _ _ _ => vts_nil) (fun _ _ _ _ _ => (ve_gcall G_times (hr.mono (by decide)) rfl W_times.m W_times.F.kp W_times.b (vgv (ve_var (pv 2)) (vgv (ve_var (pv 3)) vg0))))) vg0))))
theorem ok_shared_bottom {P : Program} {w : World} {K : Fg} {mg : Str → Option Value} {base : Heap} (hB : HasSys P base) {f : Addr} {fd : FuncData} (W : Fun K "shared_bottom" "shared_bottom" s_shared_bottom f fd) (W_divisor_of : Fx K mg "divisor_of" s_divisor_of ["one", "other"]) (G_divisor_of : GOk P w K mg base 40 W_divisor_of.f W_divisor_of.fd ["one", "other"] (liftSp K [false, false] sp_divisor_of)) : GOk P w K mg base 41 f fd ["points"] (liftSp K [false] sp_shared_bottom) := by
  have Sc := sc_shared_bottom
  refine fn_g (r := rd_shared_bottom) W Sc rfl (fun cdv A outer s H E hr hP => ?_) rp_shared_bottom
  exact (vss_cons (vs_set (i := 1) Sc.nd rfl (.inl rfl) ve_int)
    (vx rx_shared_bottom_2 (vss_cons (vs_for PassesOwn.never rfl (vi_w (ws := [2, 3, 4]) (vi_seq (ve_var (pv 0)))) (vg_name Sc.nd rfl (.inl rfl)) (vss_w (ws := [2, 3, 4]) (vx rx_shared_bottom_3 (vss_one (vs_for PassesOwn.never rfl (vi_w (ws := [3, 4]) (vi_seq (ve_var (pv 2)))) (vg_tup (n := 2) rfl (vgs_cons (vg_name Sc.nd rfl (.inl rfl)) (vgs_cons (vg_name Sc.nd rfl (.inl rfl)) vgs_nil))) (vss_w (ws := [3, 4]) (vx rx_shared_bottom_4 (vss_one (vs_set (i := 1) Sc.nd rfl (.inl rfl) (ve_fd hr (by decide) hP hB (vo_e (ve_mul (vo_v (pv 1)) (vo_v (pv 4)))) (vo_e (ve_gcall G_divisor_of (hr.mono (by decide)) rfl W_divisor_of.m W_divisor_of.F.kp W_divisor_of.b (vgv (ve_var (pv 1)) (vgv (ve_var (pv 4)) vg0))))))))))))))
    (vx rx_shared_bottom_5 (vss_one (vs_ret (ve_move (pv 1))))))))
theorem ok_by_whole {P : Program} {w : World} {K : Fg} {mg : Str → Option Value} {base : Heap} (hB : HasSys P base) {f : Addr} {fd : FuncData} (W : Fun K "by_whole" "by_whole" s_by_whole f fd) (m_dict : mg "dict" = none) (W_shared_bottom : Fx K mg "shared_bottom" s_shared_bottom ["points"]) (G_shared_bottom : GOk P w K mg base 41 W_shared_bottom.f W_shared_bottom.fd ["points"] (liftSp K [false] sp_shared_bottom)) : GOk P w K mg base 42 f fd ["points"] (liftSp K [false] sp_by_whole) := by
  have Sc := sc_by_whole
  refine fn_g (r := rd_by_whole) W Sc rfl (fun cdv A outer s H E hr hP => ?_) rp_by_whole
  exact (vss_cons (vs_set (i := 1) Sc.nd rfl (.inr rfl) (ve_gcall G_shared_bottom (hr.mono (by decide)) rfl W_shared_bottom.m W_shared_bottom.F.kp W_shared_bottom.b (vgv (ve_var (pv 0)) vg0)))
    (vss_one (vs_ret (ve_dictP (own := [("x", 2), ("y", 3)]) (is := ([2] ++ ([3] ++ []))) (hu64 hr.rm) rfl m_dict bt_dict rfl Sc.nd (vi_seq (ve_var (pv 0))) (blkOk_by rfl) (by decide) (fun _ _ _ _ _ => (vg_tup (n := 2) rfl (vgs_cons (vg_name Sc.nd rfl (.inl rfl)) (vgs_cons (vg_name Sc.nd rfl (.inl rfl)) vgs_nil)))) (fun _ _ _ _ _ => vts_nil) (fun _ _ _ _ _ => (ve_kv (vf_cons (ve_mul (vo_e (ve_at (vo_v (pv 2)) (vo_e ve_int))) (vo_e (ve_fd hr (by decide) hP hB (vo_v (pv 1)) (vo_e (ve_at (vo_v (pv 2)) (vo_e ve_int)))))) (vf_cons (ve_mul (vo_e (ve_at (vo_v (pv 3)) (vo_e ve_int))) (vo_e (ve_fd hr (by decide) hP hB (vo_v (pv 1)) (vo_e (ve_at (vo_v (pv 3)) (vo_e ve_int)))))) vf_nil)) (ve_tup (vf_cons (ve_var (pv 2)) (vf_cons (ve_var (pv 3)) vf_nil)))))))))
theorem ok_is_left {P : Program} {w : World} {K : Fg} {mg : Str → Option Value} {base : Heap} (hB : HasSys P base) {f : Addr} {fd : FuncData} (W : Fun K "is_left" "is_left" s_is_left f fd)  : GOk P w K mg base 40 f fd ["one", "two", "three"] (liftSp K [false, false, false] sp_is_left) := by
  have Sc := sc_is_left
  refine fn_g (r := rd_is_left) W Sc rfl (fun cdv A outer s H E hr hP => ?_) rp_is_left
  exact (vss_one (vs_ret (ve_cmp op_gt lk_gt (vo_e (ve_mul (vo_e (ve_sub (vo_e (ve_at (vo_v (pv 1)) (vo_e ve_int))) (vo_e (ve_at (vo_v (pv 0)) (vo_e ve_int))))) (vo_e (ve_sub (vo_e (ve_at (vo_v (pv 2)) (vo_e ve_int))) (vo_e (ve_at (vo_v (pv 0)) (vo_e ve_int))))))) (vo_e (ve_mul (vo_e (ve_sub (vo_e (ve_at (vo_v (pv 1)) (vo_e ve_int))) (vo_e (ve_at (vo_v (pv 0)) (vo_e ve_int))))) (vo_e (ve_sub (vo_e (ve_at (vo_v (pv 2)) (vo_e ve_int))) (vo_e (ve_at (vo_v (pv 0)) (vo_e ve_int))))))) (nomark _))))
theorem ok_half_of {P : Program} {w : World} {K : Fg} {mg : Str → Option Value} {base : Heap} (hB : HasSys P base) {f : Addr} {fd : FuncData} (W : Fun K "half_of" "half_of" s_half_of f fd) (m_len : mg "len" = none) (W_is_left : Fx K mg "is_left" s_is_left ["one", "two", "three"]) (G_is_left : GOk P w K mg base 40 W_is_left.f W_is_left.fd ["one", "two", "three"] (liftSp K [false, false, false] sp_is_left)) : GOk P w K mg base 41 f fd ["points"] (liftSp K [false] sp_half_of) := by
  have Sc := sc_half_of
  refine fn_g (r := rd_half_of) W Sc rfl (fun cdv A outer s H E hr hP => ?_) rp_half_of
  exact (vss_cons (vs_set (i := 1) Sc.nd rfl (.inl rfl) (ve_lst vf_nil))
    (vx rx_half_of_2 (vss_cons (vs_for PassesOwn.never rfl (vi_w (ws := [2]) (vi_seq (ve_var (pv 0)))) (vg_name Sc.nd rfl (.inl rfl)) (vss_w (ws := [2]) (vx rx_half_of_3 (vss_cons (vs_while PassesOwn.never (vt_w (vw_and (vt_cmp op_gt lk_gt (vo_e (ve_cb (g := gLen) call_lenV lk_len rfl m_len bt_len (va_cons (vo_v (pv 1)) va_nil))) (vo_e ve_int) (nomark _)) (vw_and1 (vt_not (vt_val (ve_gcall G_is_left (hr.mono (by decide)) rfl W_is_left.m W_is_left.F.kp W_is_left.b (vgv (ve_at (vo_v (pv 1)) (vo_e (ve_neg ve_int))) (vgv (ve_at (vo_v (pv 1)) (vo_e (ve_neg ve_int))) (vgv (ve_var (pv 2)) vg0))))))))) (vx rx_half_of_4 (vss_one (vs_expr (ve_pop (pv 1))))))
    (vx rx_half_of_5 (vss_one (vs_expr (ve_append (pv 1) (vf_cons (ve_var (pv 2)) vf_nil)))))))))
    (vx rx_half_of_6 (vss_one (vs_ret (ve_move (pv 1))))))))
theorem ok_hull {P : Program} {w : World} {K : Fg} {mg : Str → Option Value} {base : Heap} (hB : HasSys P base) {f : Addr} {fd : FuncData} (W : Fun K "hull" "hull" s_hull f fd) (m_len : mg "len" = none) (m_sorted : mg "sorted" = none) (W_by_whole : Fx K mg "by_whole" s_by_whole ["points"]) (G_by_whole : GOk P w K mg base 42 W_by_whole.f W_by_whole.fd ["points"] (liftSp K [false] sp_by_whole)) (W_half_of : Fx K mg "half_of" s_half_of ["points"]) (G_half_of : GOk P w K mg base 41 W_half_of.f W_half_of.fd ["points"] (liftSp K [false] sp_half_of)) : GOk P w K mg base 43 f fd ["points"] (liftSp K [false] sp_hull) := by
  have Sc := sc_hull
  refine fn_g (r := rd_hull) W Sc rfl (fun cdv A outer s H E hr hP => ?_) rp_hull
  exact (vss_cons (vs_set (i := 1) Sc.nd rfl (.inr rfl) (ve_gcall G_by_whole (hr.mono (by decide)) rfl W_by_whole.m W_by_whole.F.kp W_by_whole.b (vgv (ve_var (pv 0)) vg0)))
    (vss_cons (vs_set (i := 2) Sc.nd rfl (.inl rfl) (ve_cb (g := gSortP) (cr_sortedDT rfl) lk_sortP rfl m_sorted bt_sorted (va_cons (vo_v (pv 1)) va_nil)))
    (vss_cons (vs_if (vt_cmp (op_eqD (hu64 hr.rm)) lk_eq (vo_e (ve_cb (g := gLen) call_lenV lk_len rfl m_len bt_len (va_cons (vo_v (pv 2)) va_nil))) (vo_e ve_int) (nomark _)) (vss_one (vs_ret (ve_lst (vf_cons (ve_ix (ix_dictT (hu1 (hu64 hr.rm))) lk_getP (vo_v (pv 1)) (vo_e (ve_at (vo_v (pv 2)) (vo_e ve_int))) (fun _ _ => rfl)) vf_nil)))) vss_nil)
    (vss_cons (vs_set (i := 3) Sc.nd rfl (.inl rfl) (ve_addA (vo_e (ve_slA (vo_e (ve_gcall G_half_of (hr.mono (by decide)) rfl W_half_of.m W_half_of.F.kp W_half_of.b (vgv (ve_var (pv 2)) vg0))) vp_none (vp_some (ve_neg ve_int)))) (vo_e (ve_slA (vo_e (ve_gcall G_half_of (hr.mono (by decide)) rfl W_half_of.m W_half_of.F.kp W_half_of.b (vgv (ve_revA (vo_v (pv 2))) vg0))) vp_none (vp_some (ve_neg ve_int))))))
    (vss_one (vs_ret (ve_lc (own := [("corner", 4)]) (is := [4]) rfl Sc.nd (vi_seq (ve_var (pv 3))) (blkOk_by rfl) (by decide) (fun _ _ _ _ _ => (vg_name Sc.nd rfl (.inl rfl))) (fun _ _ _ _ _ => vts_nil) (fun _ _ _ _ _ => (ve_ix (ix_dictT (hu1 (hu64 hr.rm))) lk_getP (vo_v (pv 1)) (vo_v (pv 4)) (fun _ _ => rfl))))))))))
theorem ok_moved {P : Program} {w : World} {K : Fg} {mg : Str → Option Value} {base : Heap} (hB : HasSys P base) {f : Addr} {fd : FuncData} (W : Fun K "moved" "moved" s_moved f fd) (W_added : Fx K mg "added" s_added ["one", "other"]) (G_added : GOk P w K mg base 43 W_added.f W_added.fd ["one", "other"] (liftSp K [false, false] sp_added)) : GOk P w K mg base 44 f fd ["figure", "point"] (liftSp K [false, false] sp_moved) := by
  have Sc := sc_moved
  refine fn_g (r := rd_moved) W Sc rfl (fun cdv A outer s H E hr hP => ?_) rp_moved
  exact (vss_one (vs_ret (ve_lc (own := [("corner", 2)]) (is := [2]) rfl Sc.nd (vi_seq (ve_var (pv 0))) (blkOk_by rfl) (by decide) (fun _ _ _ _ _ => (vg_name Sc.nd rfl (.inl rfl))) (fun _ _ _ _ _ => vts_nil) (fun _ _ _ _ _ => (ve_gcall G_added (hr.mono (by decide)) rfl W_added.m W_added.F.kp W_added.b (vgv (ve_var (pv 2)) (vgv (ve_var (pv 1)) vg0)))))))
theorem ok_edges {P : Program} {w : World} {K : Fg} {mg : Str → Option Value} {base : Heap} (hB : HasSys P base) {f : Addr} {fd : FuncData} (W : Fun K "edges" "edges" s_edges f fd) (m_len : mg "len" = none) (m_zip : mg "zip" = none) (W_added : Fx K mg "added" s_added ["one", "other"]) (G_added : GOk P w K mg base 43 W_added.f W_added.fd ["one", "other"] (liftSp K [false, false] sp_added)) (W_scaled : Fx K mg "scaled" s_scaled ["worth", "part"]) (G_scaled : GOk P w K mg base 43 W_scaled.f W_scaled.fd ["worth", "part"] (liftSp K [false, false] sp_scaled)) : GOk P w K mg base 44 f fd ["figure"] (liftSp K [false] sp_edges) := by
  have Sc := sc_edges
  refine fn_g (r := rd_edges) W Sc rfl (fun cdv A outer s H E hr hP => ?_) rp_edges
  exact (vss_cons (vs_if (vt_cmp (op_eqD (hu64 hr.rm)) lk_eq (vo_e (ve_cb (g := gLen) call_lenV lk_len rfl m_len bt_len (va_cons (vo_v (pv 0)) va_nil))) (vo_e ve_int) (nomark _)) (vss_one (vs_ret (ve_lst vf_nil))) vss_nil)
    (vss_one (vs_ret (ve_lc (own := [("one", 1), ("other", 2)]) (is := ([1] ++ ([2] ++ []))) rfl Sc.nd (vi_zipA rfl m_zip (vf_cons (ve_var (pv 0)) (vf_cons (ve_addA (vo_e (ve_slA (vo_v (pv 0)) (vp_some ve_int) vp_none)) (vo_e (ve_slA (vo_v (pv 0)) vp_none (vp_some ve_int)))) vf_nil))) (blkOk_by rfl) (by decide) (fun _ _ _ _ _ => (vg_tup (n := 2) rfl (vgs_cons (vg_name Sc.nd rfl (.inl rfl)) (vgs_cons (vg_name Sc.nd rfl (.inl rfl)) vgs_nil)))) (fun _ _ _ _ _ => vts_nil) (fun _ _ _ _ _ => (ve_gcall G_added (hr.mono (by decide)) rfl W_added.m W_added.F.kp W_added.b (vgv (ve_var (pv 2)) (vgv (ve_gcall G_scaled (hr.mono (by decide)) rfl W_scaled.m W_scaled.F.kp W_scaled.b (vgv (ve_var (pv 1)) (vgv (ve_tup (vf_cons (ve_neg ve_int) (vf_cons ve_int vf_nil))) vg0))) vg0))))))))
theorem ok_joined {P : Program} {w : World} {K : Fg} {mg : Str → Option Value} {base : Heap} (hB : HasSys P base) {f : Addr} {fd : FuncData} (W : Fun K "joined" "joined" s_joined f fd) (W_hull : Fx K mg "hull" s_hull ["points"]) (G_hull : GOk P w K mg base 43 W_hull.f W_hull.fd ["points"] (liftSp K [false] sp_hull)) : GOk P w K mg base 44 f fd ["figures"] (liftSp K [false] sp_joined) := by
  have Sc := sc_joined
  refine fn_g (r := rd_joined) W Sc rfl (fun cdv A outer s H E hr hP => ?_) rp_joined
  exact (vss_cons (vs_set (i := 1) Sc.nd rfl (.inl rfl) (ve_lst vf_nil))
    (vx rx_joined_2 (vss_cons (vs_for PassesOwn.never rfl (vi_w (ws := [2]) (vi_seq (ve_var (pv 0)))) (vg_name Sc.nd rfl (.inl rfl)) (vss_w (ws := [2]) (vx rx_joined_3 (vss_one (vs_expr (ve_extend (pv 1) (va_cons (vo_v (pv 2)) va_nil)))))))
    (vx rx_joined_4 (vss_one (vs_ret (ve_gcall G_hull (hr.mono (by decide)) rfl W_hull.m W_hull.F.kp W_hull.b (vgv (ve_var (pv 1)) vg0))))))))
theorem ok_height_in {P : Program} {w : World} {K : Fg} {mg : Str → Option Value} {base : Heap} (hB : HasSys P base) {f : Addr} {fd : FuncData} (W : Fun K "height_in" "height_in" s_height_in f fd) (W_priced : Fx K mg "priced" s_priced ["prices", "worth"]) (G_priced : GOk P w K mg base 44 W_priced.f W_priced.fd ["prices", "worth"] (liftSp K [false, false] sp_priced)) (W_is_less : Fx K mg "is_less" s_is_less ["a", "b"]) (G_is_less : GOk P w K mg base 40 W_is_less.f W_is_less.fd ["a", "b"] (liftSp K [false, false] sp_is_less)) : GOk P w K mg base 45 f fd ["figure", "prices"] (liftSp K [false, false] sp_height_in) := by
  have Sc := sc_height_in
  refine fn_g (r := rd_height_in) W Sc rfl (fun cdv A outer s H E hr hP => ?_) rp_height_in
  exact (vss_cons (vs_set (i := 2) Sc.nd rfl (.inl rfl) (ve_gcall G_priced (hr.mono (by decide)) rfl W_priced.m W_priced.F.kp W_priced.b (vgv (ve_var (pv 1)) (vgv (ve_at (vo_v (pv 0)) (vo_e ve_int)) vg0))))
    (vx rx_height_in_2 (vss_cons (vs_for PassesOwn.never rfl (vi_w (ws := [3, 4]) (vi_seq (ve_slA (vo_v (pv 0)) (vp_some ve_int) vp_none))) (vg_name Sc.nd rfl (.inl rfl)) (vss_w (ws := [3, 4]) (vx rx_height_in_3 (vss_cons (vs_set (i := 4) Sc.nd rfl (.inl rfl) (ve_gcall G_priced (hr.mono (by decide)) rfl W_priced.m W_priced.F.kp W_priced.b (vgv (ve_var (pv 1)) (vgv (ve_var (pv 3)) vg0))))
    (vx rx_height_in_4 (vss_one (vs_set (i := 2) Sc.nd rfl (.inl rfl) (ve_if (vt_val (ve_gcall G_is_less (hr.mono (by decide)) rfl W_is_less.m W_is_less.F.kp W_is_less.b (vgv (ve_var (pv 2)) (vgv (ve_var (pv 4)) vg0)))) (ve_var (pv 4)) (ve_var (pv 2))))))))))
    (vx rx_height_in_5 (vss_one (vs_ret (ve_move (pv 2))))))))
theorem ok_fence_prices {P : Program} {w : World} {K : Fg} {mg : Str → Option Value} {base : Heap} (hB : HasSys P base) {f : Addr} {fd : FuncData} (W : Fun K "fence_prices" "fence_prices" s_fence_prices f fd) (m_len : mg "len" = none) {u_ONE : Value} (c_ONE : mg "ONE" = some u_ONE ∧ KRep K k_ONE u_ONE) {u_ZERO : Value} (c_ZERO : mg "ZERO" = some u_ZERO ∧ KRep K k_ZERO u_ZERO) (W_edges : Fx K mg "edges" s_edges ["figure"]) (G_edges : GOk P w K mg base 44 W_edges.f W_edges.fd ["figure"] (liftSp K [false] sp_edges)) (W_times : Fx K mg "times" s_times ["a", "b"]) (G_times : GOk P w K mg base 42 W_times.f W_times.fd ["a", "b"] (liftSp K [false, false] sp_times)) (W_scaled : Fx K mg "scaled" s_scaled ["worth", "part"]) (G_scaled : GOk P w K mg base 43 W_scaled.f W_scaled.fd ["worth", "part"] (liftSp K [false, false] sp_scaled)) : GOk P w K mg base 45 f fd ["figure"] (liftSp K [false] sp_fence_prices) := by
  have Sc := sc_fence_prices
  refine fn_g (r := rd_fence_prices) W Sc rfl (fun cdv A outer s H E hr hP => ?_) rp_fence_prices
  exact (vss_cons (vs_if (vt_cmp (op_eqD (hu64 hr.rm)) lk_eq (vo_e (ve_cb (g := gLen) call_lenV lk_len rfl m_len bt_len (va_cons (vo_v (pv 0)) va_nil))) (vo_e ve_int) (nomark _)) (vss_one (vs_ret (ve_lst (vf_cons (ve_tup (vf_cons (ve_k rfl c_ONE) (vf_cons (ve_k rfl c_ZERO) vf_nil))) (vf_cons (ve_tup (vf_cons (ve_k rfl c_ZERO) (vf_cons (ve_k rfl c_ONE) vf_nil))) (vf_cons (ve_tup (vf_cons (ve_tup (vf_cons (ve_neg ve_int) (vf_cons ve_int vf_nil))) (vf_cons (ve_k rfl c_ZERO) vf_nil))) (vf_cons (ve_tup (vf_cons (ve_k rfl c_ZERO) (vf_cons (ve_tup (vf_cons (ve_neg ve_int) (vf_cons ve_int vf_nil))) vf_nil))) vf_nil))))))) vss_nil)
    (vss_cons (vs_setLc (i := 1) (own := [("edge", 3)]) (is := [3]) rfl Sc.nd rfl rfl (sw_true rfl rfl rfl (by decide +kernel)) (vi_seq (ve_gcall G_edges (hr.mono (by decide)) rfl W_edges.m W_edges.F.kp W_edges.b (vgv (ve_var (pv 0)) vg0))) (blkOk_by rfl) (by decide) (fun _ _ _ _ _ => (vg_name Sc.nd rfl (.inl rfl))) (fun _ _ _ _ _ => vts_nil) (fun _ _ _ _ _ => (ve_tup (vf_cons (ve_at (vo_v (pv 3)) (vo_e ve_int)) (vf_cons (ve_gcall G_times (hr.mono (by decide)) rfl W_times.m W_times.F.kp W_times.b (vgv (ve_tup (vf_cons (ve_neg ve_int) (vf_cons ve_int vf_nil))) (vgv (ve_at (vo_v (pv 3)) (vo_e ve_int)) vg0))) vf_nil)))))
    (vss_cons (vs_if (vt_cmp op_gt lk_gt (vo_e (ve_cb (g := gLen) call_lenV lk_len rfl m_len bt_len (va_cons (vo_v (pv 0)) va_nil))) (vo_e ve_int) (nomark _)) (vss_one (vs_ret (ve_move (pv 1)))) vss_nil)
    (vss_cons (vs_set (i := 2) Sc.nd rfl (.inl rfl) (ve_at (vo_e (ve_gcall G_edges (hr.mono (by decide)) rfl W_edges.m W_edges.F.kp W_edges.b (vgv (ve_var (pv 0)) vg0))) (vo_e ve_int)))
    (vss_one (vs_ret (ve_addA (vo_v (pv 1)) (vo_e (ve_lst (vf_cons (ve_var (pv 2)) (vf_cons (ve_gcall G_scaled (hr.mono (by decide)) rfl W_scaled.m W_scaled.F.kp W_scaled.b (vgv (ve_var (pv 2)) (vgv (ve_tup (vf_cons (ve_neg ve_int) (vf_cons ve_int vf_nil))) vg0))) vf_nil)))))))))))
theorem ok_fence {P : Program} {w : World} {K : Fg} {mg : Str → Option Value} {base : Heap} (hB : HasSys P base) {f : Addr} {fd : FuncData} (W : Fun K "fence" "fence" s_fence f fd) (W_fence_prices : Fx K mg "fence_prices" s_fence_prices ["figure"]) (G_fence_prices : GOk P w K mg base 45 W_fence_prices.f W_fence_prices.fd ["figure"] (liftSp K [false] sp_fence_prices)) (W_height_in : Fx K mg "height_in" s_height_in ["figure", "prices"]) (G_height_in : GOk P w K mg base 45 W_height_in.f W_height_in.fd ["figure", "prices"] (liftSp K [false, false] sp_height_in)) : GOk P w K mg base 46 f fd ["figure"] (liftSp K [false] sp_fence) := by
  have Sc := sc_fence
  refine fn_g (r := rd_fence) W Sc rfl (fun cdv A outer s H E hr hP => ?_) rp_fence
  exact (vss_one (vs_ret (ve_lc (own := [("prices", 1)]) (is := [1]) rfl Sc.nd (vi_seq (ve_gcall G_fence_prices (hr.mono (by decide)) rfl W_fence_prices.m W_fence_prices.F.kp W_fence_prices.b (vgv (ve_var (pv 0)) vg0))) (blkOk_by rfl) (by decide) (fun _ _ _ _ _ => (vg_name Sc.nd rfl (.inl rfl))) (fun _ _ _ _ _ => vts_nil) (fun _ _ _ _ _ => (ve_tup (vf_cons (ve_var (pv 1)) (vf_cons (ve_gcall G_height_in (hr.mono (by decide)) rfl W_height_in.m W_height_in.F.kp W_height_in.b (vgv (ve_var (pv 0)) (vgv (ve_var (pv 1)) vg0))) vf_nil)))))))
theorem ok_has_point {P : Program} {w : World} {K : Fg} {mg : Str → Option Value} {base : Heap} (hB : HasSys P base) {f : Addr} {fd : FuncData} (W : Fun K "has_point" "has_point" s_has_point f fd) (m_any : mg "any" = none) (W_fence : Fx K mg "fence" s_fence ["figure"]) (G_fence : GOk P w K mg base 46 W_fence.f W_fence.fd ["figure"] (liftSp K [false] sp_fence)) (W_is_less : Fx K mg "is_less" s_is_less ["a", "b"]) (G_is_less : GOk P w K mg base 40 W_is_less.f W_is_less.fd ["a", "b"] (liftSp K [false, false] sp_is_less)) (W_priced : Fx K mg "priced" s_priced ["prices", "worth"]) (G_priced : GOk P w K mg base 44 W_priced.f W_priced.fd ["prices", "worth"] (liftSp K [false, false] sp_priced)) : GOk P w K mg base 47 f fd ["figure", "point"] (liftSp K [false, false] sp_has_point) := by
  have Sc := sc_has_point
  refine fn_g (r := rd_has_point) W Sc rfl (fun cdv A outer s H E hr hP => ?_) rp_has_point
  exact (vss_one (vs_ret (ve_not (ve_cb (g := (gBls fun l => l.any id)) (cr_any rfl) lk_bls rfl m_any bt_any (va_cons (vo_e (ve_lc (own := [("prices", 2), ("height", 3)]) (is := ([2] ++ ([3] ++ []))) rfl Sc.nd (vi_seq (ve_gcall G_fence (hr.mono (by decide)) rfl W_fence.m W_fence.F.kp W_fence.b (vgv (ve_var (pv 0)) vg0))) (blkOk_by rfl) (by decide) (fun _ _ _ _ _ => (vg_tup (n := 2) rfl (vgs_cons (vg_name Sc.nd rfl (.inl rfl)) (vgs_cons (vg_name Sc.nd rfl (.inl rfl)) vgs_nil)))) (fun _ _ _ _ _ => vts_nil) (fun _ _ _ _ _ => (ve_gcall G_is_less (hr.mono (by decide)) rfl W_is_less.m W_is_less.F.kp W_is_less.b (vgv (ve_var (pv 3)) (vgv (ve_gcall G_priced (hr.mono (by decide)) rfl W_priced.m W_priced.F.kp W_priced.b (vgv (ve_var (pv 2)) (vgv (ve_var (pv 1)) vg0))) vg0)))))) va_nil)))))
theorem ok_crossing {P : Program} {w : World} {K : Fg} {mg : Str → Option Value} {base : Heap} (hB : HasSys P base) {f : Addr} {fd : FuncData} (W : Fun K "crossing" "crossing" s_crossing f fd) (W_over : Fx K mg "over" s_over ["a", "b"]) (G_over : GOk P w K mg base 42 W_over.f W_over.fd ["a", "b"] (liftSp K [false, false] sp_over)) (W_minus : Fx K mg "minus" s_minus ["a", "b"]) (G_minus : GOk P w K mg base 42 W_minus.f W_minus.fd ["a", "b"] (liftSp K [false, false] sp_minus)) (W_added : Fx K mg "added" s_added ["one", "other"]) (G_added : GOk P w K mg base 43 W_added.f W_added.fd ["one", "other"] (liftSp K [false, false] sp_added)) (W_scaled : Fx K mg "scaled" s_scaled ["worth", "part"]) (G_scaled : GOk P w K mg base 43 W_scaled.f W_scaled.fd ["worth", "part"] (liftSp K [false, false] sp_scaled)) : GOk P w K mg base 44 f fd ["one", "other", "first", "second"] (liftSp K [false, false, false, false] sp_crossing) := by
  have Sc := sc_crossing
  refine fn_g (r := rd_crossing) W Sc rfl (fun cdv A outer s H E hr hP => ?_) rp_crossing
  exact (vss_cons (vs_set (i := 4) Sc.nd rfl (.inl rfl) (ve_gcall G_over (hr.mono (by decide)) rfl W_over.m W_over.F.kp W_over.b (vgv (ve_var (pv 2)) (vgv (ve_gcall G_minus (hr.mono (by decide)) rfl W_minus.m W_minus.F.kp W_minus.b (vgv (ve_var (pv 2)) (vgv (ve_var (pv 3)) vg0))) vg0))))
    (vss_one (vs_ret (ve_gcall G_added (hr.mono (by decide)) rfl W_added.m W_added.F.kp W_added.b (vgv (ve_var (pv 0)) (vgv (ve_gcall G_scaled (hr.mono (by decide)) rfl W_scaled.m W_scaled.F.kp W_scaled.b (vgv (ve_gcall G_added (hr.mono (by decide)) rfl W_added.m W_added.F.kp W_added.b (vgv (ve_var (pv 1)) (vgv (ve_gcall G_scaled (hr.mono (by decide)) rfl W_scaled.m W_scaled.F.kp W_scaled.b (vgv (ve_var (pv 0)) (vgv (ve_tup (vf_cons (ve_neg ve_int) (vf_cons ve_int vf_nil))) vg0))) vg0))) (vgv (ve_var (pv 4)) vg0))) vg0))))))
theorem ok_cut {P : Program} {w : World} {K : Fg} {mg : Str → Option Value} {base : Heap} (hB : HasSys P base) {f : Addr} {fd : FuncData} (W : Fun K "cut" "cut" s_cut f fd) (m_len : mg "len" = none) (m_range : mg "range" = none) (m_zip : mg "zip" = none) (W_minus : Fx K mg "minus" s_minus ["a", "b"]) (G_minus : GOk P w K mg base 42 W_minus.f W_minus.fd ["a", "b"] (liftSp K [false, false] sp_minus)) (W_priced : Fx K mg "priced" s_priced ["prices", "worth"]) (G_priced : GOk P w K mg base 44 W_priced.f W_priced.fd ["prices", "worth"] (liftSp K [false, false] sp_priced)) (W_crossing : Fx K mg "crossing" s_crossing ["one", "other", "first", "second"]) (G_crossing : GOk P w K mg base 44 W_crossing.f W_crossing.fd ["one", "other", "first", "second"] (liftSp K [false, false, false, false] sp_crossing)) (W_hull : Fx K mg "hull" s_hull ["points"]) (G_hull : GOk P w K mg base 43 W_hull.f W_hull.fd ["points"] (liftSp K [false] sp_hull)) : GOk P w K mg base 45 f fd ["figure", "prices", "least"] (liftSp K [false, false, false] sp_cut) := by
  have Sc := sc_cut
  refine fn_g (r := rd_cut) W Sc rfl (fun cdv A outer s H E hr hP => ?_) rp_cut
  exact (vss_cons (vs_setLc (i := 3) (own := [("corner", 6)]) (is := [6]) rfl Sc.nd rfl rfl (sw_true rfl rfl rfl (by decide +kernel)) (vi_seq (ve_var (pv 0))) (blkOk_by rfl) (by decide) (fun _ _ _ _ _ => (vg_name Sc.nd rfl (.inl rfl))) (fun _ _ _ _ _ => vts_nil) (fun _ _ _ _ _ => (ve_gcall G_minus (hr.mono (by decide)) rfl W_minus.m W_minus.F.kp W_minus.b (vgv (ve_gcall G_priced (hr.mono (by decide)) rfl W_priced.m W_priced.F.kp W_priced.b (vgv (ve_var (pv 1)) (vgv (ve_var (pv 6)) vg0))) (vgv (ve_var (pv 2)) vg0)))))
    (vx rx_cut_2 (vss_cons (vs_setLc (i := 4) (own := [("corner", 6), ("height", 7)]) (is := ([6] ++ ([7] ++ []))) rfl Sc.nd rfl rfl (sw_true rfl rfl rfl (by decide +kernel)) (vi_zipA rfl m_zip (vf_cons (ve_var (pv 0)) (vf_cons (ve_var (pv 3)) vf_nil))) (blkOk_by rfl) (by decide) (fun _ _ _ _ _ => (vg_tup (n := 2) rfl (vgs_cons (vg_name Sc.nd rfl (.inl rfl)) (vgs_cons (vg_name Sc.nd rfl (.inl rfl)) vgs_nil)))) (fun _ _ _ _ _ => (vts_one (vt_cmp op_ge lk_ge (vo_e (ve_at (vo_v (pv 7)) (vo_e ve_int))) (vo_e ve_int) (nomark _)))) (fun _ _ _ _ _ => (ve_var (pv 6))))
    (vx rx_cut_3 (vss_cons (vs_for PassesOwn.never rfl (vi_w (ws := [5]) (vi_rng1 rfl m_range (vf_cons (ve_cb (g := gLen) call_lenV lk_len rfl m_len bt_len (va_cons (vo_v (pv 0)) va_nil)) vf_nil))) (vg_name Sc.nd rfl (.inl rfl)) (vss_w (ws := [5]) (vx rx_cut_4 (vss_one (vs_if (vt_cmp op_lt lk_lt (vo_e (ve_mul (vo_e (ve_at (vo_e (ve_at (vo_v (pv 3)) (vo_e (ve_sub (vo_v (pv 5)) (vo_e ve_int))))) (vo_e ve_int))) (vo_e (ve_at (vo_e (ve_at (vo_v (pv 3)) (vo_v (pv 5)))) (vo_e ve_int))))) (vo_e ve_int) (nomark _)) (vss_one (vs_expr (ve_append (pv 4) (vf_cons (ve_gcall G_crossing (hr.mono (by decide)) rfl W_crossing.m W_crossing.F.kp W_crossing.b (vgv (ve_at (vo_v (pv 0)) (vo_e (ve_sub (vo_v (pv 5)) (vo_e ve_int)))) (vgv (ve_at (vo_v (pv 0)) (vo_v (pv 5))) (vgv (ve_at (vo_v (pv 3)) (vo_e (ve_sub (vo_v (pv 5)) (vo_e ve_int)))) (vgv (ve_at (vo_v (pv 3)) (vo_v (pv 5))) vg0))))) vf_nil)))) vss_nil)))))
    (vx rx_cut_6 (vss_one (vs_ret (ve_if (vt_cmp (op_neN (hu64 hr.rm)) lk_neN (vo_v (pv 4)) (vo_e (ve_lst vf_nil)) (nomark _)) (ve_gcall G_hull (hr.mono (by decide)) rfl W_hull.m W_hull.F.kp W_hull.b (vgv (ve_var (pv 4)) vg0)) (ve_lst vf_nil))))))))))
theorem ok_l_begun {P : Program} {w : World} {K : Fg} {mg : Str → Option Value} {base : Heap} (hB : HasSys P base) {f : Addr} {fd : FuncData} (W : Fun K "_law_begun" "_law_begun" s_l_begun f fd) (m_abs : mg "abs" = none) (m_int : mg "int" = none) (m_len : mg "len" = none) : GOk P w K mg base 40 f fd ["_law_script", "_law_k"] (liftSp K [false, false] sp_l_begun) := by
  have Sc := sc_l_begun
  refine fn_g (r := rd_l_begun) W Sc rfl (fun cdv A outer s H E hr hP => ?_) rp_l_begun
  exact (vss_cons (vs_set (i := 2) Sc.nd rfl (.inl rfl) (ve_if (vt_cmp op_lt lk_lt (vo_v (pv 1)) (vo_e (ve_cb (g := gLen) call_lenV lk_len rfl m_len bt_len (va_cons (vo_v (pv 0)) va_nil))) (nomark _)) (ve_at (vo_v (pv 0)) (vo_v (pv 1))) ve_int))
    (vss_one (vs_ret (ve_lst (vf_cons (ve_mul (vo_e (ve_cb (g := gAbs) call_abs lk_abs rfl m_abs bt_abs (va_cons (vo_v (pv 2)) va_nil))) (vo_e (ve_ct (g := gIntOf) call_int1 lk_intOf rfl m_int bt_int (va_cons (vo_e (ve_cmp op_ge lk_ge (vo_e (ve_cb (g := gAbs) call_abs lk_abs rfl m_abs bt_abs (va_cons (vo_v (pv 2)) va_nil))) (vo_e (ve_pow (vo_e ve_int) (vo_e ve_int))) (nomark _))) va_nil)))) (vf_cons (ve_add (vo_e (ve_add (vo_e (ve_md (vo_v (pv 2)) (vo_e ve_int))) (vo_e (ve_mul (vo_e ve_int) (vo_v (pv 1)))))) (vo_e ve_int)) (vf_cons ve_int vf_nil)))))))
theorem ok_l_draw {P : Program} {w : World} {K : Fg} {mg : Str → Option Value} {base : Heap} (hB : HasSys P base) {f : Addr} {fd : FuncData} (W : Fun K "_law_draw" "_law_draw" s_l_draw f fd)  : GOk P w K mg base 40 f fd ["_law_tape", "_law_many"] (liftSp K [true, false] sp_l_draw) := by
  have Sc := sc_l_draw
  refine fn_g (r := rd_l_draw) W Sc rfl (fun cdv A outer s H E hr hP => ?_) rp_l_draw
  exact (vss_cons (vs_if (vt_cmp op_gt lk_gt (vo_e (ve_at (vo_v (pv 0)) (vo_e ve_int))) (vo_e ve_int) (nomark _)) (vss_cons (vs_set (i := 2) Sc.nd rfl (.inl rfl) (ve_md (vo_e (ve_at (vo_v (pv 0)) (vo_e ve_int))) (vo_v (pv 1))))
    (vss_cons (vs_setIx (ve_fd hr (by decide) hP hB (vo_e (ve_at (vo_v (pv 0)) (vo_e ve_int))) (vo_v (pv 1))) (pv 0) ve_int)
    (vss_one (vs_ret (ve_move (pv 2)))))) vss_nil)
    (vss_cons (vs_setIx (ve_add (vo_e (ve_at (vo_v (pv 0)) (vo_e ve_int))) (vo_e ve_int)) (pv 0) ve_int)
    (vss_cons (vs_set (i := 3) Sc.nd rfl (.inl rfl) (ve_md (vo_e (ve_pow (vo_e (ve_add (vo_e (ve_at (vo_v (pv 0)) (vo_e ve_int))) (vo_e (ve_mul (vo_e ve_int) (vo_e (ve_at (vo_v (pv 0)) (vo_e ve_int))))))) (vo_e ve_int))) (vo_e ve_int)))
    (vss_cons (vs_set (i := 4) Sc.nd rfl (.inl rfl) (ve_md (vo_e (ve_mul (vo_e (ve_add (vo_v (pv 3)) (vo_e (ve_at (vo_v (pv 0)) (vo_e ve_int))))) (vo_e (ve_add (vo_e (ve_add (vo_e (ve_md (vo_v (pv 3)) (vo_e ve_int))) (vo_e ve_int))) (vo_e (ve_at (vo_v (pv 0)) (vo_e ve_int))))))) (vo_e ve_int)))
    (vss_one (vs_ret (ve_md (vo_e (ve_fd hr (by decide) hP hB (vo_e (ve_md (vo_e (ve_add (vo_e (ve_mul (vo_v (pv 4)) (vo_e ve_int))) (vo_v (pv 3)))) (vo_e ve_int))) (vo_e ve_int))) (vo_v (pv 1)))))))))
theorem ok_l_part {P : Program} {w : World} {K : Fg} {mg : Str → Option Value} {base : Heap} (hB : HasSys P base) {f : Addr} {fd : FuncData} (W : Fun K "_law_part" "_law_part" s_l_part f fd) (m_abs : mg "abs" = none) : GOk P w K mg base 40 f fd ["_law_top", "_law_bottom"] (liftSp K [false, false] sp_l_part) := by
  have Sc := sc_l_part
  refine fn_g (r := rd_l_part) W Sc rfl (fun cdv A outer s H E hr hP => ?_) rp_l_part
  exact (vss_cons (vs_par (i := 2) (j := 3) rfl Sc.nd rfl rfl (by decide) rfl rfl (ve_cb (g := gAbs) call_abs lk_abs rfl m_abs bt_abs (va_cons (vo_v (pv 0)) va_nil)) (ve_cb (g := gAbs) call_abs lk_abs rfl m_abs bt_abs (va_cons (vo_v (pv 1)) va_nil)) (by rfl))
    (vss_cons (vs_while PassesOwn.never (vt_cmp op_gt lk_gt (vo_v (pv 3)) (vo_e ve_int) (nomark _)) (vss_one (vs_par (i := 2) (j := 3) rfl Sc.nd rfl rfl (by decide) rfl rfl (ve_var (pv 3)) (ve_md (vo_v (pv 2)) (vo_v (pv 3))) (by rfl))))
    (vss_cons (vs_set (i := 4) Sc.nd rfl (.inl rfl) (ve_if (vt_cmp op_gt lk_gt (vo_v (pv 1)) (vo_e ve_int) (nomark _)) ve_int (ve_neg ve_int)))
    (vss_one (vs_ret (ve_tup (vf_cons (ve_fd hr (by decide) hP hB (vo_e (ve_mul (vo_v (pv 4)) (vo_v (pv 0)))) (vo_v (pv 2))) (vf_cons (ve_fd hr (by decide) hP hB (vo_e (ve_mul (vo_v (pv 4)) (vo_v (pv 1)))) (vo_v (pv 2))) vf_nil))))))))
theorem ok_l_plus {P : Program} {w : World} {K : Fg} {mg : Str → Option Value} {base : Heap} (hB : HasSys P base) {f : Addr} {fd : FuncData} (W : Fun K "_law_plus" "_law_plus" s_l_plus f fd) (W_l_part : Fx K mg "_law_part" s_l_part ["_law_top", "_law_bottom"]) (G__law_part : GOk P w K mg base 40 W_l_part.f W_l_part.fd ["_law_top", "_law_bottom"] (liftSp K [false, false] sp_l_part)) : GOk P w K mg base 41 f fd ["_law_a", "_law_b"] (liftSp K [false, false] sp_l_plus) := by
  have Sc := sc_l_plus
  refine fn_g (r := rd_l_plus) W Sc rfl (fun cdv A outer s H E hr hP => ?_) rp_l_plus
  exact (vss_one (vs_ret (ve_gcall G__law_part (hr.mono (by decide)) rfl W_l_part.m W_l_part.F.kp W_l_part.b (vgv (ve_add (vo_e (ve_mul (vo_e (ve_at (vo_v (pv 0)) (vo_e ve_int))) (vo_e (ve_at (vo_v (pv 1)) (vo_e ve_int))))) (vo_e (ve_mul (vo_e (ve_at (vo_v (pv 1)) (vo_e ve_int))) (vo_e (ve_at (vo_v (pv 0)) (vo_e ve_int)))))) (vgv (ve_mul (vo_e (ve_at (vo_v (pv 0)) (vo_e ve_int))) (vo_e (ve_at (vo_v (pv 1)) (vo_e ve_int)))) vg0)))))
theorem ok_l_minus {P : Program} {w : World} {K : Fg} {mg : Str → Option Value} {base : Heap} (hB : HasSys P base) {f : Addr} {fd : FuncData} (W : Fun K "_law_minus" "_law_minus" s_l_minus f fd) (W_l_part : Fx K mg "_law_part" s_l_part ["_law_top", "_law_bottom"]) (G__law_part : GOk P w K mg base 40 W_l_part.f W_l_part.fd ["_law_top", "_law_bottom"] (liftSp K [false, false] sp_l_part)) : GOk P w K mg base 41 f fd ["_law_a", "_law_b"] (liftSp K [false, false] sp_l_minus) := by
  have Sc := sc_l_minus
  refine fn_g (r := rd_l_minus) W Sc rfl (fun cdv A outer s H E hr hP => ?_) rp_l_minus
  exact (vss_one (vs_ret (ve_gcall G__law_part (hr.mono (by decide)) rfl W_l_part.m W_l_part.F.kp W_l_part.b (vgv (ve_sub (vo_e (ve_mul (vo_e (ve_at (vo_v (pv 0)) (vo_e ve_int))) (vo_e (ve_at (vo_v (pv 1)) (vo_e ve_int))))) (vo_e (ve_mul (vo_e (ve_at (vo_v (pv 1)) (vo_e ve_int))) (vo_e (ve_at (vo_v (pv 0)) (vo_e ve_int)))))) (vgv (ve_mul (vo_e (ve_at (vo_v (pv 0)) (vo_e ve_int))) (vo_e (ve_at (vo_v (pv 1)) (vo_e ve_int)))) vg0)))))
theorem ok_l_times {P : Program} {w : World} {K : Fg} {mg : Str → Option Value} {base : Heap} (hB : HasSys P base) {f : Addr} {fd : FuncData} (W : Fun K "_law_times" "_law_times" s_l_times f fd) (W_l_part : Fx K mg "_law_part" s_l_part ["_law_top", "_law_bottom"]) (G__law_part : GOk P w K mg base 40 W_l_part.f W_l_part.fd ["_law_top", "_law_bottom"] (liftSp K [false, false] sp_l_part)) : GOk P w K mg base 41 f fd ["_law_a", "_law_b"] (liftSp K [false, false] sp_l_times) := by
  have Sc := sc_l_times
  refine fn_g (r := rd_l_times) W Sc rfl (fun cdv A outer s H E hr hP => ?_) rp_l_times
  exact (vss_one (vs_ret (ve_gcall G__law_part (hr.mono (by decide)) rfl W_l_part.m W_l_part.F.kp W_l_part.b (vgv (ve_mul (vo_e (ve_at (vo_v (pv 0)) (vo_e ve_int))) (vo_e (ve_at (vo_v (pv 1)) (vo_e ve_int)))) (vgv (ve_mul (vo_e (ve_at (vo_v (pv 0)) (vo_e ve_int))) (vo_e (ve_at (vo_v (pv 1)) (vo_e ve_int)))) vg0)))))
theorem ok_l_added {P : Program} {w : World} {K : Fg} {mg : Str → Option Value} {base : Heap} (hB : HasSys P base) {f : Addr} {fd : FuncData} (W : Fun K "_law_added" "_law_added" s_l_added f fd) (m_tuple : mg "tuple" = none) (m_zip : mg "zip" = none) (W_l_plus : Fx K mg "_law_plus" s_l_plus ["_law_a", "_law_b"]) (G__law_plus : GOk P w K mg base 41 W_l_plus.f W_l_plus.fd ["_law_a", "_law_b"] (liftSp K [false, false] sp_l_plus)) : GOk P w K mg base 42 f fd ["_law_one", "_law_other"] (liftSp K [false, false] sp_l_added) := by
  have Sc := sc_l_added
  refine fn_g (r := rd_l_added) W Sc rfl (fun cdv A outer s H E hr hP => ?_) rp_l_added
  exact (vss_one (vs_ret (ve_ct (g := gTupOf) call_tuple_of lk_tupOf rfl m_tuple bt_tuple (va_cons (vo_e (ve_lc (own := [("_law_a", 2), ("_law_b", 3)]) (is := ([2] ++ ([3] ++ []))) rfl Sc.nd (vi_zip rfl m_zip (vf_cons (ve_var (pv 0)) (vf_cons (ve_var (pv 1)) vf_nil))) (blkOk_by rfl) (by decide) (fun _ _ _ _ _ => (vg_tup (n := 2) rfl (vgs_cons (vg_name Sc.nd rfl (.inl rfl)) (vgs_cons (vg_name Sc.nd rfl (.inl rfl)) vgs_nil)))) (fun _ _ _ _ _ => vts_nil) (fun _ _ _ _ _ => (ve_gcall G__law_plus (hr.mono (by decide)) rfl W_l_plus.m W_l_plus.F.kp W_l_plus.b (vgv (ve_var (pv 2)) (vgv (ve_var (pv 3)) vg0)))))) va_nil))))
theorem ok_l_scaled {P : Program} {w : World} {K : Fg} {mg : Str → Option Value} {base : Heap} (hB : HasSys P base) {f : Addr} {fd : FuncData} (W : Fun K "_law_scaled" "_law_scaled" s_l_scaled f fd) (m_tuple : mg "tuple" = none) (W_l_times : Fx K mg "_law_times" s_l_times ["_law_a", "_law_b"]) (G__law_times : GOk P w K mg base 41 W_l_times.f W_l_times.fd ["_law_a", "_law_b"] (liftSp K [false, false] sp_l_times)) : GOk P w K mg base 42 f fd ["_law_worth", "_law_part_here"] (liftSp K [false, false] sp_l_scaled) := by
  have Sc := sc_l_scaled
  refine fn_g (r := rd_l_scaled) W Sc rfl (fun cdv A outer s H E hr hP => ?_) rp_l_scaled
  exact (vss_one (vs_ret (ve_ct (g := gTupOf) call_tuple_of lk_tupOf rfl m_tuple bt_tuple (va_cons (vo_e (ve_lc (own := [("_law_a", 2)]) (is := [2]) rfl Sc.nd (vi_seq (ve_var (pv 0))) (blkOk_by rfl) (by decide) (fun _ _ _ _ _ => (vg_name Sc.nd rfl (.inl rfl))) (fun _ _ _ _ _ => vts_nil) (fun _ _ _ _ _ => (ve_gcall G__law_times (hr.mono (by decide)) rfl W_l_times.m W_l_times.F.kp W_l_times.b (vgv (ve_var (pv 2)) (vgv (ve_var (pv 1)) vg0)))))) va_nil))))
theorem ok_l_priced_22395e {P : Program} {w : World} {K : Fg} {mg : Str → Option Value} {base : Heap} (hB : HasSys P base) {f : Addr} {fd : FuncData} (W : Fun K "_law_priced" "_law_priced" s_l_priced_22395e f fd) (m_zip : mg "zip" = none) (W_l_plus : Fx K mg "_law_plus" s_l_plus ["_law_a", "_law_b"]) (G__law_plus : GOk P w K mg base 41 W_l_plus.f W_l_plus.fd ["_law_a", "_law_b"] (liftSp K [false, false] sp_l_plus)) (W_l_times : Fx K mg "_law_times" s_l_times ["_law_a", "_law_b"]) (G__law_times : GOk P w K mg base 41 W_l_times.f W_l_times.fd ["_law_a", "_law_b"] (liftSp K [false, false] sp_l_times)) : GOk P w K mg base 42 f fd ["_law_prices", "_law_worth"] (liftSp K [false, false] sp_l_priced_22395e) := by
  have Sc := sc_l_priced_22395e
  refine fn_g (r := rd_l_priced_22395e) W Sc rfl (fun cdv A outer s H E hr hP => ?_) rp_l_priced_22395e
  exact (vss_cons (vs_set (i := 2) Sc.nd rfl (.inl rfl) (ve_tup (vf_cons ve_int (vf_cons ve_int vf_nil))))
    (vx rx_l_priced_22395e_2 (vss_cons (vs_for PassesOwn.never rfl (vi_w (ws := [3, 4]) (vi_zipA rfl m_zip (vf_cons (ve_var (pv 0)) (vf_cons (ve_var (pv 1)) vf_nil)))) (vg_tup (n := 2) rfl (vgs_cons (vg_name Sc.nd rfl (.inl rfl)) (vgs_cons (vg_name Sc.nd rfl (.inl rfl)) vgs_nil))) (vss_w (ws := [3, 4]) (vx rx_l_priced_22395e_3 (vss_one (vs_set (i := 2) Sc.nd rfl (.inl rfl) (ve_gcall G__law_plus (hr.mono (by decide)) rfl W_l_plus.m W_l_plus.F.kp W_l_plus.b (vgv (ve_var (pv 2)) (vgv (ve_gcall G__law_times (hr.mono (by decide)) rfl W_l_times.m W_l_times.F.kp W_l_times.b (vgv (ve_var (pv 3)) (vgv (ve_var (pv 4)) vg0))) vg0))))))))
    (vx rx_l_priced_22395e_4 (vss_one (vs_ret (ve_move (pv 2))))))))
theorem ok_l_number {P : Program} {w : World} {K : Fg} {mg : Str → Option Value} {base : Heap} (hB : HasSys P base) {f : Addr} {fd : FuncData} (W : Fun K "_law_number" "_law_number" s_l_number f fd) (W_l_draw : Fx K mg "_law_draw" s_l_draw ["_law_tape", "_law_many"]) (G__law_draw : GOk P w K mg base 40 W_l_draw.f W_l_draw.fd ["_law_tape", "_law_many"] (liftSp K [true, false] sp_l_draw)) (W_l_part : Fx K mg "_law_part" s_l_part ["_law_top", "_law_bottom"]) (G__law_part : GOk P w K mg base 40 W_l_part.f W_l_part.fd ["_law_top", "_law_bottom"] (liftSp K [false, false] sp_l_part)) : GOk P w K mg base 41 f fd ["_law_tape"] (liftSp K [true] sp_l_number) := by
  have Sc := sc_l_number
  refine fn_g (r := rd_l_number) W Sc rfl (fun cdv A outer s H E hr hP => ?_) rp_l_number
  exact (vss_cons (vs_par3 (i := 1) (j := 2) (l := 3) rfl Sc.nd rfl rfl rfl (by decide) (by decide) (by decide) rfl rfl rfl (ve_gcall G__law_draw (hr.mono (by decide)) rfl W_l_draw.m W_l_draw.F.kp W_l_draw.b (vgs (pv 0) (vgv ve_int vg0))) (ve_sub (vo_e (ve_gcall G__law_draw (hr.mono (by decide)) rfl W_l_draw.m W_l_draw.F.kp W_l_draw.b (vgs (pv 0) (vgv ve_int vg0)))) (vo_e ve_int)) (ve_add (vo_e ve_int) (vo_e (ve_gcall G__law_draw (hr.mono (by decide)) rfl W_l_draw.m W_l_draw.F.kp W_l_draw.b (vgs (pv 0) (vgv ve_int vg0))))) (by rfl))
    (vss_cons (vs_if (vt_cmp (op_eqD (hu64 hr.rm)) lk_eq (vo_v (pv 1)) (vo_e ve_int) (nomark _)) (vss_one (vs_ret (ve_gcall G__law_part (hr.mono (by decide)) rfl W_l_part.m W_l_part.F.kp W_l_part.b (vgv (ve_sub (vo_e (ve_gcall G__law_draw (hr.mono (by decide)) rfl W_l_draw.m W_l_draw.F.kp W_l_draw.b (vgs (pv 0) (vgv (ve_mul (vo_e ve_int) (vo_e (ve_pow (vo_e ve_int) (vo_e ve_int)))) vg0)))) (vo_e (ve_pow (vo_e ve_int) (vo_e ve_int)))) (vgv (ve_add (vo_e ve_int) (vo_e (ve_gcall G__law_draw (hr.mono (by decide)) rfl W_l_draw.m W_l_draw.F.kp W_l_draw.b (vgs (pv 0) (vgv ve_int vg0))))) vg0))))) vss_nil)
    (vss_one (vs_ret (ve_if (vt_cmp op_lt lk_lt (vo_v (pv 1)) (vo_e ve_int) (nomark _)) (ve_tup (vf_cons (ve_var (pv 2)) (vf_cons ve_int vf_nil))) (ve_gcall G__law_part (hr.mono (by decide)) rfl W_l_part.m W_l_part.F.kp W_l_part.b (vgv (ve_var (pv 2)) (vgv (ve_var (pv 3)) vg0))))))))
theorem ok_l_point {P : Program} {w : World} {K : Fg} {mg : Str → Option Value} {base : Heap} (hB : HasSys P base) {f : Addr} {fd : FuncData} (W : Fun K "_law_point" "_law_point" s_l_point f fd) (W_l_number : Fx K mg "_law_number" s_l_number ["_law_tape"]) (G__law_number : GOk P w K mg base 41 W_l_number.f W_l_number.fd ["_law_tape"] (liftSp K [true] sp_l_number)) : GOk P w K mg base 42 f fd ["_law_tape"] (liftSp K [true] sp_l_point) := by
  have Sc := sc_l_point
  refine fn_g (r := rd_l_point) W Sc rfl (fun cdv A outer s H E hr hP => ?_) rp_l_point
  exact (vss_one (vs_ret (ve_tup (vf_cons (ve_gcall G__law_number (hr.mono (by decide)) rfl W_l_number.m W_l_number.F.kp W_l_number.b (vgs (pv 0) vg0)) (vf_cons (ve_gcall G__law_number (hr.mono (by decide)) rfl W_l_number.m W_l_number.F.kp W_l_number.b (vgs (pv 0) vg0)) vf_nil)))))
theorem ok_l_points {P : Program} {w : World} {K : Fg} {mg : Str → Option Value} {base : Heap} (hB : HasSys P base) {f : Addr} {fd : FuncData} (W : Fun K "_law_points" "_law_points" s_l_points f fd) (m_range : mg "range" = none) (W_l_draw : Fx K mg "_law_draw" s_l_draw ["_law_tape", "_law_many"]) (G__law_draw : GOk P w K mg base 40 W_l_draw.f W_l_draw.fd ["_law_tape", "_law_many"] (liftSp K [true, false] sp_l_draw)) (W_l_point : Fx K mg "_law_point" s_l_point ["_law_tape"]) (G__law_point : GOk P w K mg base 42 W_l_point.f W_l_point.fd ["_law_tape"] (liftSp K [true] sp_l_point)) (W_l_added : Fx K mg "_law_added" s_l_added ["_law_one", "_law_other"]) (G__law_added : GOk P w K mg base 42 W_l_added.f W_l_added.fd ["_law_one", "_law_other"] (liftSp K [false, false] sp_l_added)) (W_l_scaled : Fx K mg "_law_scaled" s_l_scaled ["_law_worth", "_law_part_here"]) (G__law_scaled : GOk P w K mg base 42 W_l_scaled.f W_l_scaled.fd ["_law_worth", "_law_part_here"] (liftSp K [false, false] sp_l_scaled)) (W_l_times : Fx K mg "_law_times" s_l_times ["_law_a", "_law_b"]) (G__law_times : GOk P w K mg base 41 W_l_times.f W_l_times.fd ["_law_a", "_law_b"] (liftSp K [false, false] sp_l_times)) : GOk P w K mg base 43 f fd ["_law_tape", "_law_most"] (liftSp K [true, false] sp_l_points) := by
  have Sc := sc_l_points
  refine fn_g (r := rd_l_points) W Sc rfl (fun cdv A outer s H E hr hP => ?_) rp_l_points
  exact (vss_cons (vs_par3 (i := 2) (j := 3) (l := 4) rfl Sc.nd rfl rfl rfl (by decide) (by decide) (by decide) rfl rfl rfl (ve_gcall G__law_draw (hr.mono (by decide)) rfl W_l_draw.m W_l_draw.F.kp W_l_draw.b (vgs (pv 0) (vgv ve_int vg0))) (ve_addA (vo_e ve_int) (vo_e (ve_gcall G__law_draw (hr.mono (by decide)) rfl W_l_draw.m W_l_draw.F.kp W_l_draw.b (vgs (pv 0) (vgv (ve_var (pv 1)) vg0))))) (ve_lst vf_nil) (by rfl))
    (vx rx_l_points_2 (vss_cons (vs_par (i := 5) (j := 6) rfl Sc.nd rfl rfl (by decide) rfl rfl (ve_gcall G__law_point (hr.mono (by decide)) rfl W_l_point.m W_l_point.F.kp W_l_point.b (vgs (pv 0) vg0)) (ve_gcall G__law_point (hr.mono (by decide)) rfl W_l_point.m W_l_point.F.kp W_l_point.b (vgs (pv 0) vg0)) (by rfl))
    (vx rx_l_points_3 (vss_cons (vs_for PassesOwn.never rfl (vi_w (ws := [7, 8]) (vi_rng1 rfl m_range (vf_cons (ve_var (pv 3)) vf_nil))) (vg_name Sc.nd rfl (.inl rfl)) (vss_w (ws := [7, 8]) (vx rx_l_points_4 (vss_cons (vs_set (i := 8) Sc.nd rfl (.inl rfl) (ve_tup (vf_cons (ve_sub (vo_e (ve_gcall G__law_draw (hr.mono (by decide)) rfl W_l_draw.m W_l_draw.F.kp W_l_draw.b (vgs (pv 0) (vgv ve_int vg0)))) (vo_e ve_int)) (vf_cons ve_int vf_nil))))
    (vx rx_l_points_5 (vss_one (vs_if (vt_cmp op_lt lk_lt (vo_v (pv 2)) (vo_e ve_int) (nomark _)) (vss_one (vs_expr (ve_append (pv 4) (vf_cons (ve_gcall G__law_point (hr.mono (by decide)) rfl W_l_point.m W_l_point.F.kp W_l_point.b (vgs (pv 0) vg0)) vf_nil)))) (vss_one (vs_if (vt_cmp op_lt lk_lt (vo_v (pv 2)) (vo_e ve_int) (nomark _)) (vss_one (vs_expr (ve_append (pv 4) (vf_cons (ve_tup (vf_cons (ve_var (pv 8)) (vf_cons (ve_tup (vf_cons (ve_sub (vo_e (ve_gcall G__law_draw (hr.mono (by decide)) rfl W_l_draw.m W_l_draw.F.kp W_l_draw.b (vgs (pv 0) (vgv ve_int vg0)))) (vo_e ve_int)) (vf_cons ve_int vf_nil))) vf_nil))) vf_nil)))) (vss_one (vs_if (vt_cmp (op_eqD (hu64 hr.rm)) lk_eq (vo_v (pv 2)) (vo_e ve_int) (nomark _)) (vss_one (vs_expr (ve_append (pv 4) (vf_cons (ve_gcall G__law_added (hr.mono (by decide)) rfl W_l_added.m W_l_added.F.kp W_l_added.b (vgv (ve_var (pv 5)) (vgv (ve_gcall G__law_scaled (hr.mono (by decide)) rfl W_l_scaled.m W_l_scaled.F.kp W_l_scaled.b (vgv (ve_var (pv 6)) (vgv (ve_var (pv 8)) vg0))) vg0))) vf_nil)))) (vss_one (vs_if (vt_cmp (op_eqD (hu64 hr.rm)) lk_eq (vo_v (pv 2)) (vo_e ve_int) (nomark _)) (vss_one (vs_expr (ve_append (pv 4) (vf_cons (ve_var (pv 5)) vf_nil)))) (vss_one (vs_expr (ve_append (pv 4) (vf_cons (ve_tup (vf_cons (ve_var (pv 8)) (vf_cons (ve_gcall G__law_times (hr.mono (by decide)) rfl W_l_times.m W_l_times.F.kp W_l_times.b (vgv (ve_var (pv 8)) (vgv (ve_var (pv 8)) vg0))) vf_nil))) vf_nil)))))))))))))))))
    (vx rx_l_points_15 (vss_one (vs_ret (ve_move (pv 4))))))))))
theorem ok_l_between {P : Program} {w : World} {K : Fg} {mg : Str → Option Value} {base : Heap} (hB : HasSys P base) {f : Addr} {fd : FuncData} (W : Fun K "_law_between" "_law_between" s_l_between f fd) (m_sum : mg "sum" = none) (m_zip : mg "zip" = none) (W_l_draw : Fx K mg "_law_draw" s_l_draw ["_law_tape", "_law_many"]) (G__law_draw : GOk P w K mg base 40 W_l_draw.f W_l_draw.fd ["_law_tape", "_law_many"] (liftSp K [true, false] sp_l_draw)) (W_l_added : Fx K mg "_law_added" s_l_added ["_law_one", "_law_other"]) (G__law_added : GOk P w K mg base 42 W_l_added.f W_l_added.fd ["_law_one", "_law_other"] (liftSp K [false, false] sp_l_added)) (W_l_scaled : Fx K mg "_law_scaled" s_l_scaled ["_law_worth", "_law_part_here"]) (G__law_scaled : GOk P w K mg base 42 W_l_scaled.f W_l_scaled.fd ["_law_worth", "_law_part_here"] (liftSp K [false, false] sp_l_scaled)) (W_l_part : Fx K mg "_law_part" s_l_part ["_law_top", "_law_bottom"]) (G__law_part : GOk P w K mg base 40 W_l_part.f W_l_part.fd ["_law_top", "_law_bottom"] (liftSp K [false, false] sp_l_part)) : GOk P w K mg base 43 f fd ["_law_tape", "_law_points_here"] (liftSp K [true, false] sp_l_between) := by
  have Sc := sc_l_between
  refine fn_g (r := rd_l_between) W Sc rfl (fun cdv A outer s H E hr hP => ?_) rp_l_between
  exact (vss_cons (vs_setLc (i := 2) (own := [("_law_point_here", 5)]) (is := [5]) rfl Sc.nd rfl rfl (sw_true rfl rfl rfl (by decide +kernel)) (vi_seq (ve_var (pv 1))) (blkOk_by rfl) (by decide) (fun _ _ _ _ _ => (vg_name Sc.nd rfl (.inl rfl))) (fun _ _ _ _ _ => vts_nil) (fun _ _ _ _ _ => (ve_at (vo_e (ve_lst (vf_cons ve_int (vf_cons ve_int (vf_cons ve_int (vf_cons ve_int (vf_cons (ve_gcall G__law_draw (hr.mono (by decide)) rfl W_l_draw.m W_l_draw.F.kp W_l_draw.b (vgs (pv 0) (vgv ve_int vg0))) vf_nil))))))) (vo_e (ve_gcall G__law_draw (hr.mono (by decide)) rfl W_l_draw.m W_l_draw.F.kp W_l_draw.b (vgs (pv 0) (vgv ve_int vg0)))))))
    (vx rx_l_between_2 (vss_cons (vs_set (i := 3) Sc.nd rfl (.inl rfl) (ve_cb (g := gSum) (cr_sum rfl) lk_sum rfl m_sum bt_sum (va_cons (vo_v (pv 2)) va_nil)))
    (vx rx_l_between_3 (vss_cons (vs_if (vt_cmp (op_eqD (hu64 hr.rm)) lk_eq (vo_v (pv 3)) (vo_e ve_int) (nomark _)) (vss_one (vs_asg (ve_tup (vf_cons ve_int (vf_cons ve_int vf_nil))) (vg_tup (n := 2) rfl (vgs_cons (vg_ix (pv 2) ve_int) (vgs_cons (vg_name Sc.nd rfl (.inl rfl)) vgs_nil))))) vss_nil)
    (vx rx_l_between_5 (vss_cons (vs_set (i := 4) Sc.nd rfl (.inl rfl) (ve_tup (vf_cons (ve_tup (vf_cons ve_int (vf_cons ve_int vf_nil))) (vf_cons (ve_tup (vf_cons ve_int (vf_cons ve_int vf_nil))) vf_nil))))
    (vx rx_l_between_6 (vss_cons (vs_for PassesOwn.never rfl (vi_w (ws := [5, 6]) (vi_zipA rfl m_zip (vf_cons (ve_var (pv 1)) (vf_cons (ve_var (pv 2)) vf_nil)))) (vg_tup (n := 2) rfl (vgs_cons (vg_name Sc.nd rfl (.inl rfl)) (vgs_cons (vg_name Sc.nd rfl (.inl rfl)) vgs_nil))) (vss_w (ws := [5, 6]) (vx rx_l_between_7 (vss_one (vs_set (i := 4) Sc.nd rfl (.inl rfl) (ve_gcall G__law_added (hr.mono (by decide)) rfl W_l_added.m W_l_added.F.kp W_l_added.b (vgv (ve_var (pv 4)) (vgv (ve_gcall G__law_scaled (hr.mono (by decide)) rfl W_l_scaled.m W_l_scaled.F.kp W_l_scaled.b (vgv (ve_var (pv 5)) (vgv (ve_gcall G__law_part (hr.mono (by decide)) rfl W_l_part.m W_l_part.F.kp W_l_part.b (vgv (ve_var (pv 6)) (vgv (ve_var (pv 3)) vg0))) vg0))) vg0))))))))
    (vx rx_l_between_8 (vss_one (vs_ret (ve_move (pv 4))))))))))))))
theorem ok_l_turned {P : Program} {w : World} {K : Fg} {mg : Str → Option Value} {base : Heap} (hB : HasSys P base) {f : Addr} {fd : FuncData} (W : Fun K "_law_turned" "_law_turned" s_l_turned f fd) (W_l_scaled : Fx K mg "_law_scaled" s_l_scaled ["_law_worth", "_law_part_here"]) (G__law_scaled : GOk P w K mg base 42 W_l_scaled.f W_l_scaled.fd ["_law_worth", "_law_part_here"] (liftSp K [false, false] sp_l_scaled)) : GOk P w K mg base 43 f fd ["_law_prices"] (liftSp K [false] sp_l_turned) := by
  have Sc := sc_l_turned
  refine fn_g (r := rd_l_turned) W Sc rfl (fun cdv A outer s H E hr hP => ?_) rp_l_turned
  exact (vss_one (vs_ret (ve_gcall G__law_scaled (hr.mono (by decide)) rfl W_l_scaled.m W_l_scaled.F.kp W_l_scaled.b (vgv (ve_var (pv 0)) (vgv (ve_tup (vf_cons (ve_neg ve_int) (vf_cons ve_int vf_nil))) vg0)))))
theorem ok_l_by_fence {P : Program} {w : World} {K : Fg} {mg : Str → Option Value} {base : Heap} (hB : HasSys P base) {f : Addr} {fd : FuncData} (W : Fun K "_law_by_fence" "_law_by_fence" s_l_by_fence f fd) (W_fence : Fx K mg "fence" s_fence ["figure"]) (G_fence : GOk P w K mg base 46 W_fence.f W_fence.fd ["figure"] (liftSp K [false] sp_fence)) (W_cut : Fx K mg "cut" s_cut ["figure", "prices", "least"]) (G_cut : GOk P w K mg base 45 W_cut.f W_cut.fd ["figure", "prices", "least"] (liftSp K [false, false, false] sp_cut)) (W_l_times : Fx K mg "_law_times" s_l_times ["_law_a", "_law_b"]) (G__law_times : GOk P w K mg base 41 W_l_times.f W_l_times.fd ["_law_a", "_law_b"] (liftSp K [false, false] sp_l_times)) (W_l_turned : Fx K mg "_law_turned" s_l_turned ["_law_prices"]) (G__law_turned : GOk P w K mg base 43 W_l_turned.f W_l_turned.fd ["_law_prices"] (liftSp K [false] sp_l_turned)) : GOk P w K mg base 47 f fd ["_law_figure", "_law_other"] (liftSp K [false, false] sp_l_by_fence) := by
  have Sc := sc_l_by_fence
  refine fn_g (r := rd_l_by_fence) W Sc rfl (fun cdv A outer s H E hr hP => ?_) rp_l_by_fence
  exact (vss_cons (vs_set (i := 2) Sc.nd rfl (.inl rfl) (ve_var (pv 0)))
    (vx rx_l_by_fence_2 (vss_cons (vs_for PassesOwn.never rfl (vi_w (ws := [3, 4]) (vi_seq (ve_gcall G_fence (hr.mono (by decide)) rfl W_fence.m W_fence.F.kp W_fence.b (vgv (ve_var (pv 1)) vg0)))) (vg_tup (n := 2) rfl (vgs_cons (vg_name Sc.nd rfl (.inl rfl)) (vgs_cons (vg_name Sc.nd rfl (.inl rfl)) vgs_nil))) (vss_w (ws := [3, 4]) (vx rx_l_by_fence_3 (vss_one (vs_if (vt_cmp (op_neN (hu64 hr.rm)) lk_neN (vo_v (pv 2)) (vo_e (ve_lst vf_nil)) (nomark _)) (vss_one (vs_set (i := 2) Sc.nd rfl (.inl rfl) (ve_gcall G_cut (hr.mono (by decide)) rfl W_cut.m W_cut.F.kp W_cut.b (vgv (ve_var (pv 2)) (vgv (ve_gcall G__law_turned (hr.mono (by decide)) rfl W_l_turned.m W_l_turned.F.kp W_l_turned.b (vgv (ve_var (pv 3)) vg0)) (vgv (ve_gcall G__law_times (hr.mono (by decide)) rfl W_l_times.m W_l_times.F.kp W_l_times.b (vgv (ve_var (pv 4)) (vgv (ve_tup (vf_cons (ve_neg ve_int) (vf_cons ve_int vf_nil))) vg0))) vg0)))))) vss_nil)))))
    (vx rx_l_by_fence_5 (vss_one (vs_ret (ve_move (pv 2))))))))
theorem ok_l_own_right {P : Program} {w : World} {K : Fg} {mg : Str → Option Value} {base : Heap} (hB : HasSys P base) {f : Addr} {fd : FuncData} (W : Fun K "_law_own_right" "_law_own_right" s_l_own_right f fd) (m_all : mg "all" = none) (m_any : mg "any" = none) (m_len : mg "len" = none) (W_fence : Fx K mg "fence" s_fence ["figure"]) (G_fence : GOk P w K mg base 46 W_fence.f W_fence.fd ["figure"] (liftSp K [false] sp_fence)) (W_cut : Fx K mg "cut" s_cut ["figure", "prices", "least"]) (G_cut : GOk P w K mg base 45 W_cut.f W_cut.fd ["figure", "prices", "least"] (liftSp K [false, false, false] sp_cut)) (W_l_times : Fx K mg "_law_times" s_l_times ["_law_a", "_law_b"]) (G__law_times : GOk P w K mg base 41 W_l_times.f W_l_times.fd ["_law_a", "_law_b"] (liftSp K [false, false] sp_l_times)) (W_l_turned : Fx K mg "_law_turned" s_l_turned ["_law_prices"]) (G__law_turned : GOk P w K mg base 43 W_l_turned.f W_l_turned.fd ["_law_prices"] (liftSp K [false] sp_l_turned)) (W_l_priced_22395e : Fx K mg "_law_priced" s_l_priced_22395e ["_law_prices", "_law_worth"]) (G__law_priced : GOk P w K mg base 42 W_l_priced_22395e.f W_l_priced_22395e.fd ["_law_prices", "_law_worth"] (liftSp K [false, false] sp_l_priced_22395e)) (W_l_plus : Fx K mg "_law_plus" s_l_plus ["_law_a", "_law_b"]) (G__law_plus : GOk P w K mg base 41 W_l_plus.f W_l_plus.fd ["_law_a", "_law_b"] (liftSp K [false, false] sp_l_plus)) : GOk P w K mg base 47 f fd ["_law_figure"] (liftSp K [false] sp_l_own_right) := by
  have Sc := sc_l_own_right
  refine fn_g (r := rd_l_own_right) W Sc rfl (fun cdv A outer s H E hr hP => ?_) rp_l_own_right
  exact (vss_cons (vs_for PassesOwn.never rfl (vi_w (ws := [1, 2, 3]) (vi_seq (ve_gcall G_fence (hr.mono (by decide)) rfl W_fence.m W_fence.F.kp W_fence.b (vgv (ve_var (pv 0)) vg0)))) (vg_tup (n := 2) rfl (vgs_cons (vg_name Sc.nd rfl (.inr rfl)) (vgs_cons (vg_name Sc.nd rfl (.inr rfl)) vgs_nil))) (vss_w (ws := [1, 2, 3]) (vx rx_l_own_right_2 (vss_cons (vs_if (vt_cmp (op_neD (hu64 hr.rm)) lk_ne (vo_e (ve_gcall G_cut (hr.mono (by decide)) rfl W_cut.m W_cut.F.kp W_cut.b (vgv (ve_var (pv 0)) (vgv (ve_gcall G__law_turned (hr.mono (by decide)) rfl W_l_turned.m W_l_turned.F.kp W_l_turned.b (vgv (ve_var (pv 1)) vg0)) (vgv (ve_gcall G__law_times (hr.mono (by decide)) rfl W_l_times.m W_l_times.F.kp W_l_times.b (vgv (ve_var (pv 2)) (vgv (ve_tup (vf_cons (ve_neg ve_int) (vf_cons ve_int vf_nil))) vg0))) vg0))))) (vo_v (pv 0)) (nomark _)) (vss_one (vs_ret ve_bl)) vss_nil)
    (vx rx_l_own_right_4 (vss_cons (vs_set (i := 3) Sc.nd rfl (.inl rfl) (ve_gcall G_cut (hr.mono (by decide)) rfl W_cut.m W_cut.F.kp W_cut.b (vgv (ve_var (pv 0)) (vgv (ve_var (pv 1)) (vgv (ve_var (pv 2)) vg0)))))
    (vx rx_l_own_right_5 (vss_cons (vs_if (vt_w (vw_or (vt_cmp (op_eqN (hu64 hr.rm)) lk_eqN (vo_v (pv 3)) (vo_e (ve_lst vf_nil)) (nomark _)) (vw_or (vt_cmp op_gt lk_gt (vo_e (ve_cb (g := gLen) call_lenV lk_len rfl m_len bt_len (va_cons (vo_v (pv 3)) va_nil))) (vo_e ve_int) (nomark _)) (vw_or1 (vt_not (vt_val (ve_cb (g := (gBls fun l => l.all id)) (cr_all rfl) lk_bls rfl m_all bt_all (va_cons (vo_e (ve_lc (own := [("_law_corner", 4)]) (is := [4]) rfl Sc.nd (vi_seq (ve_var (pv 3))) (blkOk_by rfl) (by decide) (fun _ _ _ _ _ => (vg_name Sc.nd rfl (.inl rfl))) (fun _ _ _ _ _ => vts_nil) (fun _ _ _ _ _ => (ve_cmp (op_inD (hu65 hr.rm)) lk_inD (vo_v (pv 4)) (vo_v (pv 0)) rfl)))) va_nil)))))))) (vss_one (vs_ret ve_bl)) vss_nil)
    (vx rx_l_own_right_7 (vss_cons (vs_if (vt_val (ve_cb (g := (gBls fun l => l.any id)) (cr_any rfl) lk_bls rfl m_any bt_any (va_cons (vo_e (ve_lc (own := [("_law_corner", 4)]) (is := [4]) rfl Sc.nd (vi_seq (ve_var (pv 3))) (blkOk_by rfl) (by decide) (fun _ _ _ _ _ => (vg_name Sc.nd rfl (.inl rfl))) (fun _ _ _ _ _ => vts_nil) (fun _ _ _ _ _ => (ve_cmp (op_neD (hu64 hr.rm)) lk_ne (vo_e (ve_gcall G__law_priced (hr.mono (by decide)) rfl W_l_priced_22395e.m W_l_priced_22395e.F.kp W_l_priced_22395e.b (vgv (ve_var (pv 1)) (vgv (ve_var (pv 4)) vg0)))) (vo_v (pv 2)) (nomark _))))) va_nil))) (vss_one (vs_ret ve_bl)) vss_nil)
    (vx rx_l_own_right_9 (vss_one (vs_if (vt_cmp (op_neN (hu64 hr.rm)) lk_neN (vo_e (ve_gcall G_cut (hr.mono (by decide)) rfl W_cut.m W_cut.F.kp W_cut.b (vgv (ve_var (pv 0)) (vgv (ve_var (pv 1)) (vgv (ve_gcall G__law_plus (hr.mono (by decide)) rfl W_l_plus.m W_l_plus.F.kp W_l_plus.b (vgv (ve_var (pv 2)) (vgv (ve_tup (vf_cons ve_int (vf_cons (ve_pow (vo_e ve_int) (vo_e ve_int)) vf_nil))) vg0))) vg0))))) (vo_e (ve_lst vf_nil)) (nomark _)) (vss_one (vs_ret ve_bl)) vss_nil)))))))))))))
    (vx rx_l_own_right_11 (vss_one (vs_ret ve_bl))))
theorem ok_l_parted_right {P : Program} {w : World} {K : Fg} {mg : Str → Option Value} {base : Heap} (hB : HasSys P base) {f : Addr} {fd : FuncData} (W : Fun K "_law_parted_right" "_law_parted_right" s_l_parted_right f fd) (W_l_point : Fx K mg "_law_point" s_l_point ["_law_tape"]) (G__law_point : GOk P w K mg base 42 W_l_point.f W_l_point.fd ["_law_tape"] (liftSp K [true] sp_l_point)) (W_l_between : Fx K mg "_law_between" s_l_between ["_law_tape", "_law_points_here"]) (G__law_between : GOk P w K mg base 43 W_l_between.f W_l_between.fd ["_law_tape", "_law_points_here"] (liftSp K [true, false] sp_l_between)) (W_l_priced_22395e : Fx K mg "_law_priced" s_l_priced_22395e ["_law_prices", "_law_worth"]) (G__law_priced : GOk P w K mg base 42 W_l_priced_22395e.f W_l_priced_22395e.fd ["_law_prices", "_law_worth"] (liftSp K [false, false] sp_l_priced_22395e)) (W_cut : Fx K mg "cut" s_cut ["figure", "prices", "least"]) (G_cut : GOk P w K mg base 45 W_cut.f W_cut.fd ["figure", "prices", "least"] (liftSp K [false, false, false] sp_cut)) (W_l_times : Fx K mg "_law_times" s_l_times ["_law_a", "_law_b"]) (G__law_times : GOk P w K mg base 41 W_l_times.f W_l_times.fd ["_law_a", "_law_b"] (liftSp K [false, false] sp_l_times)) (W_l_turned : Fx K mg "_law_turned" s_l_turned ["_law_prices"]) (G__law_turned : GOk P w K mg base 43 W_l_turned.f W_l_turned.fd ["_law_prices"] (liftSp K [false] sp_l_turned)) (W_joined : Fx K mg "joined" s_joined ["figures"]) (G_joined : GOk P w K mg base 44 W_joined.f W_joined.fd ["figures"] (liftSp K [false] sp_joined)) (W_has_point : Fx K mg "has_point" s_has_point ["figure", "point"]) (G_has_point : GOk P w K mg base 47 W_has_point.f W_has_point.fd ["figure", "point"] (liftSp K [false, false] sp_has_point)) : GOk P w K mg base 48 f fd ["_law_tape", "_law_figure"] (liftSp K [true, false] sp_l_parted_right) := by
  have Sc := sc_l_parted_right
  refine fn_g (r := rd_l_parted_right) W Sc rfl (fun cdv A outer s H E hr hP => ?_) rp_l_parted_right
  exact (vss_cons (vs_par (i := 2) (j := 3) rfl Sc.nd rfl rfl (by decide) rfl rfl (ve_gcall G__law_point (hr.mono (by decide)) rfl W_l_point.m W_l_point.F.kp W_l_point.b (vgs (pv 0) vg0)) (ve_gcall G__law_between (hr.mono (by decide)) rfl W_l_between.m W_l_between.F.kp W_l_between.b (vgs (pv 0) (vgv (ve_var (pv 1)) vg0))) (by rfl))
    (vss_cons (vs_set (i := 4) Sc.nd rfl (.inl rfl) (ve_gcall G__law_priced (hr.mono (by decide)) rfl W_l_priced_22395e.m W_l_priced_22395e.F.kp W_l_priced_22395e.b (vgv (ve_var (pv 2)) (vgv (ve_var (pv 3)) vg0))))
    (vss_cons (vs_par (i := 5) (j := 6) rfl Sc.nd rfl rfl (by decide) rfl rfl (ve_gcall G_cut (hr.mono (by decide)) rfl W_cut.m W_cut.F.kp W_cut.b (vgv (ve_var (pv 1)) (vgv (ve_var (pv 2)) (vgv (ve_var (pv 4)) vg0)))) (ve_gcall G_cut (hr.mono (by decide)) rfl W_cut.m W_cut.F.kp W_cut.b (vgv (ve_var (pv 1)) (vgv (ve_gcall G__law_turned (hr.mono (by decide)) rfl W_l_turned.m W_l_turned.F.kp W_l_turned.b (vgv (ve_var (pv 2)) vg0)) (vgv (ve_gcall G__law_times (hr.mono (by decide)) rfl W_l_times.m W_l_times.F.kp W_l_times.b (vgv (ve_var (pv 4)) (vgv (ve_tup (vf_cons (ve_neg ve_int) (vf_cons ve_int vf_nil))) vg0))) vg0)))) (by rfl))
    (vss_cons (vs_if (vt_w (vw_or (vt_cmp (op_eqN (hu64 hr.rm)) lk_eqN (vo_v (pv 5)) (vo_e (ve_lst vf_nil)) (nomark _)) (vw_or (vt_cmp (op_eqN (hu64 hr.rm)) lk_eqN (vo_v (pv 6)) (vo_e (ve_lst vf_nil)) (nomark _)) (vw_or1 (vt_cmp (op_neD (hu64 hr.rm)) lk_ne (vo_e (ve_gcall G_joined (hr.mono (by decide)) rfl W_joined.m W_joined.F.kp W_joined.b (vgv (ve_lst (vf_cons (ve_var (pv 5)) (vf_cons (ve_var (pv 6)) vf_nil))) vg0))) (vo_v (pv 1)) (nomark _)))))) (vss_one (vs_ret ve_bl)) vss_nil)
    (vss_one (vs_ret (ve_and (ve_gcall G_has_point (hr.mono (by decide)) rfl W_has_point.m W_has_point.F.kp W_has_point.b (vgv (ve_var (pv 5)) (vgv (ve_var (pv 3)) vg0))) (ve_one (ve_gcall G_has_point (hr.mono (by decide)) rfl W_has_point.m W_has_point.F.kp W_has_point.b (vgv (ve_var (pv 6)) (vgv (ve_var (pv 3)) vg0)))))))))))
theorem ok_law {P : Program} {w : World} {K : Fg} {mg : Str → Option Value} {base : Heap} (hB : HasSys P base) {f : Addr} {fd : FuncData} (W : Fun K "law" "law" s_law f fd) (m_len : mg "len" = none) (m_min : mg "min" = none) (m_range : mg "range" = none) (m_tuple : mg "tuple" = none) (m_zip : mg "zip" = none) (W_l_begun : Fx K mg "_law_begun" s_l_begun ["_law_script", "_law_k"]) (G__law_begun : GOk P w K mg base 40 W_l_begun.f W_l_begun.fd ["_law_script", "_law_k"] (liftSp K [false, false] sp_l_begun)) (W_hull : Fx K mg "hull" s_hull ["points"]) (G_hull : GOk P w K mg base 43 W_hull.f W_hull.fd ["points"] (liftSp K [false] sp_hull)) (W_l_points : Fx K mg "_law_points" s_l_points ["_law_tape", "_law_most"]) (G__law_points : GOk P w K mg base 43 W_l_points.f W_l_points.fd ["_law_tape", "_law_most"] (liftSp K [true, false] sp_l_points)) (W_l_draw : Fx K mg "_law_draw" s_l_draw ["_law_tape", "_law_many"]) (G__law_draw : GOk P w K mg base 40 W_l_draw.f W_l_draw.fd ["_law_tape", "_law_many"] (liftSp K [true, false] sp_l_draw)) (W_l_between : Fx K mg "_law_between" s_l_between ["_law_tape", "_law_points_here"]) (G__law_between : GOk P w K mg base 43 W_l_between.f W_l_between.fd ["_law_tape", "_law_points_here"] (liftSp K [true, false] sp_l_between)) (W_moved : Fx K mg "moved" s_moved ["figure", "point"]) (G_moved : GOk P w K mg base 44 W_moved.f W_moved.fd ["figure", "point"] (liftSp K [false, false] sp_moved)) (W_l_minus : Fx K mg "_law_minus" s_l_minus ["_law_a", "_law_b"]) (G__law_minus : GOk P w K mg base 41 W_l_minus.f W_l_minus.fd ["_law_a", "_law_b"] (liftSp K [false, false] sp_l_minus)) (W_l_parted_right : Fx K mg "_law_parted_right" s_l_parted_right ["_law_tape", "_law_figure"]) (G__law_parted_right : GOk P w K mg base 48 W_l_parted_right.f W_l_parted_right.fd ["_law_tape", "_law_figure"] (liftSp K [true, false] sp_l_parted_right)) (W_l_own_right : Fx K mg "_law_own_right" s_l_own_right ["_law_figure"]) (G__law_own_right : GOk P w K mg base 47 W_l_own_right.f W_l_own_right.fd ["_law_figure"] (liftSp K [false] sp_l_own_right)) (W_l_by_fence : Fx K mg "_law_by_fence" s_l_by_fence ["_law_figure", "_law_other"]) (G__law_by_fence : GOk P w K mg base 47 W_l_by_fence.f W_l_by_fence.fd ["_law_figure", "_law_other"] (liftSp K [false, false] sp_l_by_fence)) (W_has_point : Fx K mg "has_point" s_has_point ["figure", "point"]) (G_has_point : GOk P w K mg base 47 W_has_point.f W_has_point.fd ["figure", "point"] (liftSp K [false, false] sp_has_point)) (W_l_number : Fx K mg "_law_number" s_l_number ["_law_tape"]) (G__law_number : GOk P w K mg base 41 W_l_number.f W_l_number.fd ["_law_tape"] (liftSp K [true] sp_l_number)) (W_l_point : Fx K mg "_law_point" s_l_point ["_law_tape"]) (G__law_point : GOk P w K mg base 42 W_l_point.f W_l_point.fd ["_law_tape"] (liftSp K [true] sp_l_point)) (W_cut : Fx K mg "cut" s_cut ["figure", "prices", "least"]) (G_cut : GOk P w K mg base 45 W_cut.f W_cut.fd ["figure", "prices", "least"] (liftSp K [false, false, false] sp_cut)) : GOk P w K mg base 49 f fd ["_law_script"] (liftSp K [false] sp_law) := by
  have Sc := sc_law
  refine fn_g (r := rd_law) W Sc rfl (fun cdv A outer s H E hr hP => ?_) rp_law
  exact (vss_cons (vs_for PassesOwn.never rfl (vi_w (ws := [1, 2, 3, 4, 5, 6, 7, 8, 9, 10, 11, 12, 13, 14]) (vi_rng1 rfl m_range (vf_cons (ve_addA (vo_e ve_int) (vo_e (ve_cb (g := gMin) (call_min2 rfl) lk_min rfl m_min bt_min (va_cons (vo_e ve_int) (va_cons (vo_e (ve_cb (g := gLen) call_lenV lk_len rfl m_len bt_len (va_cons (vo_v (pv 0)) va_nil))) va_nil))))) vf_nil))) (vg_name Sc.nd rfl (.inl rfl)) (vss_w (ws := [1, 2, 3, 4, 5, 6, 7, 8, 9, 10, 11, 12, 13, 14]) (vx rx_law_2 (vss_cons (vs_set (i := 2) Sc.nd rfl (.inr rfl) (ve_gcall G__law_begun (hr.mono (by decide)) rfl W_l_begun.m W_l_begun.F.kp W_l_begun.b (vgv (ve_var (pv 0)) (vgv (ve_var (pv 1)) vg0))))
    (vx rx_law_3 (vss_cons (vs_asg (ve_tup (vf_cons (ve_gcall G_hull (hr.mono (by decide)) rfl W_hull.m W_hull.F.kp W_hull.b (vgv (ve_gcall G__law_points (hr.mono (by decide)) rfl W_l_points.m W_l_points.F.kp W_l_points.b (vgs (pv 2) (vgv ve_int vg0))) vg0)) (vf_cons (ve_gcall G_hull (hr.mono (by decide)) rfl W_hull.m W_hull.F.kp W_hull.b (vgv (ve_gcall G__law_points (hr.mono (by decide)) rfl W_l_points.m W_l_points.F.kp W_l_points.b (vgs (pv 2) (vgv ve_int vg0))) vg0)) vf_nil))) (vg_tup (n := 2) rfl (vgs_cons (vg_name Sc.nd rfl (.inr rfl)) (vgs_cons (vg_name Sc.nd rfl (.inr rfl)) vgs_nil))))
    (vx rx_law_4 (vss_cons (vs_if (vt_cmp (op_eqD (hu64 hr.rm)) lk_eq (vo_e (ve_gcall G__law_draw (hr.mono (by decide)) rfl W_l_draw.m W_l_draw.F.kp W_l_draw.b (vgs (pv 2) (vgv ve_int vg0)))) (vo_e ve_int) (nomark _)) (vss_cons (vs_par (i := 5) (j := 6) rfl Sc.nd rfl rfl (by decide) rfl rfl (ve_gcall G__law_between (hr.mono (by decide)) rfl W_l_between.m W_l_between.F.kp W_l_between.b (vgs (pv 2) (vgv (ve_var (pv 4)) vg0))) (ve_gcall G__law_between (hr.mono (by decide)) rfl W_l_between.m W_l_between.F.kp W_l_between.b (vgs (pv 2) (vgv (ve_var (pv 3)) vg0))) (by rfl))
    (vx rx_law_6 (vss_one (vs_set (i := 4) Sc.nd rfl (.inr rfl) (ve_gcall G_moved (hr.mono (by decide)) rfl W_moved.m W_moved.F.kp W_moved.b (vgv (ve_var (pv 4)) (vgv (ve_ct (g := gTupOf) call_tuple_of lk_tupOf rfl m_tuple bt_tuple (va_cons (vo_e (ve_lc (own := [("_law_a", 15), ("_law_b", 16)]) (is := ([15] ++ ([16] ++ []))) rfl Sc.nd (vi_zipA rfl m_zip (vf_cons (ve_var (pv 5)) (vf_cons (ve_var (pv 6)) vf_nil))) (blkOk_by rfl) (by decide) (fun _ _ _ _ _ => (vg_tup (n := 2) rfl (vgs_cons (vg_name Sc.nd rfl (.inl rfl)) (vgs_cons (vg_name Sc.nd rfl (.inl rfl)) vgs_nil)))) (fun _ _ _ _ _ => vts_nil) (fun _ _ _ _ _ => (ve_gcall G__law_minus (hr.mono (by decide)) rfl W_l_minus.m W_l_minus.F.kp W_l_minus.b (vgv (ve_var (pv 16)) (vgv (ve_var (pv 15)) vg0)))))) va_nil)) vg0))))))) vss_nil)
    (vx rx_law_7 (vss_cons (vs_if (vt_w (vw_or (vt_not (vt_val (ve_gcall G__law_own_right (hr.mono (by decide)) rfl W_l_own_right.m W_l_own_right.F.kp W_l_own_right.b (vgv (ve_var (pv 3)) vg0)))) (vw_or (vt_not (vt_val (ve_gcall G__law_own_right (hr.mono (by decide)) rfl W_l_own_right.m W_l_own_right.F.kp W_l_own_right.b (vgv (ve_var (pv 4)) vg0)))) (vw_or1 (vt_not (vt_val (ve_gcall G__law_parted_right (hr.mono (by decide)) rfl W_l_parted_right.m W_l_parted_right.F.kp W_l_parted_right.b (vgs (pv 2) (vgv (ve_var (pv 3)) vg0))))))))) (vss_one (vs_ret ve_bl)) vss_nil)
    (vx rx_law_9 (vss_cons (vs_set (i := 7) Sc.nd rfl (.inl rfl) (ve_gcall G__law_by_fence (hr.mono (by decide)) rfl W_l_by_fence.m W_l_by_fence.F.kp W_l_by_fence.b (vgv (ve_var (pv 3)) (vgv (ve_var (pv 4)) vg0))))
    (vx rx_law_10 (vss_cons (vs_if (vt_cmp (op_neD (hu64 hr.rm)) lk_ne (vo_v (pv 7)) (vo_e (ve_gcall G__law_by_fence (hr.mono (by decide)) rfl W_l_by_fence.m W_l_by_fence.F.kp W_l_by_fence.b (vgv (ve_var (pv 4)) (vgv (ve_var (pv 3)) vg0)))) (nomark _)) (vss_one (vs_ret ve_bl)) vss_nil)
    (vx rx_law_12 (vss_cons (vs_setLc (i := 8) (own := [("_law_point_here", 9)]) (is := [9]) rfl Sc.nd rfl rfl (sw_true rfl rfl rfl (by decide +kernel)) (vi_seq (ve_var (pv 7))) (blkOk_by rfl) (by decide) (fun _ _ _ _ _ => (vg_name Sc.nd rfl (.inl rfl))) (fun _ _ _ _ _ => (vts_one (vt_w (vw_or (vt_not (vt_val (ve_gcall G_has_point (hr.mono (by decide)) rfl W_has_point.m W_has_point.F.kp W_has_point.b (vgv (ve_var (pv 3)) (vgv (ve_var (pv 9)) vg0))))) (vw_or1 (vt_not (vt_val (ve_gcall G_has_point (hr.mono (by decide)) rfl W_has_point.m W_has_point.F.kp W_has_point.b (vgv (ve_var (pv 4)) (vgv (ve_var (pv 9)) vg0)))))))))) (fun _ _ _ _ _ => (ve_var (pv 9))))
    (vx rx_law_13 (vss_cons (vs_if (vt_cmp (op_neN (hu64 hr.rm)) lk_neN (vo_v (pv 8)) (vo_e (ve_lst vf_nil)) (nomark _)) (vss_one (vs_ret ve_bl)) vss_nil)
    (vx rx_law_15 (vss_cons (vs_for PassesOwn.never rfl (vi_w (ws := [9, 10]) (vi_seq (ve_addA (vo_e (ve_addA (vo_e (ve_lc (own := [("_law_turn", 17)]) (is := [17]) rfl Sc.nd (vi_rng1 rfl m_range (vf_cons ve_int vf_nil)) (blkOk_by rfl) (by decide) (fun _ _ _ _ _ => (vg_name Sc.nd rfl (.inl rfl))) (fun _ _ _ _ _ => vts_nil) (fun _ _ _ _ _ => (ve_gcall G__law_between (hr.mono (by decide)) rfl W_l_between.m W_l_between.F.kp W_l_between.b (vgs (pv 2) (vgv (ve_var (pv 3)) vg0)))))) (vo_v (pv 3)))) (vo_v (pv 4))))) (vg_name Sc.nd rfl (.inl rfl)) (vss_w (ws := [9, 10]) (vx rx_law_16 (vss_cons (vs_set (i := 10) Sc.nd rfl (.inl rfl) (ve_and (ve_gcall G_has_point (hr.mono (by decide)) rfl W_has_point.m W_has_point.F.kp W_has_point.b (vgv (ve_var (pv 3)) (vgv (ve_var (pv 9)) vg0))) (ve_one (ve_gcall G_has_point (hr.mono (by decide)) rfl W_has_point.m W_has_point.F.kp W_has_point.b (vgv (ve_var (pv 4)) (vgv (ve_var (pv 9)) vg0))))))
    (vx rx_law_17 (vss_one (vs_if (vt_cmp (op_neD (hu64 hr.rm)) lk_ne (vo_v (pv 10)) (vo_e (ve_and (ve_cmp (op_neN (hu64 hr.rm)) lk_neN (vo_v (pv 7)) (vo_e (ve_lst vf_nil)) (nomark _)) (ve_one (ve_gcall G_has_point (hr.mono (by decide)) rfl W_has_point.m W_has_point.F.kp W_has_point.b (vgv (ve_var (pv 7)) (vgv (ve_var (pv 9)) vg0)))))) (nomark _)) (vss_one (vs_ret ve_bl)) vss_nil)))))))
    (vx rx_law_19 (vss_cons (vs_setLc (i := 11) (own := [("_law_turn", 17)]) (is := [17]) rfl Sc.nd rfl rfl (sw_true rfl rfl rfl (by decide +kernel)) (vi_rng1 rfl m_range (vf_cons ve_int vf_nil)) (blkOk_by rfl) (by decide) (fun _ _ _ _ _ => (vg_name Sc.nd rfl (.inl rfl))) (fun _ _ _ _ _ => vts_nil) (fun _ _ _ _ _ => (ve_tup (vf_cons (ve_gcall G__law_point (hr.mono (by decide)) rfl W_l_point.m W_l_point.F.kp W_l_point.b (vgs (pv 2) vg0)) (vf_cons (ve_gcall G__law_number (hr.mono (by decide)) rfl W_l_number.m W_l_number.F.kp W_l_number.b (vgs (pv 2) vg0)) vf_nil)))))
    (vx rx_law_20 (vss_cons (vs_set (i := 12) Sc.nd rfl (.inl rfl) (ve_lst (vf_cons (ve_var (pv 3)) (vf_cons (ve_var (pv 3)) vf_nil))))
    (vx rx_law_21 (vss_cons (vs_for PassesOwn.never rfl (vi_w (ws := [13, 14]) (vi_seq (ve_var (pv 11)))) (vg_tup (n := 2) rfl (vgs_cons (vg_name Sc.nd rfl (.inl rfl)) (vgs_cons (vg_name Sc.nd rfl (.inl rfl)) vgs_nil))) (vss_w (ws := [13, 14]) (vx rx_law_22 (vss_one (vs_setIx (ve_if (vt_cmp (op_neN (hu64 hr.rm)) lk_neN (vo_e (ve_at (vo_v (pv 12)) (vo_e ve_int))) (vo_e (ve_lst vf_nil)) (nomark _)) (ve_gcall G_cut (hr.mono (by decide)) rfl W_cut.m W_cut.F.kp W_cut.b (vgv (ve_at (vo_v (pv 12)) (vo_e ve_int)) (vgv (ve_var (pv 13)) (vgv (ve_var (pv 14)) vg0)))) (ve_lst vf_nil)) (pv 12) ve_int)))))
    (vx rx_law_23 (vss_cons (vs_for PassesOwn.never rfl (vi_w (ws := [13, 14]) (vi_seq (ve_revA (vo_v (pv 11))))) (vg_tup (n := 2) rfl (vgs_cons (vg_name Sc.nd rfl (.inl rfl)) (vgs_cons (vg_name Sc.nd rfl (.inl rfl)) vgs_nil))) (vss_w (ws := [13, 14]) (vx rx_law_24 (vss_one (vs_setIx (ve_if (vt_cmp (op_neN (hu64 hr.rm)) lk_neN (vo_e (ve_at (vo_v (pv 12)) (vo_e ve_int))) (vo_e (ve_lst vf_nil)) (nomark _)) (ve_gcall G_cut (hr.mono (by decide)) rfl W_cut.m W_cut.F.kp W_cut.b (vgv (ve_at (vo_v (pv 12)) (vo_e ve_int)) (vgv (ve_var (pv 13)) (vgv (ve_var (pv 14)) vg0)))) (ve_lst vf_nil)) (pv 12) ve_int)))))
    (vx rx_law_25 (vss_one (vs_if (vt_cmp (op_neD (hu64 hr.rm)) lk_ne (vo_e (ve_at (vo_v (pv 12)) (vo_e ve_int))) (vo_e (ve_at (vo_v (pv 12)) (vo_e ve_int))) (nomark _)) (vss_one (vs_ret ve_bl)) vss_nil)))))))))))))))))))))))))))))))
    (vx rx_law_27 (vss_one (vs_ret ve_bl))))
theorem all_mk {P : Program} {w : World} {K : Fg} {mg : Str → Option Value} {fa : Addr} (W_divisor_of : Nonempty (Fx K mg "divisor_of" s_divisor_of ["one", "other"])) (W_part_at : Nonempty (Fx K mg "part_at" s_part_at ["top", "bottom"])) (W_plus : Nonempty (Fx K mg "plus" s_plus ["a", "b"])) (W_minus : Nonempty (Fx K mg "minus" s_minus ["a", "b"])) (W_times : Nonempty (Fx K mg "times" s_times ["a", "b"])) (W_over : Nonempty (Fx K mg "over" s_over ["a", "b"])) (W_is_less : Nonempty (Fx K mg "is_less" s_is_less ["a", "b"])) (W_sum_of : Nonempty (Fx K mg "sum_of" s_sum_of ["parts"])) (W_added : Nonempty (Fx K mg "added" s_added ["one", "other"])) (W_scaled : Nonempty (Fx K mg "scaled" s_scaled ["worth", "part"])) (W_priced : Nonempty (Fx K mg "priced" s_priced ["prices", "worth"])) (W_shared_bottom : Nonempty (Fx K mg "shared_bottom" s_shared_bottom ["points"])) (W_by_whole : Nonempty (Fx K mg "by_whole" s_by_whole ["points"])) (W_is_left : Nonempty (Fx K mg "is_left" s_is_left ["one", "two", "three"])) (W_half_of : Nonempty (Fx K mg "half_of" s_half_of ["points"])) (W_hull : Nonempty (Fx K mg "hull" s_hull ["points"])) (W_moved : Nonempty (Fx K mg "moved" s_moved ["figure", "point"])) (W_edges : Nonempty (Fx K mg "edges" s_edges ["figure"])) (W_joined : Nonempty (Fx K mg "joined" s_joined ["figures"])) (W_height_in : Nonempty (Fx K mg "height_in" s_height_in ["figure", "prices"])) (W_fence_prices : Nonempty (Fx K mg "fence_prices" s_fence_prices ["figure"])) (W_fence : Nonempty (Fx K mg "fence" s_fence ["figure"])) (W_has_point : Nonempty (Fx K mg "has_point" s_has_point ["figure", "point"])) (W_crossing : Nonempty (Fx K mg "crossing" s_crossing ["one", "other", "first", "second"])) (W_cut : Nonempty (Fx K mg "cut" s_cut ["figure", "prices", "least"])) (W_l_begun : Nonempty (Fx K mg "_law_begun" s_l_begun ["_law_script", "_law_k"])) (W_l_draw : Nonempty (Fx K mg "_law_draw" s_l_draw ["_law_tape", "_law_many"])) (W_l_part : Nonempty (Fx K mg "_law_part" s_l_part ["_law_top", "_law_bottom"])) (W_l_plus : Nonempty (Fx K mg "_law_plus" s_l_plus ["_law_a", "_law_b"])) (W_l_minus : Nonempty (Fx K mg "_law_minus" s_l_minus ["_law_a", "_law_b"])) (W_l_times : Nonempty (Fx K mg "_law_times" s_l_times ["_law_a", "_law_b"])) (W_l_added : Nonempty (Fx K mg "_law_added" s_l_added ["_law_one", "_law_other"])) (W_l_scaled : Nonempty (Fx K mg "_law_scaled" s_l_scaled ["_law_worth", "_law_part_here"])) (W_l_priced_22395e : Nonempty (Fx K mg "_law_priced" s_l_priced_22395e ["_law_prices", "_law_worth"])) (W_l_number : Nonempty (Fx K mg "_law_number" s_l_number ["_law_tape"])) (W_l_point : Nonempty (Fx K mg "_law_point" s_l_point ["_law_tape"])) (W_l_points : Nonempty (Fx K mg "_law_points" s_l_points ["_law_tape", "_law_most"])) (W_l_between : Nonempty (Fx K mg "_law_between" s_l_between ["_law_tape", "_law_points_here"])) (W_l_turned : Nonempty (Fx K mg "_law_turned" s_l_turned ["_law_prices"])) (W_l_by_fence : Nonempty (Fx K mg "_law_by_fence" s_l_by_fence ["_law_figure", "_law_other"])) (W_l_own_right : Nonempty (Fx K mg "_law_own_right" s_l_own_right ["_law_figure"])) (W_l_parted_right : Nonempty (Fx K mg "_law_parted_right" s_l_parted_right ["_law_tape", "_law_figure"])) (m_abs : mg "abs" = none) (m_all : mg "all" = none) (m_any : mg "any" = none) (m_dict : mg "dict" = none) (m_int : mg "int" = none) (m_len : mg "len" = none) (m_min : mg "min" = none) (m_range : mg "range" = none) (m_sorted : mg "sorted" = none) (m_sum : mg "sum" = none) (m_tuple : mg "tuple" = none) (m_zip : mg "zip" = none) {u_ONE : Value} (c_ONE : mg "ONE" = some u_ONE ∧ KRep K k_ONE u_ONE) {u_ZERO : Value} (c_ZERO : mg "ZERO" = some u_ZERO ∧ KRep K k_ZERO u_ZERO) (Wl : ∃ fd : FuncData, Fun K "law" "law" s_law fa fd ∧ ∀ (s : Shared) (u : Value), BindsTo s fd ⟨[u], []⟩ [("_law_script", u)]) :
    ∃ fd : FuncData, (∀ (s : Shared) (v : Value), BindsTo s fd ⟨[v], []⟩ [("_law_script", v)]) ∧ ∀ base : Heap, K.In base → base.Ns mainGlobals mg → HasSys P base → GOk P w K mg base 49 fa fd ["_law_script"] (liftSp K [false] sp_law) := by
  obtain ⟨W_divisor_of⟩ := W_divisor_of
  obtain ⟨W_part_at⟩ := W_part_at
  obtain ⟨W_plus⟩ := W_plus
  obtain ⟨W_minus⟩ := W_minus
  obtain ⟨W_times⟩ := W_times
  obtain ⟨W_over⟩ := W_over
  obtain ⟨W_is_less⟩ := W_is_less
  obtain ⟨W_sum_of⟩ := W_sum_of
  obtain ⟨W_added⟩ := W_added
  obtain ⟨W_scaled⟩ := W_scaled
  obtain ⟨W_priced⟩ := W_priced
  obtain ⟨W_shared_bottom⟩ := W_shared_bottom
  obtain ⟨W_by_whole⟩ := W_by_whole
  obtain ⟨W_is_left⟩ := W_is_left
  obtain ⟨W_half_of⟩ := W_half_of
  obtain ⟨W_hull⟩ := W_hull
  obtain ⟨W_moved⟩ := W_moved
  obtain ⟨W_edges⟩ := W_edges
  obtain ⟨W_joined⟩ := W_joined
  obtain ⟨W_height_in⟩ := W_height_in
  obtain ⟨W_fence_prices⟩ := W_fence_prices
  obtain ⟨W_fence⟩ := W_fence
  obtain ⟨W_has_point⟩ := W_has_point
  obtain ⟨W_crossing⟩ := W_crossing
  obtain ⟨W_cut⟩ := W_cut
  obtain ⟨W_l_begun⟩ := W_l_begun
  obtain ⟨W_l_draw⟩ := W_l_draw
  obtain ⟨W_l_part⟩ := W_l_part
  obtain ⟨W_l_plus⟩ := W_l_plus
  obtain ⟨W_l_minus⟩ := W_l_minus
  obtain ⟨W_l_times⟩ := W_l_times
  obtain ⟨W_l_added⟩ := W_l_added
  obtain ⟨W_l_scaled⟩ := W_l_scaled
  obtain ⟨W_l_priced_22395e⟩ := W_l_priced_22395e
  obtain ⟨W_l_number⟩ := W_l_number
  obtain ⟨W_l_point⟩ := W_l_point
  obtain ⟨W_l_points⟩ := W_l_points
  obtain ⟨W_l_between⟩ := W_l_between
  obtain ⟨W_l_turned⟩ := W_l_turned
  obtain ⟨W_l_by_fence⟩ := W_l_by_fence
  obtain ⟨W_l_own_right⟩ := W_l_own_right
  obtain ⟨W_l_parted_right⟩ := W_l_parted_right
  obtain ⟨fd, Wl, hb⟩ := Wl
  refine ⟨fd, hb, fun base _ _ hB => ?_⟩
  have g_divisor_of := ok_divisor_of (P := P) (w := w) (mg := mg) (base := base) hB W_divisor_of.F 
  have g_part_at := ok_part_at (P := P) (w := w) (mg := mg) (base := base) hB W_part_at.F m_abs W_divisor_of g_divisor_of
  have g_plus := ok_plus (P := P) (w := w) (mg := mg) (base := base) hB W_plus.F W_part_at g_part_at
  have g_minus := ok_minus (P := P) (w := w) (mg := mg) (base := base) hB W_minus.F W_part_at g_part_at
  have g_times := ok_times (P := P) (w := w) (mg := mg) (base := base) hB W_times.F W_part_at g_part_at
  have g_over := ok_over (P := P) (w := w) (mg := mg) (base := base) hB W_over.F W_part_at g_part_at
  have g_is_less := ok_is_less (P := P) (w := w) (mg := mg) (base := base) hB W_is_less.F 
  have g_sum_of := ok_sum_of (P := P) (w := w) (mg := mg) (base := base) hB W_sum_of.F c_ZERO W_plus g_plus
  have g_added := ok_added (P := P) (w := w) (mg := mg) (base := base) hB W_added.F m_tuple m_zip W_plus g_plus
  have g_scaled := ok_scaled (P := P) (w := w) (mg := mg) (base := base) hB W_scaled.F m_tuple W_times g_times
  have g_priced := ok_priced (P := P) (w := w) (mg := mg) (base := base) hB W_priced.F m_zip W_sum_of g_sum_of W_times g_times
  have g_shared_bottom := ok_shared_bottom (P := P) (w := w) (mg := mg) (base := base) hB W_shared_bottom.F W_divisor_of g_divisor_of
  have g_by_whole := ok_by_whole (P := P) (w := w) (mg := mg) (base := base) hB W_by_whole.F m_dict W_shared_bottom g_shared_bottom
  have g_is_left := ok_is_left (P := P) (w := w) (mg := mg) (base := base) hB W_is_left.F 
  have g_half_of := ok_half_of (P := P) (w := w) (mg := mg) (base := base) hB W_half_of.F m_len W_is_left g_is_left
  have g_hull := ok_hull (P := P) (w := w) (mg := mg) (base := base) hB W_hull.F m_len m_sorted W_by_whole g_by_whole W_half_of g_half_of
  have g_moved := ok_moved (P := P) (w := w) (mg := mg) (base := base) hB W_moved.F W_added g_added
  have g_edges := ok_edges (P := P) (w := w) (mg := mg) (base := base) hB W_edges.F m_len m_zip W_added g_added W_scaled g_scaled
  have g_joined := ok_joined (P := P) (w := w) (mg := mg) (base := base) hB W_joined.F W_hull g_hull
  have g_height_in := ok_height_in (P := P) (w := w) (mg := mg) (base := base) hB W_height_in.F W_priced g_priced W_is_less g_is_less
  have g_fence_prices := ok_fence_prices (P := P) (w := w) (mg := mg) (base := base) hB W_fence_prices.F m_len c_ONE c_ZERO W_edges g_edges W_times g_times W_scaled g_scaled
  have g_fence := ok_fence (P := P) (w := w) (mg := mg) (base := base) hB W_fence.F W_fence_prices g_fence_prices W_height_in g_height_in
  have g_has_point := ok_has_point (P := P) (w := w) (mg := mg) (base := base) hB W_has_point.F m_any W_fence g_fence W_is_less g_is_less W_priced g_priced
  have g_crossing := ok_crossing (P := P) (w := w) (mg := mg) (base := base) hB W_crossing.F W_over g_over W_minus g_minus W_added g_added W_scaled g_scaled
  have g_cut := ok_cut (P := P) (w := w) (mg := mg) (base := base) hB W_cut.F m_len m_range m_zip W_minus g_minus W_priced g_priced W_crossing g_crossing W_hull g_hull
  have g_l_begun := ok_l_begun (P := P) (w := w) (mg := mg) (base := base) hB W_l_begun.F m_abs m_int m_len
  have g_l_draw := ok_l_draw (P := P) (w := w) (mg := mg) (base := base) hB W_l_draw.F 
  have g_l_part := ok_l_part (P := P) (w := w) (mg := mg) (base := base) hB W_l_part.F m_abs
  have g_l_plus := ok_l_plus (P := P) (w := w) (mg := mg) (base := base) hB W_l_plus.F W_l_part g_l_part
  have g_l_minus := ok_l_minus (P := P) (w := w) (mg := mg) (base := base) hB W_l_minus.F W_l_part g_l_part
  have g_l_times := ok_l_times (P := P) (w := w) (mg := mg) (base := base) hB W_l_times.F W_l_part g_l_part
  have g_l_added := ok_l_added (P := P) (w := w) (mg := mg) (base := base) hB W_l_added.F m_tuple m_zip W_l_plus g_l_plus
  have g_l_scaled := ok_l_scaled (P := P) (w := w) (mg := mg) (base := base) hB W_l_scaled.F m_tuple W_l_times g_l_times
  have g_l_priced_22395e := ok_l_priced_22395e (P := P) (w := w) (mg := mg) (base := base) hB W_l_priced_22395e.F m_zip W_l_plus g_l_plus W_l_times g_l_times
  have g_l_number := ok_l_number (P := P) (w := w) (mg := mg) (base := base) hB W_l_number.F W_l_draw g_l_draw W_l_part g_l_part
  have g_l_point := ok_l_point (P := P) (w := w) (mg := mg) (base := base) hB W_l_point.F W_l_number g_l_number
  have g_l_points := ok_l_points (P := P) (w := w) (mg := mg) (base := base) hB W_l_points.F m_range W_l_draw g_l_draw W_l_point g_l_point W_l_added g_l_added W_l_scaled g_l_scaled W_l_times g_l_times
  have g_l_between := ok_l_between (P := P) (w := w) (mg := mg) (base := base) hB W_l_between.F m_sum m_zip W_l_draw g_l_draw W_l_added g_l_added W_l_scaled g_l_scaled W_l_part g_l_part
  have g_l_turned := ok_l_turned (P := P) (w := w) (mg := mg) (base := base) hB W_l_turned.F W_l_scaled g_l_scaled
  have g_l_by_fence := ok_l_by_fence (P := P) (w := w) (mg := mg) (base := base) hB W_l_by_fence.F W_fence g_fence W_cut g_cut W_l_times g_l_times W_l_turned g_l_turned
  have g_l_own_right := ok_l_own_right (P := P) (w := w) (mg := mg) (base := base) hB W_l_own_right.F m_all m_any m_len W_fence g_fence W_cut g_cut W_l_times g_l_times W_l_turned g_l_turned W_l_priced_22395e g_l_priced_22395e W_l_plus g_l_plus
  have g_l_parted_right := ok_l_parted_right (P := P) (w := w) (mg := mg) (base := base) hB W_l_parted_right.F W_l_point g_l_point W_l_between g_l_between W_l_priced_22395e g_l_priced_22395e W_cut g_cut W_l_times g_l_times W_l_turned g_l_turned W_joined g_joined W_has_point g_has_point
  exact ok_law hB Wl m_len m_min m_range m_tuple m_zip W_l_begun g_l_begun W_hull g_hull W_l_points g_l_points W_l_draw g_l_draw W_l_between g_l_between W_moved g_moved W_l_minus g_l_minus W_l_parted_right g_l_parted_right W_l_own_right g_l_own_right W_l_by_fence g_l_by_fence W_has_point g_has_point W_l_number g_l_number W_l_point g_l_point W_cut g_cut
end VL
open PySem PySem.W PyProof.Rows
set_option maxHeartbeats 0 in
theorem PySem.Challenge.cw_rimplans_k30_whole_fences_say_all_holds : PySem.Challenge.rw_rimplans_k30_whole_fences_say_all.Holds := by
  w_on; o_law; k_head; (case hw => w_witness2)
  k_fill
  refine VL.walk_g (l := PySem.Challenge.rw_rimplans_k30_whole_fences_say_all) (n := 63) (k := 49) (x := "_law_script") (sp := fun K => VL.liftSp K [false] VL.sp_law) rfl (by decide) rfl ⟨⟨rfl, by decide, by decide⟩, rfl⟩ rfl (fun w h Y => PySem.W.kIn_of Y) ?hi ?F (fun _ _ a ns hl hbits hS => VL.law_end hl hbits hS)
  case hi => decide +kernel
  case F =>
    intro w mg fa h KX G hmg
    refine' VL.all_mk (VL.fx_of VL.bd_divisor_of KX G ?a_divisor_of ?l_divisor_of ?c_divisor_of ?k_divisor_of) (VL.fx_of VL.bd_part_at KX G ?a_part_at ?l_part_at ?c_part_at ?k_part_at) (VL.fx_of VL.bd_plus KX G ?a_plus ?l_plus ?c_plus ?k_plus) (VL.fx_of VL.bd_minus KX G ?a_minus ?l_minus ?c_minus ?k_minus) (VL.fx_of VL.bd_times KX G ?a_times ?l_times ?c_times ?k_times) (VL.fx_of VL.bd_over KX G ?a_over ?l_over ?c_over ?k_over) (VL.fx_of VL.bd_is_less KX G ?a_is_less ?l_is_less ?c_is_less ?k_is_less) (VL.fx_of VL.bd_sum_of KX G ?a_sum_of ?l_sum_of ?c_sum_of ?k_sum_of) (VL.fx_of VL.bd_added KX G ?a_added ?l_added ?c_added ?k_added) (VL.fx_of VL.bd_scaled KX G ?a_scaled ?l_scaled ?c_scaled ?k_scaled) (VL.fx_of VL.bd_priced KX G ?a_priced ?l_priced ?c_priced ?k_priced) (VL.fx_of VL.bd_shared_bottom KX G ?a_shared_bottom ?l_shared_bottom ?c_shared_bottom ?k_shared_bottom) (VL.fx_of VL.bd_by_whole KX G ?a_by_whole ?l_by_whole ?c_by_whole ?k_by_whole) (VL.fx_of VL.bd_is_left KX G ?a_is_left ?l_is_left ?c_is_left ?k_is_left) (VL.fx_of VL.bd_half_of KX G ?a_half_of ?l_half_of ?c_half_of ?k_half_of) (VL.fx_of VL.bd_hull KX G ?a_hull ?l_hull ?c_hull ?k_hull) (VL.fx_of VL.bd_moved KX G ?a_moved ?l_moved ?c_moved ?k_moved) (VL.fx_of VL.bd_edges KX G ?a_edges ?l_edges ?c_edges ?k_edges) (VL.fx_of VL.bd_joined KX G ?a_joined ?l_joined ?c_joined ?k_joined) (VL.fx_of VL.bd_height_in KX G ?a_height_in ?l_height_in ?c_height_in ?k_height_in) (VL.fx_of VL.bd_fence_prices KX G ?a_fence_prices ?l_fence_prices ?c_fence_prices ?k_fence_prices) (VL.fx_of VL.bd_fence KX G ?a_fence ?l_fence ?c_fence ?k_fence) (VL.fx_of VL.bd_has_point KX G ?a_has_point ?l_has_point ?c_has_point ?k_has_point) (VL.fx_of VL.bd_crossing KX G ?a_crossing ?l_crossing ?c_crossing ?k_crossing) (VL.fx_of VL.bd_cut KX G ?a_cut ?l_cut ?c_cut ?k_cut) (VL.fx_of VL.bd_l_begun KX G ?a_l_begun ?l_l_begun ?c_l_begun ?k_l_begun) (VL.fx_of VL.bd_l_draw KX G ?a_l_draw ?l_l_draw ?c_l_draw ?k_l_draw) (VL.fx_of VL.bd_l_part KX G ?a_l_part ?l_l_part ?c_l_part ?k_l_part) (VL.fx_of VL.bd_l_plus KX G ?a_l_plus ?l_l_plus ?c_l_plus ?k_l_plus) (VL.fx_of VL.bd_l_minus KX G ?a_l_minus ?l_l_minus ?c_l_minus ?k_l_minus) (VL.fx_of VL.bd_l_times KX G ?a_l_times ?l_l_times ?c_l_times ?k_l_times) (VL.fx_of VL.bd_l_added KX G ?a_l_added ?l_l_added ?c_l_added ?k_l_added) (VL.fx_of VL.bd_l_scaled KX G ?a_l_scaled ?l_l_scaled ?c_l_scaled ?k_l_scaled) (VL.fx_of VL.bd_l_priced_22395e KX G ?a_l_priced_22395e ?l_l_priced_22395e ?c_l_priced_22395e ?k_l_priced_22395e) (VL.fx_of VL.bd_l_number KX G ?a_l_number ?l_l_number ?c_l_number ?k_l_number) (VL.fx_of VL.bd_l_point KX G ?a_l_point ?l_l_point ?c_l_point ?k_l_point) (VL.fx_of VL.bd_l_points KX G ?a_l_points ?l_l_points ?c_l_points ?k_l_points) (VL.fx_of VL.bd_l_between KX G ?a_l_between ?l_l_between ?c_l_between ?k_l_between) (VL.fx_of VL.bd_l_turned KX G ?a_l_turned ?l_l_turned ?c_l_turned ?k_l_turned) (VL.fx_of VL.bd_l_by_fence KX G ?a_l_by_fence ?l_l_by_fence ?c_l_by_fence ?k_l_by_fence) (VL.fx_of VL.bd_l_own_right KX G ?a_l_own_right ?l_l_own_right ?c_l_own_right ?k_l_own_right) (VL.fx_of VL.bd_l_parted_right KX G ?a_l_parted_right ?l_l_parted_right ?c_l_parted_right ?k_l_parted_right) (PySem.W.mg_none_of KX G ?z_abs) (PySem.W.mg_none_of KX G ?z_all) (PySem.W.mg_none_of KX G ?z_any) (PySem.W.mg_none_of KX G ?z_dict) (PySem.W.mg_none_of KX G ?z_int) (PySem.W.mg_none_of KX G ?z_len) (PySem.W.mg_none_of KX G ?z_min) (PySem.W.mg_none_of KX G ?z_range) (PySem.W.mg_none_of KX G ?z_sorted) (PySem.W.mg_none_of KX G ?z_sum) (PySem.W.mg_none_of KX G ?z_tuple) (PySem.W.mg_none_of KX G ?z_zip) ⟨PySem.W.mg_of KX G ?ka_ONE, .pair (i := 1) (j := 1) ?kl_ONE ?kc_ONE ?kd_ONE⟩ ⟨PySem.W.mg_of KX G ?ka_ZERO, .pair (i := 0) (j := 1) ?kl_ZERO ?kc_ZERO ?kd_ZERO⟩ (VL.fx_law VL.bd_law KX G hmg ?a_law ?l_law ?c_law ?k_law)
    (case a_divisor_of => k_is); (case l_divisor_of => k_is); (case c_divisor_of => k_is); (case k_divisor_of => k_is); (case a_part_at => k_is); (case l_part_at => k_is); (case c_part_at => k_is); (case k_part_at => k_is); (case a_plus => k_is); (case l_plus => k_is); (case c_plus => k_is); (case k_plus => k_is); (case a_minus => k_is); (case l_minus => k_is); (case c_minus => k_is); (case k_minus => k_is); (case a_times => k_is); (case l_times => k_is); (case c_times => k_is); (case k_times => k_is); (case a_over => k_is); (case l_over => k_is); (case c_over => k_is); (case k_over => k_is); (case a_is_less => k_is); (case l_is_less => k_is); (case c_is_less => k_is); (case k_is_less => k_is); (case a_sum_of => k_is); (case l_sum_of => k_is); (case c_sum_of => k_is); (case k_sum_of => k_is); (case a_added => k_is); (case l_added => k_is); (case c_added => k_is); (case k_added => k_is); (case a_scaled => k_is); (case l_scaled => k_is); (case c_scaled => k_is); (case k_scaled => k_is); (case a_priced => k_is); (case l_priced => k_is); (case c_priced => k_is); (case k_priced => k_is); (case a_shared_bottom => k_is); (case l_shared_bottom => k_is); (case c_shared_bottom => k_is); (case k_shared_bottom => k_is); (case a_by_whole => k_is); (case l_by_whole => k_is); (case c_by_whole => k_is); (case k_by_whole => k_is); (case a_is_left => k_is); (case l_is_left => k_is); (case c_is_left => k_is); (case k_is_left => k_is); (case a_half_of => k_is); (case l_half_of => k_is); (case c_half_of => k_is); (case k_half_of => k_is); (case a_hull => k_is); (case l_hull => k_is); (case c_hull => k_is); (case k_hull => k_is); (case a_moved => k_is); (case l_moved => k_is); (case c_moved => k_is); (case k_moved => k_is); (case a_edges => k_is); (case l_edges => k_is); (case c_edges => k_is); (case k_edges => k_is); (case a_joined => k_is); (case l_joined => k_is); (case c_joined => k_is); (case k_joined => k_is); (case a_height_in => k_is); (case l_height_in => k_is); (case c_height_in => k_is); (case k_height_in => k_is); (case a_fence_prices => k_is); (case l_fence_prices => k_is); (case c_fence_prices => k_is); (case k_fence_prices => k_is); (case a_fence => k_is); (case l_fence => k_is); (case c_fence => k_is); (case k_fence => k_is); (case a_has_point => k_is); (case l_has_point => k_is); (case c_has_point => k_is); (case k_has_point => k_is); (case a_crossing => k_is); (case l_crossing => k_is); (case c_crossing => k_is); (case k_crossing => k_is); (case a_cut => k_is); (case l_cut => k_is); (case c_cut => k_is); (case k_cut => k_is); (case a_l_begun => k_is); (case l_l_begun => k_is); (case c_l_begun => k_is); (case k_l_begun => k_is); (case a_l_draw => k_is); (case l_l_draw => k_is); (case c_l_draw => k_is); (case k_l_draw => k_is); (case a_l_part => k_is); (case l_l_part => k_is); (case c_l_part => k_is); (case k_l_part => k_is); (case a_l_plus => k_is); (case l_l_plus => k_is); (case c_l_plus => k_is); (case k_l_plus => k_is); (case a_l_minus => k_is); (case l_l_minus => k_is); (case c_l_minus => k_is); (case k_l_minus => k_is); (case a_l_times => k_is); (case l_l_times => k_is); (case c_l_times => k_is); (case k_l_times => k_is); (case a_l_added => k_is); (case l_l_added => k_is); (case c_l_added => k_is); (case k_l_added => k_is); (case a_l_scaled => k_is); (case l_l_scaled => k_is); (case c_l_scaled => k_is); (case k_l_scaled => k_is); (case a_l_priced_22395e => k_is); (case l_l_priced_22395e => k_is); (case c_l_priced_22395e => k_is); (case k_l_priced_22395e => k_is); (case a_l_number => k_is); (case l_l_number => k_is); (case c_l_number => k_is); (case k_l_number => k_is); (case a_l_point => k_is); (case l_l_point => k_is); (case c_l_point => k_is); (case k_l_point => k_is); (case a_l_points => k_is); (case l_l_points => k_is); (case c_l_points => k_is); (case k_l_points => k_is); (case a_l_between => k_is); (case l_l_between => k_is); (case c_l_between => k_is); (case k_l_between => k_is); (case a_l_turned => k_is); (case l_l_turned => k_is); (case c_l_turned => k_is); (case k_l_turned => k_is); (case a_l_by_fence => k_is); (case l_l_by_fence => k_is); (case c_l_by_fence => k_is); (case k_l_by_fence => k_is); (case a_l_own_right => k_is); (case l_l_own_right => k_is); (case c_l_own_right => k_is); (case k_l_own_right => k_is); (case a_l_parted_right => k_is); (case l_l_parted_right => k_is); (case c_l_parted_right => k_is); (case k_l_parted_right => k_is); (case z_abs => k_is); (case z_all => k_is); (case z_any => k_is); (case z_dict => k_is); (case z_int => k_is); (case z_len => k_is); (case z_min => k_is); (case z_range => k_is); (case z_sorted => k_is); (case z_sum => k_is); (case z_tuple => k_is); (case z_zip => k_is); (case ka_ONE => k_is); (case kl_ONE => k_is); (case kc_ONE => exact rfl); (case kd_ONE => exact rfl); (case ka_ZERO => k_is); (case kl_ZERO => k_is); (case kc_ZERO => exact rfl); (case kd_ZERO => exact rfl); (case a_law => k_is); (case l_law => k_is); (case c_law => k_is); (case k_law => k_is)

